import PyProof.Rows.All
import Wide.All
import OpenK.AllK
import Wide.FinOn
import HandS.ForMost
import HandS.ForExc
import HandS.ExcInit
import HandS.ExcField
import HandS.IsInst
import HandS.Conv
import HandS.CallLocal
import HandS.Zip
import HandS.TupAny
import HandS.TupMul
import HandS.Wide
import HandS.Gcd
import HandS.Deep
import HandS.Style
import HandS.Flow
import HandS.Steps
import HandS.Walk
import KE.KUnpackStar
import HandS.DictComp
import HandS.TupLen
import HandS.Defaults
import HandS.Head0
import HandS.Head1
import HandS.Head2
import HandS.HeadEnd
import HandS.HeadHook1
import HandS.HeadHook2
import HandS.HeadHook4
import KE.IntTextLaws
import KE.KStateDown
import HandS.HeadHook3
import HandS.Head3
import HandS.More
import PySem.Challenge.RW_wholesayings_k94_whole_systems_and_bundl
set_option linter.all false
set_option Elab.async false
set_option maxRecDepth 100000
set_option maxHeartbeats 4000000
section
set_option Elab.async false
set_option linter.all false
set_option maxRecDepth 100000
set_option maxHeartbeats 2000000
namespace Dn
open PySem PySem.Spec PyProof.Rows L2

/-- plain data -/
inductive D where
  | non | bl (b : Bool) | int (i : Int) | str (s : Str) | tup (ds : List D) | lst (ds : List D) | scr (ns : List Int) | fn (k : Nat) | ty (n : String)

structure Cf where
  K : PySem.W.Frag
  fa : Nat → Addr
  ca : Nat → Addr

mutual
def Dat (C : Cf) (F : Hp) : D → V → Prop
  | .non, v => v = .non
  | .bl b, v => v = .bl b
  | .int i, v => v = .int i
  | .str s, v => v = .str s
  | .tup ds, v => ∃ a vs, v = .ref a ∧ F a = some (.tup vs) ∧ DatL C F ds vs
  | .lst ds, v => ∃ a vs, v = .ref a ∧ F a = some (.lst vs) ∧ DatL C F ds vs
  | .scr ns, v => ∃ a, v = .ref a ∧ SqL C.K F a (ns.map V.int)
  | .fn k, v => v = .ref (C.fa k)
  | .ty n, v => v = .ty n
def DatL (C : Cf) (F : Hp) : List D → List V → Prop
  | [], vs => vs = []
  | d :: ds, vs => ∃ v r, vs = v :: r ∧ Dat C F d v ∧ DatL C F ds r
end

abbrev Ext (F F' : Hp) : Prop := ∀ b o, F b = some o → F' b = some o
theorem Ext.refl (F : Hp) : Ext F F := fun _ _ h => h
theorem Ext.trans {F F1 F2 : Hp} (a : Ext F F1) (b : Ext F1 F2) : Ext F F2 := fun x o h => b x o (a x o h)
theorem ext_new {F : Hp} {p : Addr} {o : HO} (h : F p = none) : Ext F (upd F p o) := fun b u e => by
  rw [upd_ne (ne_of_none e h)]
  exact e
theorem upd_dom {H : Hp} {p : Addr} {o : HO} (b : Addr) (h : H b ≠ none) : upd H p o b ≠ none := by
  by_cases e : b = p
  · rw [e, upd_same]
    simp
  · rw [upd_ne e]
    exact h
theorem sqT_mono {K : PySem.W.Frag} {F F' : Hp} (e : Ext F F') {a : Addr} {vs : List V} (h : F a = some (.tup vs)) : SqT K F' a vs := .inl (.inl (e _ _ h))
theorem sqT_mono0 {K : PySem.W.Frag} {F F' : Hp} (e : Ext F F') {a : Addr} {vs : List V} (h : SqT K F a vs) : SqT K F' a vs := by
  rcases h with (h | ⟨o, h⟩) | h
  · exact .inl (.inl (e _ _ h))
  · exact .inl (.inr ⟨o, e _ _ h⟩)
  · exact .inr h
theorem sqL_mono {K : PySem.W.Frag} {F F' : Hp} (e : Ext F F') {a : Addr} {vs : List V} (h : SqL K F a vs) : SqL K F' a vs := by
  rcases h with (h | ⟨o, h⟩) | h
  · exact .inl (.inl (e _ _ h))
  · exact .inl (.inr ⟨o, e _ _ h⟩)
  · exact .inr h

mutual
theorem Dat.mono {C : Cf} {F F' : Hp} (e : Ext F F') : ∀ (d : D) (v : V), Dat C F d v → Dat C F' d v
  | .non, _, h => by simpa only [Dat] using h
  | .bl _, _, h => by simpa only [Dat] using h
  | .int _, _, h => by simpa only [Dat] using h
  | .str _, _, h => by simpa only [Dat] using h
  | .fn _, _, h => by simpa only [Dat] using h
  | .ty _, _, h => by simpa only [Dat] using h
  | .tup ds, v, h => by
    simp only [Dat] at h ⊢
    obtain ⟨a, vs, e1, e2, e3⟩ := h
    exact ⟨a, vs, e1, e _ _ e2, DatL.mono e ds vs e3⟩
  | .lst ds, v, h => by
    simp only [Dat] at h ⊢
    obtain ⟨a, vs, e1, e2, e3⟩ := h
    exact ⟨a, vs, e1, e _ _ e2, DatL.mono e ds vs e3⟩
  | .scr ns, v, h => by
    simp only [Dat] at h ⊢
    obtain ⟨a, e1, e2⟩ := h
    exact ⟨a, e1, sqL_mono e e2⟩
theorem DatL.mono {C : Cf} {F F' : Hp} (e : Ext F F') : ∀ (ds : List D) (vs : List V), DatL C F ds vs → DatL C F' ds vs
  | [], _, h => by simpa only [DatL] using h
  | d :: ds, vs, h => by
    simp only [DatL] at h ⊢
    obtain ⟨v, r, e1, e2, e3⟩ := h
    exact ⟨v, r, e1, Dat.mono e d v e2, DatL.mono e ds r e3⟩
end

inductive Slot where
  | un | dat (d : D) | own (xs : List D) | bor (k : Nat)
structure Sx where
  sl : List Slot
  bo : List (List D)
inductive Pv where
  | d (x : D) | fr (xs : List D) | pl (i : Nat)
inductive Res (α : Type) where
  | ok (a : α) (s : Sx) | ex (c : Nat) (d : D) (s : Sx) | bad
def Res.bind {α β : Type} : Res α → (α → Sx → Res β) → Res β
  | .ok a s, f => f a s
  | .ex c d s, _ => .ex c d s
  | .bad, _ => .bad
def Sx.cont (s : Sx) (i : Nat) : Option (List D) :=
  match s.sl[i]? with
  | some (.own xs) => some xs
  | some (.bor k) => s.bo[k]?
  | _ => none
def Pv.get (s : Sx) : Pv → Option D
  | .d x => some x
  | .fr xs => some (.lst xs)
  | .pl i => (s.cont i).map .lst
def Pv.frz : Pv → Option D
  | .d x => some x
  | .fr xs => some (.lst xs)
  | .pl _ => none

/-- the activation of a def: the heap and its frozen part at the entry, the addresses of the borrowed lists -/
structure Fm where
  H0 : Hp
  F0 : Hp
  bp : List Addr

def Mt (Y : Fm) (sa : Nat → Addr) (s : Sx) (b : Addr) : Prop := (∃ (i : Nat) (xs : List D), s.sl[i]? = some (.own xs) ∧ sa i = b) ∨ b ∈ Y.bp

structure Rel (C : Cf) (Y : Fm) (σ : L2.St) (H F : Hp) (sa : Nat → Addr) (s : Sx) : Prop where
  len : σ.length = s.sl.length
  sub : Ext F H
  dat : ∀ (i : Nat) (d : D), s.sl[i]? = some (.dat d) → ∃ v, σ[i]? = some (some v) ∧ Dat C F d v
  own : ∀ (i : Nat) (xs : List D), s.sl[i]? = some (.own xs) → σ[i]? = some (some (.ref (sa i))) ∧ F (sa i) = none ∧ (∃ vs, H (sa i) = some (.lst vs) ∧ DatL C F xs vs) ∧ Y.H0 (sa i) = none
  inj : ∀ (i j : Nat) (xs ys : List D), s.sl[i]? = some (.own xs) → s.sl[j]? = some (.own ys) → sa i = sa j → i = j
  bor : ∀ (i k : Nat), s.sl[i]? = some (.bor k) → ∃ p, Y.bp[k]? = some p ∧ σ[i]? = some (some (.ref p))
  bol : Y.bp.length = s.bo.length
  bos : ∀ (k : Nat) (p : Addr) (xs : List D), Y.bp[k]? = some p → s.bo[k]? = some xs → F p = none ∧ ∃ vs, H p = some (.lst vs) ∧ DatL C F xs vs
  bnd : Y.bp.Nodup
  bH : ∀ p ∈ Y.bp, Y.H0 p ≠ none
  fr0 : ∀ b, Y.H0 b ≠ none → b ∉ Y.bp → H b = Y.H0 b ∧ F b = Y.F0 b
  ext0 : Ext Y.F0 F

structure Step (Y : Fm) (sa : Nat → Addr) (s s' : Sx) (H F H' F' : Hp) : Prop where
  ext : Ext F F'
  fr : ∀ b, H b ≠ none → ¬ Mt Y sa s b → H' b = H b ∧ F' b = F b
  own : ∀ (i : Nat) (xs' : List D), s'.sl[i]? = some (.own xs') → ∃ xs, s.sl[i]? = some (.own xs)
  dom : ∀ b, H b ≠ none → H' b ≠ none

section
variable {C : Cf} {Y : Fm} {σ : L2.St} {H F H1 F1 H2 F2 : Hp} {sa : Nat → Addr} {s s1 s2 : Sx} {p : Addr} {o : HO}
theorem Step.refl (Y : Fm) (sa : Nat → Addr) (s : Sx) (H F : Hp) : Step Y sa s s H F H F := ⟨Ext.refl _, fun _ _ _ => ⟨rfl, rfl⟩, fun _ xs h => ⟨xs, h⟩, fun _ h => h⟩
theorem Step.mt (a : Step Y sa s s1 H F H1 F1) {b : Addr} (h : Mt Y sa s1 b) : Mt Y sa s b := by
  rcases h with ⟨i, xs, h1, h2⟩ | h
  · obtain ⟨ys, h3⟩ := a.own i xs h1
    exact .inl ⟨i, ys, h3, h2⟩
  · exact .inr h
theorem Step.trans (a : Step Y sa s s1 H F H1 F1) (b : Step Y sa s1 s2 H1 F1 H2 F2) : Step Y sa s s2 H F H2 F2 :=
  ⟨a.ext.trans b.ext, fun c h1 h2 => by
    obtain ⟨e1, e2⟩ := a.fr c h1 h2
    obtain ⟨e3, e4⟩ := b.fr c (by rw [e1]; exact h1) (fun z => h2 (a.mt z))
    exact ⟨e3.trans e1, e4.trans e2⟩, fun i xs h => by
    obtain ⟨ys, h1⟩ := b.own i xs h
    exact a.own i ys h1, fun c h => b.dom c (a.dom c h)⟩

theorem Rel.sane (R : Rel C Y σ H F sa s) {i : Nat} {xs : List D} (h : s.sl[i]? = some (.own xs)) (hp : H p = none) : p ≠ sa i := fun e => by
  obtain ⟨_, _, ⟨vs, h1, _⟩, _⟩ := R.own i xs h
  rw [← e, hp] at h1
  cases h1
theorem Rel.bne (R : Rel C Y σ H F sa s) {k : Nat} {q : Addr} (h : Y.bp[k]? = some q) (hp : H p = none) : p ≠ q := fun e => by
  have hk : k < Y.bp.length := (List.getElem?_eq_some_iff.mp h).1
  have hk2 : k < s.bo.length := by rw [← R.bol]; exact hk
  obtain ⟨_, vs, h1, _⟩ := R.bos k q _ h (List.getElem?_eq_getElem hk2)
  rw [← e, hp] at h1
  cases h1
theorem Rel.fnone (R : Rel C Y σ H F sa s) (hp : H p = none) : F p = none := by
  cases h : F p with
  | none => rfl
  | some u =>
    rw [R.sub p u h] at hp
    cases hp
theorem Rel.h0none (R : Rel C Y σ H F sa s) (hp : H p = none) : Y.H0 p = none := by
  apply Classical.byContradiction
  intro h
  by_cases hb : p ∈ Y.bp
  · obtain ⟨k, hk⟩ := List.getElem?_of_mem hb
    exact R.bne hk hp rfl
  · obtain ⟨e, _⟩ := R.fr0 p h hb
    rw [← e] at h
    exact h hp
theorem Rel.nmt (R : Rel C Y σ H F sa s) (hp : H p = none) : ¬ Mt Y sa s p := by
  rintro (⟨i, xs, h1, h2⟩ | h)
  · exact R.sane h1 hp h2.symm
  · obtain ⟨k, hk⟩ := List.getElem?_of_mem h
    exact R.bne hk hp rfl
/-- a new frozen object -/
theorem Rel.newF (R : Rel C Y σ H F sa s) (hp : H p = none) : Rel C Y σ (upd H p o) (upd F p o) sa s := by
  have hf := R.fnone hp
  have ex : Ext F (upd F p o) := ext_new hf
  refine ⟨R.len, fun b u e => ?_, fun i d h => ?_, fun i xs h => ?_, R.inj, R.bor, R.bol, fun k q xs h1 h2 => ?_, R.bnd, R.bH, fun b h1 h2 => ?_, R.ext0.trans ex⟩
  · by_cases hb : b = p
    · subst hb
      rw [upd_same] at e ⊢
      exact e
    · rw [upd_ne hb] at e ⊢
      exact R.sub b u e
  · obtain ⟨v, h1, h2⟩ := R.dat i d h
    exact ⟨v, h1, h2.mono ex⟩
  · obtain ⟨h1, h2, ⟨vs, h3, h4⟩, h5⟩ := R.own i xs h
    have ne : sa i ≠ p := (R.sane h hp).symm
    exact ⟨h1, by rw [upd_ne ne]; exact h2, ⟨vs, by rw [upd_ne ne]; exact h3, h4.mono ex⟩, h5⟩
  · obtain ⟨h3, vs, h4, h5⟩ := R.bos k q xs h1 h2
    have ne : q ≠ p := (R.bne h1 hp).symm
    exact ⟨by rw [upd_ne ne]; exact h3, vs, by rw [upd_ne ne]; exact h4, h5.mono ex⟩
  · obtain ⟨e1, e2⟩ := R.fr0 b h1 h2
    have ne : b ≠ p := fun z => h1 (by rw [z]; exact R.h0none hp)
    rw [upd_ne ne, upd_ne ne]
    exact ⟨e1, e2⟩
/-- a new list that is not frozen yet -/
theorem Rel.newT (R : Rel C Y σ H F sa s) (hp : H p = none) : Rel C Y σ (upd H p o) F sa s := by
  have hf := R.fnone hp
  refine ⟨R.len, fun b u e => ?_, R.dat, fun i xs h => ?_, R.inj, R.bor, R.bol, fun k q xs h1 h2 => ?_, R.bnd, R.bH, fun b h1 h2 => ?_, R.ext0⟩
  · by_cases hb : b = p
    · subst hb
      rw [hf] at e
      cases e
    · rw [upd_ne hb]
      exact R.sub b u e
  · obtain ⟨h1, h2, ⟨vs, h3, h4⟩, h5⟩ := R.own i xs h
    have ne : sa i ≠ p := (R.sane h hp).symm
    exact ⟨h1, h2, ⟨vs, by rw [upd_ne ne]; exact h3, h4⟩, h5⟩
  · obtain ⟨h3, vs, h4, h5⟩ := R.bos k q xs h1 h2
    have ne : q ≠ p := (R.bne h1 hp).symm
    exact ⟨h3, vs, by rw [upd_ne ne]; exact h4, h5⟩
  · obtain ⟨e1, e2⟩ := R.fr0 b h1 h2
    have ne : b ≠ p := fun z => h1 (by rw [z]; exact R.h0none hp)
    rw [upd_ne ne]
    exact ⟨e1, e2⟩
theorem Step.newF (R : Rel C Y σ H F sa s) (hp : H p = none) : Step Y sa s s H F (upd H p o) (upd F p o) :=
  ⟨ext_new (R.fnone hp), fun b h1 _ => by
    have ne : b ≠ p := fun z => h1 (by rw [z]; exact hp)
    rw [upd_ne ne, upd_ne ne]
    exact ⟨rfl, rfl⟩, fun _ xs h => ⟨xs, h⟩, upd_dom⟩
theorem Step.newT (R : Rel C Y σ H F sa s) (hp : H p = none) : Step Y sa s s H F (upd H p o) F :=
  ⟨Ext.refl _, fun b h1 _ => by
    have ne : b ≠ p := fun z => h1 (by rw [z]; exact hp)
    rw [upd_ne ne]
    exact ⟨rfl, rfl⟩, fun _ xs h => ⟨xs, h⟩, upd_dom⟩
end

/-- values and their data -/
def PvR (C : Cf) (Y : Fm) (sa : Nat → Addr) (s : Sx) (σ : L2.St) (Hs H F : Hp) : Pv → V → Prop
  | .d x, v => Dat C F x v
  | .fr xs, v => ∃ p vs, v = .ref p ∧ H p = some (.lst vs) ∧ F p = none ∧ DatL C F xs vs ∧ Y.H0 p = none ∧ ¬ Mt Y sa s p ∧ Hs p = none
  | .pl i, v => σ[i]? = some (some v)
/-- what a datum is to be read from: a list stands in H, its items are frozen -/
def CR (C : Cf) (H F : Hp) : D → V → Prop
  | .lst ds, v => ∃ a vs, v = .ref a ∧ H a = some (.lst vs) ∧ DatL C F ds vs
  | d, v => Dat C F d v
section
variable {C : Cf} {Y : Fm} {σ : L2.St} {Hs H F H1 F1 H2 F2 : Hp} {sa : Nat → Addr} {s s1 s2 : Sx} {p : Addr} {o : HO} {pv : Pv} {v : V} {x : D}
theorem PvR.step (a : Step Y sa s s1 H F H1 F1) (h : PvR C Y sa s σ Hs H F pv v) : PvR C Y sa s1 σ Hs H1 F1 pv v := by
  cases pv with
  | d x => exact Dat.mono a.ext x v h
  | fr xs =>
    obtain ⟨p, vs, e1, e2, e3, e4, e5, e6, e7⟩ := h
    obtain ⟨q1, q2⟩ := a.fr p (by rw [e2]; simp) e6
    exact ⟨p, vs, e1, q1.trans e2, q2.trans e3, DatL.mono a.ext _ _ e4, e5, fun z => e6 (a.mt z), e7⟩
  | pl i => exact h
theorem CR.of (R : Rel C Y σ H F sa s) (h : Dat C F x v) : CR C H F x v := by
  cases x with
  | lst ds =>
    simp only [Dat] at h
    obtain ⟨a, vs, e1, e2, e3⟩ := h
    exact ⟨a, vs, e1, R.sub _ _ e2, e3⟩
  | _ => exact h
theorem PvR.cr (R : Rel C Y σ H F sa s) (h : PvR C Y sa s σ Hs H F pv v) (g : pv.get s = some x) : CR C H F x v := by
  cases pv with
  | d y =>
    simp only [Pv.get, Option.some.injEq] at g
    subst g
    exact CR.of R h
  | fr xs =>
    simp only [Pv.get, Option.some.injEq] at g
    subst g
    obtain ⟨p, vs, e1, e2, e3, e4, e5, e6, e7⟩ := h
    exact ⟨p, vs, e1, e2, e4⟩
  | pl i =>
    have h : σ[i]? = some (some v) := h
    simp only [Pv.get, Sx.cont] at g
    split at g
    · rename_i xs hs
      simp only [Option.map_some, Option.some.injEq] at g
      subst g
      obtain ⟨h1, h2, ⟨vs, h3, h4⟩, h5⟩ := R.own i xs hs
      rw [h] at h1
      cases h1
      exact ⟨_, vs, rfl, h3, h4⟩
    · rename_i k hs
      obtain ⟨p, h1, h2⟩ := R.bor i k hs
      rw [h] at h2
      cases h2
      cases hb : s.bo[k]? with
      | none => rw [hb] at g; cases g
      | some xs =>
        rw [hb] at g
        simp only [Option.map_some, Option.some.injEq] at g
        subst g
        obtain ⟨_, vs, h4, h5⟩ := R.bos k p xs h1 hb
        exact ⟨_, vs, rfl, h4, h5⟩
    · cases g
end

/-! ### judgements -/
abbrev VRel (α β : Type) := (Nat → Addr) → Sx → L2.St → Hp → Hp → Hp → α → β → Prop
class MV {α β : Type} (VR : VRel α β) : Prop where
  mono : ∀ {sa : Nat → Addr} {s : Sx} {σ : L2.St} {Hs Hs' H F : Hp} {a : α} {b : β}, (∀ b, Hs b ≠ none → Hs' b ≠ none) → VR sa s σ Hs' H F a b → VR sa s σ Hs H F a b
theorem none_of {H H' : Hp} (d : ∀ b, H b ≠ none → H' b ≠ none) {p : Addr} (h : H' p = none) : H p = none := Classical.byContradiction fun z => d p z h
instance {C : Cf} {Y : Fm} : MV (PvR C Y) := ⟨fun {sa s σ Hs Hs' H F a b} d h => by
  cases a with
  | d x => exact h
  | fr xs =>
    obtain ⟨p, vs, e1, e2, e3, e4, e5, e6, e7⟩ := h
    exact ⟨p, vs, e1, e2, e3, e4, e5, e6, none_of d e7⟩
  | pl i => exact h⟩
def ExR (C : Cf) (c : Nat) (d : D) (cls : Value) (dct : Option Addr) (H F : Hp) : Prop :=
  cls = .ref (C.ca c) ∧ ∃ a fs v, dct = some a ∧ H a = some (.xd fs) ∧ fs.lookup ("value" : Str) = some v ∧ Dat C F d v
def EndG {α β : Type} (C : Cf) (Y : Fm) (W : WX) (VR : VRel α β) (sa : Nat → Addr) (s : Sx) (σ : L2.St) (H F : Hp) (Q : β → Hp → Prop) : Res α → Prop
  | .ok a s' => ∀ b H' F', Rel C Y σ H' F' sa s' → Step Y sa s s' H F H' F' → VR sa s' σ H H' F' a b → Q b H'
  | .ex c d s' => ∀ cls dct H' F', Rel C Y σ H' F' sa s' → Step Y sa s s' H F H' F' → ExR C c d cls dct H' F' → W cls dct σ H'
  | .bad => False
def tG {α β : Type} (C : Cf) (Y : Fm) (W : WX) (VR : VRel α β) (f : Sx → Res α) : L2.St → Hp → (β → Hp → Prop) → Prop := fun σ H Q =>
  ∃ F sa s, Rel C Y σ H F sa s ∧ EndG C Y W VR sa s σ H F Q (f s)
section
variable {α β γ δ : Type} {C : Cf} {Y : Fm} {W : WX} {VR : VRel α β} {VR2 : VRel γ δ} [MV VR2] [MV VR] {σ : L2.St} {H F H1 F1 H2 F2 : Hp} {sa : Nat → Addr} {s s1 s2 : Sx} {Q : β → Hp → Prop} {Q2 : δ → Hp → Prop}
theorem EndG.shift {r : Res α} (a : Step Y sa s s1 H F H1 F1) (h : EndG C Y W VR sa s σ H F Q r) : EndG C Y W VR sa s1 σ H1 F1 Q r := by
  cases r with
  | ok x s2 => exact fun b H' F' R S V => h b H' F' R (a.trans S) (MV.mono a.dom V)
  | ex c d s2 => exact fun cls dct H' F' R S V => h cls dct H' F' R (a.trans S) V
  | bad => exact h
theorem EndG.bind {r : Res α} {g : α → Sx → Res γ} (h : EndG C Y W VR2 sa s σ H F Q2 (r.bind g))
    (k : ∀ a s1 b H1 F1, r = .ok a s1 → Rel C Y σ H1 F1 sa s1 → Step Y sa s s1 H F H1 F1 → VR sa s1 σ H H1 F1 a b → EndG C Y W VR2 sa s1 σ H1 F1 Q2 (g a s1) → Q b H1) :
    EndG C Y W VR sa s σ H F Q r := by
  cases r with
  | ok a s1 => exact fun b H1 F1 R S V => k a s1 b H1 F1 rfl R S V (EndG.shift S h)
  | ex c d s2 => exact h
  | bad => exact h
end
abbrev tE (C : Cf) (Y : Fm) (W : WX) (f : Sx → Res Pv) : TE := tG C Y W (PvR C Y) f
abbrev BR : VRel Bool Bool := fun _ _ _ _ _ _ a b => b = a
instance : MV BR := ⟨fun _ h => h⟩
abbrev tT (C : Cf) (Y : Fm) (W : WX) (f : Sx → Res Bool) : TT := tG C Y W BR f
/-- a value that is no fresh list -/
def PvC (C : Cf) (σ : L2.St) (F : Hp) : Pv → V → Prop
  | .d x, v => Dat C F x v
  | .fr _, _ => False
  | .pl i, v => σ[i]? = some (some v)
def PvRs0 (C : Cf) (σ : L2.St) (F : Hp) : List Pv → List V → Prop
  | [], vs => vs = []
  | p :: ps, vs => ∃ v r, vs = v :: r ∧ PvC C σ F p v ∧ PvRs0 C σ F ps r
abbrev PvRs (C : Cf) : VRel (List Pv) (List V) := fun _ _ σ _ _ F ps vs => PvRs0 C σ F ps vs
instance {C : Cf} : MV (PvRs C) := ⟨fun _ h => h⟩
abbrev tA (C : Cf) (Y : Fm) (W : WX) (f : Sx → Res (List Pv)) : TA := tG C Y W (PvRs C) f

theorem pe_weak {X : Cx} {e : Expr} {t t' : TE} (h : PE X e t) (w : ∀ σ H Q, t' σ H Q → t σ H Q) : PE X e t' := ⟨fun pins s σ H Q I q => h.run pins s σ H Q I (w σ H Q q)⟩
theorem pt_weak {X : Cx} {e : Expr} {t t' : TT} (h : PT X e t) (w : ∀ σ H Q, t' σ H Q → t σ H Q) : PT X e t' := ⟨fun pins s σ H Q I q => h.run pins s σ H Q I (w σ H Q q)⟩
theorem pa_weak {X : Cx} {e : List Expr} {t t' : TA} (h : PA X e t) (w : ∀ σ H Q, t' σ H Q → t σ H Q) : PA X e t' := ⟨fun pos pins s σ H Q I q => h.run pos pins s σ H Q I (w σ H Q q)⟩
theorem ps_weak {X : Cx} {e : Stmt} {t t' : TS} (h : PS X e t) (w : ∀ Z σ H, t' Z σ H → t Z σ H) : PS X e t' := ⟨fun pins s σ H Z I q => h.run pins s σ H Z I (w Z σ H q)⟩

section
variable {C : Cf} {Y : Fm} {σ : L2.St} {Hs H F H1 F1 : Hp} {sa : Nat → Addr} {s s1 : Sx} {pv : Pv} {v : V} {x : D}
theorem PvC.step (e : Ext F F1) (h : PvC C σ F pv v) : PvC C σ F1 pv v := by
  cases pv with
  | d x => exact Dat.mono e x v h
  | fr xs => exact h
  | pl i => exact h
theorem PvRs0.step (e : Ext F F1) : ∀ {ps : List Pv} {vs : List V}, PvRs0 C σ F ps vs → PvRs0 C σ F1 ps vs
  | [], _, h => h
  | p :: ps, _, ⟨v, r, e1, h1, h2⟩ => ⟨v, r, e1, PvC.step e h1, PvRs0.step e h2⟩
theorem PvRs0.length : ∀ {ps : List Pv} {vs : List V}, PvRs0 C σ F ps vs → ps.length = vs.length
  | [], _, h => by have h : _ = [] := h; rw [h]; rfl
  | p :: ps, _, ⟨v, r, e, h1, h2⟩ => by rw [e, List.length_cons, List.length_cons, PvRs0.length h2]
theorem PvC.r (h : PvC C σ F pv v) : PvR C Y sa s σ Hs H F pv v := by
  cases pv with
  | d x => exact h
  | fr xs => exact h.elim
  | pl i => exact h
theorem PvC.cr (R : Rel C Y σ H F sa s) (h : PvC C σ F pv v) (g : pv.get s = some x) : CR C H F x v := PvR.cr (Hs := H) R (PvC.r h) g
end

/-! ### ends -/
section
variable {C : Cf} {Y : Fm} {W : WX} {σ : L2.St} {H F : Hp} {sa : Nat → Addr} {s : Sx} {Q : VK} {x : D} {v : V} {ds : List D} {vs : List V}
theorem fin_dat (R : Rel C Y σ H F sa s) (h : EndG C Y W (PvR C Y) sa s σ H F Q (.ok (.d x) s)) (d : Dat C F x v) : Q v H := h v H F R (Step.refl ..) d
theorem fin_tup (R : Rel C Y σ H F sa s) (h : EndG C Y W (PvR C Y) sa s σ H F Q (.ok (.d (.tup ds)) s)) (d : DatL C F ds vs) : ∀ p, H p = none → Q (.ref p) (upd H p (.tup vs)) := fun p hp =>
  h _ _ _ (R.newF hp) (Step.newF R hp) (by
    show Dat C _ (.tup ds) _
    simp only [Dat]
    exact ⟨p, vs, rfl, upd_same, d.mono (ext_new (R.fnone hp))⟩)
theorem fin_lst (R : Rel C Y σ H F sa s) (h : EndG C Y W (PvR C Y) sa s σ H F Q (.ok (.fr ds) s)) (d : DatL C F ds vs) : ∀ p, H p = none → Q (.ref p) (upd H p (.lst vs)) := fun p hp =>
  h _ _ _ (R.newT hp) (Step.newT R hp) ⟨p, vs, rfl, upd_same, R.fnone hp, d, R.h0none hp, R.nmt hp, hp⟩
end
end Dn
end
section
set_option Elab.async false
set_option linter.all false
set_option maxRecDepth 100000
set_option maxHeartbeats 2000000
namespace Dn
open PySem PySem.Spec PyProof.Rows L2

/-- a context in which such expressions stand: exceptions go to W; room for calls of level n -/
structure Cxt (X : Cx) (C : Cf) (W : WX) (n : Nat) : Prop where
  K : X.K = C.K
  tk : Takes X W
  calm : X.calm = true
  nd : X.N.Nodup
  room : Room n X.A

abbrev SE (X : Cx) (C : Cf) (Y : Fm) (W : WX) (e : Expr) (f : Sx → Res Pv) : Prop := PE X e (tE C Y W f)
abbrev ST (X : Cx) (C : Cf) (Y : Fm) (W : WX) (e : Expr) (f : Sx → Res Bool) : Prop := PT X e (tT C Y W f)
structure SA (X : Cx) (C : Cf) (Y : Fm) (W : WX) (e : List Expr) (f : Sx → Res (List Pv)) : Prop where
  pa : PA X e (tA C Y W f)
  len : ∀ (s : Sx) (qs : List Pv) (s1 : Sx), f s = .ok qs s1 → qs.length = e.length

/-! ### names, constants -/
def dVar (i : Nat) : Sx → Res Pv := fun s => match s.sl[i]? with
  | some (.dat d) => .ok (.d d) s
  | some (.own xs) => .ok (.d (.lst xs)) ⟨s.sl.set i (.dat (.lst xs)), s.bo⟩
  | _ => .bad
def dPl (i : Nat) : Sx → Res Pv := fun s => match s.sl[i]? with
  | some (.dat d) => .ok (.d d) s
  | some (.own _) => .ok (.pl i) s
  | some (.bor _) => .ok (.pl i) s
  | _ => .bad
def dC (d : D) : Sx → Res Pv := fun s => .ok (.d d) s

section
variable {C : Cf} {Y : Fm} {W : WX} {σ : L2.St} {H F : Hp} {sa : Nat → Addr} {s : Sx} {Q : VK} {X : Cx}
/-- an own list is frozen -/
theorem Rel.freeze (R : Rel C Y σ H F sa s) {i : Nat} {xs : List D} (h : s.sl[i]? = some (.own xs)) :
    ∃ vs, Rel C Y σ H (upd F (sa i) (.lst vs)) sa ⟨s.sl.set i (.dat (.lst xs)), s.bo⟩ ∧ Step Y sa s ⟨s.sl.set i (.dat (.lst xs)), s.bo⟩ H F H (upd F (sa i) (.lst vs)) ∧
      Dat C (upd F (sa i) (.lst vs)) (.lst xs) (.ref (sa i)) ∧ σ[i]? = some (some (.ref (sa i))) := by
  obtain ⟨h1, h2, ⟨vs, h3, h4⟩, h5⟩ := R.own i xs h
  have ex : Ext F (upd F (sa i) (.lst vs)) := ext_new h2
  have hi : i < s.sl.length := (List.getElem?_eq_some_iff.mp h).1
  have hd : Dat C (upd F (sa i) (.lst vs)) (.lst xs) (.ref (sa i)) := by
    simp only [Dat]
    exact ⟨_, vs, rfl, upd_same, h4.mono ex⟩
  have nown : ∀ (j : Nat) (ys : List D), (s.sl.set i (.dat (.lst xs)))[j]? = some (.own ys) → j ≠ i ∧ s.sl[j]? = some (.own ys) := fun j ys q => by
    by_cases hj : j = i
    · subst hj
      rw [List.getElem?_set_self hi] at q
      cases q
    · rw [List.getElem?_set_ne (Ne.symm hj)] at q
      exact ⟨hj, q⟩
  have nb : ∀ p ∈ Y.bp, p ≠ sa i := fun p hp e => R.bH p hp (by rw [e]; exact h5)
  refine ⟨vs, ⟨by simpa using R.len, fun b u e => ?_, fun j d q => ?_, fun j ys q => ?_, fun j k ys zs q1 q2 => ?_, fun j k q => ?_, R.bol, fun k p ys q1 q2 => ?_, R.bnd, R.bH, fun b q1 q2 => ?_, R.ext0.trans ex⟩, ⟨ex, fun b q1 q2 => ?_, fun j ys q => ⟨ys, (nown j ys q).2⟩, fun _ q => q⟩, hd, h1⟩
  · by_cases hb : b = sa i
    · subst hb
      rw [upd_same] at e
      cases e
      exact h3
    · rw [upd_ne hb] at e
      exact R.sub b u e
  · by_cases hj : j = i
    · subst hj
      rw [List.getElem?_set_self hi] at q
      cases q
      exact ⟨_, h1, hd⟩
    · rw [List.getElem?_set_ne (Ne.symm hj)] at q
      obtain ⟨v, z1, z2⟩ := R.dat j d q
      exact ⟨v, z1, Dat.mono ex _ _ z2⟩
  · obtain ⟨hj, q⟩ := nown j ys q
    obtain ⟨z1, z2, ⟨ws, z3, z4⟩, z5⟩ := R.own j ys q
    have ne : sa j ≠ sa i := fun e => hj (R.inj j i ys xs q h e)
    exact ⟨z1, by rw [upd_ne ne]; exact z2, ⟨ws, z3, z4.mono ex⟩, z5⟩
  · exact R.inj j k ys zs (nown j ys q1).2 (nown k zs q2).2
  · by_cases hj : j = i
    · subst hj
      rw [List.getElem?_set_self hi] at q
      cases q
    · rw [List.getElem?_set_ne (Ne.symm hj)] at q
      exact R.bor j k q
  · obtain ⟨z1, ws, z2, z3⟩ := R.bos k p ys q1 q2
    have ne := nb p (List.mem_of_getElem? q1)
    exact ⟨by rw [upd_ne ne]; exact z1, ws, z2, z3.mono ex⟩
  · obtain ⟨z1, z2⟩ := R.fr0 b q1 q2
    have ne : b ≠ sa i := fun e => q1 (by rw [e]; exact h5)
    rw [upd_ne ne]
    exact ⟨z1, z2⟩
  · have ne : b ≠ sa i := fun e => q2 (.inl ⟨i, xs, h, e.symm⟩)
    rw [upd_ne ne]
    exact ⟨rfl, rfl⟩

theorem se_var (i : Nat) {x : Str} {pos : Pos} (hN : X.N[i]? = some x := by rfl) (hv : Vis X.env.scope x := by first | exact Or.inl rfl | exact Or.inr (Or.inl rfl) | exact Or.inr (Or.inr rfl)) (hd : (x == ("__debug__" : Str)) = false := by decide)
    (hcd : (x == ("__classdict__" : Str)) = false := by decide) : SE X C Y W (.Name x pos) (dVar i) := pe_weak (pe_var hN hv hd hcd) fun σ H Q ⟨F, sa, s, R, h⟩ => by
  unfold dVar at h
  split at h
  · rename_i d hs
    obtain ⟨v, h1, h2⟩ := R.dat i d hs
    exact ⟨v, h1, h v H F R (Step.refl ..) h2⟩
  · rename_i xs hs
    obtain ⟨vs, R1, S1, d1, e1⟩ := R.freeze hs
    exact ⟨_, e1, h _ H _ R1 S1 d1⟩
  · exact h.elim
theorem se_pl (i : Nat) {x : Str} {pos : Pos} (hN : X.N[i]? = some x := by rfl) (hv : Vis X.env.scope x := by first | exact Or.inl rfl | exact Or.inr (Or.inl rfl) | exact Or.inr (Or.inr rfl)) (hd : (x == ("__debug__" : Str)) = false := by decide)
    (hcd : (x == ("__classdict__" : Str)) = false := by decide) : SE X C Y W (.Name x pos) (dPl i) := pe_weak (pe_var hN hv hd hcd) fun σ H Q ⟨F, sa, s, R, h⟩ => by
  unfold dPl at h
  split at h
  · rename_i d hs
    obtain ⟨v, h1, h2⟩ := R.dat i d hs
    exact ⟨v, h1, h v H F R (Step.refl ..) h2⟩
  · rename_i xs hs
    obtain ⟨h1, _⟩ := R.own i xs hs
    exact ⟨_, h1, h _ H F R (Step.refl ..) h1⟩
  · rename_i k hs
    obtain ⟨p, _, h1⟩ := R.bor i k hs
    exact ⟨_, h1, h _ H F R (Step.refl ..) h1⟩
  · exact h.elim
theorem se_c {e : Expr} {d : D} {v : V} (he : PE X e (tC v)) (hd : ∀ F, Dat C F d v) : SE X C Y W e (dC d) := pe_weak he fun σ H Q ⟨F, sa, s, R, h⟩ => h v H F R (Step.refl ..) (hd F)
theorem se_int {i : Int} {j pos} : SE X C Y W (.Constant (.int i) j pos) (dC (.int i)) := se_c pe_int fun _ => by simp only [Dat]
theorem se_bl {b : Bool} {j pos} : SE X C Y W (.Constant (.bool b) j pos) (dC (.bl b)) := se_c pe_bl fun _ => by simp only [Dat]
theorem se_non {j pos} : SE X C Y W (.Constant .none j pos) (dC .non) := se_c pe_non fun _ => by simp only [Dat]
theorem se_str {x : Str} {j pos} : SE X C Y W (.Constant (.str x) j pos) (dC (.str x)) := se_c pe_str fun _ => by simp only [Dat]
/-- a def of the module as a value -/
theorem se_gfn {x : Str} {k : Nat} {pos : Pos} (hm : X.mg x = some (.ref (C.fa k))) (hg : Gl X x := by rfl) (hd : (x == ("__debug__" : Str)) = false := by decide) : SE X C Y W (.Name x pos) (dC (.fn k)) := se_c (pe_glob (v := .ref (C.fa k)) hg hm rfl hd) fun _ => by simp only [Dat]
/-- a constant of the module -/
theorem se_gint {x : Str} {i : Int} {pos : Pos} (hm : ∃ t, X.mg x = some (.int i t)) (hg : Gl X x := by rfl) (hd : (x == ("__debug__" : Str)) = false := by decide) : SE X C Y W (.Name x pos) (dC (.int i)) := by
  obtain ⟨t, hm⟩ := hm
  exact se_c (pe_glob (v := .int i) hg hm ⟨t, rfl⟩ hd) fun _ => by simp only [Dat]
theorem se_gstr {x z : Str} {pos : Pos} (hm : ∃ t, X.mg x = some (.str z t)) (hg : Gl X x := by rfl) (hd : (x == ("__debug__" : Str)) = false := by decide) : SE X C Y W (.Name x pos) (dC (.str z)) := by
  obtain ⟨t, hm⟩ := hm
  exact se_c (pe_glob (v := .str z) hg hm ⟨t, rfl⟩ hd) fun _ => by simp only [Dat]
end

/-! ### operations on two data -/
def end2 (op : D → D → Option Pv) (s : Sx) : Option D → Option D → Res Pv
  | some x, some y => match op x y with
    | some pv => .ok pv s
    | none => .bad
  | _, _ => .bad
def dOp2 (op : D → D → Option Pv) (fa fb : Sx → Res Pv) : Sx → Res Pv := fun s => (fa s).bind fun pa s1 => (fb s1).bind fun pb s2 => end2 op s2 (pa.get s2) (pb.get s2)
/-- what a rule by values is to answer for an operation on data -/
def OpS (C : Cf) (Y : Fm) (W : WX) (op : D → D → Option Pv) (r : R2) : Prop := ∀ (x y : D) (pv : Pv) (v u : V) (σ : L2.St) (H F : Hp) (sa : Nat → Addr) (s : Sx) (Q : VK),
  Rel C Y σ H F sa s → CR C H F x v → CR C H F y u → op x y = some pv → EndG C Y W (PvR C Y) sa s σ H F Q (.ok pv s) → r v u H Q
section
variable {C : Cf} {Y : Fm} {W : WX} {X : Cx} {a b : Expr} {fa fb : Sx → Res Pv} {op : D → D → Option Pv} {r : R2} {pos : Pos}
theorem op2_core (hr : OpS C Y W op r) : ∀ σ H Q, tE C Y W (dOp2 op fa fb) σ H Q → tOp r (tE C Y W fa) (tE C Y W fb) σ H Q := fun σ H Q ⟨F, sa, s, R, h⟩ =>
  ⟨F, sa, s, R, EndG.bind h fun pa s1 v H1 F1 _ R1 S1 V1 h1 => ⟨F1, sa, s1, R1, EndG.bind h1 fun pb s2 u H2 F2 _ R2 S2 V2 h2 => by
    cases ga : pa.get s2 with
    | none => rw [ga] at h2; exact h2.elim
    | some x =>
      cases gb : pb.get s2 with
      | none => rw [ga, gb] at h2; exact h2.elim
      | some y =>
        rw [ga, gb] at h2
        simp only [end2] at h2
        split at h2
        · rename_i pv e
          exact hr x y pv v u σ H2 F2 sa s2 Q R2 ((V1.step S2).cr R2 ga) (V2.cr R2 gb) e h2
        · exact h2.elim⟩⟩
theorem se_bin {o : Operator} (rule : OpR X (binaryOp o) r) (hr : OpS C Y W op r) (ha : SE X C Y W a fa) (hb : SE X C Y W b fb) : SE X C Y W (.BinOp a o b pos) (dOp2 op fa fb) := pe_weak (pe_op rule ha hb) (op2_core hr)
theorem se_cmp {o : CmpOp} (rule : OpR X (compareOp o) r) (hr : OpS C Y W op r) (ha : SE X C Y W a fa) (hb : SE X C Y W b fb) (hm : behindInMarks o b = false) : SE X C Y W (.Compare a [o] [b] pos) (dOp2 op fa fb) := pe_weak (pe_cmpR rule ha hb hm) (op2_core hr)
end

/-! ### tests -/
def endT (s : Sx) : Option D → Res Bool
  | some (.bl b) => .ok b s
  | _ => .bad
def dTest (f : Sx → Res Pv) : Sx → Res Bool := fun s => (f s).bind fun pv s1 => endT s1 (pv.get s1)
def dNot (f : Sx → Res Bool) : Sx → Res Bool := fun s => (f s).bind fun b s1 => .ok (!b) s1
def dAnd (f g : Sx → Res Bool) : Sx → Res Bool := fun s => (f s).bind fun b s1 => match b with
  | true => g s1
  | false => .ok false s1
def dOr (f g : Sx → Res Bool) : Sx → Res Bool := fun s => (f s).bind fun b s1 => match b with
  | true => .ok true s1
  | false => g s1
def dIf {α : Type} (c : Sx → Res Bool) (f g : Sx → Res α) : Sx → Res α := fun s => (c s).bind fun b s1 => match b with
  | true => f s1
  | false => g s1
section
variable {C : Cf} {Y : Fm} {W : WX} {X : Cx} {a b c e : Expr} {rest : List Expr} {f g h : Sx → Res Pv} {t u : Sx → Res Bool} {pos : Pos}
theorem test_core : ∀ σ H (Q : Bool → Hp → Prop), tT C Y W (dTest f) σ H Q → tTest (tE C Y W f) σ H Q := fun σ H Q ⟨F, sa, s, R, hq⟩ =>
  ⟨F, sa, s, R, EndG.bind hq fun pa s1 v H1 F1 _ R1 S1 V1 h1 => by
    cases ga : pa.get s1 with
    | none => rw [ga] at h1; exact h1.elim
    | some x =>
      rw [ga] at h1
      have cr := V1.cr R1 ga
      cases x with
      | bl k => exact ⟨k, by simpa only [CR, Dat] using cr, h1 k H1 F1 R1 (Step.refl ..) rfl⟩
      | _ => exact h1.elim⟩
/-- a comparison as a test -/
theorem st_cmp {o : CmpOp} {op : D → D → Option Pv} {r : R2} (rule : OpR X (compareOp o) r) (hr : OpS C Y W op r) (ha : SE X C Y W a f) (hb : SE X C Y W b g) (hm : behindInMarks o b = false) : ST X C Y W (.Compare a [o] [b] pos) (dTest (dOp2 op f g)) :=
  pt_weak (pt_cmpR rule ha hb hm) fun σ H Q q => by
    obtain ⟨F, sa, s, R, hq⟩ := test_core σ H Q q
    exact op2_core hr σ H _ ⟨F, sa, s, R, hq⟩
/-- a value of a bool as a test -/
theorem st_val (h : SE X C Y W e f) (he : ∀ whole, isTrue e X.env whole = (do let v ← whole; standAt e.pos; holding [v] (truthy v)) := by intro _; rfl) : ST X C Y W e (dTest f) :=
  pt_weak (pt_val h he) fun σ H Q q => test_core σ H Q q
theorem st_not (h : ST X C Y W a t) : ST X C Y W (.UnaryOp .Not a pos) (dNot t) := pt_weak (pt_not h) fun σ H Q ⟨F, sa, s, R, hq⟩ =>
  ⟨F, sa, s, R, EndG.bind hq fun b s1 b' H1 F1 _ R1 S1 V1 h1 => h1 (!b') H1 F1 R1 (Step.refl ..) (by have e : b' = b := V1; rw [e])⟩
abbrev SW (X : Cx) (C : Cf) (Y : Fm) (W : WX) (e : Expr) (f : Sx → Res Bool) : Prop := PW X e (tT C Y W f)
theorem pw_weak {e : Expr} {t t' : TT} (h : PW X e t) (w : ∀ σ H Q, t' σ H Q → t σ H Q) : PW X e t' := ⟨fun wh pins s σ H Q I q => h.run wh pins s σ H Q I (w σ H Q q)⟩
theorem sw_and1 (h : ST X C Y W a t) : SW X C Y W (.BoolOp .And [a] pos) t := pw_and1 h
theorem sw_or1 (h : ST X C Y W a t) : SW X C Y W (.BoolOp .Or [a] pos) t := pw_or1 h
theorem sw_and (ha : ST X C Y W a t) (hb : SW X C Y W (.BoolOp .And (b :: rest) pos) u) : SW X C Y W (.BoolOp .And (a :: b :: rest) pos) (dAnd t u) := pw_weak (pw_and ha hb) fun σ H Q ⟨F, sa, s, R, hq⟩ =>
  ⟨F, sa, s, R, EndG.bind hq fun b s1 b' H1 F1 _ R1 S1 V1 h1 => by
    have e : b' = b := V1
    subst e
    cases b' with
    | true => exact ⟨F1, sa, s1, R1, h1⟩
    | false => exact h1 false H1 F1 R1 (Step.refl ..) rfl⟩
theorem sw_or (ha : ST X C Y W a t) (hb : SW X C Y W (.BoolOp .Or (b :: rest) pos) u) : SW X C Y W (.BoolOp .Or (a :: b :: rest) pos) (dOr t u) := pw_weak (pw_or ha hb) fun σ H Q ⟨F, sa, s, R, hq⟩ =>
  ⟨F, sa, s, R, EndG.bind hq fun b s1 b' H1 F1 _ R1 S1 V1 h1 => by
    have e : b' = b := V1
    subst e
    cases b' with
    | true => exact h1 true H1 F1 R1 (Step.refl ..) rfl
    | false => exact ⟨F1, sa, s1, R1, h1⟩⟩
theorem sw_t (h : SW X C Y W e t) : ST X C Y W e t := h.pt
theorem se_if (hc : ST X C Y W c t) (ha : SE X C Y W a f) (hb : SE X C Y W b g) : SE X C Y W (.IfExp c a b pos) (dIf t f g) := pe_weak (pe_ifExp hc ha hb) fun σ H Q ⟨F, sa, s, R, hq⟩ =>
  ⟨F, sa, s, R, EndG.bind hq fun b s1 b' H1 F1 _ R1 S1 V1 h1 => by
    have e : b' = b := V1
    subst e
    cases b' with
    | true => exact ⟨F1, sa, s1, R1, h1⟩
    | false => exact ⟨F1, sa, s1, R1, h1⟩⟩
/-- and, or, not as values of bools -/
def dAndV (f g : Sx → Res Pv) : Sx → Res Pv := fun s => (dTest f s).bind fun b s1 => match b with
  | true => g s1
  | false => .ok (.d (.bl false)) s1
def dOrV (f g : Sx → Res Pv) : Sx → Res Pv := fun s => (dTest f s).bind fun b s1 => match b with
  | true => .ok (.d (.bl true)) s1
  | false => g s1
def dNotV (f : Sx → Res Pv) : Sx → Res Pv := fun s => (dTest f s).bind fun b s1 => .ok (.d (.bl (!b))) s1
theorem bl_dat {F : Hp} {k : Bool} : Dat C F (.bl k) (.bl k) := by simp only [Dat]
theorem tst_bind {σ : L2.St} {H : Hp} {Q : VK} {k : Bool → Sx → Res Pv} (q : tE C Y W (fun s => (dTest f s).bind k) σ H Q) :
    tE C Y W f σ H fun x H1 => ∃ c, x = .bl c ∧ ∃ F1 sa s1, Rel C Y σ H1 F1 sa s1 ∧ EndG C Y W (PvR C Y) sa s1 σ H1 F1 Q (k c s1) := by
  obtain ⟨F, sa, s, R, hq⟩ := q
  have q2 : tT C Y W (dTest f) σ H fun c H1 => ∃ F1 sa s1, Rel C Y σ H1 F1 sa s1 ∧ EndG C Y W (PvR C Y) sa s1 σ H1 F1 Q (k c s1) :=
    ⟨F, sa, s, R, EndG.bind hq fun b s1 b' H1 F1 _ R1 S1 V1 h1 => by
      have e : b' = b := V1
      subst e
      exact ⟨F1, sa, s1, R1, h1⟩⟩
  exact test_core σ H _ q2
theorem se_one {o : BoolOp} (h : SE X C Y W a f) : SE X C Y W (.BoolOp o [a] pos) f := pe_one h
theorem se_and (ha : SE X C Y W a f) (hb : SE X C Y W (.BoolOp .And (b :: rest) pos) g) : SE X C Y W (.BoolOp .And (a :: b :: rest) pos) (dAndV f g) := pe_weak (pe_and ha hb) fun σ H Q q => by
  obtain ⟨F, sa, s, R, hq⟩ := tst_bind q
  refine ⟨F, sa, s, R, ?_⟩
  revert hq
  cases f s with
  | bad => exact id
  | ex c d s' => exact id
  | ok pa s1 =>
    intro hq v H1 F1 R1 S1 V1
    obtain ⟨c, e, F2, sa2, s2, R2, h2⟩ := hq v H1 F1 R1 S1 V1
    refine ⟨c, e, ?_⟩
    cases c with
    | true => exact ⟨F2, sa2, s2, R2, h2⟩
    | false => exact fin_dat R2 h2 bl_dat
theorem se_or (ha : SE X C Y W a f) (hb : SE X C Y W (.BoolOp .Or (b :: rest) pos) g) : SE X C Y W (.BoolOp .Or (a :: b :: rest) pos) (dOrV f g) := pe_weak (pe_or ha hb) fun σ H Q q => by
  obtain ⟨F, sa, s, R, hq⟩ := tst_bind q
  refine ⟨F, sa, s, R, ?_⟩
  revert hq
  cases f s with
  | bad => exact id
  | ex c d s' => exact id
  | ok pa s1 =>
    intro hq v H1 F1 R1 S1 V1
    obtain ⟨c, e, F2, sa2, s2, R2, h2⟩ := hq v H1 F1 R1 S1 V1
    refine ⟨c, e, ?_⟩
    cases c with
    | true => exact fin_dat R2 h2 bl_dat
    | false => exact ⟨F2, sa2, s2, R2, h2⟩
theorem se_not (ha : SE X C Y W a f) : SE X C Y W (.UnaryOp .Not a pos) (dNotV f) := pe_weak (pe_not ha) fun σ H Q q => by
  obtain ⟨F, sa, s, R, hq⟩ := tst_bind q
  refine ⟨F, sa, s, R, ?_⟩
  revert hq
  cases f s with
  | bad => exact id
  | ex c d s' => exact id
  | ok pa s1 =>
    intro hq v H1 F1 R1 S1 V1
    obtain ⟨c, e, F2, sa2, s2, R2, h2⟩ := hq v H1 F1 R1 S1 V1
    exact ⟨c, e, fin_dat R2 h2 bl_dat⟩
end

/-! ### arguments, displays -/
def dNil : Sx → Res (List Pv) := fun s => .ok [] s
def dCons (f : Sx → Res Pv) (g : Sx → Res (List Pv)) : Sx → Res (List Pv) := fun s => (f s).bind fun p s1 => (g s1).bind fun ps s2 => .ok (p :: ps) s2
def Pv.cold : Pv → Pv
  | .fr xs => .d (.lst xs)
  | p => p
/-- a fresh list is taken as a datum from now on -/
def dFz (f : Sx → Res Pv) : Sx → Res Pv := fun s => (f s).bind fun p s1 => .ok p.cold s1
def dats : List Pv → Option (List D)
  | [] => some []
  | .d x :: ps => (dats ps).map (x :: ·)
  | _ :: _ => none
def endO (s : Sx) (g : List D → Pv) : Option (List D) → Res Pv
  | some ds => if ds.length ≤ 1000 then .ok (g ds) s else .bad
  | none => .bad
def dTup (f : Sx → Res (List Pv)) : Sx → Res Pv := fun s => (f s).bind fun ps s1 => endO s1 (fun ds => .d (.tup ds)) (dats ps)
def dLst (f : Sx → Res (List Pv)) : Sx → Res Pv := fun s => (f s).bind fun ps s1 => endO s1 .fr (dats ps)
section
variable {C : Cf} {Y : Fm} {W : WX} {σ : L2.St} {Hs H F H1 F1 : Hp} {sa : Nat → Addr} {s s1 : Sx} {ps : List Pv} {vs : List V} {ds : List D} {X : Cx} {e : Expr} {es : List Expr} {f : Sx → Res Pv} {g : Sx → Res (List Pv)} {pos : Pos}
theorem dats_r : ∀ {ps : List Pv} {vs : List V} {ds : List D}, PvRs0 C σ F ps vs → dats ps = some ds → DatL C F ds vs
  | [], _, _, h, e => by
    cases e
    simp only [DatL]
    exact h
  | .d x :: ps, _, _, ⟨v, r, e1, h1, h2⟩, e => by
    simp only [Dn.dats] at e
    cases h3 : Dn.dats ps with
    | none => rw [h3] at e; cases e
    | some es =>
      rw [h3] at e
      cases e
      simp only [DatL]
      exact ⟨v, r, e1, h1, dats_r h2 h3⟩
  | .fr _ :: _, _, _, _, e => by cases e
  | .pl _ :: _, _, _, _, e => by cases e
/-- a list that is new since Hs is frozen -/
theorem Rel.frz (R : Rel C Y σ H F sa s) {p : Addr} {ws : List V} (e2 : H p = some (.lst ws)) (e3 : F p = none) (e5 : Y.H0 p = none) (e6 : ¬ Mt Y sa s p) : Rel C Y σ H (upd F p (.lst ws)) sa s := by
  have ex : Ext F (upd F p (.lst ws)) := ext_new e3
  refine ⟨R.len, fun b u e => ?_, fun i d h => ?_, fun i xs h => ?_, R.inj, R.bor, R.bol, fun k q xs h1 h2 => ?_, R.bnd, R.bH, fun b h1 h2 => ?_, R.ext0.trans ex⟩
  · by_cases hb : b = p
    · subst hb
      rw [upd_same] at e
      cases e
      exact e2
    · rw [upd_ne hb] at e
      exact R.sub b u e
  · obtain ⟨v, h1, h2⟩ := R.dat i d h
    exact ⟨v, h1, h2.mono ex⟩
  · obtain ⟨h1, h2, ⟨vs, h3, h4⟩, h5⟩ := R.own i xs h
    have ne : sa i ≠ p := fun z => e6 (.inl ⟨i, xs, h, z⟩)
    exact ⟨h1, by rw [upd_ne ne]; exact h2, ⟨vs, h3, h4.mono ex⟩, h5⟩
  · obtain ⟨h3, vs, h4, h5⟩ := R.bos k q xs h1 h2
    have ne : q ≠ p := fun z => e6 (.inr (by rw [← z]; exact List.mem_of_getElem? h1))
    exact ⟨by rw [upd_ne ne]; exact h3, vs, h4, h5.mono ex⟩
  · obtain ⟨z1, z2⟩ := R.fr0 b h1 h2
    have ne : b ≠ p := fun z => h1 (by rw [z]; exact e5)
    rw [upd_ne ne]
    exact ⟨z1, z2⟩
theorem Step.frz (S : Step Y sa s s1 Hs F H1 F1) {p : Addr} {ws : List V} (e3 : F1 p = none) (e7 : Hs p = none) : Step Y sa s s1 Hs F H1 (upd F1 p (.lst ws)) :=
  ⟨S.ext.trans (ext_new e3), fun b h1 h2 => by
    have ne : b ≠ p := fun z => h1 (by rw [z]; exact e7)
    rw [upd_ne ne]
    exact S.fr b h1 h2, S.own, S.dom⟩
theorem fz_core {σ H} {Q : VK} : tE C Y W (dFz f) σ H Q → ∃ F sa s, Rel C Y σ H F sa s ∧ EndG C Y W (PvR C Y) sa s σ H F (fun v H1 => Q v H1) (f s) := fun ⟨F, sa, s, R, h⟩ => ⟨F, sa, s, R, by
  unfold dFz at h
  revert h
  cases f s with
  | bad => exact id
  | ex c d s' => exact id
  | ok pv s1 =>
    intro h v H1 F1 R1 S1 V1
    cases pv with
    | d x => exact h v H1 F1 R1 S1 V1
    | pl i => exact h v H1 F1 R1 S1 V1
    | fr xs =>
      obtain ⟨p, ws, e1, e2, e3, e4, e5, e6, e7⟩ := V1
      subst e1
      refine h _ H1 _ (R1.frz e2 e3 e5 e6) (S1.frz e3 e7) ?_
      show Dat C _ (.lst xs) _
      simp only [Dat]
      exact ⟨p, ws, rfl, upd_same, e4.mono (ext_new e3)⟩⟩
theorem se_fz (h : SE X C Y W e f) : SE X C Y W e (dFz f) := pe_weak h fun _ _ _ q => fz_core q
theorem fz_cold {pv : Pv} {v : V} (h : PvR C Y sa s σ Hs H F pv v) (g : pv.cold = pv) : PvC C σ F pv v := by
  cases pv with
  | d x => exact h
  | fr xs => cases g
  | pl i => exact h
theorem fz_is {s s1 : Sx} {pv : Pv} (h : dFz f s = .ok pv s1) : pv.cold = pv := by
  unfold dFz at h
  cases hf : f s with
  | bad => rw [hf] at h; cases h
  | ex c d s' => rw [hf] at h; cases h
  | ok p s' =>
    rw [hf] at h
    cases p <;> cases h <;> rfl
theorem sa_nil : SA X C Y W [] dNil := ⟨pa_weak pa_nil fun σ H Q ⟨F, sa, s, R, h⟩ => h [] H F R (Step.refl ..) rfl, fun s qs s1 h => by cases h; rfl⟩
theorem sa_cons (he : SE X C Y W e f) (hr : SA X C Y W es g) (hs : starEach (e :: es) X.env = (false, eval e X.env) :: starEach es X.env := by rfl) : SA X C Y W (e :: es) (dCons (dFz f) g) :=
  ⟨pa_weak (pa_cons (se_fz he) hr.pa hs) fun σ H Q ⟨F, sa, s, R, h⟩ => ⟨F, sa, s, R, EndG.bind h fun p s1 v H1 F1 e1 R1 S1 V1 h1 => ⟨F1, sa, s1, R1, EndG.bind h1 fun ps s2 vs H2 F2 _ R2 S2 V2 h2 =>
    h2 (v :: vs) H2 F2 R2 (Step.refl ..) ⟨v, vs, rfl, (fz_cold V1 (fz_is e1)).step S2.ext, V2⟩⟩⟩, fun s qs s1 h => by
    unfold dCons at h
    cases h1 : dFz f s with
    | bad => rw [h1] at h; cases h
    | ex c d s' => rw [h1] at h; cases h
    | ok p s' =>
      rw [h1] at h
      cases h2 : g s' with
      | bad => simp only [Res.bind, h2] at h; cases h
      | ex c d s2 => simp only [Res.bind, h2] at h; cases h
      | ok qs2 s2 =>
        simp only [Res.bind, h2] at h
        cases h
        rw [List.length_cons, List.length_cons, hr.len s' qs2 _ h2]⟩
theorem DatL.length : ∀ {ds : List D} {vs : List V}, DatL C F ds vs → ds.length = vs.length
  | [], _, h => by
    simp only [DatL] at h
    rw [h]
    rfl
  | d :: ds, vs, h => by
    simp only [DatL] at h
    obtain ⟨v, r, e, h1, h2⟩ := h
    rw [e, List.length_cons, List.length_cons, DatL.length h2]
theorem small_line {n : Nat} (h : n ≤ 1000) : n ≤ sizeLine := Nat.le_trans h (by decide)
theorem se_tup {k} (h : SA X C Y W es g) : SE X C Y W (.Tuple es k pos) (dTup g) := pe_weak (pe_tup h.pa) fun σ H Q ⟨F, sa, s, R, hq⟩ => ⟨F, sa, s, R, EndG.bind hq fun ps s1 vs H1 F1 _ R1 S1 V1 h1 => by
  cases e : dats ps with
  | none => rw [e] at h1; exact h1.elim
  | some ds =>
    rw [e] at h1
    have l := dats_r V1 e
    simp only [endO] at h1
    split at h1
    · rename_i hl
      exact ⟨by rw [← l.length]; exact small_line hl, fin_tup R1 h1 l⟩
    · exact h1.elim⟩
theorem se_lst (h : SA X C Y W es g) : SE X C Y W (.List es pos) (dLst g) := pe_weak (pe_lst h.pa) fun σ H Q ⟨F, sa, s, R, hq⟩ => ⟨F, sa, s, R, EndG.bind hq fun ps s1 vs H1 F1 _ R1 S1 V1 h1 => by
  cases e : dats ps with
  | none => rw [e] at h1; exact h1.elim
  | some ds =>
    rw [e] at h1
    have l := dats_r V1 e
    simp only [endO] at h1
    split at h1
    · rename_i hl
      exact ⟨by rw [← l.length]; exact small_line hl, fin_lst R1 h1 l⟩
    · exact h1.elim⟩
end
end Dn
end
section
set_option Elab.async false
set_option linter.all false
set_option maxRecDepth 100000
set_option maxHeartbeats 4000000
namespace Dn
open PySem PySem.Spec PyProof.Rows L2

/-! ### arithmetic -/
def LIM : Nat := 16777216
theorem lim_eq : LIM = sizeLine := by rw [sizeLine_eq]; rfl
def opAdd : D → D → Option Pv
  | .int i, .int j => some (.d (.int (i + j)))
  | .str x, .str y => if x.length + y.length ≤ LIM then some (.d (.str (x ++ y))) else none
  | .tup xs, .tup ys => if xs.length + ys.length ≤ LIM then some (.d (.tup (xs ++ ys))) else none
  | .lst xs, .lst ys => if xs.length + ys.length ≤ LIM then some (.fr (xs ++ ys)) else none
  | _, _ => none
def opSub : D → D → Option Pv
  | .int i, .int j => some (.d (.int (i - j)))
  | _, _ => none
def MulOk (i j : Int) : Prop := ((-(2 ^ 64) < i ∧ i < 2 ^ 64) ∨ (-(2 ^ 64) < j ∧ j < 2 ^ 64)) ∨ i.natAbs.log2 + j.natAbs.log2 < 1000000
instance (i j : Int) : Decidable (MulOk i j) := by unfold MulOk; infer_instance
def opMul : D → D → Option Pv
  | .int i, .int j => if MulOk i j then some (.d (.int (i * j))) else none
  | .tup xs, .int k => if xs ≠ [] ∧ 1 ≤ k ∧ k ≤ 1000 ∧ xs.length ≤ 1000 then some (.d (.tup (List.replicate k.toNat xs).flatten)) else none
  | .lst xs, .int k => if -(2 ^ 63) ≤ k ∧ k < 2 ^ 63 ∧ xs.length * k.toNat ≤ LIM then some (.fr (List.replicate k.toNat xs).flatten) else none
  | _, _ => none
def opDiv : D → D → Option Pv
  | .int i, .int j => if 0 < j ∧ j.natAbs.log2 < 9000 then some (.d (.int (i / j))) else if j ≠ 0 ∧ j.natAbs < 1073741824 then some (.d (.int (i.fdiv j))) else none
  | _, _ => none
def opMod : D → D → Option Pv
  | .int i, .int j => if 0 < j then some (.d (.int (i % j))) else if j ≠ 0 then some (.d (.int (i.fmod j))) else none
  | _, _ => none
def opPow : D → D → Option Pv
  | .int i, .int j => if 0 ≤ j ∧ (Builtin.Int.intBits i : Int) * j ≤ 2 ^ 27 then some (.d (.int (i ^ j.toNat))) else none
  | _, _ => none

theorem op_powW {X : Cx} : OpR X (binaryOp .Pow) (rI (fun i j => 0 ≤ j ∧ (Builtin.Int.intBits i : Int) * j ≤ 2 ^ 27) fun i j => .int (i ^ j.toNat)) := opI fun _ _ _ _ _ _ _ hc q => pow_int hc.1 hc.2 q

theorem tuple_mul1 (l : Addr) (items : Array Value) (n : Nat) (dd : Option Addr) (sl : Array (Option Value)) (u : Tok) :
    Meets (Builtin.«tuple.__mul__» ⟨[.ref l, .int 1 u], []⟩) (fun _ R s => s.heap.get? l = some { cls := .type "tuple", dict := dd, data := .seq items n, slots := sl } ∧ R (.ok (.ret (Value.ref l))) s) :=
  .of_wp fun prog w A R s h => by
    obtain ⟨hp, g, d, tk, os⟩ := s
    obtain ⟨hl, h⟩ := h
    have f1 := AutoSeq1.idx_int
    have c0 : (decide ((1 : Int) < -(2 ^ 63)) || decide ((1 : Int) ≥ 2 ^ 63)) = false := by decide
    have c1 : (items.isEmpty || (1 : Int) == 1) = true := by simp
    wp_walk using wpAny_loadPart' hl
    repeat (first
      | (refine wpAny_ite_false (decide_eq_false (by rw [c0]; exact Bool.false_ne_true)) ?_; wp_walk using wpAny_loadPart' hl)
      | (refine wpAny_ite_true (decide_eq_true c1) ?_; wp_walk using wpAny_loadPart' hl))
    exact ⟨_, rfl, h⟩

def rRep1 (K : PySem.W.Frag) : R2 := fun x y H Q => ∃ l xs, x = .ref l ∧ y = .int 1 ∧ SqT K H l xs ∧ Q (.ref l) H
theorem op_rep1 {X : Cx} : OpR X (binaryOp .Mult) (rRep1 X.K) := by
  intro pins s σ H x y v u Q I rx ry h
  obtain ⟨l, xs, rfl, rfl, hT, q⟩ := h
  cases rx
  obtain ⟨t, rfl⟩ := ry
  obtain ⟨its, r, ⟨⟨cls, dd, data, sl⟩, ho, hc, n, hd⟩, hs⟩ := I.tuple hT
  simp only at hc hd
  subst hc hd
  exact wpAny_binaryOp_repeat_ref (T := "tuple") (U := "int") (by decide) ⟨_, ho, rfl⟩ (fun s' => typeIs_int s' 1 t) noFill_tuple_mul F.fills_int_mul F.slot_int_rmul repeat_tuple F.slot_int_index.lookup
    (call_meets F.slot_int_rmul (typeIs_int s 1 t) F.entry_int_rmul (F.args_int_rmul_2 _ _) (int_rmul_tuple 1 t l its.toArray n dd sl)
      ⟨ho, rfl, ⟨_, ho, rfl⟩, call_meets F.slot_tuple_mul ⟨_, ho, rfl⟩ F.entry_tuple_mul (F.args_tuple_mul_2 _ _) (tuple_mul1 l its.toArray n dd sl t) ⟨ho, .ref l, H, I, rfl, q⟩⟩)

section
variable {C : Cf} {Y : Fm} {W : WX} {X : Cx} {F H : Hp}
theorem DatL.nil {xs : List D} (h : DatL C F xs []) : xs = [] := List.eq_nil_of_length_eq_zero h.length
theorem DatL.nil' {vs : List V} (h : DatL C F [] vs) : vs = [] := by simpa only [DatL] using h
theorem DatL.append : ∀ {xs ys : List D} {vs us : List V}, DatL C F xs vs → DatL C F ys us → DatL C F (xs ++ ys) (vs ++ us)
  | [], _, _, _, h, h' => by
    simp only [DatL] at h
    rw [h]
    exact h'
  | x :: xs, _, _, _, h, h' => by
    simp only [DatL] at h
    obtain ⟨v, r, e, h1, h2⟩ := h
    rw [e]
    simp only [List.cons_append, DatL]
    exact ⟨v, _, rfl, h1, DatL.append h2 h'⟩
theorem DatL.get : ∀ {xs : List D} {vs : List V} {i : Nat} {x : D}, DatL C F xs vs → xs[i]? = some x → ∃ v, vs[i]? = some v ∧ Dat C F x v
  | [], _, _, _, _, e => by simp at e
  | y :: ys, _, 0, x, h, e => by
    simp only [DatL] at h
    obtain ⟨v, r, e1, h1, h2⟩ := h
    simp at e
    subst e
    rw [e1]
    exact ⟨v, rfl, h1⟩
  | y :: ys, _, i + 1, x, h, e => by
    simp only [DatL] at h
    obtain ⟨v, r, e1, h1, h2⟩ := h
    rw [e1]
    obtain ⟨u, h3, h4⟩ := DatL.get (i := i) h2 (by simpa using e)
    exact ⟨u, by simpa using h3, h4⟩
theorem DatL.drop : ∀ {xs : List D} {vs : List V} (n : Nat), DatL C F xs vs → DatL C F (xs.drop n) (vs.drop n)
  | _, _, 0, h => by simpa using h
  | [], _, n + 1, h => by
    simp only [DatL] at h
    rw [h]
    simp [DatL]
  | y :: ys, _, n + 1, h => by
    simp only [DatL] at h
    obtain ⟨v, r, e1, h1, h2⟩ := h
    rw [e1]
    simpa using DatL.drop n h2
theorem DatL.take : ∀ {xs : List D} {vs : List V} (n : Nat), DatL C F xs vs → DatL C F (xs.take n) (vs.take n)
  | _, _, 0, h => by simp [DatL]
  | [], _, n + 1, h => by
    simp only [DatL] at h
    rw [h]
    simp [DatL]
  | y :: ys, _, n + 1, h => by
    simp only [DatL] at h
    obtain ⟨v, r, e1, h1, h2⟩ := h
    rw [e1]
    simp only [List.take_succ_cons, DatL]
    exact ⟨v, _, rfl, h1, DatL.take n h2⟩
theorem DatL.set : ∀ {xs : List D} {vs : List V} (n : Nat) {x : D} {v : V}, DatL C F xs vs → Dat C F x v → DatL C F (xs.set n x) (vs.set n v)
  | [], _, n, x, v, h, h' => by
    simp only [DatL] at h
    rw [h]
    simp [DatL]
  | y :: ys, _, 0, x, v, h, h' => by
    simp only [DatL] at h
    obtain ⟨v', r, e1, h1, h2⟩ := h
    rw [e1]
    simp only [List.set_cons_zero, DatL]
    exact ⟨v, r, rfl, h', h2⟩
  | y :: ys, _, n + 1, x, v, h, h' => by
    simp only [DatL] at h
    obtain ⟨v', r, e1, h1, h2⟩ := h
    rw [e1]
    simp only [List.set_cons_succ, DatL]
    exact ⟨v', _, rfl, h1, DatL.set n h2 h'⟩
theorem DatL.reverse : ∀ {xs : List D} {vs : List V}, DatL C F xs vs → DatL C F xs.reverse vs.reverse
  | [], _, h => by
    simp only [DatL] at h
    rw [h]
    simp [DatL]
  | y :: ys, _, h => by
    simp only [DatL] at h
    obtain ⟨v', r, e1, h1, h2⟩ := h
    rw [e1, List.reverse_cons, List.reverse_cons]
    exact (DatL.reverse h2).append (by simp only [DatL]; exact ⟨v', [], rfl, h1, rfl⟩)
theorem DatL.rep {xs : List D} {vs : List V} (h : DatL C F xs vs) : ∀ n : Nat, DatL C F (List.replicate n xs).flatten (List.replicate n vs).flatten
  | 0 => by simp [DatL]
  | n + 1 => by
    rw [List.replicate_succ, List.replicate_succ, List.flatten_cons, List.flatten_cons]
    exact h.append (DatL.rep h n)
theorem int_cr {F H : Hp} {i : Int} {v : V} (h : CR C H F (.int i) v) : v = .int i := by simpa only [CR, Dat] using h
theorem bl_cr {F H : Hp} {i : Bool} {v : V} (h : CR C H F (.bl i) v) : v = .bl i := by simpa only [CR, Dat] using h
theorem str_cr {F H : Hp} {i : Str} {v : V} (h : CR C H F (.str i) v) : v = .str i := by simpa only [CR, Dat] using h
theorem non_cr {F H : Hp} {v : V} (h : CR C H F .non v) : v = .non := by simpa only [CR, Dat] using h
theorem tup_cr {F H : Hp} {ds : List D} {v : V} (h : CR C H F (.tup ds) v) : ∃ a vs, v = .ref a ∧ F a = some (.tup vs) ∧ DatL C F ds vs := by simpa only [CR, Dat] using h
theorem int_dat {F : Hp} {i : Int} : Dat C F (.int i) (.int i) := by simp only [Dat]
theorem str_dat {F : Hp} {i : Str} : Dat C F (.str i) (.str i) := by simp only [Dat]
theorem non_dat {F : Hp} : Dat C F .non .non := by simp only [Dat]
theorem tup_dat {F : Hp} {a : Addr} {vs : List V} {ds : List D} (h : F a = some (.tup vs)) (d : DatL C F ds vs) : Dat C F (.tup ds) (.ref a) := by
  simp only [Dat]
  exact ⟨a, vs, rfl, h, d⟩

abbrev rAddA (K : PySem.W.Frag) : R2 := fun x y H Q => rI0 (fun i j => .int (i + j)) x y H Q ∨ ((fun x y H Q => ∃ i j, x = .str i ∧ y = .str j ∧ i.length + j.length ≤ sizeLine ∧ Q (.str (i ++ j)) H : R2) x y H Q ∨ (rCatA K x y H Q ∨ rCat x y H Q))
theorem op_addA : OpR X (binaryOp .Add) (rAddA X.K) := OpR.or op_add (OpR.or op_add_str (OpR.or op_catA op_cat))
theorem ops_add (hK : X.K = C.K) : OpS C Y W opAdd (rAddA X.K) := by
  intro x y pv v u σ H F sa s Q R cx cy e h
  rw [hK]
  unfold opAdd at e
  split at e
  · rename_i i j
    cases e
    exact .inl ⟨i, j, int_cr cx, int_cr cy, fin_dat R h int_dat⟩
  · rename_i i j
    split at e
    · rename_i hl
      cases e
      exact .inr (.inl ⟨i, j, str_cr cx, str_cr cy, by rw [← lim_eq]; exact hl, fin_dat R h str_dat⟩)
    · cases e
  · rename_i xs ys
    split at e
    · rename_i hl
      cases e
      obtain ⟨a, vs, rfl, h1, h2⟩ := tup_cr cx
      obtain ⟨b, us, rfl, h3, h4⟩ := tup_cr cy
      have l1 := h2.length
      have l2 := h4.length
      refine .inr (.inr (.inl ⟨a, b, vs, us, rfl, rfl, sqT_mono R.sub h1, sqT_mono R.sub h3, by rw [← l1, ← l2, ← lim_eq]; exact hl, ?_, ?_, ?_⟩))
      · intro e
        subst e
        have := h2.nil
        subst this
        exact fin_dat R h (by rw [List.nil_append]; exact tup_dat h3 h4)
      · intro _ e
        subst e
        have := h4.nil
        subst this
        exact fin_dat R h (by rw [List.append_nil]; exact tup_dat h1 h2)
      · intro _ _
        exact fin_tup R h (h2.append h4)
    · cases e
  · rename_i xs ys
    split at e
    · rename_i hl
      cases e
      obtain ⟨a, vs, rfl, h1, h2⟩ := cx
      obtain ⟨b, us, rfl, h3, h4⟩ := cy
      have l1 := h2.length
      have l2 := h4.length
      exact .inr (.inr (.inr ⟨a, b, vs, us, rfl, rfl, h1, h3, by rw [← l1, ← l2, ← lim_eq]; exact hl, fin_lst R h (h2.append h4)⟩))
    · cases e
  · cases e

abbrev rInt (f : Int → Int → V) (P : Int → Int → Prop) : R2 := rI P f
theorem ops_sub : OpS C Y W opSub (rI0 fun i j => .int (i - j)) := by
  intro x y pv v u σ H F sa s Q R cx cy e h
  unfold opSub at e
  split at e
  · cases e
    exact ⟨_, _, int_cr cx, int_cr cy, fin_dat R h int_dat⟩
  · cases e
abbrev rMulA (K : PySem.W.Frag) : R2 := fun x y H Q => rI CMul (fun i j => .int (i * j)) x y H Q ∨ (rI CMulW (fun i j => .int (i * j)) x y H Q ∨ (rRepT K x y H Q ∨ (rRep1 K x y H Q ∨ rRep x y H Q)))
theorem op_mulA : OpR X (binaryOp .Mult) (rMulA X.K) := OpR.or op_mul (OpR.or op_mulW (OpR.or op_repT (OpR.or op_rep1 op_rep)))
theorem ops_mul (hK : X.K = C.K) : OpS C Y W opMul (rMulA X.K) := by
  intro x y pv v u σ H F sa s Q R cx cy e h
  rw [hK]
  unfold opMul at e
  split at e
  · rename_i i j
    split at e
    · rename_i hm
      cases e
      rcases hm with hm | hm
      · exact .inl ⟨i, j, int_cr cx, int_cr cy, hm, fin_dat R h int_dat⟩
      · exact .inr (.inl ⟨i, j, int_cr cx, int_cr cy, hm, fin_dat R h int_dat⟩)
    · cases e
  · rename_i xs k
    split at e
    · rename_i hk
      cases e
      obtain ⟨hx, k1, k2, hl⟩ := hk
      obtain ⟨a, vs, rfl, h1, h2⟩ := tup_cr cx
      have hv : vs ≠ [] := fun z => hx (by subst z; exact h2.nil)
      have cy := int_cr cy
      by_cases e1 : k = 1
      · subst e1
        refine .inr (.inr (.inr (.inl ⟨a, vs, rfl, cy, sqT_mono R.sub h1, fin_dat R h ?_⟩)))
        have e2 : (List.replicate (Int.toNat 1) xs).flatten = xs := by simp
        rw [e2]
        exact tup_dat h1 h2
      · exact .inr (.inr (.inl ⟨a, k, vs, rfl, cy, sqT_mono R.sub h1, hv, by omega, k2, by rw [← h2.length]; exact hl, fin_tup R h (h2.rep _)⟩))
    · cases e
  · rename_i xs k
    split at e
    · rename_i hk
      cases e
      obtain ⟨k1, k2, hl⟩ := hk
      obtain ⟨a, vs, rfl, h1, h2⟩ := cx
      exact .inr (.inr (.inr (.inr ⟨a, k, vs, rfl, int_cr cy, h1, k1, k2, by rw [← h2.length, ← lim_eq]; exact hl, fin_lst R h (h2.rep _)⟩)))
    · cases e
  · cases e
abbrev rDivA : R2 := fun x y H Q => rI CDivW (fun i j => .int (i / j)) x y H Q ∨ rI CDivN (fun i j => .int (i.fdiv j)) x y H Q
theorem op_divA : OpR X (binaryOp .FloorDiv) rDivA := OpR.or op_fdivW op_fdivN
theorem ops_div : OpS C Y W opDiv rDivA := by
  intro x y pv v u σ H F sa s Q R cx cy e h
  unfold opDiv at e
  split at e
  · rename_i i j
    split at e
    · rename_i hd
      cases e
      exact .inl ⟨i, j, int_cr cx, int_cr cy, hd, fin_dat R h int_dat⟩
    · split at e
      · rename_i hd
        cases e
        exact .inr ⟨i, j, int_cr cx, int_cr cy, hd, fin_dat R h int_dat⟩
      · cases e
  · cases e
abbrev rModA : R2 := fun x y H Q => rI (fun _ j => 0 < j) (fun i j => .int (i % j)) x y H Q ∨ rI (fun _ j => j ≠ 0) (fun i j => .int (i.fmod j)) x y H Q
theorem op_modA : OpR X (binaryOp .Mod) rModA := OpR.or op_mod op_modN
theorem ops_mod : OpS C Y W opMod rModA := by
  intro x y pv v u σ H F sa s Q R cx cy e h
  unfold opMod at e
  split at e
  · rename_i i j
    split at e
    · rename_i hd
      cases e
      exact .inl ⟨i, j, int_cr cx, int_cr cy, hd, fin_dat R h int_dat⟩
    · split at e
      · rename_i hd
        cases e
        exact .inr ⟨i, j, int_cr cx, int_cr cy, hd, fin_dat R h int_dat⟩
      · cases e
  · cases e
theorem ops_pow : OpS C Y W opPow (rI (fun i j => 0 ≤ j ∧ (Builtin.Int.intBits i : Int) * j ≤ 2 ^ 27) fun i j => .int (i ^ j.toNat)) := by
  intro x y pv v u σ H F sa s Q R cx cy e h
  unfold opPow at e
  split at e
  · rename_i i j
    split at e
    · rename_i hd
      cases e
      exact ⟨i, j, int_cr cx, int_cr cy, hd, fin_dat R h int_dat⟩
    · cases e
  · cases e

/-! ### comparisons -/
mutual
def D.py : D → PyData
  | .non => .none
  | .bl b => .bool b
  | .int i => .int i
  | .str s => .str s
  | .tup ds => .tuple (pys ds)
  | .lst ds => .list (pys ds)
  | .scr _ => .none
  | .fn _ => .none
  | .ty _ => .none
def pys : List D → List PyData
  | [] => []
  | d :: ds => d.py :: pys ds
end
mutual
/-- may be compared: no script, no def within -/
def D.cmp : D → Bool
  | .tup ds => cmps ds
  | .lst ds => cmps ds
  | .scr _ => false
  | .fn _ => false
  | .ty _ => false
  | _ => true
def cmps : List D → Bool
  | [] => true
  | d :: ds => d.cmp && cmps ds
end
mutual
theorem dp_of : ∀ (d : D) (v : V), d.cmp = true → Dat C F d v → Dp C.K F v d.py
  | .non, _, _, h => by
    simp only [Dat] at h
    rw [h, D.py]
    exact .non
  | .bl b, _, _, h => by
    simp only [Dat] at h
    rw [h, D.py]
    exact .bl b
  | .int i, _, _, h => by
    simp only [Dat] at h
    rw [h, D.py]
    exact .int i
  | .str x, _, _, h => by
    simp only [Dat] at h
    rw [h, D.py]
    exact .str x
  | .tup ds, _, c, h => by
    simp only [Dat] at h
    obtain ⟨a, vs, e, h1, h2⟩ := h
    rw [e, D.py]
    exact .tup (.inl (.inl h1)) (dps_of ds vs (by simpa only [D.cmp] using c) h2)
  | .lst ds, _, c, h => by
    simp only [Dat] at h
    obtain ⟨a, vs, e, h1, h2⟩ := h
    rw [e, D.py]
    exact .lst (.inl (.inl h1)) (dps_of ds vs (by simpa only [D.cmp] using c) h2)
  | .scr _, _, c, _ => by simp [D.cmp] at c
  | .fn _, _, c, _ => by simp [D.cmp] at c
  | .ty _, _, c, _ => by simp [D.cmp] at c
theorem dps_of : ∀ (ds : List D) (vs : List V), cmps ds = true → DatL C F ds vs → DpAll C.K F vs (pys ds)
  | [], _, _, h => by
    simp only [DatL] at h
    rw [h, pys]
    exact .nil
  | d :: ds, _, c, h => by
    simp only [DatL] at h
    obtain ⟨v, r, e, h1, h2⟩ := h
    simp only [cmps, Bool.and_eq_true] at c
    rw [e, pys]
    exact .cons (dp_of d v c.1 h1) (dps_of ds r c.2 h2)
end
mutual
theorem dp_mono {K : PySem.W.Frag} {F F' : Hp} (e : Ext F F') : ∀ (d : PyData) (v : V), Dp K F v d → Dp K F' v d
  | .none, _, h => by cases h; exact .non
  | .bool _, _, h => by cases h; exact .bl _
  | .int _, _, h => by cases h; exact .int _
  | .str _, _, h => by cases h; exact .str _
  | .tuple ds, _, h => by
    cases h with
    | tup h1 h2 => exact .tup (sqT_mono0 e h1) (dps_mono e ds _ h2)
  | .list ds, _, h => by
    cases h with
    | lst h1 h2 => exact .lst (sqL_mono e h1) (dps_mono e ds _ h2)
  | .dict _, _, h => by cases h
theorem dps_mono {K : PySem.W.Frag} {F F' : Hp} (e : Ext F F') : ∀ (ds : List PyData) (vs : List V), DpAll K F vs ds → DpAll K F' vs ds
  | [], _, h => by cases h; exact .nil
  | d :: ds, _, h => by
    cases h with
    | cons h1 h2 => exact .cons (dp_mono e d _ h1) (dps_mono e ds _ h2)
end
theorem dp_cr {d : D} {v : V} {σ : L2.St} {sa : Nat → Addr} {s : Sx} (R : Rel C Y σ H F sa s) (c : d.cmp = true) (h : CR C H F d v) : Dp C.K H v d.py := by
  cases d with
  | lst ds =>
    obtain ⟨a, vs, e, h1, h2⟩ := h
    rw [e, D.py]
    exact .lst (.inl (.inl h1)) (dps_mono R.sub _ _ (dps_of ds vs (by simpa only [D.cmp] using c) h2))
  | _ => exact dp_mono R.sub _ _ (dp_of _ v c h)
/-- == of data: scalars at once, else at any depth -/
def deq : D → D → Option Bool
  | .non, .non => some true
  | .non, .int _ => some false
  | .int _, .non => some false
  | .non, .bl _ => some false
  | .bl _, .non => some false
  | .non, .str _ => some false
  | .str _, .non => some false
  | .int i, .int j => some (i == j)
  | .bl i, .bl j => some (i == j)
  | .str i, .str j => some (i == j)
  | .int _, .str _ => some false
  | .str _, .int _ => some false
  | .bl _, .str _ => some false
  | .str _, .bl _ => some false
  | x, y => if x.cmp = true ∧ y.cmp = true ∧ SeqAt.shaped x.py = true ∧ SeqAt.shaped y.py = true then some (PyData.eqv x.py y.py) else none
def opEq (x y : D) : Option Pv := (deq x y).map fun b => .d (.bl b)
def opNe (x y : D) : Option Pv := (deq x y).map fun b => .d (.bl (!b))
abbrev rEqA (K : PySem.W.Frag) : R2 := fun x y H Q => rEq x y H Q ∨ rEqD K x y H Q
abbrev rNeA (K : PySem.W.Frag) : R2 := fun x y H Q => rNe x y H Q ∨ rNeD K x y H Q
theorem op_eqA {n : Nat} (hr : Room n X.A) : OpR X (compareOp .Eq) (rEqA X.K) := OpR.or op_eq (op_eqD hr.units)
theorem op_neA {n : Nat} (hr : Room n X.A) : OpR X (compareOp .NotEq) (rNeA X.K) := OpR.or op_ne (op_neD hr.units)
theorem deq_cases {x y : D} {b : Bool} {v u : V} {σ : L2.St} {sa : Nat → Addr} {s : Sx} (R : Rel C Y σ H F sa s) (cx : CR C H F x v) (cy : CR C H F y u) (e : deq x y = some b) :
    (scal v u = true ∧ decide (v = u) = b) ∨ ∃ d e, Dp C.K H v d ∧ Dp C.K H u e ∧ SeqAt.shaped d = true ∧ SeqAt.shaped e = true ∧ PyData.eqv d e = b := by
  unfold deq at e
  split at e
  all_goals first
    | (cases e; rw [non_cr cx, non_cr cy]; exact .inl ⟨rfl, by simp⟩)
    | (cases e; rw [non_cr cx, int_cr cy]; exact .inl ⟨rfl, by simp⟩)
    | (cases e; rw [int_cr cx, non_cr cy]; exact .inl ⟨rfl, by simp⟩)
    | (cases e; rw [non_cr cx, bl_cr cy]; exact .inl ⟨rfl, by simp⟩)
    | (cases e; rw [bl_cr cx, non_cr cy]; exact .inl ⟨rfl, by simp⟩)
    | (cases e; rw [non_cr cx, str_cr cy]; exact .inl ⟨rfl, by simp⟩)
    | (cases e; rw [str_cr cx, non_cr cy]; exact .inl ⟨rfl, by simp⟩)
    | (cases e; rw [int_cr cx, int_cr cy]; exact .inl ⟨rfl, dec_int⟩)
    | (cases e; rw [bl_cr cx, bl_cr cy]; exact .inl ⟨rfl, dec_bl⟩)
    | (cases e; rw [str_cr cx, str_cr cy]; exact .inl ⟨rfl, dec_str⟩)
    | (cases e; rw [int_cr cx, str_cr cy]; exact .inl ⟨rfl, by simp⟩)
    | (cases e; rw [str_cr cx, int_cr cy]; exact .inl ⟨rfl, by simp⟩)
    | (cases e; rw [bl_cr cx, str_cr cy]; exact .inl ⟨rfl, by simp⟩)
    | (cases e; rw [str_cr cx, bl_cr cy]; exact .inl ⟨rfl, by simp⟩)
    | skip
  split at e
  · rename_i hc
    cases e
    exact .inr ⟨_, _, dp_cr R hc.1 cx, dp_cr R hc.2.1 cy, hc.2.2.1, hc.2.2.2, rfl⟩
  · cases e
theorem bl_dat' {F : Hp} {k : Bool} : Dat C F (.bl k) (.bl k) := by simp only [Dat]
theorem ops_eq (hK : X.K = C.K) : OpS C Y W opEq (rEqA X.K) := by
  intro x y pv v u σ H F sa s Q R cx cy e h
  rw [hK]
  unfold opEq at e
  cases hd : deq x y with
  | none => rw [hd] at e; cases e
  | some b =>
    rw [hd] at e
    cases e
    have q := fin_dat R h bl_dat'
    rcases deq_cases R cx cy hd with ⟨h1, h2⟩ | ⟨d, e, h1, h2, h3, h4, h5⟩
    · exact .inl ⟨h1, by rw [h2]; exact q⟩
    · exact .inr ⟨d, e, h1, h2, h3, h4, by rw [h5]; exact q⟩
theorem ops_ne (hK : X.K = C.K) : OpS C Y W opNe (rNeA X.K) := by
  intro x y pv v u σ H F sa s Q R cx cy e h
  rw [hK]
  unfold opNe at e
  cases hd : deq x y with
  | none => rw [hd] at e; cases e
  | some b =>
    rw [hd] at e
    cases e
    have q := fin_dat R h bl_dat'
    rcases deq_cases R cx cy hd with ⟨h1, h2⟩ | ⟨d, e, h1, h2, h3, h4, h5⟩
    · exact .inl ⟨h1, by rw [h2]; exact q⟩
    · exact .inr ⟨d, e, h1, h2, h3, h4, by rw [h5]; exact q⟩
def opLt : D → D → Option Pv
  | .int i, .int j => some (.d (.bl (decide (i < j))))
  | _, _ => none
def opLe : D → D → Option Pv
  | .int i, .int j => some (.d (.bl (decide (i ≤ j))))
  | _, _ => none
def opGt : D → D → Option Pv
  | .int i, .int j => some (.d (.bl (decide (j < i))))
  | _, _ => none
def opGe : D → D → Option Pv
  | .int i, .int j => some (.d (.bl (decide (j ≤ i))))
  | _, _ => none
theorem ops_lt : OpS C Y W opLt (rI0 fun i j => .bl (decide (i < j))) := by
  intro x y pv v u σ H F sa s Q R cx cy e h
  unfold opLt at e
  split at e
  · cases e
    exact ⟨_, _, int_cr cx, int_cr cy, fin_dat R h bl_dat'⟩
  · cases e
theorem ops_le : OpS C Y W opLe (rI0 fun i j => .bl (decide (i ≤ j))) := by
  intro x y pv v u σ H F sa s Q R cx cy e h
  unfold opLe at e
  split at e
  · cases e
    exact ⟨_, _, int_cr cx, int_cr cy, fin_dat R h bl_dat'⟩
  · cases e
theorem ops_gt : OpS C Y W opGt (rI0 fun i j => .bl (decide (j < i))) := by
  intro x y pv v u σ H F sa s Q R cx cy e h
  unfold opGt at e
  split at e
  · cases e
    exact ⟨_, _, int_cr cx, int_cr cy, fin_dat R h bl_dat'⟩
  · cases e
theorem ops_ge : OpS C Y W opGe (rI0 fun i j => .bl (decide (j ≤ i))) := by
  intro x y pv v u σ H F sa s Q R cx cy e h
  unfold opGe at e
  split at e
  · cases e
    exact ⟨_, _, int_cr cx, int_cr cy, fin_dat R h bl_dat'⟩
  · cases e
def isN : D → Bool
  | .non => true
  | _ => false
def opIsN (x y : D) : Option Pv := match y with
  | .non => some (.d (.bl (isN x)))
  | _ => none
def opNotN (x y : D) : Option Pv := match y with
  | .non => some (.d (.bl (!isN x)))
  | _ => none
theorem isN_cr {x : D} {v : V} (h : CR C H F x v) : decide (v = .non) = isN x := by
  cases x with
  | non => rw [non_cr h]; rfl
  | bl _ => rw [bl_cr h]; simp [isN]
  | int _ => rw [int_cr h]; simp [isN]
  | str _ => rw [str_cr h]; simp [isN]
  | tup _ => obtain ⟨a, vs, rfl, _⟩ := tup_cr h; simp [isN]
  | lst _ => obtain ⟨a, vs, rfl, _⟩ := h; simp [isN]
  | scr _ =>
    simp only [CR, Dat] at h
    obtain ⟨a, rfl, _⟩ := h
    simp [isN]
  | fn _ =>
    simp only [CR, Dat] at h
    rw [h]
    simp [isN]
  | ty _ =>
    simp only [CR, Dat] at h
    rw [h]
    simp [isN]
theorem ops_isN : OpS C Y W opIsN (fun x y H Q => y = .non ∧ Q (.bl (decide (x = .non))) H) := by
  intro x y pv v u σ H F sa s Q R cx cy e h
  unfold opIsN at e
  split at e
  · cases e
    exact ⟨non_cr cy, by rw [isN_cr cx]; exact fin_dat R h bl_dat'⟩
  · cases e
theorem ops_notN : OpS C Y W opNotN (fun x y H Q => y = .non ∧ Q (.bl (!decide (x = .non))) H) := by
  intro x y pv v u σ H F sa s Q R cx cy e h
  unfold opNotN at e
  split at e
  · cases e
    exact ⟨non_cr cy, by rw [isN_cr cx]; exact fin_dat R h bl_dat'⟩
  · cases e
/-- in a list, in a text of one sign -/
def opIn (neg : Bool) : D → D → Option Pv
  | .str c, .str z => match c.cps.toList with
    | [k] => some (.d (.bl (if neg then !decide (k ∈ z.cps.toList) else decide (k ∈ z.cps.toList))))
    | _ => none
  | x, .lst ds => if x.cmp = true ∧ cmps ds = true ∧ SeqAt.shaped x.py = true ∧ SeqAt.shaped (.list (pys ds)) = true then some (.d (.bl (if neg then !(pys ds).any fun z => PyData.eqv z x.py else (pys ds).any fun z => PyData.eqv z x.py))) else none
  | _, _ => none
abbrev rInA (K : PySem.W.Frag) : R2 := fun x y H Q => rInS x y H Q ∨ rInD K x y H Q
abbrev rNotInA (K : PySem.W.Frag) : R2 := fun x y H Q => rNotInS x y H Q ∨ rNotInD K x y H Q
end
end Dn
end
section
set_option Elab.async false
set_option linter.all false
set_option maxRecDepth 100000
set_option maxHeartbeats 4000000
namespace Dn
open PySem PySem.Spec PyProof.Rows L2
section
variable {C : Cf} {Y : Fm} {W : WX} {X : Cx} {F H : Hp}
theorem op_inA {n : Nat} (hr : Room n X.A) : OpR X (compareOp .In) (rInA X.K) := OpR.or op_inS (op_inD (by have := hr.un; omega))
theorem op_notInA {n : Nat} (hr : Room n X.A) : OpR X (compareOp .NotIn) (rNotInA X.K) := OpR.or op_notInS (op_notInD (by have := hr.un; omega))
theorem one_sign {c : Str} {k : Nat} (h : c.cps.toList = [k]) : c = ⟨#[k]⟩ := by
  obtain ⟨a⟩ := c
  obtain ⟨l⟩ := a
  simp only at h
  rw [h]
theorem in_cases {neg : Bool} {x y : D} {pv : Pv} {v u : V} {σ : L2.St} {sa : Nat → Addr} {s : Sx} (R : Rel C Y σ H F sa s) (cx : CR C H F x v) (cy : CR C H F y u) (e : opIn neg x y = some pv) :
    (∃ k z, v = .str ⟨#[k]⟩ ∧ u = .str z ∧ pv = .d (.bl (if neg then !decide (k ∈ z.cps.toList) else decide (k ∈ z.cps.toList)))) ∨
      ∃ d ds, Dp C.K H v d ∧ Dp C.K H u (.list ds) ∧ SeqAt.shaped d = true ∧ SeqAt.shaped (.list ds) = true ∧ pv = .d (.bl (if neg then !ds.any fun z => PyData.eqv z d else ds.any fun z => PyData.eqv z d)) := by
  unfold opIn at e
  split at e
  · rename_i c z
    split at e
    · rename_i k hk
      cases e
      have hc := one_sign hk
      subst hc
      exact .inl ⟨k, z, str_cr cx, str_cr cy, rfl⟩
    · cases e
  · rename_i x ds
    split at e
    · rename_i hc
      cases e
      have q : Dp C.K H u (D.lst ds).py := dp_cr R (by simpa only [D.cmp] using hc.2.1) cy
      rw [D.py] at q
      exact .inr ⟨_, _, dp_cr R hc.1 cx, q, hc.2.2.1, hc.2.2.2, rfl⟩
    · cases e
  · cases e
theorem ops_in (hK : X.K = C.K) : OpS C Y W (opIn false) (rInA X.K) := by
  intro x y pv v u σ H F sa s Q R cx cy e h
  rw [hK]
  rcases in_cases R cx cy e with ⟨k, z, h1, h2, h3⟩ | ⟨d, ds, h1, h2, h3, h4, h5⟩
  · subst h3
    exact .inl ⟨k, z, h1, h2, fin_dat R h bl_dat'⟩
  · subst h5
    exact .inr ⟨d, ds, h1, h2, h3, h4, fin_dat R h bl_dat'⟩
theorem ops_notIn (hK : X.K = C.K) : OpS C Y W (opIn true) (rNotInA X.K) := by
  intro x y pv v u σ H F sa s Q R cx cy e h
  rw [hK]
  rcases in_cases R cx cy e with ⟨k, z, h1, h2, h3⟩ | ⟨d, ds, h1, h2, h3, h4, h5⟩
  · subst h3
    exact .inl ⟨k, z, h1, h2, fin_dat R h bl_dat'⟩
  · subst h5
    exact .inr ⟨d, ds, h1, h2, h3, h4, fin_dat R h bl_dat'⟩
end

/-! ### the rules with names as they are used -/
section
variable {C : Cf} {Y : Fm} {W : WX} {X : Cx} {a b c : Expr} {f g h : Sx → Res Pv} {pos : Pos} {n : Nat}
theorem se_add (K : Cxt X C W n) (ha : SE X C Y W a f) (hb : SE X C Y W b g) : SE X C Y W (.BinOp a .Add b pos) (dOp2 opAdd f g) := se_bin op_addA (ops_add K.K) ha hb
theorem se_sub (ha : SE X C Y W a f) (hb : SE X C Y W b g) : SE X C Y W (.BinOp a .Sub b pos) (dOp2 opSub f g) := se_bin op_sub ops_sub ha hb
theorem se_mul (K : Cxt X C W n) (ha : SE X C Y W a f) (hb : SE X C Y W b g) : SE X C Y W (.BinOp a .Mult b pos) (dOp2 opMul f g) := se_bin op_mulA (ops_mul K.K) ha hb
theorem se_div (ha : SE X C Y W a f) (hb : SE X C Y W b g) : SE X C Y W (.BinOp a .FloorDiv b pos) (dOp2 opDiv f g) := se_bin op_divA ops_div ha hb
theorem se_mod (ha : SE X C Y W a f) (hb : SE X C Y W b g) : SE X C Y W (.BinOp a .Mod b pos) (dOp2 opMod f g) := se_bin op_modA ops_mod ha hb
theorem se_pow (ha : SE X C Y W a f) (hb : SE X C Y W b g) : SE X C Y W (.BinOp a .Pow b pos) (dOp2 opPow f g) := se_bin op_powW ops_pow ha hb
theorem se_eq (K : Cxt X C W n) (ha : SE X C Y W a f) (hb : SE X C Y W b g) : SE X C Y W (.Compare a [.Eq] [b] pos) (dOp2 opEq f g) := se_cmp (op_eqA K.room) (ops_eq K.K) ha hb (nomark _)
theorem se_ne (K : Cxt X C W n) (ha : SE X C Y W a f) (hb : SE X C Y W b g) : SE X C Y W (.Compare a [.NotEq] [b] pos) (dOp2 opNe f g) := se_cmp (op_neA K.room) (ops_ne K.K) ha hb (nomark _)
theorem se_lt (ha : SE X C Y W a f) (hb : SE X C Y W b g) : SE X C Y W (.Compare a [.Lt] [b] pos) (dOp2 opLt f g) := se_cmp op_lt ops_lt ha hb (nomark _)
theorem se_le (ha : SE X C Y W a f) (hb : SE X C Y W b g) : SE X C Y W (.Compare a [.LtE] [b] pos) (dOp2 opLe f g) := se_cmp op_le ops_le ha hb (nomark _)
theorem se_gt (ha : SE X C Y W a f) (hb : SE X C Y W b g) : SE X C Y W (.Compare a [.Gt] [b] pos) (dOp2 opGt f g) := se_cmp op_gt ops_gt ha hb (nomark _)
theorem se_ge (ha : SE X C Y W a f) (hb : SE X C Y W b g) : SE X C Y W (.Compare a [.GtE] [b] pos) (dOp2 opGe f g) := se_cmp op_ge ops_ge ha hb (nomark _)
theorem se_isN (ha : SE X C Y W a f) (hb : SE X C Y W b g) : SE X C Y W (.Compare a [.Is] [b] pos) (dOp2 opIsN f g) := se_cmp op_isN ops_isN ha hb (nomark _)
theorem se_notN (ha : SE X C Y W a f) (hb : SE X C Y W b g) : SE X C Y W (.Compare a [.IsNot] [b] pos) (dOp2 opNotN f g) := se_cmp op_notN ops_notN ha hb (nomark _)
theorem se_in (K : Cxt X C W n) (ha : SE X C Y W a f) (hb : SE X C Y W b g) (hm : behindInMarks .In b = false := by with_unfolding_all rfl) : SE X C Y W (.Compare a [.In] [b] pos) (dOp2 (opIn false) f g) := se_cmp (op_inA K.room) (ops_in K.K) ha hb hm
theorem se_notIn (K : Cxt X C W n) (ha : SE X C Y W a f) (hb : SE X C Y W b g) (hm : behindInMarks .NotIn b = false := by with_unfolding_all rfl) : SE X C Y W (.Compare a [.NotIn] [b] pos) (dOp2 (opIn true) f g) := se_cmp (op_notInA K.room) (ops_notIn K.K) ha hb hm
theorem st_eq (K : Cxt X C W n) (ha : SE X C Y W a f) (hb : SE X C Y W b g) : ST X C Y W (.Compare a [.Eq] [b] pos) (dTest (dOp2 opEq f g)) := st_cmp (op_eqA K.room) (ops_eq K.K) ha hb (nomark _)
theorem st_ne (K : Cxt X C W n) (ha : SE X C Y W a f) (hb : SE X C Y W b g) : ST X C Y W (.Compare a [.NotEq] [b] pos) (dTest (dOp2 opNe f g)) := st_cmp (op_neA K.room) (ops_ne K.K) ha hb (nomark _)
theorem st_lt (ha : SE X C Y W a f) (hb : SE X C Y W b g) : ST X C Y W (.Compare a [.Lt] [b] pos) (dTest (dOp2 opLt f g)) := st_cmp op_lt ops_lt ha hb (nomark _)
theorem st_le (ha : SE X C Y W a f) (hb : SE X C Y W b g) : ST X C Y W (.Compare a [.LtE] [b] pos) (dTest (dOp2 opLe f g)) := st_cmp op_le ops_le ha hb (nomark _)
theorem st_gt (ha : SE X C Y W a f) (hb : SE X C Y W b g) : ST X C Y W (.Compare a [.Gt] [b] pos) (dTest (dOp2 opGt f g)) := st_cmp op_gt ops_gt ha hb (nomark _)
theorem st_ge (ha : SE X C Y W a f) (hb : SE X C Y W b g) : ST X C Y W (.Compare a [.GtE] [b] pos) (dTest (dOp2 opGe f g)) := st_cmp op_ge ops_ge ha hb (nomark _)
theorem st_isN (ha : SE X C Y W a f) (hb : SE X C Y W b g) : ST X C Y W (.Compare a [.Is] [b] pos) (dTest (dOp2 opIsN f g)) := st_cmp op_isN ops_isN ha hb (nomark _)
theorem st_notN (ha : SE X C Y W a f) (hb : SE X C Y W b g) : ST X C Y W (.Compare a [.IsNot] [b] pos) (dTest (dOp2 opNotN f g)) := st_cmp op_notN ops_notN ha hb (nomark _)
theorem st_in (K : Cxt X C W n) (ha : SE X C Y W a f) (hb : SE X C Y W b g) (hm : behindInMarks .In b = false := by with_unfolding_all rfl) : ST X C Y W (.Compare a [.In] [b] pos) (dTest (dOp2 (opIn false) f g)) := st_cmp (op_inA K.room) (ops_in K.K) ha hb hm
theorem st_notIn (K : Cxt X C W n) (ha : SE X C Y W a f) (hb : SE X C Y W b g) (hm : behindInMarks .NotIn b = false := by with_unfolding_all rfl) : ST X C Y W (.Compare a [.NotIn] [b] pos) (dTest (dOp2 (opIn true) f g)) := st_cmp (op_notInA K.room) (ops_notIn K.K) ha hb hm
/-- -x -/
def end1 (op : D → Option Pv) (s : Sx) : Option D → Res Pv
  | some x => match op x with
    | some pv => .ok pv s
    | none => .bad
  | none => .bad
def dOp1 (op : D → Option Pv) (f : Sx → Res Pv) : Sx → Res Pv := fun s => (f s).bind fun pa s1 => end1 op s1 (pa.get s1)
def opNeg : D → Option Pv
  | .int i => some (.d (.int (-i)))
  | _ => none
def OpS1 (C : Cf) (Y : Fm) (W : WX) (op : D → Option Pv) (r : V → Hp → VK → Prop) : Prop := ∀ (x : D) (pv : Pv) (v : V) (σ : L2.St) (H F : Hp) (sa : Nat → Addr) (s : Sx) (Q : VK),
  Rel C Y σ H F sa s → CR C H F x v → op x = some pv → EndG C Y W (PvR C Y) sa s σ H F Q (.ok pv s) → r v H Q
theorem op1_core {op : D → Option Pv} {r : V → Hp → VK → Prop} (hr : OpS1 C Y W op r) : ∀ σ H Q, tE C Y W (dOp1 op f) σ H Q → tE C Y W f σ H (fun v H1 => r v H1 Q) := fun σ H Q ⟨F, sa, s, R, h⟩ =>
  ⟨F, sa, s, R, EndG.bind h fun pa s1 v H1 F1 _ R1 S1 V1 h1 => by
    cases ga : pa.get s1 with
    | none => rw [ga] at h1; exact h1.elim
    | some x =>
      rw [ga] at h1
      simp only [end1] at h1
      split at h1
      · rename_i pv e
        exact hr x pv v σ H1 F1 sa s1 Q R1 (V1.cr R1 ga) e h1
      · exact h1.elim⟩
theorem se_neg (ha : SE X C Y W a f) : SE X C Y W (.UnaryOp .USub a pos) (dOp1 opNeg f) := pe_weak (pe_un un_neg ha) (op1_core fun x pv v σ H F sa s Q R cx e h => by
  unfold opNeg at e
  split at e
  · cases e
    exact ⟨_, int_cr cx, fin_dat R h int_dat⟩
  · cases e)

/-! ### subscripts -/
def opIx : D → D → Option Pv
  | .lst xs, .int i => (atI xs i).map .d
  | .tup xs, .int i => (atI xs i).map .d
  | .scr ns, .int i => (atI ns i).map fun k => .d (.int k)
  | .str z, .int i => if z.length ≤ LIM then (atI z.cps.toList i).map fun c => .d (.str ⟨#[c]⟩) else none
  | _, _ => none
theorem DatL.at {F : Hp} {xs : List D} {vs : List V} {i : Int} {x : D} (h : DatL C F xs vs) (e : atI xs i = some x) : ∃ v, atI vs i = some v ∧ Dat C F x v := by
  unfold atI at e ⊢
  rw [← h.length]
  cases hj : ixN xs.length i with
  | none => rw [hj] at e; cases e
  | some j =>
    rw [hj] at e
    obtain ⟨v, h1, h2⟩ := h.get (i := j) e
    exact ⟨v, h1, h2⟩
theorem at_map {α β : Type} (g : α → β) (xs : List α) (i : Int) : atI (xs.map g) i = (atI xs i).map g := by
  unfold atI
  rw [List.length_map]
  cases ixN xs.length i with
  | none => rfl
  | some j => simp
theorem ops_ix (hK : X.K = C.K) : OpS C Y W opIx (rIx X.K) := by
  intro x y pv v u σ H F sa s Q R cx cy e h
  rw [hK]
  unfold opIx at e
  split at e
  · rename_i xs i
    cases hx : atI xs i with
    | none => rw [hx] at e; cases e
    | some x =>
      rw [hx] at e
      cases e
      obtain ⟨a, vs, rfl, h1, h2⟩ := cx
      obtain ⟨v, h3, h4⟩ := h2.at hx
      exact .inl ⟨a, vs, i, v, rfl, int_cr cy, SqL.of h1, h3, fin_dat R h h4⟩
  · rename_i xs i
    cases hx : atI xs i with
    | none => rw [hx] at e; cases e
    | some x =>
      rw [hx] at e
      cases e
      obtain ⟨a, vs, rfl, h1, h2⟩ := tup_cr cx
      obtain ⟨v, h3, h4⟩ := h2.at hx
      exact .inr (.inl ⟨a, vs, i, v, rfl, int_cr cy, sqT_mono R.sub h1, h3, fin_dat R h h4⟩)
  · rename_i xs i
    cases hx : atI xs i with
    | none => rw [hx] at e; cases e
    | some x =>
      rw [hx] at e
      cases e
      simp only [CR, Dat] at cx
      obtain ⟨a, rfl, h1⟩ := cx
      exact .inl ⟨a, _, i, .int x, rfl, int_cr cy, sqL_mono R.sub h1, by rw [at_map, hx]; rfl, fin_dat R h int_dat⟩
  · rename_i z i
    split at e
    · rename_i hl
      cases hx : atI z.cps.toList i with
      | none => rw [hx] at e; cases e
      | some x =>
        rw [hx] at e
        cases e
        exact .inr (.inr ⟨z, i, x, str_cr cx, int_cr cy, by rw [← lim_eq]; exact hl, hx, fin_dat R h str_dat⟩)
    · cases e
  · cases e
theorem se_ix (K : Cxt X C W n) (ha : SE X C Y W a f) (hb : SE X C Y W b g) (hs : PlainIx b := by exact fun _ _ => rfl) : SE X C Y W (.Subscript a b pos) (dOp2 opIx f g) := pe_weak (pe_ix ix_seq ha hb hs) (op2_core (ops_ix K.K))

/-! ### slices -/
def cutD {α : Type} (xs : List α) (lo hi : Option Int) : List α := (xs.drop (HT.sIx xs.length 0 lo)).take (HT.sIx xs.length xs.length hi - HT.sIx xs.length 0 lo)
def endP (s : Sx) : Option D → Res (Option Int)
  | some (.int i) => .ok (some i) s
  | _ => .bad
def dNone : Sx → Res (Option Int) := fun s => .ok none s
def dPart (f : Sx → Res Pv) : Sx → Res (Option Int) := fun s => (f s).bind fun p s1 => endP s1 (p.get s1)
def opSl (x : D) (lo hi : Option Int) : Option Pv := match x with
  | .lst xs => some (.fr (cutD xs lo hi))
  | .tup xs => some (.d (.tup (cutD xs lo hi)))
  | .str z => if z.length ≤ LIM then some (.d (.str (cutS z lo hi))) else none
  | _ => none
def endS (s : Sx) (lo hi : Option Int) : Option D → Res Pv
  | some x => match opSl x lo hi with
    | some pv => .ok pv s
    | none => .bad
  | none => .bad
def dSl (f : Sx → Res Pv) (l h : Sx → Res (Option Int)) : Sx → Res Pv := fun s => (f s).bind fun p s1 => (l s1).bind fun lo s2 => (h s2).bind fun hi s3 => endS s3 lo hi (p.get s3)
abbrev OR : VRel (Option Int) (Option Int) := fun _ _ _ _ _ _ a b => b = a
instance : MV OR := ⟨fun _ h => h⟩
abbrev SO (X : Cx) (C : Cf) (Y : Fm) (W : WX) (e : Option Expr) (f : Sx → Res (Option Int)) : Prop := PO X e (tG C Y W OR f)
theorem po_weak {X : Cx} {e : Option Expr} {t t' : TO} (h : PO X e t) (w : ∀ σ H Q, t' σ H Q → t σ H Q) : PO X e t' := ⟨fun pins s σ H Q I q => h.run pins s σ H Q I (w σ H Q q)⟩
theorem so_none : SO X C Y W none dNone := po_weak po_none fun σ H Q ⟨F, sa, s, R, h⟩ => h none H F R (Step.refl ..) rfl
theorem so_some (h : SE X C Y W a f) : SO X C Y W (some a) (dPart f) := po_weak (po_some h) fun σ H Q ⟨F, sa, s, R, h⟩ => ⟨F, sa, s, R, EndG.bind h fun p s1 v H1 F1 _ R1 S1 V1 h1 => by
  cases ga : p.get s1 with
  | none => rw [ga] at h1; exact h1.elim
  | some x =>
    rw [ga] at h1
    have cr := V1.cr R1 ga
    cases x with
    | int i => exact ⟨i, int_cr cr, h1 (some i) H1 F1 R1 (Step.refl ..) rfl⟩
    | _ => exact h1.elim⟩
theorem cut_map {F : Hp} {xs : List D} {vs : List V} (h : DatL C F xs vs) (lo hi : Option Int) : DatL C F (cutD xs lo hi) (cutV vs lo hi) := by
  unfold cutD cutV
  rw [h.length]
  exact (h.drop _).take _
abbrev rSlAll (K : PySem.W.Frag) : V → Option Int → Option Int → Hp → VK → Prop := fun x lo hi H Q => rSlL K x lo hi H Q ∨ (rSlA K x lo hi H Q ∨ rSlS x lo hi H Q)
theorem se_sl (K : Cxt X C W n) {lo hi : Option Expr} {p2 : Pos} {l h : Sx → Res (Option Int)} (ha : SE X C Y W a f) (hl : SO X C Y W lo l) (hh : SO X C Y W hi h) : SE X C Y W (.Subscript a (.Slice lo hi none p2) pos) (dSl f l h) :=
  pe_weak (pe_slice (r := rSlAll X.K) (SlR.or sl_list (SlR.or sl_tupA sl_str)) ha hl hh) fun σ H Q ⟨F, sa, s, R, hq⟩ => ⟨F, sa, s, R, EndG.bind hq fun pa s1 v H1 F1 _ R1 S1 V1 h1 =>
    ⟨F1, sa, s1, R1, EndG.bind h1 fun lo' s2 lo2 H2 F2 _ R2 S2 V2 h2 => ⟨F2, sa, s2, R2, EndG.bind h2 fun hi' s3 hi2 H3 F3 _ R3 S3 V3 h3 => by
      have e1 : lo2 = lo' := V2
      have e2 : hi2 = hi' := V3
      subst e1 e2
      cases ga : pa.get s3 with
      | none => rw [ga] at h3; exact h3.elim
      | some x =>
        rw [ga] at h3
        have cr := ((V1.step S2).step S3).cr R3 ga
        simp only [endS] at h3
        split at h3
        · rename_i pv e
          rw [K.K]
          unfold opSl at e
          split at e
          · cases e
            obtain ⟨a, vs, rfl, g1, g2⟩ := cr
            exact .inl ⟨a, vs, rfl, SqL.of g1, fin_lst R3 h3 (cut_map g2 _ _)⟩
          · rename_i xs
            cases e
            obtain ⟨a, vs, rfl, g1, g2⟩ := tup_cr cr
            refine .inr (.inl ⟨a, vs, rfl, sqT_mono R3.sub g1, fun hw => ?_, fun _ => fin_tup R3 h3 (cut_map g2 _ _)⟩)
            have e1 : cutD xs lo2 hi2 = xs := by
              unfold cutD
              rw [g2.length, hw.1, hw.2, List.drop_zero, Nat.sub_zero, ← g2.length, List.take_length]
            refine fin_dat R3 h3 ?_
            rw [e1]
            exact tup_dat g1 g2
          · split at e
            · rename_i hz
              cases e
              exact .inr (.inr ⟨_, str_cr cr, by rw [← lim_eq]; exact hz, fin_dat R3 h3 str_dat⟩)
            · cases e
          · cases e
        · exact h3.elim⟩⟩⟩
/-- xs[::-1] -/
def opRev : D → Option Pv
  | .lst xs => some (.fr xs.reverse)
  | _ => none
theorem se_rev (K : Cxt X C W n) {k : Nat} {p1 p2 p3 : Pos} (ha : SE X C Y W a f) : SE X C Y W (.Subscript a (.Slice none none (some (.UnaryOp .USub (.Constant (.int 1) k p1) p2)) p3) pos) (dOp1 opRev f) :=
  pe_weak (pe_revL ha) fun σ H Q q => op1_core (r := fun x H1 Q => ∃ a xs, x = .ref a ∧ SqL X.K H1 a xs ∧ ∀ p, H1 p = none → Q (.ref p) (upd H1 p (.lst xs.reverse))) (fun x pv v σ H F sa s Q R cx e h => by
    unfold opRev at e
    split at e
    · cases e
      obtain ⟨a, vs, rfl, g1, g2⟩ := cx
      exact ⟨a, vs, rfl, SqL.of g1, fin_lst R h g2.reverse⟩
    · cases e) σ H Q q
end
end Dn
end
section
set_option Elab.async false
set_option linter.all false
set_option maxRecDepth 100000
set_option maxHeartbeats 4000000
namespace Dn
open PySem PySem.Spec PyProof.Rows L2

/-! ### calls of built-ins -/
def gets (s : Sx) : List Pv → Option (List D)
  | [] => some []
  | p :: ps => match p.get s, gets s ps with
    | some x, some xs => some (x :: xs)
    | _, _ => none
def endB (op : List D → Option Pv) (s : Sx) : Option (List D) → Res Pv
  | some xs => match op xs with
    | some pv => .ok pv s
    | none => .bad
  | none => .bad
def dB (op : List D → Option Pv) (g : Sx → Res (List Pv)) : Sx → Res Pv := fun s => (g s).bind fun ps s1 => endB op s1 (gets s1 ps)
def CRL (C : Cf) (H F : Hp) : List D → List V → Prop
  | [], vs => vs = []
  | d :: ds, vs => ∃ v r, vs = v :: r ∧ CR C H F d v ∧ CRL C H F ds r
def OpB (C : Cf) (Y : Fm) (W : WX) (op : List D → Option Pv) (r : List V → Hp → VK → Prop) : Prop := ∀ (xs : List D) (pv : Pv) (vs : List V) (σ : L2.St) (H F : Hp) (sa : Nat → Addr) (s : Sx) (Q : VK),
  Rel C Y σ H F sa s → CRL C H F xs vs → op xs = some pv → EndG C Y W (PvR C Y) sa s σ H F Q (.ok pv s) → r vs H Q
section
variable {C : Cf} {Y : Fm} {W : WX} {X : Cx} {e : Expr} {es : List Expr} {f : Sx → Res Pv} {g : Sx → Res (List Pv)} {pos p : Pos} {n : Nat} {op : List D → Option Pv}
theorem gets_cr {σ : L2.St} {H F : Hp} {sa : Nat → Addr} {s : Sx} (R : Rel C Y σ H F sa s) : ∀ {ps : List Pv} {vs : List V} {xs : List D}, PvRs0 C σ F ps vs → gets s ps = some xs → CRL C H F xs vs
  | [], _, _, h, e => by
    cases e
    exact h
  | p :: ps, _, xs, ⟨v, r, e1, h1, h2⟩, e => by
    simp only [gets] at e
    split at e
    · rename_i x ys ex ey
      cases e
      exact ⟨v, r, e1, h1.cr R ex, gets_cr R h2 ey⟩
    · cases e
theorem b_core {r : List V → Hp → VK → Prop} (hr : OpB C Y W op r) : ∀ σ H Q, tE C Y W (dB op g) σ H Q → tCB r (tA C Y W g) σ H Q := fun σ H Q ⟨F, sa, s, R, h⟩ =>
  ⟨F, sa, s, R, EndG.bind h fun ps s1 vs H1 F1 _ R1 S1 V1 h1 => by
    cases ga : gets s1 ps with
    | none => rw [ga] at h1; exact h1.elim
    | some xs =>
      rw [ga] at h1
      simp only [endB] at h1
      split at h1
      · rename_i pv e
        exact hr xs pv vs σ H1 F1 sa s1 Q R1 (gets_cr R1 V1 ga) e h1
      · exact h1.elim⟩
theorem crl1 {H F : Hp} {x : D} {vs : List V} (h : CRL C H F [x] vs) : ∃ v, vs = [v] ∧ CR C H F x v := by
  obtain ⟨v, r, e, h1, h2⟩ := h
  have h2 : r = [] := h2
  subst h2
  exact ⟨v, e, h1⟩
theorem crl2 {H F : Hp} {x y : D} {vs : List V} (h : CRL C H F [x, y] vs) : ∃ v u, vs = [v, u] ∧ CR C H F x v ∧ CR C H F y u := by
  obtain ⟨v, r, e, h1, u, r2, e2, h3, h4⟩ := h
  have h4 : r2 = [] := h4
  subst h4 e2
  exact ⟨v, u, e, h1, h3⟩

def opLen : List D → Option Pv
  | [.str z] => if z.length ≤ LIM then some (.d (.int z.length)) else none
  | [.lst xs] => some (.d (.int xs.length))
  | [.tup xs] => some (.d (.int xs.length))
  | [.scr xs] => some (.d (.int xs.length))
  | _ => none
theorem opb_len (hK : X.K = C.K) : OpB C Y W opLen (fun xs H Q => ∃ x n, xs = [x] ∧ LenV X.K x H n ∧ Q (.int n) H) := by
  intro xs pv vs σ H F sa s Q R cx e h
  rw [hK]
  unfold opLen at e
  split at e
  · split at e
    · rename_i hz
      cases e
      obtain ⟨v, rfl, c⟩ := crl1 cx
      exact ⟨_, _, rfl, (by rw [str_cr c]; exact ⟨by rw [← lim_eq]; exact hz, rfl⟩), fin_dat R h int_dat⟩
    · cases e
  · cases e
    obtain ⟨v, rfl, c⟩ := crl1 cx
    obtain ⟨a, ws, rfl, g1, g2⟩ := c
    exact ⟨_, _, rfl, .inl ⟨ws, SqL.of g1, g2.length⟩, fin_dat R h int_dat⟩
  · cases e
    obtain ⟨v, rfl, c⟩ := crl1 cx
    obtain ⟨a, ws, rfl, g1, g2⟩ := tup_cr c
    exact ⟨_, _, rfl, .inr ⟨ws, sqT_mono R.sub g1, g2.length⟩, fin_dat R h int_dat⟩
  · rename_i ns
    cases e
    obtain ⟨v, rfl, c⟩ := crl1 cx
    simp only [CR, Dat] at c
    obtain ⟨a, rfl, g1⟩ := c
    exact ⟨_, _, rfl, .inl ⟨_, sqL_mono R.sub g1, (List.length_map _).symm⟩, fin_dat R h int_dat⟩
  · cases e
theorem se_len (K : Cxt X C W n) (ha : SA X C Y W (e :: es) g) (hm : X.mg "len" = none) (hg : Gl X "len" := by rfl) (he : starEach (e :: es) X.env = (false, eval e X.env) :: starEach es X.env := by rfl) (hpl : (backTo pos (starEach es X.env)).any (·.1) = false := by rfl) :
    SE X C Y W (.Call (.Name "len" p) (e :: es) [] pos) (dB opLen g) := pe_weak (pe_callB call_len hg hm PySem.boot_len ha.pa (by decide) (by decide) he hpl) (b_core (opb_len K.K))
def opInt : List D → Option Pv
  | [.int i] => some (.d (.int i))
  | [.bl k] => some (.d (.int (if k then 1 else 0)))
  | [.str a] => if a.length ≤ 640 then (PySem.intText? a).map fun n => .d (.int n) else none
  | _ => none
theorem opb_int : OpB C Y W opInt (fun xs H Q => ((∃ i, xs = [.int i] ∧ Q (.int i) H) ∨ ∃ k, xs = [.bl k] ∧ Q (.int (if k then 1 else 0)) H) ∨ ∃ a n, xs = [.str a] ∧ PySem.intText? a = some n ∧ a.length ≤ 640 ∧ Q (.int n) H) := by
  intro xs pv vs σ H F sa s Q R cx e h
  unfold opInt at e
  split at e
  · cases e
    obtain ⟨v, rfl, c⟩ := crl1 cx
    exact .inl (.inl ⟨_, by rw [int_cr c], fin_dat R h int_dat⟩)
  · cases e
    obtain ⟨v, rfl, c⟩ := crl1 cx
    exact .inl (.inr ⟨_, by rw [bl_cr c], fin_dat R h int_dat⟩)
  · rename_i a
    split at e
    · rename_i hz
      cases hi : PySem.intText? a with
      | none => rw [hi] at e; cases e
      | some n =>
        rw [hi] at e
        cases e
        obtain ⟨v, rfl, c⟩ := crl1 cx
        exact .inr ⟨a, n, by rw [str_cr c], hi, hz, fin_dat R h int_dat⟩
    · cases e
  · cases e
theorem se_toint (ha : SA X C Y W (e :: es) g) (hm : X.mg "int" = none) (hg : Gl X "int" := by rfl) (he : starEach (e :: es) X.env = (false, eval e X.env) :: starEach es X.env := by rfl) (hpl : (backTo pos (starEach es X.env)).any (·.1) = false := by rfl) :
    SE X C Y W (.Call (.Name "int" p) (e :: es) [] pos) (dB opInt g) := pe_weak (pe_callTy (CallR.or call_int1 call_int_str) hg hm PyProof.Rows.boot_int ha.pa (by decide) (by decide) he hpl) (b_core opb_int)
def opStr : List D → Option Pv
  | [.int i] => if i.natAbs.log2 < 1920 then some (.d (.str (toString i))) else none
  | _ => none
theorem opb_str : OpB C Y W opStr (fun xs H Q => ∃ i, xs = [.int i] ∧ i.natAbs.log2 < 1920 ∧ Q (.str (toString i)) H) := by
  intro xs pv vs σ H F sa s Q R cx e h
  unfold opStr at e
  split at e
  · split at e
    · rename_i hz
      cases e
      obtain ⟨v, rfl, c⟩ := crl1 cx
      exact ⟨_, by rw [int_cr c], hz, fin_dat R h str_dat⟩
    · cases e
  · cases e
theorem se_tostr (ha : SA X C Y W (e :: es) g) (hm : X.mg "str" = none) (hg : Gl X "str" := by rfl) (he : starEach (e :: es) X.env = (false, eval e X.env) :: starEach es X.env := by rfl) (hpl : (backTo pos (starEach es X.env)).any (·.1) = false := by rfl) :
    SE X C Y W (.Call (.Name "str" p) (e :: es) [] pos) (dB opStr g) := pe_weak (pe_callTy call_str_int hg hm PyProof.Rows.boot_str ha.pa (by decide) (by decide) he hpl) (b_core opb_str)
def opAbs : List D → Option Pv
  | [.int i] => some (.d (.int (if i < 0 then -i else i)))
  | _ => none
theorem opb_abs : OpB C Y W opAbs (fun xs H Q => ∃ i, xs = [.int i] ∧ Q (.int (if i < 0 then -i else i)) H) := by
  intro xs pv vs σ H F sa s Q R cx e h
  unfold opAbs at e
  split at e
  · cases e
    obtain ⟨v, rfl, c⟩ := crl1 cx
    exact ⟨_, by rw [int_cr c], fin_dat R h int_dat⟩
  · cases e
theorem se_abs (ha : SA X C Y W (e :: es) g) (hm : X.mg "abs" = none) (hg : Gl X "abs" := by rfl) (he : starEach (e :: es) X.env = (false, eval e X.env) :: starEach es X.env := by rfl) (hpl : (backTo pos (starEach es X.env)).any (·.1) = false := by rfl) :
    SE X C Y W (.Call (.Name "abs" p) (e :: es) [] pos) (dB opAbs g) := pe_weak (pe_callB call_abs hg hm PyProof.Rows.boot_abs ha.pa (by decide) (by decide) he hpl) (b_core opb_abs)
def opMax2 : List D → Option Pv
  | [.int i, .int j] => some (.d (.int (if j > i then j else i)))
  | _ => none
def opMin2 : List D → Option Pv
  | [.int i, .int j] => some (.d (.int (if j < i then j else i)))
  | _ => none
theorem opb_max2 : OpB C Y W opMax2 (fun xs H Q => ∃ i j, xs = [.int i, .int j] ∧ Q (.int (if j > i then j else i)) H) := by
  intro xs pv vs σ H F sa s Q R cx e h
  unfold opMax2 at e
  split at e
  · cases e
    obtain ⟨v, u, rfl, c, c2⟩ := crl2 cx
    exact ⟨_, _, by rw [int_cr c, int_cr c2], fin_dat R h int_dat⟩
  · cases e
theorem opb_min2 : OpB C Y W opMin2 (fun xs H Q => ∃ i j, xs = [.int i, .int j] ∧ Q (.int (if j < i then j else i)) H) := by
  intro xs pv vs σ H F sa s Q R cx e h
  unfold opMin2 at e
  split at e
  · cases e
    obtain ⟨v, u, rfl, c, c2⟩ := crl2 cx
    exact ⟨_, _, by rw [int_cr c, int_cr c2], fin_dat R h int_dat⟩
  · cases e
theorem se_max2 (K : Cxt X C W n) (ha : SA X C Y W (e :: es) g) (hm : X.mg "max" = none) (hg : Gl X "max" := by rfl) (he : starEach (e :: es) X.env = (false, eval e X.env) :: starEach es X.env := by rfl) (hpl : (backTo pos (starEach es X.env)).any (·.1) = false := by rfl) :
    SE X C Y W (.Call (.Name "max" p) (e :: es) [] pos) (dB opMax2 g) := pe_weak (pe_callB (call_max2 K.calm) hg hm PyProof.Rows.boot_max ha.pa (by decide) (by decide) he hpl) (b_core opb_max2)
theorem se_min2 (K : Cxt X C W n) (ha : SA X C Y W (e :: es) g) (hm : X.mg "min" = none) (hg : Gl X "min" := by rfl) (he : starEach (e :: es) X.env = (false, eval e X.env) :: starEach es X.env := by rfl) (hpl : (backTo pos (starEach es X.env)).any (·.1) = false := by rfl) :
    SE X C Y W (.Call (.Name "min" p) (e :: es) [] pos) (dB opMin2 g) := pe_weak (pe_callB (call_min2 K.calm) hg hm PyProof.Rows.boot_min ha.pa (by decide) (by decide) he hpl) (b_core opb_min2)
/-- a list of truths -/
def bls : List D → Option (List Bool)
  | [] => some []
  | .bl b :: ds => (bls ds).map (b :: ·)
  | _ :: _ => none
theorem bls_dat {F : Hp} : ∀ {ds : List D} {vs : List V} {bs : List Bool}, DatL C F ds vs → bls ds = some bs → vs = bs.map V.bl
  | [], _, _, h, e => by
    cases e
    simp only [DatL] at h
    exact h
  | d :: ds, _, bs, h, e => by
    simp only [DatL] at h
    obtain ⟨v, r, e1, h1, h2⟩ := h
    cases d with
    | bl b =>
      simp only [bls] at e
      cases h3 : bls ds with
      | none => rw [h3] at e; cases e
      | some cs =>
        rw [h3] at e
        cases e
        simp only [Dat] at h1
        rw [e1, h1, bls_dat h2 h3]
        rfl
    | _ => cases e
def opAll : List D → Option Pv
  | [.lst xs] => (bls xs).map fun bs => .d (.bl (bs.all id))
  | _ => none
def opAny : List D → Option Pv
  | [.lst xs] => (bls xs).map fun bs => .d (.bl (bs.any id))
  | _ => none
theorem opb_all (hK : X.K = C.K) : OpB C Y W opAll (rAll X.K) := by
  intro xs pv vs σ H F sa s Q R cx e h
  rw [hK]
  unfold opAll at e
  split at e
  · rename_i xs
    cases hb : bls xs with
    | none => rw [hb] at e; cases e
    | some bs =>
      rw [hb] at e
      cases e
      obtain ⟨v, rfl, c⟩ := crl1 cx
      obtain ⟨a, ws, rfl, g1, g2⟩ := c
      exact ⟨a, bs, rfl, by rw [← bls_dat g2 hb]; exact SqL.of g1, fin_dat R h bl_dat'⟩
  · cases e
theorem opb_any (hK : X.K = C.K) : OpB C Y W opAny (rAny X.K) := by
  intro xs pv vs σ H F sa s Q R cx e h
  rw [hK]
  unfold opAny at e
  split at e
  · rename_i xs
    cases hb : bls xs with
    | none => rw [hb] at e; cases e
    | some bs =>
      rw [hb] at e
      cases e
      obtain ⟨v, rfl, c⟩ := crl1 cx
      obtain ⟨a, ws, rfl, g1, g2⟩ := c
      exact ⟨a, bs, rfl, by rw [← bls_dat g2 hb]; exact SqL.of g1, fin_dat R h bl_dat'⟩
  · cases e
theorem se_all (K : Cxt X C W n) (ha : SA X C Y W (e :: es) g) (hm : X.mg "all" = none) (hg : Gl X "all" := by rfl) (he : starEach (e :: es) X.env = (false, eval e X.env) :: starEach es X.env := by rfl) (hpl : (backTo pos (starEach es X.env)).any (·.1) = false := by rfl) :
    SE X C Y W (.Call (.Name "all" p) (e :: es) [] pos) (dB opAll g) := pe_weak (pe_callB (cr_all K.calm) hg hm PyProof.Rows.boot_all ha.pa (by decide) (by decide) he hpl) (b_core (opb_all K.K))
theorem se_any (K : Cxt X C W n) (ha : SA X C Y W (e :: es) g) (hm : X.mg "any" = none) (hg : Gl X "any" := by rfl) (he : starEach (e :: es) X.env = (false, eval e X.env) :: starEach es X.env := by rfl) (hpl : (backTo pos (starEach es X.env)).any (·.1) = false := by rfl) :
    SE X C Y W (.Call (.Name "any" p) (e :: es) [] pos) (dB opAny g) := pe_weak (pe_callB (cr_any K.calm) hg hm PyProof.Rows.boot_any ha.pa (by decide) (by decide) he hpl) (b_core (opb_any K.K))
/-- tuple(x), list(x) of a list, a tuple -/
def opTupl : List D → Option Pv
  | [.lst xs] => some (.d (.tup xs))
  | [.tup xs] => some (.d (.tup xs))
  | _ => none
def opList : List D → Option Pv
  | [.lst xs] => some (.fr xs)
  | [.tup xs] => some (.fr xs)
  | [.scr ns] => some (.fr (ns.map .int))
  | _ => none
theorem opb_tupl (hK : X.K = C.K) : OpB C Y W opTupl (fun xs H Q => ∃ p ys, xs = [.ref p] ∧ ((SqL X.K H p ys ∧ ∀ l, H l = none → Q (.ref l) (upd H l (.tup ys))) ∨ (SqT X.K H p ys ∧ Q (.ref p) H))) := by
  intro xs pv vs σ H F sa s Q R cx e h
  rw [hK]
  unfold opTupl at e
  split at e
  · cases e
    obtain ⟨v, rfl, c⟩ := crl1 cx
    obtain ⟨a, ws, rfl, g1, g2⟩ := c
    exact ⟨a, ws, rfl, .inl ⟨SqL.of g1, fin_tup R h g2⟩⟩
  · cases e
    obtain ⟨v, rfl, c⟩ := crl1 cx
    obtain ⟨a, ws, rfl, g1, g2⟩ := tup_cr c
    exact ⟨a, ws, rfl, .inr ⟨sqT_mono R.sub g1, fin_dat R h (tup_dat g1 g2)⟩⟩
  · cases e
theorem ints_datL {F : Hp} : ∀ ns : List Int, DatL C F (ns.map .int) (ns.map V.int)
  | [] => by simp [DatL]
  | n :: ns => by
    simp only [List.map_cons, DatL]
    exact ⟨_, _, rfl, int_dat, ints_datL ns⟩
theorem opb_list (hK : X.K = C.K) : OpB C Y W opList (fun xs H Q => ∃ p ys, xs = [.ref p] ∧ (SqL X.K H p ys ∨ SqT X.K H p ys) ∧ ∀ l, H l = none → Q (.ref l) (upd H l (.lst ys))) := by
  intro xs pv vs σ H F sa s Q R cx e h
  rw [hK]
  unfold opList at e
  split at e
  · cases e
    obtain ⟨v, rfl, c⟩ := crl1 cx
    obtain ⟨a, ws, rfl, g1, g2⟩ := c
    exact ⟨a, ws, rfl, .inl (SqL.of g1), fin_lst R h g2⟩
  · cases e
    obtain ⟨v, rfl, c⟩ := crl1 cx
    obtain ⟨a, ws, rfl, g1, g2⟩ := tup_cr c
    exact ⟨a, ws, rfl, .inr (sqT_mono R.sub g1), fin_lst R h g2⟩
  · cases e
    obtain ⟨v, rfl, c⟩ := crl1 cx
    simp only [CR, Dat] at c
    obtain ⟨a, rfl, g1⟩ := c
    exact ⟨a, _, rfl, .inl (sqL_mono R.sub g1), fin_lst R h (ints_datL _)⟩
  · cases e
theorem se_totup (K : Cxt X C W n) (ha : SA X C Y W (e :: es) g) (hm : X.mg "tuple" = none) (hg : Gl X "tuple" := by rfl) (he : starEach (e :: es) X.env = (false, eval e X.env) :: starEach es X.env := by rfl) (hpl : (backTo pos (starEach es X.env)).any (·.1) = false := by rfl) :
    SE X C Y W (.Call (.Name "tuple" p) (e :: es) [] pos) (dB opTupl g) := pe_weak (pe_callTy call_tuple_of hg hm PyProof.Rows.boot_tuple ha.pa (by decide) (by decide) he hpl) (b_core (opb_tupl K.K))
theorem se_tolist (K : Cxt X C W n) (ha : SA X C Y W (e :: es) g) (hm : X.mg "list" = none) (hg : Gl X "list" := by rfl) (he : starEach (e :: es) X.env = (false, eval e X.env) :: starEach es X.env := by rfl) (hpl : (backTo pos (starEach es X.env)).any (·.1) = false := by rfl) :
    SE X C Y W (.Call (.Name "list" p) (e :: es) [] pos) (dB opList g) := pe_weak (pe_callTy call_list_of hg hm PyProof.Rows.boot_list ha.pa (by decide) (by decide) he hpl) (b_core (opb_list K.K))
/-- gcd -/
def opGcd : List D → Option Pv
  | [.int a, .int b] => some (.d (.int ((Nat.gcd a.natAbs b.natAbs : Nat) : Int)))
  | _ => none
theorem opb_gcd : OpB C Y W opGcd rGcd := by
  intro xs pv vs σ H F sa s Q R cx e h
  unfold opGcd at e
  split at e
  · cases e
    obtain ⟨v, u, rfl, c, c2⟩ := crl2 cx
    exact ⟨_, _, by rw [int_cr c, int_cr c2], fin_dat R h int_dat⟩
  · cases e
theorem se_gcd {x : Str} (ha : SA X C Y W (e :: es) g) (hm : X.mg x = some (.builtin "math.gcd")) (hg : Gl X x := by rfl) (hd : (x == ("__debug__" : Str)) = false := by decide) (he : starEach (e :: es) X.env = (false, eval e X.env) :: starEach es X.env := by rfl) (hpl : (backTo pos (starEach es X.env)).any (·.1) = false := by rfl) :
    SE X C Y W (.Call (.Name x p) (e :: es) [] pos) (dB opGcd g) := pe_weak (pe_callBfun cr_gcd hg hm ha.pa hd he hpl) (b_core opb_gcd)
/-- isinstance -/
def tyOf : D → Option String
  | .non => some "NoneType"
  | .bl _ => some "bool"
  | .int _ => some "int"
  | .str _ => some "str"
  | .tup _ => some "tuple"
  | .lst _ => some "list"
  | .scr _ => some "list"
  | _ => none
def isiT (a b : String) : Option Bool := if b = "int" then some (a == "int" || a == "bool") else if b = "bool" ∨ b = "str" ∨ b = "tuple" ∨ b = "list" then some (a == b) else none
theorem isiT_ok {x : D} {a b : String} {r : Bool} (ha : tyOf x = some a) (h : isiT a b = some r) : kitB a b = some r := by
  have hb : b = "int" ∨ b = "bool" ∨ b = "str" ∨ b = "tuple" ∨ b = "list" := by
    unfold isiT at h
    by_cases h1 : b = "int"
    · exact .inl h1
    · rw [if_neg h1] at h
      by_cases h2 : b = "bool" ∨ b = "str" ∨ b = "tuple" ∨ b = "list"
      · exact .inr h2
      · rw [if_neg h2] at h
        cases h
  have hh : a = "NoneType" ∨ a = "bool" ∨ a = "int" ∨ a = "str" ∨ a = "tuple" ∨ a = "list" := by
    cases x <;> simp only [tyOf, Option.some.injEq, reduceCtorEq] at ha <;> simp [← ha]
  rw [← h]
  rcases hb with rfl | rfl | rfl | rfl | rfl <;> rcases hh with rfl | rfl | rfl | rfl | rfl | rfl <;> decide +kernel
theorem tyx_cr {σ : L2.St} {H F : Hp} {sa : Nat → Addr} {s : Sx} (R : Rel C Y σ H F sa s) {x : D} {v : V} {a : String} (c : CR C H F x v) (h : tyOf x = some a) : TyX C.K H v (.type a) := by
  cases x with
  | non =>
    cases h
    rw [non_cr c]
    exact .base .non
  | bl k =>
    cases h
    rw [bl_cr c]
    exact .base (.bl _)
  | int k =>
    cases h
    rw [int_cr c]
    exact .base (.int _)
  | str k =>
    cases h
    rw [str_cr c]
    exact .base (.str _)
  | tup ds =>
    cases h
    obtain ⟨p, ws, rfl, g1, g2⟩ := tup_cr c
    rcases sqT_mono R.sub g1 with (g | ⟨o, g⟩) | ⟨o, its, n, g, gc, _⟩
    · exact .base (.tup g)
    · exact .fTuple g
    · exact .kTuple g gc
  | lst ds =>
    cases h
    obtain ⟨p, ws, rfl, g1, g2⟩ := c
    exact .base (.lst g1)
  | scr ns =>
    cases h
    simp only [CR, Dat] at c
    obtain ⟨p, rfl, g1⟩ := c
    rcases sqL_mono R.sub g1 with (g | ⟨o, g⟩) | ⟨o, its, n, g, gc, _⟩
    · exact .base (.lst g)
    · exact .base (.frz g)
    · exact .kList g gc
  | fn k => cases h
  | ty k => cases h
def opIsi : List D → Option Pv
  | [x, .ty b] => match tyOf x with
    | some a => (isiT a b).map fun r => .d (.bl r)
    | none => none
  | _ => none
theorem opb_isi (hK : X.K = C.K) : OpB C Y W opIsi (rIsi X.K) := by
  intro xs pv vs σ H F sa s Q R cx e h
  rw [hK]
  unfold opIsi at e
  split at e
  · rename_i x b
    split at e
    · rename_i a ha
      cases hi : isiT a b with
      | none => rw [hi] at e; cases e
      | some r =>
        rw [hi] at e
        cases e
        obtain ⟨v, u, rfl, c, c2⟩ := crl2 cx
        have e2 : u = .ty b := by simpa only [CR, Dat] using c2
        subst e2
        exact ⟨v, _, .type a, .type b, r, rfl, .ty b, tyx_cr R c ha, kit_ty (isiT_ok ha hi), fin_dat R h bl_dat'⟩
    · cases e
  · cases e
theorem se_isi (K : Cxt X C W n) (ha : SA X C Y W (e :: es) g) (hm : X.mg "isinstance" = none) (hg : Gl X "isinstance" := by rfl) (he : starEach (e :: es) X.env = (false, eval e X.env) :: starEach es X.env := by rfl) (hpl : (backTo pos (starEach es X.env)).any (·.1) = false := by rfl) :
    SE X C Y W (.Call (.Name "isinstance" p) (e :: es) [] pos) (dB opIsi g) := pe_weak (pe_callB call_isi hg hm PyProof.Rows.boot_isinstance ha.pa (by decide) (by decide) he hpl) (b_core (opb_isi K.K))
/-- a built-in class as a value -/
theorem se_ty {x : Str} {T : String} (hm : X.mg x = none) (hv : bootBuiltins x = some (.type T)) (hg : Gl X x := by rfl) (hn : x ≠ "__name__" := by decide) (hd : (x == ("__debug__" : Str)) = false := by decide) : SE X C Y W (.Name x pos) (dC (.ty T)) :=
  se_c (pe_bltn (v := .ty T) hg hm hv rfl hn hd) fun _ => by simp only [Dat]
end
end Dn
end
section
set_option Elab.async false
set_option linter.all false
set_option maxRecDepth 100000
set_option maxHeartbeats 4000000
namespace Dn
open PySem PySem.Spec PyProof.Rows L2

/-! ### lists that are changed -/
def putAt (s : Sx) (i : Nat) (xs : List D) : Option Sx :=
  match s.sl[i]? with
  | some (.own _) => some ⟨s.sl.set i (.own xs), s.bo⟩
  | some (.bor k) => some ⟨s.sl, s.bo.set k xs⟩
  | _ => none
def putAll : Sx → List Nat → List (List D) → Option Sx
  | s, [], [] => some s
  | s, i :: is, xs :: xss => match putAt s i xs with
    | some s1 => putAll s1 is xss
    | none => none
  | _, _, _ => none
/-- as Rel, the contents at B not known -/
structure RelB (C : Cf) (Y : Fm) (σ : L2.St) (H F : Hp) (sa : Nat → Addr) (s : Sx) (B : List Addr) : Prop where
  len : σ.length = s.sl.length
  sub : Ext F H
  dat : ∀ (i : Nat) (d : D), s.sl[i]? = some (.dat d) → ∃ v, σ[i]? = some (some v) ∧ Dat C F d v
  own : ∀ (i : Nat) (xs : List D), s.sl[i]? = some (.own xs) → σ[i]? = some (some (.ref (sa i))) ∧ F (sa i) = none ∧ (sa i ∉ B → ∃ vs, H (sa i) = some (.lst vs) ∧ DatL C F xs vs) ∧ Y.H0 (sa i) = none
  inj : ∀ (i j : Nat) (xs ys : List D), s.sl[i]? = some (.own xs) → s.sl[j]? = some (.own ys) → sa i = sa j → i = j
  bor : ∀ (i k : Nat), s.sl[i]? = some (.bor k) → ∃ p, Y.bp[k]? = some p ∧ σ[i]? = some (some (.ref p))
  bol : Y.bp.length = s.bo.length
  bos : ∀ (k : Nat) (p : Addr) (xs : List D), Y.bp[k]? = some p → s.bo[k]? = some xs → F p = none ∧ (p ∉ B → ∃ vs, H p = some (.lst vs) ∧ DatL C F xs vs)
  bnd : Y.bp.Nodup
  bH : ∀ p ∈ Y.bp, Y.H0 p ≠ none
  fr0 : ∀ b, Y.H0 b ≠ none → b ∉ Y.bp → H b = Y.H0 b ∧ F b = Y.F0 b
  ext0 : Ext Y.F0 F
/-- the slot i holds a list that may be changed, at p -/
def PlAt (Y : Fm) (sa : Nat → Addr) (s : Sx) (i : Nat) (p : Addr) : Prop := (∃ xs, s.sl[i]? = some (.own xs) ∧ p = sa i) ∨ ∃ k, s.sl[i]? = some (.bor k) ∧ Y.bp[k]? = some p

/-- how heaps change where the lists at bp are changed to outs -/
structure Post (C : Cf) (H F : Hp) (bp : List Addr) (outs : List (List D)) (H' F' : Hp) : Prop where
  ext : Ext F F'
  sub : Ext F' H'
  fr : ∀ b, H b ≠ none → b ∉ bp → H' b = H b ∧ F' b = F b
  dom : ∀ b, H b ≠ none → H' b ≠ none
  len : outs.length = bp.length
  out : ∀ (k : Nat) (p : Addr) (xs : List D), bp[k]? = some p → outs[k]? = some xs → F' p = none ∧ ∃ vs, H' p = some (.lst vs) ∧ DatL C F' xs vs

section
variable {C : Cf} {Y : Fm} {σ : L2.St} {H F H' F' : Hp} {sa : Nat → Addr} {s s1 s2 : Sx} {bp : List Addr} {is : List Nat} {outs : List (List D)}
theorem RelB.rel (R : RelB C Y σ H F sa s []) : Rel C Y σ H F sa s :=
  ⟨R.len, R.sub, R.dat, fun i xs h => let ⟨a, b, c, d⟩ := R.own i xs h; ⟨a, b, c (by simp), d⟩, R.inj, R.bor, R.bol, fun k p xs h1 h2 => let ⟨a, b⟩ := R.bos k p xs h1 h2; ⟨a, b (by simp)⟩, R.bnd, R.bH, R.fr0, R.ext0⟩
theorem PlAt.mt {i : Nat} {p : Addr} (h : PlAt Y sa s i p) : Mt Y sa s p := by
  rcases h with ⟨xs, h1, h2⟩ | ⟨k, h1, h2⟩
  · exact .inl ⟨i, xs, h1, h2.symm⟩
  · exact .inr (List.mem_of_getElem? h2)
theorem Rel.mtH (R : Rel C Y σ H F sa s) {b : Addr} (h : Mt Y sa s b) : H b ≠ none := by
  rcases h with ⟨i, xs, h1, h2⟩ | h
  · obtain ⟨_, _, ⟨vs, h3, _⟩, _⟩ := R.own i xs h1
    rw [← h2, h3]
    simp
  · obtain ⟨k, hk⟩ := List.getElem?_of_mem h
    have hk1 : k < Y.bp.length := (List.getElem?_eq_some_iff.mp hk).1
    obtain ⟨_, vs, h3, _⟩ := R.bos k b _ hk (List.getElem?_eq_getElem (by rw [← R.bol]; exact hk1))
    rw [h3]
    simp
theorem Rel.mtF (R : Rel C Y σ H F sa s) {b : Addr} (h : Mt Y sa s b) : F b = none := by
  rcases h with ⟨i, xs, h1, h2⟩ | h
  · rw [← h2]
    exact (R.own i xs h1).2.1
  · obtain ⟨k, hk⟩ := List.getElem?_of_mem h
    have hk1 : k < Y.bp.length := (List.getElem?_eq_some_iff.mp hk).1
    exact (R.bos k b _ hk (List.getElem?_eq_getElem (by rw [← R.bol]; exact hk1))).1
theorem Rel.mt0 (R : Rel C Y σ H F sa s) {b : Addr} (h : Mt Y sa s b) (n : b ∉ Y.bp) : Y.H0 b = none := by
  rcases h with ⟨i, xs, h1, h2⟩ | h
  · rw [← h2]
    exact (R.own i xs h1).2.2.2
  · exact absurd h n
theorem Post.fnone (P : Post C H F bp outs H' F') {p : Addr} (h : p ∈ bp) : F' p = none := by
  obtain ⟨k, hk⟩ := List.getElem?_of_mem h
  have hk1 : k < bp.length := (List.getElem?_eq_some_iff.mp hk).1
  exact (P.out k p _ hk (List.getElem?_eq_getElem (by rw [P.len]; exact hk1))).1
theorem Rel.post (R : Rel C Y σ H F sa s) (hm : ∀ p ∈ bp, Mt Y sa s p) (P : Post C H F bp outs H' F') : RelB C Y σ H' F' sa s bp := by
  refine ⟨R.len, P.sub, fun i d h => ?_, fun i xs h => ?_, R.inj, R.bor, R.bol, fun k p xs h1 h2 => ?_, R.bnd, R.bH, fun b h1 h2 => ?_, R.ext0.trans P.ext⟩
  · obtain ⟨v, h1, h2⟩ := R.dat i d h
    exact ⟨v, h1, h2.mono P.ext⟩
  · obtain ⟨h1, h2, ⟨vs, h3, h4⟩, h5⟩ := R.own i xs h
    have hH : H (sa i) ≠ none := by rw [h3]; simp
    by_cases hb : sa i ∈ bp
    · exact ⟨h1, P.fnone hb, fun z => absurd hb z, h5⟩
    · obtain ⟨e1, e2⟩ := P.fr _ hH hb
      exact ⟨h1, e2.trans h2, fun _ => ⟨vs, e1.trans h3, h4.mono P.ext⟩, h5⟩
  · obtain ⟨h3, vs, h4, h5⟩ := R.bos k p xs h1 h2
    have hH : H p ≠ none := by rw [h4]; simp
    by_cases hb : p ∈ bp
    · exact ⟨P.fnone hb, fun z => absurd hb z⟩
    · obtain ⟨e1, e2⟩ := P.fr _ hH hb
      exact ⟨e2.trans h3, fun _ => ⟨vs, e1.trans h4, h5.mono P.ext⟩⟩
  · obtain ⟨e1, e2⟩ := R.fr0 b h1 h2
    have hb : b ∉ bp := fun z => h1 (R.mt0 (hm b z) h2)
    obtain ⟨e3, e4⟩ := P.fr b (by rw [e1]; exact h1) hb
    exact ⟨e3.trans e1, e4.trans e2⟩
theorem RelB.put {B : List Addr} {p : Addr} {i : Nat} {xs : List D} {vs : List V} (R : RelB C Y σ H F sa s (p :: B)) (hp : PlAt Y sa s i p) (e : putAt s i xs = some s1) (h1 : H p = some (.lst vs)) (h2 : DatL C F xs vs) :
    RelB C Y σ H F sa s1 B ∧ (∀ j q, PlAt Y sa s j q → PlAt Y sa s1 j q) ∧ (∀ (j : Nat) (ys : List D), s1.sl[j]? = some (.own ys) → ∃ zs, s.sl[j]? = some (.own zs)) := by
  rcases hp with ⟨ys, hs, rfl⟩ | ⟨k, hs, hk⟩
  · simp only [putAt, hs, Option.some.injEq] at e
    subst e
    have hi : i < s.sl.length := (List.getElem?_eq_some_iff.mp hs).1
    have at_ : ∀ (j : Nat) (y : Slot), (s.sl.set i (.own xs))[j]? = some y → (j = i ∧ y = .own xs) ∨ (j ≠ i ∧ s.sl[j]? = some y) := fun j y q => by
      by_cases hj : j = i
      · subst hj
        rw [List.getElem?_set_self hi] at q
        exact .inl ⟨rfl, (Option.some.inj q).symm⟩
      · rw [List.getElem?_set_ne (Ne.symm hj)] at q
        exact .inr ⟨hj, q⟩
    have up : ∀ (j : Nat) (ys : List D), (s.sl.set i (.own xs))[j]? = some (.own ys) → ∃ zs, s.sl[j]? = some (.own zs) := fun j zs q => by
      rcases at_ j _ q with ⟨rfl, _⟩ | ⟨_, q⟩
      · exact ⟨ys, hs⟩
      · exact ⟨zs, q⟩
    refine ⟨⟨by simpa using R.len, R.sub, fun j d q => ?_, fun j zs q => ?_, fun j k zs ws q1 q2 => ?_, fun j k q => ?_, R.bol, fun k p zs q1 q2 => ?_, R.bnd, R.bH, R.fr0, R.ext0⟩, fun j q z => ?_, up⟩
    · rcases at_ j _ q with ⟨_, e⟩ | ⟨_, q⟩
      · cases e
      · exact R.dat j d q
    · rcases at_ j _ q with ⟨rfl, e⟩ | ⟨hj, q⟩
      · cases e
        obtain ⟨a, b, c, d⟩ := R.own j ys hs
        exact ⟨a, b, fun _ => ⟨vs, h1, h2⟩, d⟩
      · obtain ⟨a, b, c, d⟩ := R.own j zs q
        refine ⟨a, b, fun hn => c ?_, d⟩
        simp only [List.mem_cons, not_or]
        exact ⟨fun z => hj (R.inj j i zs ys q hs z), hn⟩
    · obtain ⟨z1, q1⟩ := up j zs q1
      obtain ⟨z2, q2⟩ := up k ws q2
      exact R.inj j k _ _ q1 q2
    · rcases at_ j _ q with ⟨_, e⟩ | ⟨_, q⟩
      · cases e
      · exact R.bor j k q
    · obtain ⟨a, b⟩ := R.bos k p zs q1 q2
      refine ⟨a, fun hn => b ?_⟩
      simp only [List.mem_cons, not_or]
      exact ⟨fun z => R.bH p (List.mem_of_getElem? q1) (by rw [z]; exact (R.own i ys hs).2.2.2), hn⟩
    · rcases z with ⟨zs, z1, z2⟩ | ⟨k, z1, z2⟩
      · by_cases hj : j = i
        · subst hj
          exact .inl ⟨xs, List.getElem?_set_self hi, z2⟩
        · exact .inl ⟨zs, by show (s.sl.set i (.own xs))[j]? = _; rw [List.getElem?_set_ne (Ne.symm hj)]; exact z1, z2⟩
      · have hj : j ≠ i := fun e => by
          rw [e, hs] at z1
          cases z1
        exact .inr ⟨k, by show (s.sl.set i (.own xs))[j]? = _; rw [List.getElem?_set_ne (Ne.symm hj)]; exact z1, z2⟩
  · simp only [putAt, hs, Option.some.injEq] at e
    subst e
    have hkl : k < s.bo.length := by
      rw [← R.bol]
      exact (List.getElem?_eq_some_iff.mp hk).1
    refine ⟨⟨R.len, R.sub, R.dat, fun j zs q => ?_, R.inj, R.bor, by simpa using R.bol, fun j q zs q1 q2 => ?_, R.bnd, R.bH, R.fr0, R.ext0⟩, fun j q z => z, fun j ys q => ⟨ys, q⟩⟩
    · obtain ⟨a, b, c, d⟩ := R.own j zs q
      refine ⟨a, b, fun hn => c ?_, d⟩
      simp only [List.mem_cons, not_or]
      exact ⟨fun z => R.bH p (List.mem_of_getElem? hk) (by rw [← z]; exact d), hn⟩
    · have q2 : (s.bo.set k xs)[j]? = some zs := q2
      by_cases hj : j = k
      · subst hj
        rw [List.getElem?_set_self hkl] at q2
        cases q2
        have e : q = p := Option.some.inj (q1.symm.trans hk)
        subst e
        exact ⟨(R.bos j q _ q1 (List.getElem?_eq_getElem hkl)).1, fun _ => ⟨vs, h1, h2⟩⟩
      · rw [List.getElem?_set_ne (Ne.symm hj)] at q2
        obtain ⟨a, b⟩ := R.bos j q zs q1 q2
        refine ⟨a, fun hn => b ?_⟩
        simp only [List.mem_cons, not_or]
        refine ⟨fun z => hj ?_, hn⟩
        subst z
        obtain ⟨l1, e1⟩ := List.getElem?_eq_some_iff.mp q1
        obtain ⟨l2, e2⟩ := List.getElem?_eq_some_iff.mp hk
        exact (List.getElem_inj R.bnd).mp (e1.trans e2.symm)
theorem RelB.putAll : ∀ {is : List Nat} {bp : List Addr} {outs : List (List D)} {s : Sx}, RelB C Y σ H F sa s bp → Paired (PlAt Y sa s) is bp → Dn.putAll s is outs = some s2 →
    (∀ (k : Nat) (p : Addr) (xs : List D), bp[k]? = some p → outs[k]? = some xs → ∃ vs, H p = some (.lst vs) ∧ DatL C F xs vs) →
    Rel C Y σ H F sa s2 ∧ ∀ (j : Nat) (ys : List D), s2.sl[j]? = some (.own ys) → ∃ zs, s.sl[j]? = some (.own zs)
  | [], _, outs, s, R, .nil, e, h => by
    cases outs with
    | nil =>
      simp only [Dn.putAll, Option.some.injEq] at e
      subst e
      exact ⟨R.rel, fun j ys q => ⟨ys, q⟩⟩
    | cons a b => simp [Dn.putAll] at e
  | i :: is, _, outs, s, R, .cons hp r, e, h => by
    cases outs with
    | nil => simp [Dn.putAll] at e
    | cons xs xss =>
      simp only [Dn.putAll] at e
      cases h1 : putAt s i xs with
      | none => rw [h1] at e; cases e
      | some s1 =>
        rw [h1] at e
        obtain ⟨vs, g1, g2⟩ := h 0 _ xs rfl rfl
        obtain ⟨R1, k1, k2⟩ := R.put hp h1 g1 g2
        obtain ⟨R2, k3⟩ := RelB.putAll R1 (L2.Paired.mapP r fun a b q => k1 a b q) e fun k p ys q1 q2 => h (k + 1) p ys (by simpa using q1) (by simpa using q2)
        refine ⟨R2, fun j ys q => ?_⟩
        obtain ⟨zs, q⟩ := k3 j ys q
        exact k2 j zs q
/-- the whole: lists at places are changed -/
theorem Rel.change (R : Rel C Y σ H F sa s) (hp : Paired (PlAt Y sa s) is bp) (P : Post C H F bp outs H' F') (e : Dn.putAll s is outs = some s2) : Rel C Y σ H' F' sa s2 ∧ Step Y sa s s2 H F H' F' := by
  have hm : ∀ p ∈ bp, Mt Y sa s p := fun p hb => by
    obtain ⟨k, hk⟩ := List.getElem?_of_mem hb
    clear e P
    induction hp generalizing k with
    | nil => cases hb
    | cons h r ih =>
      rcases List.mem_cons.mp hb with rfl | hb
      · exact h.mt
      · obtain ⟨k', hk'⟩ := List.getElem?_of_mem hb
        exact ih hb k' hk'
  obtain ⟨R2, k⟩ := (R.post hm P).putAll hp e fun k p xs h1 h2 => (P.out k p xs h1 h2).2
  exact ⟨R2, P.ext, fun b h1 h2 => P.fr b h1 fun z => h2 (hm b z), k, P.dom⟩
end
end Dn
end
section
set_option Elab.async false
set_option linter.all false
set_option maxRecDepth 100000
set_option maxHeartbeats 4000000
namespace Dn
open PySem PySem.Spec PyProof.Rows L2

/-! ### what a def does, as a function of its arguments -/
inductive Arg where
  | dat (d : D) | mut (xs : List D)
inductive Rv where
  | dat (d : D) | fr (xs : List D)
inductive Cr where
  | ret (r : Rv) (outs : List (List D)) | ex (c : Nat) (d : D) (outs : List (List D)) | bad
def ArgsR (C : Cf) (H F : Hp) : List Arg → List V → List Addr → Prop
  | [], vs, bp => vs = [] ∧ bp = []
  | .dat d :: as, vs, bp => ∃ v r, vs = v :: r ∧ Dat C F d v ∧ ArgsR C H F as r bp
  | .mut xs :: as, vs, bp => ∃ p r br, vs = .ref p :: r ∧ bp = p :: br ∧ F p = none ∧ (∃ ws, H p = some (.lst ws) ∧ DatL C F xs ws) ∧ ArgsR C H F as r br
def RvR (C : Cf) (H H' F' : Hp) : Rv → V → Prop
  | .dat d, v => Dat C F' d v
  | .fr xs, v => ∃ p vs, v = .ref p ∧ H p = none ∧ H' p = some (.lst vs) ∧ F' p = none ∧ DatL C F' xs vs
def CrEnd (C : Cf) (H F : Hp) (bp : List Addr) (Q : VK) (E : XK) : Cr → Prop
  | .ret r outs => ∀ v H' F', Post C H F bp outs H' F' → RvR C H H' F' r v → Q v H'
  | .ex c d outs => ∀ cls dct H' F', Post C H F bp outs H' F' → ExR C c d cls dct H' F' → E cls dct H'
  | .bad => False
/-- the promise of a def that computes g -/
def Pr (C : Cf) (k : Nat) (g : List Arg → Cr) : Sp := fun vs H Q E => ∃ F as bp, Ext F H ∧ vs.length = k ∧ ArgsR C H F as vs bp ∧ bp.Nodup ∧ CrEnd C H F bp Q E (g as)

/-! ### calls -/
def toArgs (s : Sx) : List Pv → Option (List Arg)
  | [] => some []
  | .d x :: ps => (toArgs s ps).map (.dat x :: ·)
  | .pl i :: ps => match s.cont i, toArgs s ps with
    | some xs, some as => some (.mut xs :: as)
    | _, _ => none
  | .fr _ :: _ => none
def places : List Pv → List Nat
  | [] => []
  | .pl i :: ps => i :: places ps
  | _ :: ps => places ps
/-- the place's list: an own one, or a borrowed one -/
def key (s : Sx) (i : Nat) : Nat := match s.sl[i]? with
  | some (.bor k) => 2 * k + 1
  | _ => 2 * i
def distinct (s : Sx) : List Nat → Bool
  | [] => true
  | i :: is => (is.all fun j => key s i != key s j) && distinct s is
def endC (s : Sx) (ps : List Pv) : Cr → Res Pv
  | .ret (.dat d) outs => match putAll s (places ps) outs with
    | some s' => .ok (.d d) s'
    | none => .bad
  | .ret (.fr xs) outs => match putAll s (places ps) outs with
    | some s' => .ok (.fr xs) s'
    | none => .bad
  | .ex c d outs => match putAll s (places ps) outs with
    | some s' => .ex c d s'
    | none => .bad
  | .bad => .bad
def callS (g : List Arg → Cr) (s : Sx) (ps : List Pv) : Res Pv :=
  match toArgs s ps with
  | some as => if distinct s (places ps) then endC s ps (g as) else .bad
  | none => .bad
def dCall (g : List Arg → Cr) (a : Sx → Res (List Pv)) : Sx → Res Pv := fun s => (a s).bind fun ps s1 => callS g s1 ps

section
variable {C : Cf} {Y : Fm} {W : WX} {σ : L2.St} {H F H' F' : Hp} {sa : Nat → Addr} {s s1 s2 : Sx} {bp : List Addr} {is : List Nat} {outs : List (List D)} {X : Cx} {e : Expr} {es : List Expr} {a : Sx → Res (List Pv)} {pos p : Pos} {n k : Nat} {g : List Arg → Cr}
theorem place_r (R : Rel C Y σ H F sa s) {i : Nat} {xs : List D} {v : V} (h : σ[i]? = some (some v)) (e : s.cont i = some xs) :
    ∃ p, v = .ref p ∧ PlAt Y sa s i p ∧ F p = none ∧ ∃ ws, H p = some (.lst ws) ∧ DatL C F xs ws := by
  unfold Sx.cont at e
  split at e
  · rename_i ys hs
    cases e
    obtain ⟨h1, h2, h3, h4⟩ := R.own i _ hs
    rw [h] at h1
    cases h1
    exact ⟨_, rfl, .inl ⟨_, hs, rfl⟩, h2, h3⟩
  · rename_i k hs
    obtain ⟨p, h1, h2⟩ := R.bor i k hs
    rw [h] at h2
    cases h2
    obtain ⟨h3, h4⟩ := R.bos k p xs h1 e
    exact ⟨p, rfl, .inr ⟨k, hs, h1⟩, h3, h4⟩
  · cases e
theorem args_r (R : Rel C Y σ H F sa s) : ∀ {ps : List Pv} {vs : List V} {as : List Arg}, PvRs0 C σ F ps vs → toArgs s ps = some as → ∃ bp, ArgsR C H F as vs bp ∧ Paired (PlAt Y sa s) (places ps) bp
  | [], _, _, h, e => by
    cases e
    exact ⟨[], ⟨h, rfl⟩, .nil⟩
  | .d x :: ps, _, as, ⟨v, r, e1, h1, h2⟩, e => by
    simp only [toArgs] at e
    cases h3 : toArgs s ps with
    | none => rw [h3] at e; cases e
    | some bs =>
      rw [h3] at e
      cases e
      obtain ⟨bp, h4, h5⟩ := args_r R h2 h3
      exact ⟨bp, ⟨v, r, e1, h1, h4⟩, h5⟩
  | .pl i :: ps, _, as, ⟨v, r, e1, h1, h2⟩, e => by
    simp only [toArgs] at e
    split at e
    · rename_i xs bs hc h3
      cases e
      obtain ⟨bp, h4, h5⟩ := args_r R h2 h3
      obtain ⟨p, rfl, h6, h7, h8⟩ := place_r R h1 hc
      exact ⟨p :: bp, ⟨p, r, bp, e1, rfl, h7, h8, h4⟩, .cons h6 h5⟩
    · cases e
  | .fr _ :: _, _, _, _, e => by cases e
theorem key_ne (R : Rel C Y σ H F sa s) {i j : Nat} {p q : Addr} (h1 : PlAt Y sa s i p) (h2 : PlAt Y sa s j q) (h : key s i ≠ key s j) : p ≠ q := by
  rintro rfl
  rcases h1 with ⟨xs, a1, a2⟩ | ⟨k, a1, a2⟩ <;> rcases h2 with ⟨ys, b1, b2⟩ | ⟨l, b1, b2⟩
  · have := R.inj i j xs ys a1 b1 (a2.symm.trans b2)
    subst this
    exact h rfl
  · exact R.bH p (List.mem_of_getElem? b2) (by rw [a2]; exact (R.own i xs a1).2.2.2)
  · exact R.bH p (List.mem_of_getElem? a2) (by rw [b2]; exact (R.own j ys b1).2.2.2)
  · obtain ⟨l1, e1⟩ := List.getElem?_eq_some_iff.mp a2
    obtain ⟨l2, e2⟩ := List.getElem?_eq_some_iff.mp b2
    have e : k = l := (List.getElem_inj R.bnd).mp (e1.trans e2.symm)
    subst e
    exact h (by unfold key; rw [a1, b1])
theorem paired_mem {α β : Type} {P : α → β → Prop} : ∀ {is : List α} {bp : List β}, Paired P is bp → ∀ {p : β}, p ∈ bp → ∃ j, j ∈ is ∧ P j p
  | _, _, .nil, _, h => by cases h
  | i :: is, _, .cons h r, p, hm => by
    rcases List.mem_cons.mp hm with rfl | hm
    · exact ⟨i, List.mem_cons_self, h⟩
    · obtain ⟨j, h1, h2⟩ := paired_mem r hm
      exact ⟨j, List.mem_cons_of_mem _ h1, h2⟩
theorem nodup_of (R : Rel C Y σ H F sa s) : ∀ {is : List Nat} {bp : List Addr}, Paired (PlAt Y sa s) is bp → distinct s is = true → bp.Nodup
  | [], _, .nil, _ => List.nodup_nil
  | i :: is, _, .cons h r, d => by
    simp only [distinct, Bool.and_eq_true, List.all_eq_true, bne_iff_ne] at d
    refine List.nodup_cons.mpr ⟨fun hm => ?_, nodup_of R r d.2⟩
    obtain ⟨j, hj, hq⟩ := paired_mem r hm
    exact key_ne R h hq (d.1 j hj) rfl
/-- what is left of a call: the promise -/
theorem call_core {Q : VK} {vs : List V} {ps : List Pv} (R : Rel C Y σ H F sa s) (V1 : PvRs0 C σ F ps vs) (hl : vs.length = k) (h : EndG C Y W (PvR C Y) sa s σ H F Q (callS g s ps)) : Pr C k g vs H Q (WE W σ) := by
  unfold callS at h
  cases ha : toArgs s ps with
  | none => rw [ha] at h; exact h.elim
  | some as =>
    rw [ha] at h
    simp only at h
    split at h
    · rename_i hd
      obtain ⟨bp, h1, h2⟩ := args_r R V1 ha
      refine ⟨F, as, bp, R.sub, hl, h1, nodup_of R h2 hd, ?_⟩
      cases hg : g as with
      | bad => rw [hg] at h; exact h.elim
      | ex c d outs =>
        rw [hg] at h
        simp only [endC] at h
        split at h
        · rename_i s' hp
          intro cls dct H' F' P hx
          obtain ⟨R2, S2⟩ := R.change h2 P hp
          exact h cls dct H' F' R2 S2 hx
        · exact h.elim
      | ret r outs =>
        rw [hg] at h
        intro v H' F' P hr
        cases r with
        | dat d =>
          simp only [endC] at h
          split at h
          · rename_i s' hp
            obtain ⟨R2, S2⟩ := R.change h2 P hp
            exact h v H' F' R2 S2 hr
          · exact h.elim
        | fr xs =>
          simp only [endC] at h
          split at h
          · rename_i s' hp
            obtain ⟨R2, S2⟩ := R.change h2 P hp
            obtain ⟨p, ws, rfl, g1, g2, g3, g4⟩ := hr
            exact h _ H' F' R2 S2 ⟨p, ws, rfl, g2, g3, g4, R.h0none g1, fun z => R.nmt g1 (S2.mt z), g1⟩
          · exact h.elim
    · exact h.elim
/-- f(e, ..) of a def of the module -/
structure DefE (P : Program) (w : World) (Kf : PySem.W.Frag) (mg : Str → Option Value) (base : Heap) (C : Cf) (n : Nat) (x : Str) (ps : List Str) (g : List Arg → Cr) : Prop where
  ex : ∃ (f : Addr) (fd : FuncData), FnOk P w Kf mg base (L2.CX P w) n f fd ps (Pr C ps.length g) ∧ mg x = some (.ref f) ∧ PySem.W.keepIn Kf (.ref f) = true ∧ Binds Kf fd ps []
abbrev Def (X : Cx) (C : Cf) (n : Nat) (x : Str) (ps : List Str) (g : List Arg → Cr) : Prop := DefE X.prog X.w X.K X.mg X.base C n x ps g
theorem se_call {x : Str} {ps : List Str} (K : Cxt X C W n) (G : Def X C n x ps g) (ha : SA X C Y W (e :: es) a) (hn : (e :: es).length = ps.length := by rfl) (hg : Gl X x := by rfl) (hdb : (x == ("__debug__" : Str)) = false := by decide)
    (he : starEach (e :: es) X.env = (false, eval e X.env) :: starEach es X.env := by rfl) (hpl : (backTo pos (starEach es X.env)).any (·.1) = false := by rfl) : SE X C Y W (.Call (.Name x p) (e :: es) [] pos) (dCall g a) := by
  obtain ⟨f, fd, F, hm, hk, hb⟩ := G.ex
  exact pe_weak (pe_callS F K.room hg hm hk hb (fun σ => passAt K.tk σ) ha.pa hdb he hpl) fun σ H Q ⟨F, sa, s, R, h⟩ => ⟨F, sa, s, R, EndG.bind h fun ps s1 vs H1 F1 e1 R1 S1 V1 h1 => call_core R1 V1 (by rw [← V1.length, ha.len s ps s1 e1]; exact hn) h1⟩

/-- f(a = e, ..) alone -/
def KBo (K : PySem.W.Frag) (fd : FuncData) (ps ks : List Str) (js : List Nat) : Prop := ∀ (s : Shared) (ws : List Value), K.In s.heap → ws.length = ks.length → BindsTo s fd ⟨[], ks.zip ws⟩ (ps.zip (js.filterMap (ws[·]?)))
theorem KBo.all {K : PySem.W.Frag} {fd : FuncData} {ps ks : List Str} {js : List Nat} (h : ∀ ws : List Value, ws.length = ks.length → bindArgs fd ⟨[], ks.zip ws⟩ = pure (ps.zip (js.filterMap (ws[·]?)))) : KBo K fd ps ks js := fun s ws _ hl => .of_eq (h ws hl)
structure DefKE (P : Program) (w : World) (Kf : PySem.W.Frag) (mg : Str → Option Value) (base : Heap) (C : Cf) (n : Nat) (x : Str) (ps ks : List Str) (js : List Nat) (g : List Arg → Cr) : Prop where
  ex : ∃ (f : Addr) (fd : FuncData), FnOk P w Kf mg base (L2.CX P w) n f fd ps (Pr C ps.length g) ∧ mg x = some (.ref f) ∧ PySem.W.keepIn Kf (.ref f) = true ∧ KBo Kf fd ps ks js
abbrev DefK (X : Cx) (C : Cf) (n : Nat) (x : Str) (ps ks : List Str) (js : List Nat) (g : List Arg → Cr) : Prop := DefKE X.prog X.w X.K X.mg X.base C n x ps ks js g
theorem vals_pick {us : List Value} {vs : List V} (r : Vals vs us) : ∀ (js : List Nat), Vals (js.filterMap (vs[·]?)) (js.filterMap (us[·]?))
  | [] => .nil
  | j :: js => by
    have ih := vals_pick r js
    simp only [List.filterMap_cons]
    cases h : vs[j]? with
    | none =>
      have hu : us[j]? = none := by
        rw [List.getElem?_eq_none_iff] at h ⊢
        rw [← r.length]
        exact h
      rw [hu]
      exact ih
    | some v =>
      obtain ⟨u, hu, q⟩ := r.get h
      rw [hu]
      exact .cons q ih
theorem PvRs0.pick {ps : List Pv} {vs : List V} (r : PvRs0 C σ F ps vs) : ∀ (js : List Nat), PvRs0 C σ F (js.filterMap (ps[·]?)) (js.filterMap (vs[·]?))
  | [] => rfl
  | j :: js => by
    have ih := PvRs0.pick r js
    have at_ : ∀ {ps : List Pv} {vs : List V}, PvRs0 C σ F ps vs → ∀ (j : Nat), (ps[j]? = none ∧ vs[j]? = none) ∨ ∃ p v, ps[j]? = some p ∧ vs[j]? = some v ∧ PvC C σ F p v := by
      intro ps
      induction ps with
      | nil =>
        intro vs r j
        have r : vs = [] := r
        subst r
        exact .inl ⟨rfl, rfl⟩
      | cons p ps ih =>
        rintro vs ⟨v, vr, rfl, h1, h2⟩ j
        cases j with
        | zero => exact .inr ⟨p, v, rfl, rfl, h1⟩
        | succ j => simpa using ih h2 j
    simp only [List.filterMap_cons]
    rcases at_ r j with ⟨h1, h2⟩ | ⟨p, v, h1, h2, h3⟩
    · rw [h1, h2]
      exact ih
    · rw [h1, h2]
      exact ⟨v, _, rfl, h3, ih⟩
/-- the keywords' values -/
structure SK (X : Cx) (C : Cf) (Y : Fm) (W : WX) (kws : List Keyword) (f : Sx → Res (List Pv)) : Prop where
  pk : PK X kws (tA C Y W f)
  len : ∀ (s : Sx) (qs : List Pv) (s1 : Sx), f s = .ok qs s1 → qs.length = kws.length
theorem sk_nil : SK X C Y W [] dNil := ⟨⟨fun pos pins s σ H Q I ⟨F, sa, s0, R, h⟩ => pk_nil.run pos pins s σ H Q I (h [] H F R (Step.refl ..) rfl)⟩, fun _ _ _ e => by cases e; rfl⟩
theorem pk_weak {kws : List Keyword} {t t' : TA} (h : PK X kws t) (w : ∀ σ H Q, t' σ H Q → t σ H Q) : PK X kws t' := ⟨fun pos pins s σ H Q I q => h.run pos pins s σ H Q I (w σ H Q q)⟩
theorem sk_cons {f : Sx → Res Pv} {h : Sx → Res (List Pv)} {kws : List Keyword} {nm : Option Str} {kpos : Pos} (he : SE X C Y W e f) (hr : SK X C Y W kws h) : SK X C Y W (⟨nm, e, kpos⟩ :: kws) (dCons (dFz f) h) :=
  ⟨pk_weak (pk_cons (se_fz he) hr.pk) fun σ H Q ⟨F, sa, s, R, q⟩ => ⟨F, sa, s, R, EndG.bind q fun p s1 v H1 F1 e1 R1 S1 V1 h1 => ⟨F1, sa, s1, R1, EndG.bind h1 fun ps s2 vs H2 F2 _ R2 S2 V2 h2 =>
    h2 (v :: vs) H2 F2 R2 (Step.refl ..) ⟨v, vs, rfl, (fz_cold V1 (fz_is e1)).step S2.ext, V2⟩⟩⟩, fun s qs s1 q => by
    unfold dCons at q
    cases h1 : dFz f s with
    | bad => rw [h1] at q; cases q
    | ex c d s' => rw [h1] at q; cases q
    | ok p s' =>
      rw [h1] at q
      cases h2 : h s' with
      | bad => simp only [Res.bind, h2] at q; cases q
      | ex c d s2 => simp only [Res.bind, h2] at q; cases q
      | ok qs2 s2 =>
        simp only [Res.bind, h2] at q
        cases q
        rw [List.length_cons, List.length_cons, hr.len s' qs2 _ h2]⟩
def tCallKW0 (m : Nat) (js : List Nat) (sp : Sp) (E : L2.St → XK) (tk : TA) : TE := fun σ H Q => tk σ H fun zs H2 => zs.length = m ∧ sp (js.filterMap (zs[·]?)) H2 Q (E σ)
theorem pe_callKW0 {CX : CXT} {x : Str} {f : Addr} {fd : FuncData} {ps ks : List Str} {js : List Nat} {sp : Sp} {E : L2.St → XK} {kws : List Keyword} {tk : TA} (F : FnOk X.prog X.w X.K X.mg X.base CX n f fd ps sp) (hr : Room n X.A) (hg : Gl X x) (hm : X.mg x = some (.ref f)) (hk : PySem.W.keepIn X.K (.ref f) = true) (hb : KBo X.K fd ps ks js) (hx : ∀ σ, PassesAt CX X σ (E σ))
    (hkw : PK X kws tk) (hall : (backToKw pos (keywordEach kws X.env)).all (·.1.isSome) = true := by rfl) (hks : (backToKw pos (keywordEach kws X.env)).filterMap (·.1) = ks := by rfl)
    (hdb : (x == ("__debug__" : Str)) = false := by decide) (hpl : ((backTo pos (starEach [] X.env)).any (·.1) || (backToKw pos (keywordEach kws X.env)).any (·.1.isNone)) = false := by rfl) :
    PE X (.Call (.Name x p) [] kws pos) (tCallKW0 ks.length js sp E tk) := by
  refine ⟨fun pins s σ H Q I h => ?_⟩
  refine wpAny_Call_Name_kw (ld_glob I hg hm ?_ hdb)
  refine PySem.W.callWith_KW0 (h₀ := X.base) I.ok.mod.kin hk hall (thn (hkw.run pos pins s σ H _ I h) fun ws s2 ⟨zs, H2, I2, rz, hl, q2⟩ => ⟨I2.kIn, ?_⟩) hpl
  rw [hks]
  have r2 := vals_pick rz js
  refine wpAny_call (codeAny_mono (F.run X.A X.stack s2 H2 ⟨[], ks.zip ws⟩ (js.filterMap (ws[·]?)) (js.filterMap (zs[·]?)) Q (E σ) hr I2.env0 (hb s2 ws I2.kIn (by rw [← rz.length]; exact hl)) r2 q2) fun r s' hq => ?_)
  cases r with
  | error e => exact hx σ pins H2 s2 e s' I2 hq
  | ok fl =>
    cases fl with
    | ret u => exact I2.after hq
    | next => exact False.elim hq
    | brk => exact False.elim hq
    | cont => exact False.elim hq
def dCallK (js : List Nat) (g : List Arg → Cr) (a : Sx → Res (List Pv)) : Sx → Res Pv := fun s => (a s).bind fun ps s1 => if (js.filterMap (ps[·]?)).length = js.length then callS g s1 (js.filterMap (ps[·]?)) else .bad
theorem se_callk {x : Str} {ps ks : List Str} {js : List Nat} {kws : List Keyword} (K : Cxt X C W n) (G : DefK X C n x ps ks js g) (ha : SK X C Y W kws a) (hn : kws.length = ks.length := by rfl) (hj : js.length = ps.length := by rfl) (hg : Gl X x := by rfl) (hdb : (x == ("__debug__" : Str)) = false := by decide)
    (hall : (backToKw pos (keywordEach kws X.env)).all (·.1.isSome) = true := by rfl) (hks : (backToKw pos (keywordEach kws X.env)).filterMap (·.1) = ks := by rfl)
    (hpl : ((backTo pos (starEach [] X.env)).any (·.1) || (backToKw pos (keywordEach kws X.env)).any (·.1.isNone)) = false := by rfl) : SE X C Y W (.Call (.Name x p) [] kws pos) (dCallK js g a) := by
  obtain ⟨f, fd, F, hm, hk, hb⟩ := G.ex
  exact pe_weak (pe_callKW0 F K.room hg hm hk hb (fun σ => passAt K.tk σ) ha.pk hall hks hdb hpl) fun σ H Q ⟨F, sa, s, R, h⟩ => ⟨F, sa, s, R, EndG.bind h fun qs s1 vs H1 F1 e1 R1 S1 V1 h1 => ⟨by rw [← V1.length, ha.len s qs s1 e1]; exact hn, by
    split at h1
    · rename_i hl
      exact call_core R1 (V1.pick js) (by rw [← (V1.pick js).length, hl]; exact hj) h1
    · exact h1.elim⟩⟩

/-- a call of a local name: the def number k among the slots -/
def tCallLS (i : Nat) (f : Addr) (sp : Sp) (E : L2.St → XK) (t : TA) : TE := fun σ H Q => σ[i]? = some (some (.ref f)) ∧ t σ H fun vs H1 => sp vs H1 Q (E σ)
structure HeldE (P : Program) (w : World) (Kf : PySem.W.Frag) (mg : Str → Option Value) (base : Heap) (n : Nat) (f : Addr) (m : Nat) (sp : Sp) : Prop where
  ex : ∃ (fd : FuncData) (ps : List Str), FnOk P w Kf mg base (L2.CX P w) n f fd ps sp ∧ ps.length = m ∧ PySem.W.keepIn Kf (.ref f) = true ∧ Binds Kf fd ps []
/-- defs that may stand in a slot, by their number -/
structure DefL (X : Cx) (C : Cf) (n m : Nat) (gs : Nat → Option (List Arg → Cr)) : Prop where
  ex : ∀ k g, gs k = some g → HeldE X.prog X.w X.K X.mg X.base n (C.fa k) m (Pr C m g)
def dCallL (i : Nat) (gs : Nat → Option (List Arg → Cr)) (a : Sx → Res (List Pv)) : Sx → Res Pv := fun s => match s.sl[i]? with
  | some (.dat (.fn k)) => (match gs k with
    | some g => dCall g a s
    | none => .bad)
  | _ => .bad
theorem pe_callA2 {i m : Nat} {x : Str} {S : Addr → Sp → Prop} {t : TA} (tk : ∀ σ, PassesAt (L2.CX X.prog X.w) X σ (WE W σ)) (A : ∀ f sp, S f sp → HeldE X.prog X.w X.K X.mg X.base n f m sp) (hr : Room n X.A) (hN : X.N[i]? = some x) (hv : Vis X.env.scope x) (ha : PA X (e :: es) t)
    (hdb : (x == ("__debug__" : Str)) = false := by decide) (hcd : (x == ("__classdict__" : Str)) = false := by decide)
    (he : starEach (e :: es) X.env = (false, eval e X.env) :: starEach es X.env := by rfl) (hpl : (backTo pos (starEach es X.env)).any (·.1) = false := by rfl) : PE X (.Call (.Name x p) (e :: es) [] pos) (fun σ H Q => ∃ f sp, S f sp ∧ tCallLS i f sp (WE W) t σ H Q) := by
  refine ⟨fun pins s σ H Q I h => ?_⟩
  obtain ⟨f, sp, hS, hs, ht⟩ := h
  obtain ⟨fd, ps, F, hl, hk, hb⟩ := (A f sp hS).ex
  refine wpAny_Call_Name_kw (thn ((pe_var (pos := p) hN hv hdb hcd).run pins s σ H (fun v H1 => v = .ref f ∧ H1 = H) I ⟨.ref f, hs, rfl, rfl⟩) fun u s1 ⟨v, H1, I1, r1, q1⟩ => ?_)
  obtain ⟨rfl, rfl⟩ := q1
  cases r1
  refine PySem.W.callWith_K (h₀ := X.base) I.ok.mod.kin hk (thn (ha.run pos pins s1 σ _ _ I1 ht) fun us s2 ⟨vs, H2, I2, r, q⟩ => ⟨I2.kIn, ?_⟩) he hpl
  exact run_fnS F hr hb (tk σ) I2 r q
theorem se_calll {x : Str} {m : Nat} (i : Nat) {gs : Nat → Option (List Arg → Cr)} (K : Cxt X C W n) (G : DefL X C n m gs) (ha : SA X C Y W (e :: es) a) (hn : (e :: es).length = m := by rfl) (hN : X.N[i]? = some x := by rfl) (hv : Vis X.env.scope x := by first | exact Or.inl rfl | exact Or.inr (Or.inl rfl) | exact Or.inr (Or.inr rfl))
    (hdb : (x == ("__debug__" : Str)) = false := by decide) (hcd : (x == ("__classdict__" : Str)) = false := by decide)
    (he : starEach (e :: es) X.env = (false, eval e X.env) :: starEach es X.env := by rfl) (hpl : (backTo pos (starEach es X.env)).any (·.1) = false := by rfl) : SE X C Y W (.Call (.Name x p) (e :: es) [] pos) (dCallL i gs a) :=
  pe_weak (pe_callA2 (m := m) (S := fun f sp => ∃ k g, gs k = some g ∧ C.fa k = f ∧ sp = Pr C m g) (fun σ => passAt K.tk σ) (fun f sp ⟨k, g, h1, h2, h3⟩ => by
    subst h2 h3
    exact G.ex k g h1) K.room hN hv ha.pa hdb hcd he hpl) fun σ H Q ⟨F, sa, s, R, h⟩ => by
      unfold dCallL at h
      split at h
      · rename_i k hs
        split at h
        · rename_i g hg
          obtain ⟨v, h1, h2⟩ := R.dat i _ hs
          simp only [Dat] at h2
          subst h2
          exact ⟨_, _, ⟨k, g, hg, rfl, rfl⟩, h1, F, sa, s, R, EndG.bind h fun ps s1 vs H1 F1 e1 R1 S1 V1 h1 => call_core R1 V1 (by rw [← V1.length, ha.len s ps s1 e1]; exact hn) h1⟩
        · exact h.elim
      · exact h.elim
end
end Dn
end
section
set_option Elab.async false
set_option linter.all false
set_option maxRecDepth 100000
set_option maxHeartbeats 4000000
namespace Dn
open PySem PySem.Spec PyProof.Rows L2

/-! ### statements -/
inductive Fl where
  | nx | ret (p : Pv) | bk | ct
def EndS (C : Cf) (Y : Fm) (W : WX) (Z : Ends) (F : Hp) : Res Fl → Prop
  | .ok .nx s' => ∀ σ' H' F' sa', Rel C Y σ' H' F' sa' s' → Ext F F' → Z.nx σ' H'
  | .ok .bk s' => ∀ σ' H' F' sa', Rel C Y σ' H' F' sa' s' → Ext F F' → Z.bk σ' H'
  | .ok .ct s' => ∀ σ' H' F' sa', Rel C Y σ' H' F' sa' s' → Ext F F' → Z.ct σ' H'
  | .ok (.ret pv) s' => ∀ v σ' H' F' sa', Rel C Y σ' H' F' sa' s' → Ext F F' → PvR C Y sa' s' σ' Y.H0 H' F' pv v → Z.rt v H'
  | .ex c d s' => ∀ cls dct σ' H' F' sa', Rel C Y σ' H' F' sa' s' → Ext F F' → ExR C c d cls dct H' F' → W cls dct σ' H'
  | .bad => False
def tS (C : Cf) (Y : Fm) (W : WX) (g : Sx → Res Fl) : TS := fun Z σ H => ∃ F sa s, Rel C Y σ H F sa s ∧ EndS C Y W Z F (g s)
abbrev SS (X : Cx) (C : Cf) (Y : Fm) (W : WX) (st : Stmt) (g : Sx → Res Fl) : Prop := PS X st (tS C Y W g)
abbrev SB (X : Cx) (C : Cf) (Y : Fm) (W : WX) (st : List Stmt) (g : Sx → Res Fl) : Prop := PSs X st (tS C Y W g)
theorem pss_weak {X : Cx} {e : List Stmt} {t t' : TS} (h : PSs X e t) (w : ∀ Z σ H, t' Z σ H → t Z σ H) : PSs X e t' := ⟨fun pins s σ H Z I q => h.run pins s σ H Z I (w Z σ H q)⟩
theorem pg_weak {X : Cx} {e : Expr} {t t' : TG} (h : PG X e t) (w : ∀ v σ H Q, t' v σ H Q → t v σ H Q) : PG X e t' := ⟨fun pins s σ H v u Q I r q => h.run pins s σ H v u Q I r (w v σ H Q q)⟩

section
variable {C : Cf} {Y : Fm} {W : WX} {σ : L2.St} {H F H' F' F1 : Hp} {sa : Nat → Addr} {s s1 s2 : Sx} {X : Cx} {e : Expr} {f : Sx → Res Pv} {t : Sx → Res Bool} {g g1 g2 : Sx → Res Fl} {pos p : Pos} {n : Nat} {Z : Ends} {st : Stmt} {rest : List Stmt}
theorem EndS.mono (e : Ext F F1) {r : Res Fl} (h : EndS C Y W Z F r) : EndS C Y W Z F1 r := by
  cases r with
  | bad => exact h
  | ex c d s' => exact fun cls dct σ' H' F' sa' R x q => h cls dct σ' H' F' sa' R (e.trans x) q
  | ok fl s' =>
    cases fl with
    | nx => exact fun σ' H' F' sa' R x => h σ' H' F' sa' R (e.trans x)
    | bk => exact fun σ' H' F' sa' R x => h σ' H' F' sa' R (e.trans x)
    | ct => exact fun σ' H' F' sa' R x => h σ' H' F' sa' R (e.trans x)
    | ret pv => exact fun v σ' H' F' sa' R x q => h v σ' H' F' sa' R (e.trans x) q
theorem Rel.dom0 (R : Rel C Y σ H F sa s) (b : Addr) (h : Y.H0 b ≠ none) : H b ≠ none := by
  intro e
  exact h (R.h0none e)
/-- an expression's end within a statement -/
theorem EndG.stmt {α β : Type} {VR : VRel α β} [MV VR] {Q : β → Hp → Prop} {r : Res α} {k : α → Sx → Res Fl} (h : EndS C Y W Z F (r.bind k))
    (q : ∀ a s1 b H1 F1, r = .ok a s1 → Rel C Y σ H1 F1 sa s1 → Step Y sa s s1 H F H1 F1 → VR sa s1 σ H H1 F1 a b → EndS C Y W Z F1 (k a s1) → Q b H1) : EndG C Y W VR sa s σ H F Q r := by
  cases r with
  | bad => exact h
  | ex c d s' => exact fun cls dct H' F' R S x => h cls dct σ H' F' sa R S.ext x
  | ok a s1 => exact fun b H1 F1 R S V => q a s1 b H1 F1 rfl R S V (EndS.mono S.ext h)

def dSkip : Sx → Res Fl := fun s => .ok .nx s
def seqR (g : Sx → Res Fl) : Res Fl → Res Fl
  | .ok .nx s => g s
  | r => r
def dSeq (f g : Sx → Res Fl) : Sx → Res Fl := fun s => seqR g (f s)
def dRet (f : Sx → Res Pv) : Sx → Res Fl := fun s => (f s).bind fun p s1 => .ok (.ret p) s1
def dRetN : Sx → Res Fl := fun s => .ok (.ret (.d .non)) s
def dDrop (f : Sx → Res Pv) : Sx → Res Fl := fun s => (f s).bind fun _ s1 => .ok .nx s1
def dBreak : Sx → Res Fl := fun s => .ok .bk s
def dCont : Sx → Res Fl := fun s => .ok .ct s
theorem sb_nil : SB X C Y W [] dSkip := pss_weak pss_nil fun Z σ H ⟨F, sa, s, R, h⟩ => h σ H F sa R (Ext.refl _)
theorem sb_cons (h1 : SS X C Y W st g1) (h2 : SB X C Y W rest g2) : SB X C Y W (st :: rest) (dSeq g1 g2) := pss_weak (pss_cons h1 h2) fun Z σ H ⟨F, sa, s, R, h⟩ => ⟨F, sa, s, R, by
  unfold dSeq at h
  revert h
  cases g1 s with
  | bad => exact id
  | ex c d s' => exact id
  | ok fl s' =>
    cases fl with
    | nx => exact fun h σ' H' F' sa' R' x => ⟨F', sa', s', R', EndS.mono x h⟩
    | bk => exact id
    | ct => exact id
    | ret pv => exact id⟩
theorem sb_one (h1 : SS X C Y W st g1) : SB X C Y W [st] g1 := pss_one h1
theorem ss_ret (h : SE X C Y W e f) : SS X C Y W (.Return (some e) pos) (dRet f) := ps_weak (ps_ret h) fun Z σ H ⟨F, sa, s, R, h⟩ =>
  ⟨F, sa, s, R, EndG.stmt h fun p s1 v H1 F1 _ R1 S1 V1 h1 => h1 v σ H1 F1 sa R1 (Ext.refl _) (MV.mono (VR := PvR C Y) R.dom0 V1)⟩
theorem ss_retN : SS X C Y W (.Return none pos) dRetN := ps_weak ps_retN fun Z σ H ⟨F, sa, s, R, h⟩ => h .non σ H F sa R (Ext.refl _) (show Dat C F .non .non from non_dat)
theorem ss_expr (h : SE X C Y W e f) (hs : swapsWith e none pos.line X.env = pure false := by rfl) : SS X C Y W (.Expr e pos) (dDrop f) := ps_weak (ps_expr h hs) fun Z σ H ⟨F, sa, s, R, h⟩ =>
  ⟨F, sa, s, R, EndG.stmt h fun p s1 v H1 F1 _ R1 S1 V1 h1 => h1 σ H1 F1 sa R1 (Ext.refl _)⟩
theorem ss_pass : SS X C Y W (.Pass pos) dSkip := ps_weak ps_pass fun Z σ H ⟨F, sa, s, R, h⟩ => h σ H F sa R (Ext.refl _)
theorem ss_break : SS X C Y W (.Break pos) dBreak := ps_weak ps_break fun Z σ H ⟨F, sa, s, R, h⟩ => h σ H F sa R (Ext.refl _)
theorem ss_continue : SS X C Y W (.Continue pos) dCont := ps_weak ps_continue fun Z σ H ⟨F, sa, s, R, h⟩ => h σ H F sa R (Ext.refl _)
theorem ss_if {c : Expr} {a b : List Stmt} (hc : ST X C Y W c t) (ha : SB X C Y W a g1) (hb : SB X C Y W b g2) : SS X C Y W (.If c a b pos) (dIf t g1 g2) := ps_weak (ps_if hc ha hb) fun Z σ H ⟨F, sa, s, R, h⟩ =>
  ⟨F, sa, s, R, EndG.stmt h fun b s1 b' H1 F1 _ R1 S1 V1 h1 => by
    have e : b' = b := V1
    subst e
    cases b' with
    | true => exact ⟨F1, sa, s1, R1, h1⟩
    | false => exact ⟨F1, sa, s1, R1, h1⟩⟩

/-! ### stores -/
def setSl (i : Nat) (s : Sx) : Pv → Option Sx
  | .d x => if i < s.sl.length then some ⟨s.sl.set i (.dat x), s.bo⟩ else none
  | .fr xs => if i < s.sl.length then some ⟨s.sl.set i (.own xs), s.bo⟩ else none
  | .pl _ => none
def endN : Option Sx → Res Fl
  | some s => .ok .nx s
  | none => .bad
def dSet (i : Nat) (f : Sx → Res Pv) : Sx → Res Fl := fun s => (f s).bind fun p s1 => endN (setSl i s1 p)
theorem Rel.set (R : Rel C Y σ H F sa s) {i : Nat} {pv : Pv} {v : V} {Hs : Hp} (V1 : PvR C Y sa s σ Hs H F pv v) (e : setSl i s pv = some s1) : ∃ sa', Rel C Y (σ.set i (some v)) H F sa' s1 := by
  cases pv with
  | pl j => cases e
  | d x =>
    simp only [setSl] at e
    split at e
    · rename_i hi
      cases e
      have hiσ : i < σ.length := by rw [R.len]; exact hi
      have at_ : ∀ (j : Nat) (y : Slot), (s.sl.set i (.dat x))[j]? = some y → (j = i ∧ y = .dat x) ∨ (j ≠ i ∧ s.sl[j]? = some y) := fun j y q => by
        by_cases hj : j = i
        · subst hj
          rw [List.getElem?_set_self hi] at q
          exact .inl ⟨rfl, (Option.some.inj q).symm⟩
        · rw [List.getElem?_set_ne (Ne.symm hj)] at q
          exact .inr ⟨hj, q⟩
      have oth : ∀ {j : Nat}, j ≠ i → (σ.set i (some v))[j]? = σ[j]? := fun hj => List.getElem?_set_ne (Ne.symm hj)
      refine ⟨sa, ⟨by simpa using R.len, R.sub, fun j d q => ?_, fun j ys q => ?_, fun j k ys zs q1 q2 => ?_, fun j k q => ?_, R.bol, R.bos, R.bnd, R.bH, R.fr0, R.ext0⟩⟩
      · rcases at_ j _ q with ⟨rfl, e⟩ | ⟨hj, q⟩
        · cases e
          exact ⟨v, List.getElem?_set_self hiσ, V1⟩
        · rw [oth hj]
          exact R.dat j d q
      · rcases at_ j _ q with ⟨rfl, e⟩ | ⟨hj, q⟩
        · cases e
        · rw [oth hj]
          exact R.own j ys q
      · rcases at_ j _ q1 with ⟨_, e⟩ | ⟨_, q1⟩
        · cases e
        · rcases at_ k _ q2 with ⟨_, e⟩ | ⟨_, q2⟩
          · cases e
          · exact R.inj j k ys zs q1 q2
      · rcases at_ j _ q with ⟨_, e⟩ | ⟨hj, q⟩
        · cases e
        · rw [oth hj]
          exact R.bor j k q
    · cases e
  | fr xs =>
    simp only [setSl] at e
    split at e
    · rename_i hi
      cases e
      obtain ⟨p, ws, rfl, e2, e3, e4, e5, e6, e7⟩ := V1
      have hiσ : i < σ.length := by rw [R.len]; exact hi
      have at_ : ∀ (j : Nat) (y : Slot), (s.sl.set i (.own xs))[j]? = some y → (j = i ∧ y = .own xs) ∨ (j ≠ i ∧ s.sl[j]? = some y) := fun j y q => by
        by_cases hj : j = i
        · subst hj
          rw [List.getElem?_set_self hi] at q
          exact .inl ⟨rfl, (Option.some.inj q).symm⟩
        · rw [List.getElem?_set_ne (Ne.symm hj)] at q
          exact .inr ⟨hj, q⟩
      have oth : ∀ {j : Nat}, j ≠ i → (σ.set i (some (.ref p)))[j]? = σ[j]? := fun hj => List.getElem?_set_ne (Ne.symm hj)
      have sai : (fun j => if j = i then p else sa j) i = p := if_pos rfl
      have saj : ∀ {j : Nat}, j ≠ i → (fun j => if j = i then p else sa j) j = sa j := fun hj => if_neg hj
      refine ⟨fun j => if j = i then p else sa j, ⟨by simpa using R.len, R.sub, fun j d q => ?_, fun j ys q => ?_, fun j k ys zs q1 q2 he => ?_, fun j k q => ?_, R.bol, R.bos, R.bnd, R.bH, R.fr0, R.ext0⟩⟩
      · rcases at_ j _ q with ⟨rfl, e⟩ | ⟨hj, q⟩
        · cases e
        · rw [oth hj]
          exact R.dat j d q
      · rcases at_ j _ q with ⟨rfl, e⟩ | ⟨hj, q⟩
        · cases e
          simp only [if_pos]
          exact ⟨List.getElem?_set_self hiσ, e3, ⟨ws, e2, e4⟩, e5⟩
        · simp only [if_neg hj]
          rw [oth hj]
          exact R.own j ys q
      · rcases at_ j _ q1 with ⟨z1, e⟩ | ⟨hj, r1⟩
        · rcases at_ k _ q2 with ⟨z2, e⟩ | ⟨hk, r2⟩
          · rw [z1, z2]
          · simp only [if_pos z1, if_neg hk] at he
            exact absurd (.inl ⟨k, zs, r2, he.symm⟩) e6
        · rcases at_ k _ q2 with ⟨z2, e⟩ | ⟨hk, r2⟩
          · simp only [if_pos z2, if_neg hj] at he
            exact absurd (.inl ⟨j, ys, r1, he⟩) e6
          · simp only [if_neg hj, if_neg hk] at he
            exact R.inj j k ys zs r1 r2 he
      · rcases at_ j _ q with ⟨_, e⟩ | ⟨hj, q⟩
        · cases e
        · rw [oth hj]
          exact R.bor j k q
    · cases e
theorem set_core {i : Nat} : ∀ Z σ H, tS C Y W (dSet i f) Z σ H → tAsg (tE C Y W f) (gName i) Z σ H := fun Z σ H ⟨F, sa, s, R, h⟩ =>
  ⟨F, sa, s, R, EndG.stmt h fun p s1 v H1 F1 _ R1 S1 V1 h1 => by
    cases e : setSl i s1 p with
    | none => rw [e] at h1; exact h1.elim
    | some s2 =>
      rw [e] at h1
      obtain ⟨sa', R2⟩ := R1.set V1 e
      exact h1 _ H1 F1 sa' R2 (Ext.refl _)⟩
theorem ss_set (K : Cxt X C W n) (i : Nat) {x : Str} {pos' : Pos} (h : SE X C Y W e f) (hi : X.N[i]? = some x := by rfl) (hx : Loc X.env.scope x := by first | exact Or.inl rfl | exact Or.inr rfl) (hs : swapsWith e (some (.Name x pos')) pos.line X.env = pure false := by rfl)
    (hf : X.fn x = true ∨ X.env.scope.names.lookup x = some .local := by first | exact .inl rfl | exact .inr rfl | assumption) : SS X C Y W (.Assign [.Name x pos'] e pos) (dSet i f) := ps_weak (ps_set K.nd hi hx h hs hf) set_core

/-! ### targets -/
abbrev Tgt := D → Sx → Option Sx
/-- what a target makes of a datum -/
structure SG (X : Cx) (C : Cf) (Y : Fm) (tg : Expr) (k : Tgt) : Prop where
  ex : ∃ g : TG, PG X tg g ∧ ∀ (d : D) (v : V) (σ : L2.St) (H F : Hp) (sa : Nat → Addr) (s s1 : Sx) (Q : L2.St → Hp → Prop), Rel C Y σ H F sa s → Dat C F d v → k d s = some s1 → (∀ σ', Rel C Y σ' H F sa s1 → Q σ' H) → g v σ H Q
def gN (i : Nat) : Tgt := fun d s => if i < s.sl.length then some ⟨s.sl.set i (.dat d), s.bo⟩ else none
theorem Rel.setD (R : Rel C Y σ H F sa s) {i : Nat} {d : D} {v : V} (V1 : Dat C F d v) (e : gN i d s = some s1) : Rel C Y (σ.set i (some v)) H F sa s1 := by
  unfold gN at e
  split at e
  · rename_i hi
    cases e
    have hiσ : i < σ.length := by rw [R.len]; exact hi
    have at_ : ∀ (j : Nat) (y : Slot), (s.sl.set i (.dat d))[j]? = some y → (j = i ∧ y = .dat d) ∨ (j ≠ i ∧ s.sl[j]? = some y) := fun j y q => by
      by_cases hj : j = i
      · subst hj
        rw [List.getElem?_set_self hi] at q
        exact .inl ⟨rfl, (Option.some.inj q).symm⟩
      · rw [List.getElem?_set_ne (Ne.symm hj)] at q
        exact .inr ⟨hj, q⟩
    have oth : ∀ {j : Nat}, j ≠ i → (σ.set i (some v))[j]? = σ[j]? := fun hj => List.getElem?_set_ne (Ne.symm hj)
    refine ⟨by simpa using R.len, R.sub, fun j d q => ?_, fun j ys q => ?_, fun j k ys zs q1 q2 => ?_, fun j k q => ?_, R.bol, R.bos, R.bnd, R.bH, R.fr0, R.ext0⟩
    · rcases at_ j _ q with ⟨rfl, e⟩ | ⟨hj, q⟩
      · cases e
        exact ⟨v, List.getElem?_set_self hiσ, V1⟩
      · rw [oth hj]
        exact R.dat j d q
    · rcases at_ j _ q with ⟨rfl, e⟩ | ⟨hj, q⟩
      · cases e
      · rw [oth hj]
        exact R.own j ys q
    · rcases at_ j _ q1 with ⟨_, e⟩ | ⟨_, q1⟩
      · cases e
      · rcases at_ k _ q2 with ⟨_, e⟩ | ⟨_, q2⟩
        · cases e
        · exact R.inj j k ys zs q1 q2
    · rcases at_ j _ q with ⟨_, e⟩ | ⟨hj, q⟩
      · cases e
      · rw [oth hj]
        exact R.bor j k q
  · cases e
theorem sg_name (K : X.N.Nodup) (i : Nat) {x : Str} (hi : X.N[i]? = some x := by rfl) (hx : Loc X.env.scope x := by first | exact Or.inl rfl | exact Or.inr rfl) (hf : X.fn x = true ∨ X.env.scope.names.lookup x = some .local := by first | exact .inl rfl | exact .inr rfl | assumption) : SG X C Y (.Name x pos) (gN i) :=
  ⟨_, pg_name K hi hx hf, fun d v σ H F sa s s1 Q R V1 e q => q _ (R.setD V1 e)⟩
abbrev Tgts := List D → Sx → Option Sx
structure SGs (X : Cx) (C : Cf) (Y : Fm) (tg : List Expr) (k : Tgts) : Prop where
  ex : ∃ g : TGs, PGs X tg g ∧ ∀ (ds : List D) (vs : List V) (σ : L2.St) (H F : Hp) (sa : Nat → Addr) (s s1 : Sx) (Q : L2.St → Hp → Prop), Rel C Y σ H F sa s → DatL C F ds vs → k ds s = some s1 → (∀ σ', Rel C Y σ' H F sa s1 → Q σ' H) → g vs σ H Q
def gsN : Tgts := fun ds s => match ds with
  | [] => some s
  | _ => none
def gsC (k : Tgt) (ks : Tgts) : Tgts := fun ds s => match ds with
  | d :: r => (match k d s with
    | some s1 => ks r s1
    | none => none)
  | [] => none
theorem sgs_nil : SGs X C Y [] gsN := ⟨_, pgs_nil, fun ds vs σ H F sa s s1 Q R V1 e q => by
  cases ds with
  | nil =>
    cases e
    exact ⟨V1.nil', q σ R⟩
  | cons a b => cases e⟩
theorem sgs_cons {es : List Expr} {k : Tgt} {ks : Tgts} (h1 : SG X C Y e k) (h2 : SGs X C Y es ks) (hs : (assignEach (e :: es) X.env).map (·.2) = assign e X.env :: (assignEach es X.env).map (·.2) := by rfl) : SGs X C Y (e :: es) (gsC k ks) := by
  obtain ⟨g1, p1, q1⟩ := h1.ex
  obtain ⟨g2, p2, q2⟩ := h2.ex
  refine ⟨_, pgs_cons p1 p2 hs, fun ds vs σ H F sa s s1 Q R V1 e q => ?_⟩
  cases ds with
  | nil => cases e
  | cons d r =>
    simp only [gsC] at e
    cases e1 : k d s with
    | none => rw [e1] at e; cases e
    | some s2 =>
      rw [e1] at e
      simp only [DatL] at V1
      obtain ⟨v, vr, rfl, h3, h4⟩ := V1
      exact ⟨v, vr, rfl, q1 d v σ H F sa s s2 _ R h3 e1 fun σ' R' => q2 r vr σ' H F sa s2 s1 Q R' h4 e q⟩
/-- (a, b, ..) = a tuple -/
def gT (n : Nat) (ks : Tgts) : Tgt := fun d s => match d with
  | .tup ds => if ds.length = n then ks ds s else none
  | _ => none
theorem sg_tup (m : Nat) (K : X.K = C.K) (hc : X.calm = true) {es : List Expr} {j : Nat} {ks : Tgts} (h : SGs X C Y es ks) (hn : (assignEach es X.env).length = m := by rfl) (hst : (assignEach es X.env).findIdx? (·.1) = none := by rfl) : SG X C Y (.Tuple es j pos) (gT m ks) := by
  obtain ⟨g, p1, q1⟩ := h.ex
  refine ⟨_, pg_tup hc p1 hn hst, fun d v σ H F sa s s1 Q R V1 e q => ?_⟩
  unfold gT at e
  split at e
  · rename_i ds
    split at e
    · rename_i hl
      simp only [Dat] at V1
      obtain ⟨a, vs, rfl, h1, h2⟩ := V1
      rw [K]
      exact ⟨a, vs, rfl, sqT_mono R.sub h1, by rw [← h2.length]; exact hl, q1 ds vs σ H F sa s s1 Q R h2 e q⟩
    · cases e
  · cases e
/-- target = e -/
def dAsg (k : Tgt) (f : Sx → Res Pv) : Sx → Res Fl := fun s => (dFz f s).bind fun p s1 => match p with
  | .d x => endN (k x s1)
  | _ => .bad
theorem ss_asg {tg : Expr} {k : Tgt} (h : SE X C Y W e f) (hg : SG X C Y tg k) (hs : swapsWithSole [tg] e pos.line X.env = pure false := by rfl) (hw : swappedStores [tg] e X.env = pure none := by rfl)
    (h1 : (assignEach [tg] X.env).map (·.2) = [assign tg X.env] := by rfl) : SS X C Y W (.Assign [tg] e pos) (dAsg k f) := by
  obtain ⟨g, p1, q1⟩ := hg.ex
  refine ps_weak (ps_asg (se_fz h) p1 hs hw h1) fun Z σ H ⟨F, sa, s, R, h⟩ => ⟨F, sa, s, R, EndG.stmt h fun p s1 v H1 F1 _ R1 S1 V1 h1 => ?_⟩
  cases p with
  | d x =>
    cases e : k x s1 with
    | none => simp only [e] at h1; exact h1.elim
    | some s2 =>
      simp only [e] at h1
      exact q1 x v σ H1 F1 sa s1 s2 _ R1 V1 e fun σ' R' => h1 σ' H1 F1 sa R' (Ext.refl _)
  | fr xs => exact h1.elim
  | pl i => exact h1.elim
end
end Dn
end
section
set_option Elab.async false
set_option linter.all false
set_option maxRecDepth 100000
set_option maxHeartbeats 4000000
namespace Dn
open PySem PySem.Spec PyProof.Rows L2

/-! ### what is walked -/
/-- J gives the data ds, one by one -/
def ItR0 (C : Cf) (Y : Fm) (F : Hp) (ds : List D) (J : It) : Prop := ds.length ≤ sizeLine ∧ ∃ (G : Hp → Prop) (Yd : Nat → Hp → V → Hp → Prop), Walk J ds.length G Yd ∧ (∀ H' F', Ext F F' → Ext F' H' → G H') ∧
  ∀ (i : Nat) (d : D) (σ : L2.St) (H' F' : Hp) (sa : Nat → Addr) (s : Sx) (x : V) (H'' : Hp), ds[i]? = some d → Ext F F' → Rel C Y σ H' F' sa s → Yd i H' x H'' → ∃ F'', Rel C Y σ H'' F'' sa s ∧ Step Y sa s s H' F' H'' F'' ∧ Dat C F'' d x
abbrev ItR (C : Cf) (Y : Fm) : VRel (List D) It := fun _ _ _ _ _ F ds J => ItR0 C Y F ds J
instance {C : Cf} {Y : Fm} : MV (ItR C Y) := ⟨fun _ h => h⟩
abbrev SI (X : Cx) (C : Cf) (Y : Fm) (W : WX) (tg e : Expr) (f : Sx → Res (List D)) : Prop := PI X tg e (tG C Y W (ItR C Y) f)
theorem pi_weak {X : Cx} {tg e : Expr} {t t' : TI} (h : PI X tg e t) (w : ∀ σ H R, t' σ H R → t σ H R) : PI X tg e t' := ⟨fun pins s σ H R I q => h.run pins s σ H R I (w σ H R q)⟩
theorem pi_or {X : Cx} {tg e : Expr} {t t' : TI} (h : PI X tg e t) (h' : PI X tg e t') : PI X tg e (fun σ H R => t σ H R ∨ t' σ H R) := ⟨fun pins s σ H R I q => by
  rcases q with q | q
  · exact h.run pins s σ H R I q
  · exact h'.run pins s σ H R I q⟩
/-- lists and tuples are not too long -/
def Short (K : PySem.W.Frag) (H : Hp) : Prop := (∀ a xs, SqL K H a xs → xs.length ≤ sizeLine) ∧ ∀ a xs, SqT K H a xs → xs.length ≤ sizeLine
theorem pe_inv {X : Cx} {e : Expr} {t : TE} (h : PE X e t) : PE X e (fun σ H Q => t σ H fun v H1 => Short X.K H1 → Q v H1) := ⟨fun pins s σ H Q I q =>
  thn (h.run pins s σ H _ I q) fun u s1 ⟨v, H1, I1, r, z⟩ => ⟨v, H1, I1, r, z ⟨fun a xs hq => (I1.list hq).choose_spec.2.2, fun a xs hq => (I1.tuple hq).choose_spec.2.2⟩⟩⟩
def itemsOf : D → Option (List D)
  | .lst xs => some xs
  | .tup xs => some xs
  | .scr ns => some (ns.map .int)
  | .str z => if z.length ≤ LIM then some (z.cps.toList.map fun c => .str ⟨#[c]⟩) else none
  | _ => none
def endI (s : Sx) : Pv → Res (List D)
  | .d x => match itemsOf x with
    | some xs => .ok xs s
    | none => .bad
  | _ => .bad
def dItems (f : Sx → Res Pv) : Sx → Res (List D) := fun s => (dFz f s).bind fun p s1 => endI s1 p
/-- range(n), range(a, b) -/
def rng (a : Int) (n : Nat) : List D := (List.range n).map fun (i : Nat) => D.int (a + (i : Int))
def endR1 (s : Sx) : Option (List D) → Res (List D)
  | some [.int j] => if j ≤ LIM ∧ -(2 ^ 62) ≤ j then .ok (rng 0 j.toNat) s else .bad
  | _ => .bad
def endR2 (s : Sx) : Option (List D) → Res (List D)
  | some [.int i, .int j] => if -(2 ^ 62) ≤ i ∧ i < 2 ^ 62 ∧ -(2 ^ 62) ≤ j ∧ j < 2 ^ 62 ∧ j - i ≤ LIM then .ok (rng i (j - i).toNat) s else .bad
  | _ => .bad
def dRng1 (g : Sx → Res (List Pv)) : Sx → Res (List D) := fun s => (g s).bind fun ps s1 => endR1 s1 (gets s1 ps)
def dRng2 (g : Sx → Res (List Pv)) : Sx → Res (List D) := fun s => (g s).bind fun ps s1 => endR2 s1 (gets s1 ps)
/-- enumerate(xs) -/
def enumFrom (k : Nat) : List D → List D
  | [] => []
  | x :: xs => .tup [.int (k : Int), x] :: enumFrom (k + 1) xs
def endEn (s : Sx) : Option (List D) → Res (List D)
  | some [.lst xs] => .ok (enumFrom 0 xs) s
  | _ => .bad
section
variable {C : Cf} {Y : Fm} {W : WX} {σ : L2.St} {H F : Hp} {sa : Nat → Addr} {s s1 s2 : Sx} {X : Cx} {tg e : Expr} {es : List Expr} {f : Sx → Res Pv} {g : Sx → Res (List Pv)} {pos p : Pos} {n : Nat}
theorem itr_seq {ds : List D} {vs : List V} {J : It} {G : Hp → Prop} (hl : ds.length ≤ sizeLine) (h : DatL C F ds vs) (w : Walk J vs.length G (YAt vs)) (hG : ∀ H' F', Ext F F' → Ext F' H' → G H') : ItR0 C Y F ds J := by
  refine ⟨hl, G, YAt vs, by rw [h.length]; exact w, hG, fun i d σ H' F' sa s x H'' hd ex R y => ?_⟩
  obtain ⟨rfl, hx⟩ := y
  obtain ⟨v, h1, h2⟩ := h.get hd
  rw [hx] at h1
  cases h1
  exact ⟨F', R, Step.refl .., h2.mono ex⟩
theorem si_items (K : Cxt X C W n) (h : SE X C Y W e f) (tg : Expr) : SI X C Y W tg e (dItems f) := by
  have hp := pe_inv (se_fz h)
  refine pi_weak (pi_or (pi_list (tg := tg) hp) (pi_or (pi_tup (tg := tg) hp) (pi_str (tg := tg) hp))) fun σ H R ⟨F, sa, s, Rl, hq⟩ => ?_
  -- the value decides which
  unfold dItems at hq
  cases hf : dFz f s with
  | bad => rw [hf] at hq; exact hq.elim
  | ex c d s' => rw [hf] at hq; exact .inl ⟨F, sa, s, Rl, by rw [hf]; exact hq⟩
  | ok pv s1 =>
    rw [hf] at hq
    cases pv with
    | fr xs => exact hq.elim
    | pl i => exact hq.elim
    | d x =>
      simp only [Res.bind, endI] at hq
      cases x with
      | lst xs =>
        refine .inl ⟨F, sa, s, Rl, by
          rw [hf]
          intro v H1 F1 R1 S1 V1 sh
          have V1 : Dat C F1 (.lst xs) v := V1
          simp only [Dat] at V1
          obtain ⟨a, vs, rfl, h1, h2⟩ := V1
          have hs : SqL X.K H1 a vs := SqL.of (R1.sub _ _ h1)
          exact ⟨a, rfl, ⟨vs, hs⟩, hq _ H1 F1 R1 S1 (itr_seq (by rw [h2.length]; exact sh.1 a vs hs) h2 (walk_list (K := X.K) (a := a)) fun H' F' e1 e2 => SqL.of (e2 _ _ (e1 _ _ h1)))⟩⟩
      | tup xs =>
        refine .inr (.inl ⟨F, sa, s, Rl, by
          rw [hf]
          intro v H1 F1 R1 S1 V1 sh
          have V1 : Dat C F1 (.tup xs) v := V1
          simp only [Dat] at V1
          obtain ⟨a, vs, rfl, h1, h2⟩ := V1
          have hs : SqT X.K H1 a vs := by rw [K.K]; exact sqT_mono R1.sub h1
          exact ⟨a, rfl, ⟨vs, hs⟩, hq _ H1 F1 R1 S1 (itr_seq (by rw [h2.length]; exact sh.2 a vs hs) h2 (walk_tup (K := X.K) (a := a)) fun H' F' e1 e2 => by rw [K.K]; exact sqT_mono (e1.trans e2) h1)⟩⟩)
      | scr ns =>
        refine .inl ⟨F, sa, s, Rl, by
          rw [hf]
          intro v H1 F1 R1 S1 V1 sh
          have V1 : Dat C F1 (.scr ns) v := V1
          simp only [Dat] at V1
          obtain ⟨a, rfl, h1⟩ := V1
          have hs : SqL X.K H1 a (ns.map V.int) := by rw [K.K]; exact sqL_mono R1.sub h1
          exact ⟨a, rfl, ⟨_, hs⟩, hq _ H1 F1 R1 S1 (itr_seq (by rw [(ints_datL (C := C) (F := F1) ns).length]; exact sh.1 a _ hs) (ints_datL ns) (walk_list (K := X.K) (a := a)) fun H' F' e1 e2 => by rw [K.K]; exact sqL_mono (e1.trans e2) h1)⟩⟩
      | str z =>
        simp only [itemsOf] at hq
        by_cases hz : z.length ≤ LIM
        · simp only [if_pos hz] at hq
          refine .inr (.inr ⟨F, sa, s, Rl, by
            rw [hf]
            intro v H1 F1 R1 S1 V1 sh
            have V1 : Dat C F1 (.str z) v := V1
            simp only [Dat] at V1
            have hn : (z.cps.toList.map fun c => D.str ⟨#[c]⟩).length = z.cps.size := by simp
            refine ⟨z, V1, hq _ H1 F1 R1 S1 ⟨by rw [hn, ← lim_eq]; exact hz, _, _, by rw [hn]; exact walk_str, fun _ _ _ _ => True.intro, fun i d σ H' F' sa s x H'' hd ex R y => ?_⟩⟩
            obtain ⟨rfl, c, hc, rfl⟩ := y
            have e1 : z.cps.toList[i]? = some c := by rw [Array.getElem?_toList]; exact hc
            rw [List.getElem?_map, e1] at hd
            cases hd
            exact ⟨F', R, Step.refl .., str_dat⟩⟩)
        · simp only [if_neg hz] at hq
          exact hq.elim
      | non => exact hq.elim
      | bl b => exact hq.elim
      | int i => exact hq.elim
      | fn k => exact hq.elim
      | ty k => exact hq.elim
theorem rng_get {a : Int} {n i : Nat} {d : D} (h : (rng a n)[i]? = some d) : d = .int (a + (i : Int)) := by
  unfold rng at h
  rw [List.getElem?_map] at h
  cases hi : (List.range n)[i]? with
  | none => rw [hi] at h; cases h
  | some j =>
    rw [hi] at h
    cases h
    obtain ⟨h1, h2⟩ := List.getElem?_eq_some_iff.mp hi
    rw [List.getElem_range] at h2
    rw [h2]
theorem itr_rng {a : Int} {m : Nat} (hm : m ≤ sizeLine) : ItR0 C Y F (rng a m) (Itr a m) := by
  have hl : (rng a m).length = m := by simp [rng]
  refine ⟨by rw [hl]; exact hm, _, _, by rw [hl]; exact walk_range, fun _ _ _ _ => True.intro, fun i d σ H' F' sa s x H'' hd ex R y => ?_⟩
  obtain ⟨rfl, rfl⟩ := y
  rw [rng_get hd]
  exact ⟨F', R, Step.refl .., int_dat⟩
theorem si_rng1 (tg : Expr) (ha : SA X C Y W [e] g) (hm : X.mg "range" = none) (hg : Gl X "range" := by rfl) (hs : starEach [e] X.env = [(false, eval e X.env)] := by rfl) : SI X C Y W tg (.Call (.Name "range" p) [e] [] pos) (dRng1 g) :=
  pi_weak (pi_range1 hg hm ha.pa hs) fun σ H R ⟨F, sa, s, Rl, hq⟩ => ⟨F, sa, s, Rl, EndG.bind hq fun ps s1 vs H1 F1 e1 R1 S1 V1 h1 => by
    cases gp : gets s1 ps with
    | none => rw [gp] at h1; exact h1.elim
    | some xs =>
      rw [gp] at h1
      have c := gets_cr R1 V1 gp
      unfold endR1 at h1
      split at h1
      · rename_i j hj
        cases hj
        split at h1
        · rename_i hb
          obtain ⟨v, rfl, c1⟩ := crl1 c
          have hL : (LIM : Int) = 16777216 := rfl
          exact ⟨j, by rw [int_cr c1], hb.2, by omega, h1 _ H1 F1 R1 (Step.refl ..) (itr_rng (by rw [← lim_eq]; omega))⟩
        · exact h1.elim
      · exact h1.elim⟩
theorem si_rng2 {e2 : Expr} (tg : Expr) (ha : SA X C Y W [e, e2] g) (hm : X.mg "range" = none) (hg : Gl X "range" := by rfl) (hs : starEach [e, e2] X.env = [(false, eval e X.env), (false, eval e2 X.env)] := by rfl) (hs2 : starEach [e2] X.env = [(false, eval e2 X.env)] := by rfl) :
    SI X C Y W tg (.Call (.Name "range" p) [e, e2] [] pos) (dRng2 g) :=
  pi_weak (pi_range2 hg hm ha.pa hs hs2) fun σ H R ⟨F, sa, s, Rl, hq⟩ => ⟨F, sa, s, Rl, EndG.bind hq fun ps s1 vs H1 F1 e1 R1 S1 V1 h1 => by
    cases gp : gets s1 ps with
    | none => rw [gp] at h1; exact h1.elim
    | some xs =>
      rw [gp] at h1
      have c := gets_cr R1 V1 gp
      unfold endR2 at h1
      split at h1
      · rename_i i j hj
        cases hj
        split at h1
        · rename_i hb
          obtain ⟨v, u, rfl, c1, c2⟩ := crl2 c
          have hL : (LIM : Int) = 16777216 := rfl
          exact ⟨i, j, by rw [int_cr c1, int_cr c2], ⟨hb.1, hb.2.1, hb.2.2.1, hb.2.2.2.1⟩, h1 _ H1 F1 R1 (Step.refl ..) (itr_rng (by rw [← lim_eq]; omega))⟩
        · exact h1.elim
      · exact h1.elim⟩
theorem enum_get : ∀ {xs : List D} {k i : Nat} {d : D}, (enumFrom k xs)[i]? = some d → ∃ x, xs[i]? = some x ∧ d = .tup [.int ((k + i : Nat) : Int), x]
  | [], _, _, _, h => by simp [enumFrom] at h
  | x :: xs, k, 0, d, h => by
    simp only [enumFrom, List.getElem?_cons_zero, Option.some.injEq] at h
    exact ⟨x, rfl, by rw [← h]; rfl⟩
  | x :: xs, k, i + 1, d, h => by
    simp only [enumFrom, List.getElem?_cons_succ] at h
    obtain ⟨y, h1, h2⟩ := enum_get h
    exact ⟨y, by simpa using h1, by rw [h2]; congr 3; omega⟩
theorem enum_len : ∀ (k : Nat) (xs : List D), (enumFrom k xs).length = xs.length
  | _, [] => rfl
  | k, x :: xs => by simp [enumFrom, enum_len (k + 1) xs]
def dEnum (g : Sx → Res (List Pv)) : Sx → Res (List D) := fun s => (g s).bind fun ps s1 => match ps with
  | [.d (.lst xs)] => if xs.length ≤ LIM then .ok (enumFrom 0 xs) s1 else .bad
  | _ => .bad
theorem si_enum {elts : List Expr} {kk : Nat} {tpos : Pos} (ha : SA X C Y W [e] g) (hm : X.mg "enumerate" = none) (hg : Gl X "enumerate" := by rfl) (hs : starEach [e] X.env = [(false, eval e X.env)] := by rfl) :
    SI X C Y W (.Tuple elts kk tpos) (.Call (.Name "enumerate" p) [e] [] pos) (dEnum g) :=
  pi_weak (pi_enum hg hm ha.pa hs) fun σ H R ⟨F, sa, s, Rl, hq⟩ => ⟨F, sa, s, Rl, EndG.bind hq fun ps s1 vs H1 F1 e1 R1 S1 V1 h1 => by
    split at h1
    · rename_i xs
      split at h1
      · rename_i hz
        obtain ⟨v, r, rfl, h2, h3⟩ := V1
        have h3 : r = [] := h3
        subst h3
        have h2 : Dat C F1 (.lst xs) v := h2
        simp only [Dat] at h2
        obtain ⟨a, ws, rfl, g1, g2⟩ := h2
        refine ⟨a, ws, rfl, SqL.of (R1.sub _ _ g1), h1 _ H1 F1 R1 (Step.refl ..) ⟨by rw [enum_len, ← lim_eq]; exact hz, _, _, by rw [enum_len, g2.length]; exact walk_enum, fun H' F' x1 x2 => SqL.of (x2 _ _ (x1 _ _ g1)), fun i d σ H' F' sa s x H'' hd ex Rx y => ?_⟩⟩
        obtain ⟨T, y1, y2, rfl, hT, rfl, z1, z2⟩ := y
        obtain ⟨x, hx, rfl⟩ := enum_get hd
        cases z1
        obtain ⟨v, hv, dv⟩ := g2.get hx
        have z2 : ws[i]? = some y2 := z2
        rw [hv] at z2
        cases z2
        have dl : DatL C F' [.int ((0 + i : Nat) : Int), x] [.int (i : Nat), y2] := by
          simp only [DatL]
          exact ⟨_, _, rfl, by rw [Nat.zero_add]; exact int_dat, _, _, rfl, dv.mono ex, rfl⟩
        exact ⟨_, Rx.newF hT, Step.newF Rx hT, tup_dat (upd_same) (dl.mono (ext_new (Rx.fnone hT)))⟩
      · exact h1.elim
    · exact h1.elim⟩
end

/-! ### for -/
def stepL (k : Sx → Res Fl) : Res Fl → Res Fl
  | .ok .nx s => k s
  | .ok .ct s => k s
  | .ok .bk s => .ok .nx s
  | r => r
def forL (tgt : Tgt) (body : Sx → Res Fl) : List D → Sx → Res Fl
  | [], s => .ok .nx s
  | x :: xs, s => match tgt x s with
    | some s1 => stepL (forL tgt body xs) (body s1)
    | none => .bad
def dFor (src : Sx → Res (List D)) (tgt : Tgt) (body : Sx → Res Fl) : Sx → Res Fl := fun s => (src s).bind fun ds s1 => forL tgt body ds s1
section
variable {C : Cf} {Y : Fm} {W : WX} {σ : L2.St} {H F : Hp} {sa : Nat → Addr} {s s1 s2 : Sx} {X : Cx} {tg e : Expr} {pos p : Pos} {n : Nat} {src : Sx → Res (List D)} {tgt : Tgt} {body : Sx → Res Fl} {bd : List Stmt}
theorem ss_for (K : Cxt X C W n) (po : PassesOwn (model X.prog X.w) X.A X.env X.xe) (hi : SI X C Y W tg e src) (hg : SG X C Y tg tgt) (hb : SB X C Y W bd body) (hs : ∀ x, foldedSetIterable e X.env x = pure x := by intro _; rfl) : SS X C Y W (.For tg e bd [] pos) (dFor src tgt body) := by
  obtain ⟨g, p1, q1⟩ := hg.ex
  refine ps_weak (ps_for po K.calm hi p1 hb hs) fun Z σ H ⟨F, sa, s, R, h⟩ => ⟨F, sa, s, R, EndG.stmt h fun ds s1 J H1 F1 e1 R1 S1 V1 h1 => ?_⟩
  obtain ⟨hl, G, Yd, w, hG, hY⟩ := V1
  refine for_it w (fun i σ H => ∃ F sa s, Rel C Y σ H F sa s ∧ Ext F1 F ∧ EndS C Y W Z F (forL tgt body (ds.drop i) s)) ⟨F1, sa, s1, R1, Ext.refl _, by rw [List.drop_zero]; exact h1⟩ (fun i σ H hi ⟨F, sa, s, R, x, _⟩ => hG H F x R.sub) ?_ ?_
  · rintro i v σ' H' H'' hi ⟨F', sa', s', R', x, h2⟩ y
    obtain ⟨d, hd⟩ : ∃ d, ds[i]? = some d := ⟨ds[i], List.getElem?_eq_getElem hi⟩
    have hdr : ds.drop i = d :: ds.drop (i + 1) := by
      rw [List.drop_eq_getElem_cons hi]
      congr 1
      rw [List.getElem?_eq_getElem hi] at hd
      exact Option.some.inj hd
    rw [hdr] at h2
    simp only [forL] at h2
    obtain ⟨F2, R2, S2, D2⟩ := hY i d σ' H' F' sa' s' v H'' hd x R' y
    cases ht : tgt d s' with
    | none => rw [ht] at h2; exact h2.elim
    | some s2 =>
      rw [ht] at h2
      refine q1 d v σ' H'' F2 sa' s' s2 _ R2 D2 ht fun σ3 R3 => ⟨F2, sa', s2, R3, ?_⟩
      have h3 : EndS C Y W Z F2 (stepL (forL tgt body (ds.drop (i + 1))) (body s2)) := EndS.mono S2.ext h2
      revert h3
      cases body s2 with
      | bad => exact id
      | ex c d s' => exact id
      | ok fl s' =>
        cases fl with
        | nx => exact fun h σ4 H4 F4 sa4 R4 x4 => ⟨F4, sa4, s', R4, x.trans (S2.ext.trans x4), EndS.mono x4 h⟩
        | ct => exact fun h σ4 H4 F4 sa4 R4 x4 => ⟨F4, sa4, s', R4, x.trans (S2.ext.trans x4), EndS.mono x4 h⟩
        | bk => exact id
        | ret pv => exact id
  · rintro σ' H' ⟨F', sa', s', R', x, h2⟩
    rw [List.drop_length] at h2
    exact h2 σ' H' F' sa' R' (Ext.refl _)

/-! ### while -/
def stepW (k : Sx → Option (Res Fl)) : Res Fl → Option (Res Fl)
  | .ok .nx s => k s
  | .ok .ct s => k s
  | .ok .bk s => some (.ok .nx s)
  | r => some r
def whileN (t : Sx → Res Bool) (body : Sx → Res Fl) : Nat → Sx → Option (Res Fl)
  | 0, _ => none
  | n + 1, s => match t s with
    | .ok true s1 => stepW (whileN t body n) (body s1)
    | .ok false s1 => some (.ok .nx s1)
    | .ex c d s1 => some (.ex c d s1)
    | .bad => some .bad
open Classical in
noncomputable def dWhile (t : Sx → Res Bool) (body : Sx → Res Fl) : Sx → Res Fl := fun s => if h : ∃ n r, whileN t body n s = some r then h.choose_spec.choose else .bad
theorem whileN_mono {t : Sx → Res Bool} {body : Sx → Res Fl} : ∀ {n m : Nat} {s : Sx} {r : Res Fl}, whileN t body n s = some r → n ≤ m → whileN t body m s = some r
  | 0, _, _, _, h, _ => by cases h
  | n + 1, 0, _, _, _, hm => by omega
  | n + 1, m + 1, s, r, h, hm => by
    simp only [whileN] at h ⊢
    revert h
    cases t s with
    | bad => exact id
    | ex c d s' => exact id
    | ok b s1 =>
      cases b with
      | false => exact id
      | true =>
        simp only
        cases body s1 with
        | bad => exact id
        | ex c d s' => exact id
        | ok fl s' =>
          cases fl with
          | nx => exact fun h => whileN_mono h (by omega)
          | ct => exact fun h => whileN_mono h (by omega)
          | bk => exact id
          | ret pv => exact id
theorem dWhile_eq {t : Sx → Res Bool} {body : Sx → Res Fl} {n : Nat} {s : Sx} {r : Res Fl} (h : whileN t body n s = some r) : dWhile t body s = r := by
  have hx : ∃ n r, whileN t body n s = some r := ⟨n, r, h⟩
  unfold dWhile
  rw [dif_pos hx]
  have h2 := hx.choose_spec.choose_spec
  have a := whileN_mono h (Nat.le_max_left n hx.choose)
  have b := whileN_mono h2 (Nat.le_max_right n hx.choose)
  rw [a] at b
  exact (Option.some.inj b).symm
theorem ss_while {c : Expr} {t : Sx → Res Bool} (po : PassesOwn (model X.prog X.w) X.A X.env X.xe) (hc : ST X C Y W c t) (hb : SB X C Y W bd body) : SS X C Y W (.While c bd [] pos) (dWhile t body) := by
  refine ps_weak (ps_while po hc hb) fun Z σ H ⟨F, sa, s, R, h⟩ => ?_
  by_cases hx : ∃ n r, whileN t body n s = some r
  · obtain ⟨n, r, hr⟩ := hx
    rw [dWhile_eq hr] at h
    refine ⟨fun m σ H => ∃ F sa s r, Rel C Y σ H F sa s ∧ whileN t body m s = some r ∧ EndS C Y W Z F r, ⟨n, F, sa, s, r, R, hr, h⟩, ?_⟩
    rintro m σ H ⟨F, sa, s, r, R, hr, h⟩
    cases m with
    | zero => cases hr
    | succ m =>
      simp only [whileN] at hr
      refine ⟨F, sa, s, R, ?_⟩
      cases ht : t s with
      | bad =>
        rw [ht] at hr
        cases hr
        exact h
      | ex c d s' =>
        rw [ht] at hr
        cases hr
        exact fun cls dct H' F' R' S' x => h cls dct σ H' F' sa R' S'.ext x
      | ok b s1 =>
        intro b' H1 F1 R1 S1 V1
        have e : b' = b := V1
        subst e
        rw [ht] at hr
        cases b' with
        | false =>
          cases hr
          exact h σ H1 F1 sa R1 S1.ext
        | true =>
          simp only at hr
          refine ⟨fun σ' H' => ∃ F sa s r, Rel C Y σ' H' F sa s ∧ whileN t body m s = some r ∧ EndS C Y W Z F r, fun σ' H' q => ⟨m, Nat.lt_succ_self m, q⟩, F1, sa, s1, R1, ?_⟩
          have h2 := EndS.mono S1.ext h
          revert hr
          cases body s1 with
          | bad => intro hr; cases hr; exact h2
          | ex c d s' => intro hr; cases hr; exact h2
          | ok fl s' =>
            cases fl with
            | nx => exact fun hr σ4 H4 F4 sa4 R4 x4 => ⟨F4, sa4, s', r, R4, hr, EndS.mono x4 h2⟩
            | ct => exact fun hr σ4 H4 F4 sa4 R4 x4 => ⟨F4, sa4, s', r, R4, hr, EndS.mono x4 h2⟩
            | bk => intro hr; cases hr; exact h2
            | ret pv => intro hr; cases hr; exact h2
  · have e : dWhile t body s = .bad := by
      unfold dWhile
      rw [dif_neg hx]
    rw [e] at h
    exact h.elim
end
end Dn
end
section
set_option Elab.async false
set_option linter.all false
set_option maxRecDepth 100000
set_option maxHeartbeats 4000000
namespace Dn
open PySem PySem.Spec PyProof.Rows L2

/-! ### comprehensions -/
abbrev W0 : WX := fun _ _ _ _ => False
theorem Cxt.blk {X : Cx} {C : Cf} {W : WX} {n : Nat} (K : Cxt X C W n) (s : Shared) (H : Hp) (scope : Scope) (cenv : Env) (fp : List Addr) : Cxt (X.blk s H scope cenv fp) C W0 n := ⟨K.K, takes0, K.calm, K.nd, K.room⟩
def wipeL (sl : List Slot) : List Nat → List Slot
  | [] => sl
  | v :: vs => (wipeL sl vs).set v .un
def wipeS (vs : List Nat) (s : Sx) : Sx := ⟨wipeL s.sl vs, s.bo⟩
def restL (sl0 sl : List Slot) : List Nat → List Slot
  | [] => sl
  | v :: vs => (restL sl0 sl vs).set v (sl0.getD v .un)
def okW (sl : List Slot) : List Nat → Bool
  | [] => true
  | v :: vs => (match sl[v]? with
    | some .un => true
    | some (.dat _) => true
    | _ => false) && okW sl vs
def Res.calm {α : Type} : Res α → Res α
  | .ex _ _ _ => .bad
  | r => r
def consR (d : D) : Res (List D) → Res (List D)
  | .ok ds s => .ok (d :: ds) s
  | _ => .bad
def onD (k : D → Sx → Res (List D)) : Pv → Sx → Res (List D)
  | .d x, s => k x s
  | _, _ => .bad
def lcL (tgt : Tgt) (cond : Sx → Res Bool) (elt : Sx → Res Pv) (vs : List Nat) : List D → Sx → Res (List D)
  | [], s => .ok [] s
  | x :: xs, s => match tgt x s with
    | some s1 => (cond s1).calm.bind fun b s2 => match b with
      | true => (dFz elt s2).calm.bind (onD fun d s3 => consR d (lcL tgt cond elt vs xs (wipeS vs s3)))
      | false => lcL tgt cond elt vs xs (wipeS vs s2)
    | none => .bad
def endLc (sl0 : List Slot) (vs : List Nat) : Res (List D) → Res Pv
  | .ok xs s => .ok (.fr xs) ⟨restL sl0 s.sl vs, s.bo⟩
  | _ => .bad
def dLc (src : Sx → Res (List D)) (tgt : Tgt) (cond : Sx → Res Bool) (elt : Sx → Res Pv) (vs : List Nat) : Sx → Res Pv := fun s => (src s).bind fun ds s1 =>
  if okW s1.sl vs then endLc s1.sl vs (lcL tgt cond elt vs ds (wipeS vs s1)) else .bad
def dTrue : Sx → Res Bool := fun s => .ok true s

section
variable {C : Cf} {Y : Fm} {W : WX} {σ : L2.St} {H F H1 F1 : Hp} {sa : Nat → Addr} {s s1 s2 : Sx} {X : Cx} {tg e elt : Expr} {pos p : Pos} {n : Nat} {src : Sx → Res (List D)} {tgt : Tgt} {cond : Sx → Res Bool} {fe : Sx → Res Pv} {vs : List Nat}
theorem wipeL_get {sl : List Slot} {i : Nat} {y : Slot} : ∀ {vs : List Nat}, (wipeL sl vs)[i]? = some y → y ≠ .un → sl[i]? = some y ∧ i ∉ vs
  | [], h, _ => ⟨h, by simp⟩
  | v :: vs, h, hy => by
    unfold wipeL at h
    by_cases hi : v = i
    · subst hi
      by_cases hv : v < (wipeL sl vs).length
      · rw [List.getElem?_set_self hv] at h
        exact absurd (Option.some.inj h).symm hy
      · rw [List.getElem?_eq_none (by simpa using hv)] at h
        cases h
    · rw [List.getElem?_set_ne hi] at h
      obtain ⟨h1, h2⟩ := wipeL_get h hy
      exact ⟨h1, by simp only [List.mem_cons, not_or]; exact ⟨fun e => hi e.symm, h2⟩⟩
theorem wipeL_len (sl : List Slot) : ∀ vs : List Nat, (wipeL sl vs).length = sl.length
  | [] => rfl
  | v :: vs => by unfold wipeL; rw [List.length_set, wipeL_len sl vs]
theorem wipe_out {σ : L2.St} {i : Nat} : ∀ {vs : List Nat}, i ∉ vs → (wipe σ vs)[i]? = σ[i]?
  | [], _ => rfl
  | v :: vs, h => by
    simp only [List.mem_cons, not_or] at h
    unfold wipe
    rw [List.getElem?_set_ne (Ne.symm h.1), wipe_out h.2]
theorem wipe_in {σ : L2.St} {i : Nat} : ∀ {vs : List Nat}, i ∈ vs → (wipe σ vs)[i]? = if i < σ.length then some none else none
  | v :: vs, h => by
    unfold wipe
    by_cases hi : v = i
    · subst hi
      by_cases hv : v < σ.length
      · rw [if_pos hv, List.getElem?_set_self (by rw [wipe_length]; exact hv)]
      · rw [if_neg hv, List.getElem?_eq_none (by rw [List.length_set, wipe_length]; omega)]
    · rw [List.getElem?_set_ne hi]
      exact wipe_in ((List.mem_cons.mp h).resolve_left fun z => hi z.symm)
theorem wipe_wipe (σ : L2.St) (vs : List Nat) : wipe (wipe σ vs) vs = wipe σ vs := by
  apply List.ext_getElem?
  intro i
  by_cases h : i ∈ vs
  · rw [wipe_in h, wipe_in h, wipe_length]
  · rw [wipe_out h]
theorem wipe_set (σ : L2.St) (vs : List Nat) {i : Nat} (x : Option V) (h : i ∈ vs) : wipe (σ.set i x) vs = wipe σ vs := by
  apply List.ext_getElem?
  intro j
  by_cases hj : j ∈ vs
  · rw [wipe_in hj, wipe_in hj, List.length_set]
  · rw [wipe_out hj, wipe_out hj, List.getElem?_set_ne (fun e => hj (by rw [← e]; exact h))]
theorem restL_len (sl0 sl : List Slot) : ∀ vs : List Nat, (restL sl0 sl vs).length = sl.length
  | [] => rfl
  | v :: vs => by unfold restL; rw [List.length_set, restL_len sl0 sl vs]
theorem restL_get {sl0 sl : List Slot} {i : Nat} {y : Slot} : ∀ {vs : List Nat}, (restL sl0 sl vs)[i]? = some y → (i ∈ vs ∧ y = sl0.getD i .un) ∨ (i ∉ vs ∧ sl[i]? = some y)
  | [], h => .inr ⟨by simp, h⟩
  | v :: vs, h => by
    unfold restL at h
    by_cases hi : v = i
    · subst hi
      by_cases hv : v < (restL sl0 sl vs).length
      · rw [List.getElem?_set_self hv] at h
        exact .inl ⟨List.mem_cons_self, (Option.some.inj h).symm⟩
      · rw [List.getElem?_eq_none (by simpa using hv)] at h
        cases h
    · rw [List.getElem?_set_ne hi] at h
      rcases restL_get h with ⟨h1, h2⟩ | ⟨h1, h2⟩
      · exact .inl ⟨List.mem_cons_of_mem _ h1, h2⟩
      · exact .inr ⟨by simp only [List.mem_cons, not_or]; exact ⟨fun e => hi e.symm, h1⟩, h2⟩
theorem Rel.wipe (R : Rel C Y σ H F sa s) (vs : List Nat) : Rel C Y (L2.wipe σ vs) H F sa (wipeS vs s) := by
  refine ⟨by rw [wipe_length]; show _ = (wipeL s.sl vs).length; rw [wipeL_len]; exact R.len, R.sub, fun i d h => ?_, fun i xs h => ?_, fun i j xs ys h1 h2 => ?_, fun i k h => ?_, R.bol, R.bos, R.bnd, R.bH, R.fr0, R.ext0⟩
  · obtain ⟨h1, h2⟩ := wipeL_get h (by simp)
    rw [wipe_out h2]
    exact R.dat i d h1
  · obtain ⟨h1, h2⟩ := wipeL_get h (by simp)
    rw [wipe_out h2]
    exact R.own i xs h1
  · exact R.inj i j xs ys (wipeL_get h1 (by simp)).1 (wipeL_get h2 (by simp)).1
  · obtain ⟨h1, h2⟩ := wipeL_get h (by simp)
    rw [wipe_out h2]
    exact R.bor i k h1
theorem okW_at {sl : List Slot} : ∀ {vs : List Nat} {i : Nat}, okW sl vs = true → i ∈ vs → sl[i]? = some .un ∨ ∃ d, sl[i]? = some (.dat d)
  | v :: vs, i, h, hi => by
    simp only [okW, Bool.and_eq_true] at h
    rcases List.mem_cons.mp hi with rfl | hi
    · have h1 := h.1
      split at h1
      · rename_i e; exact .inl e
      · rename_i d e; exact .inr ⟨d, e⟩
      · cases h1
    · exact okW_at h.2 hi
/-- behind a comprehension the slots are as they were, lists may have changed -/
theorem Rel.rest (R1 : Rel C Y σ H1 F1 sa s1) (ok : okW s1.sl vs = true) (R : Rel C Y (L2.wipe σ vs) H F sa s) (S : Step Y sa s1 s H1 F1 H F) : Rel C Y σ H F sa ⟨restL s1.sl s.sl vs, s.bo⟩ ∧ Step Y sa s1 ⟨restL s1.sl s.sl vs, s.bo⟩ H1 F1 H F := by
  have inn : ∀ {i : Nat} {y : Slot}, (restL s1.sl s.sl vs)[i]? = some y → (i ∈ vs ∧ (y = .un ∨ ∃ d, y = .dat d ∧ s1.sl[i]? = some (.dat d))) ∨ (i ∉ vs ∧ s.sl[i]? = some y) := fun {i y} h => by
    rcases restL_get h with ⟨h1, h2⟩ | h
    · rcases okW_at ok h1 with e | ⟨d, e⟩
      · exact .inl ⟨h1, .inl (by rw [h2, List.getD_eq_getElem?_getD, e]; rfl)⟩
      · exact .inl ⟨h1, .inr ⟨d, by rw [h2, List.getD_eq_getElem?_getD, e]; rfl, e⟩⟩
    · exact .inr h
  have ow : ∀ {i : Nat} {xs : List D}, (restL s1.sl s.sl vs)[i]? = some (.own xs) → i ∉ vs ∧ s.sl[i]? = some (.own xs) := fun {i xs} h => by
    rcases inn h with ⟨_, e | ⟨d, e, _⟩⟩ | h
    · cases e
    · cases e
    · exact h
  refine ⟨⟨by show _ = (restL s1.sl s.sl vs).length; rw [restL_len, ← R.len, wipe_length], R.sub, fun i d h => ?_, fun i xs h => ?_, fun i j xs ys h1 h2 => R.inj i j xs ys (ow h1).2 (ow h2).2, fun i k h => ?_, R.bol, R.bos, R.bnd, R.bH, R.fr0, R.ext0⟩, S.ext, S.fr, fun i xs h => S.own i xs (ow h).2, S.dom⟩
  · rcases inn h with ⟨_, e | ⟨d', e, h1⟩⟩ | ⟨h1, h2⟩
    · cases e
    · cases e
      obtain ⟨v, g1, g2⟩ := R1.dat i d h1
      exact ⟨v, g1, g2.mono S.ext⟩
    · obtain ⟨v, g1, g2⟩ := R.dat i d h2
      rw [wipe_out h1] at g1
      exact ⟨v, g1, g2⟩
  · obtain ⟨h1, h2⟩ := ow h
    obtain ⟨g1, g2⟩ := R.own i xs h2
    rw [wipe_out h1] at g1
    exact ⟨g1, g2⟩
  · rcases inn h with ⟨_, e | ⟨d', e, _⟩⟩ | ⟨h1, h2⟩
    · cases e
    · cases e
    · obtain ⟨q, g1, g2⟩ := R.bor i k h2
      rw [wipe_out h1] at g2
      exact ⟨q, g1, g2⟩
/-- an object that is neither frozen nor one of ours is written -/
theorem Rel.wr (R : Rel C Y σ H F sa s) {D0 : Addr} {o : HO} (e3 : F D0 = none) (e5 : Y.H0 D0 = none) (e6 : ¬ Mt Y sa s D0) : Rel C Y σ (upd H D0 o) F sa s := by
  refine ⟨R.len, fun b u e => ?_, R.dat, fun i xs h => ?_, R.inj, R.bor, R.bol, fun k q xs h1 h2 => ?_, R.bnd, R.bH, fun b h1 h2 => ?_, R.ext0⟩
  · by_cases hb : b = D0
    · rw [hb, e3] at e
      cases e
    · rw [upd_ne hb]
      exact R.sub b u e
  · obtain ⟨h1, h2, ⟨vs, h3, h4⟩, h5⟩ := R.own i xs h
    have ne : sa i ≠ D0 := fun z => e6 (.inl ⟨i, xs, h, z⟩)
    exact ⟨h1, h2, ⟨vs, by rw [upd_ne ne]; exact h3, h4⟩, h5⟩
  · obtain ⟨h3, vs, h4, h5⟩ := R.bos k q xs h1 h2
    have ne : q ≠ D0 := fun z => e6 (.inr (by rw [← z]; exact List.mem_of_getElem? h1))
    exact ⟨h3, vs, by rw [upd_ne ne]; exact h4, h5⟩
  · obtain ⟨z1, z2⟩ := R.fr0 b h1 h2
    have ne : b ≠ D0 := fun z => h1 (by rw [z]; exact e5)
    rw [upd_ne ne]
    exact ⟨z1, z2⟩
/-- sets of slots by a target keep what is ours -/
structure GOwn (tgt : Tgt) : Prop where
  own : ∀ (d : D) (s s1 : Sx), tgt d s = some s1 → ∀ (i : Nat) (xs : List D), s1.sl[i]? = some (.own xs) → ∃ ys, s.sl[i]? = some (.own ys)
theorem gown_name (i : Nat) : GOwn (gN i) := ⟨fun d s s1 h j xs q => by
  unfold gN at h
  split at h
  · rename_i hi
    cases h
    by_cases hj : j = i
    · subst hj
      have q : (s.sl.set j (.dat d))[j]? = some (.own xs) := q
      rw [List.getElem?_set_self hi] at q
      cases q
    · have q : (s.sl.set i (.dat d))[j]? = some (.own xs) := q
      rw [List.getElem?_set_ne (Ne.symm hj)] at q
      exact ⟨xs, q⟩
  · cases h⟩
structure GsOwn (ks : Tgts) : Prop where
  own : ∀ (ds : List D) (s s1 : Sx), ks ds s = some s1 → ∀ (i : Nat) (xs : List D), s1.sl[i]? = some (.own xs) → ∃ ys, s.sl[i]? = some (.own ys)
theorem gsown_nil : GsOwn gsN := ⟨fun ds s s1 h j xs q => by
  cases ds with
  | nil => cases h; exact ⟨xs, q⟩
  | cons a b => cases h⟩
theorem gsown_cons {k : Tgt} {ks : Tgts} (h1 : GOwn k) (h2 : GsOwn ks) : GsOwn (gsC k ks) := ⟨fun ds s s1 h j xs q => by
  cases ds with
  | nil => cases h
  | cons d r =>
    simp only [gsC] at h
    cases e : k d s with
    | none => rw [e] at h; cases h
    | some s2 =>
      rw [e] at h
      obtain ⟨ys, q⟩ := h2.own r s2 s1 h j xs q
      exact h1.own d s s2 e j ys q⟩
theorem gown_tup {m : Nat} {ks : Tgts} (h : GsOwn ks) : GOwn (gT m ks) := ⟨fun d s s1 e j xs q => by
  unfold gT at e
  split at e
  · split at e
    · exact h.own _ s s1 e j xs q
    · cases e
  · cases e⟩
theorem Rel.nmt' (R : Rel C Y σ H F sa s) (S : Step Y sa s s1 H F H1 F1) {D0 : Addr} (hD : H D0 = none) : ¬ Mt Y sa s1 D0 := fun z => R.nmt hD (S.mt z)
abbrev SCs (X : Cx) (C : Cf) (Y : Fm) (ifs : List Expr) (f : Sx → Res Bool) : Prop := PTs X ifs (tT C Y W0 f)
theorem pts_weak {X : Cx} {ifs : List Expr} {t t' : TT} (h : PTs X ifs t) (w : ∀ σ H Q, t' σ H Q → t σ H Q) : PTs X ifs t' := ⟨fun pins s σ H Q I q => h.run pins s σ H Q I (w σ H Q q)⟩
theorem sc_nil : SCs X C Y [] dTrue := pts_weak pts_nil fun σ H Q ⟨F, sa, s, R, h⟩ => h true H F R (Step.refl ..) rfl
theorem sc_one {c : Expr} (h : ST X C Y W0 c cond) : SCs X C Y [c] cond := pts_one h
theorem lc_core2 (hi : SI X C Y W tg e src) {g : TG}
    (gq : ∀ (d : D) (v : V) (σ : L2.St) (H F : Hp) (sa : Nat → Addr) (s s1 : Sx) (Q : L2.St → Hp → Prop), Rel C Y σ H F sa s → Dat C F d v → tgt d s = some s1 → (∀ σ', wipe σ' vs = wipe σ vs → Rel C Y σ' H F sa s1 → Q σ' H) → g v σ H Q) (go : GOwn tgt) :
    ∀ σ H Q, tE C Y W (dLc src tgt cond fe vs) σ H Q → tLc (tG C Y W (ItR C Y) src) g (tT C Y W0 cond) (tE C Y W0 (dFz fe)) vs σ H Q := fun σ H Q ⟨F, sa, s, R, hq⟩ => ⟨F, sa, s, R, EndG.bind hq fun ds s1 J H1 F1 e1 R1 S1 V1 h1 => by
  intro D0 hD
  obtain ⟨hl, G, Yd, w, hG, hY⟩ := V1
  by_cases ok : okW s1.sl vs = true
  · rw [if_pos ok] at h1
    have fD : F1 D0 = none := R1.fnone hD
    have zD : Y.H0 D0 = none := R1.h0none hD
    refine lc_it w (fun i H => ∃ F s acc ws, Rel C Y (wipe σ vs) H F sa s ∧ H D0 = some (.lst ws) ∧ DatL C F acc ws ∧ F D0 = none ∧ Step Y sa s1 s H1 F1 H F ∧ acc.length ≤ i ∧
      ∃ rest s', lcL tgt cond fe vs (ds.drop i) s = .ok rest s' ∧ EndG C Y W (PvR C Y) sa s1 σ H1 F1 Q (.ok (.fr (acc ++ rest)) ⟨restL s1.sl s'.sl vs, s'.bo⟩)) ?_ (fun i H hi ⟨F, s, acc, ws, R, _, _, _, S, _⟩ => hG H F S.ext R.sub) ?_ ?_
    · cases hr : lcL tgt cond fe vs ds (wipeS vs s1) with
      | bad => rw [hr] at h1; exact h1.elim
      | ex c d s' => rw [hr] at h1; exact h1.elim
      | ok rest s' =>
        rw [hr] at h1
        have Rw := (R1.wipe vs).wr (o := .lst []) fD zD (fun z => R1.nmt hD (by
          rcases z with ⟨i, xs, z1, z2⟩ | z
          · exact .inl ⟨i, xs, (wipeL_get z1 (by simp)).1, z2⟩
          · exact .inr z))
        refine ⟨F1, wipeS vs s1, [], [], Rw, upd_same, by simp [DatL], fD, ⟨Ext.refl _, fun b h2 _ => ?_, fun i xs z => ⟨xs, (wipeL_get z (by simp)).1⟩, upd_dom⟩, Nat.le_refl _, rest, s', by rw [List.drop_zero]; exact hr, h1⟩
        have ne : b ≠ D0 := fun z => h2 (by rw [z]; exact hD)
        rw [upd_ne ne]
        exact ⟨rfl, rfl⟩
    · rintro i x H' H'' hi ⟨F', s', acc, ws, R', hw, hd, hf, S', hal, rest, s3, hr, hq2⟩ y
      obtain ⟨d, hdi⟩ : ∃ d, ds[i]? = some d := ⟨ds[i], List.getElem?_eq_getElem hi⟩
      have hdr : ds.drop i = d :: ds.drop (i + 1) := by
        rw [List.drop_eq_getElem_cons hi]
        congr 1
        rw [List.getElem?_eq_getElem hi] at hdi
        exact Option.some.inj hdi
      rw [hdr] at hr
      simp only [lcL] at hr
      obtain ⟨F2, R2, S2, D2⟩ := hY i d (wipe σ vs) H' F' sa s' x H'' hdi S'.ext R' y
      have nD' : ¬ Mt Y sa s' D0 := fun z => R1.nmt hD (S'.mt z)
      cases ht : tgt d s' with
      | none => rw [ht] at hr; cases hr
      | some s4 =>
        rw [ht] at hr
        simp only at hr
        refine gq d x (wipe σ vs) H'' F2 sa s' s4 _ R2 D2 ht fun σ2 hwσ R4 => ⟨?_, F2, sa, s4, R4, ?_⟩
        · rw [hwσ, wipe_wipe]
        have S4 : Step Y sa s1 s4 H1 F1 H'' F2 := by
          have q := S'.trans S2
          exact ⟨q.ext, q.fr, fun j xs z => by
            obtain ⟨ys, z⟩ := go.own d s' s4 ht j xs z
            exact q.own j ys z, q.dom⟩
        have hw2 : H'' D0 = some (.lst ws) ∧ F2 D0 = none := by
          obtain ⟨a, b⟩ := S2.fr D0 (by rw [hw]; simp) nD'
          exact ⟨a.trans hw, b.trans hf⟩
        have hd2 := hd.mono S2.ext
        cases hc : cond s4 with
        | bad => rw [hc] at hr; cases hr
        | ex c d s' => rw [hc] at hr; cases hr
        | ok b s5 =>
          rw [hc] at hr
          simp only [Res.calm, Res.bind] at hr
          intro b' H5 F5 R5 S5 V5
          have eb : b' = b := V5
          subst eb
          have nD4 : ¬ Mt Y sa s4 D0 := fun z => R1.nmt hD (S4.mt z)
          have S5' := S4.trans S5
          have hw5 : H5 D0 = some (.lst ws) ∧ F5 D0 = none := by
            obtain ⟨a, b⟩ := S5.fr D0 (by rw [hw2.1]; simp) nD4
            exact ⟨a.trans hw2.1, b.trans hw2.2⟩
          have hd5 := hd2.mono S5.ext
          cases b' with
          | false =>
            simp only at hr
            rw [if_neg Bool.false_ne_true]
            refine ⟨F5, wipeS vs s5, acc, ws, by have q := R5.wipe vs; rw [hwσ, wipe_wipe] at q; exact q, hw5.1, hd5, hw5.2, ⟨S5'.ext, S5'.fr, fun j xs z => S5'.own j xs (wipeL_get z (by simp)).1, S5'.dom⟩, by omega, rest, s3, hr, hq2⟩
          | true =>
            simp only at hr
            rw [if_pos rfl]
            refine ⟨F5, sa, s5, R5, ?_⟩
            cases hfe : dFz fe s5 with
            | bad => rw [hfe] at hr; cases hr
            | ex c d s' => rw [hfe] at hr; cases hr
            | ok pv s6 =>
              rw [hfe] at hr
              simp only [Res.calm, Res.bind] at hr
              intro v6 H6 F6 R6 S6 V6
              cases pv with
              | fr xs => cases hr
              | pl j => cases hr
              | d x6 =>
                simp only [onD] at hr
                have V6 : Dat C F6 x6 v6 := V6
                have nD5 : ¬ Mt Y sa s5 D0 := fun z => R1.nmt hD (S5'.mt z)
                have S6' := S5'.trans S6
                have hw6 : H6 D0 = some (.lst ws) ∧ F6 D0 = none := by
                  obtain ⟨a, b⟩ := S6.fr D0 (by rw [hw5.1]; simp) nD5
                  exact ⟨a.trans hw5.1, b.trans hw5.2⟩
                have hd6 := hd5.mono S6.ext
                have nD6 : ¬ Mt Y sa s6 D0 := fun z => R1.nmt hD (S6'.mt z)
                have l6 := hd6.length
                cases hrest : lcL tgt cond fe vs (ds.drop (i + 1)) (wipeS vs s6) with
                | bad => rw [hrest] at hr; cases hr
                | ex c d s' => rw [hrest] at hr; cases hr
                | ok rest' s7 =>
                  rw [hrest] at hr
                  cases hr
                  refine ⟨ws, hw6.1, by omega, F6, wipeS vs s6, acc ++ [x6], ws ++ [v6], ?_, upd_same, hd6.append (by simp only [DatL]; exact ⟨_, _, rfl, V6, rfl⟩), hw6.2, ?_, by simp only [List.length_append, List.length_cons, List.length_nil]; omega, rest', s3, hrest, by rw [List.append_assoc]; exact hq2⟩
                  · have q := R6.wipe vs
                    rw [hwσ, wipe_wipe] at q
                    exact q.wr hw6.2 zD fun z => nD6 (by
                      rcases z with ⟨i, xs, z1, z2⟩ | z
                      · exact .inl ⟨i, xs, (wipeL_get z1 (by simp)).1, z2⟩
                      · exact .inr z)
                  · refine ⟨S6'.ext, fun b h2 h3 => ?_, fun j xs z => S6'.own j xs (wipeL_get z (by simp)).1, fun b hb => upd_dom b (S6'.dom b hb)⟩
                    have ne : b ≠ D0 := fun z => h2 (by rw [z]; exact hD)
                    rw [upd_ne ne]
                    exact S6'.fr b h2 h3
    · rintro H' ⟨F', s', acc, ws, R', hw, hd, hf, S', _, rest, s3, hr, hq2⟩
      rw [List.drop_length] at hr
      simp only [lcL] at hr
      cases hr
      rw [List.append_nil] at hq2
      obtain ⟨R8, S8⟩ := R1.rest ok R' S'
      exact hq2 _ H' F' R8 S8 ⟨D0, ws, rfl, hw, hf, hd, zD, fun z => R1.nmt hD (S8.mt z), hD⟩
  · rw [if_neg ok] at h1
    exact h1.elim⟩
/-- a target within a comprehension: its slots are among vs -/
structure SGc (X : Cx) (C : Cf) (Y : Fm) (vs : List Nat) (tg : Expr) (g : TG) (k : Tgt) : Prop where
  pg : PG X tg g
  go : ∀ (d : D) (v : V) (σ : L2.St) (H F : Hp) (sa : Nat → Addr) (s s1 : Sx) (Q : L2.St → Hp → Prop), Rel C Y σ H F sa s → Dat C F d v → k d s = some s1 → (∀ σ', wipe σ' vs = wipe σ vs → Rel C Y σ' H F sa s1 → Q σ' H) → g v σ H Q
structure SGsc (X : Cx) (C : Cf) (Y : Fm) (vs : List Nat) (tg : List Expr) (g : TGs) (k : Tgts) : Prop where
  pg : PGs X tg g
  go : ∀ (ds : List D) (ws : List V) (σ : L2.St) (H F : Hp) (sa : Nat → Addr) (s s1 : Sx) (Q : L2.St → Hp → Prop), Rel C Y σ H F sa s → DatL C F ds ws → k ds s = some s1 → (∀ σ', wipe σ' vs = wipe σ vs → Rel C Y σ' H F sa s1 → Q σ' H) → g ws σ H Q
theorem sgc_name (K : X.N.Nodup) (i : Nat) {x : Str} (hv : i ∈ vs := by decide) (hi : X.N[i]? = some x := by rfl) (hx : Loc X.env.scope x := by first | exact Or.inl rfl | exact Or.inr rfl) (hf : X.fn x = true ∨ X.env.scope.names.lookup x = some .local := by first | exact .inl rfl | exact .inr rfl | assumption) : SGc X C Y vs (.Name x pos) (gName i) (gN i) :=
  ⟨pg_name K hi hx hf, fun d v σ H F sa s s1 Q R V1 e q => q _ (wipe_set σ vs _ hv) (R.setD V1 e)⟩
theorem sgsc_nil : SGsc X C Y vs [] gNil gsN := ⟨pgs_nil, fun ds ws σ H F sa s s1 Q R V1 e q => by
  cases ds with
  | nil =>
    cases e
    exact ⟨V1.nil', q σ rfl R⟩
  | cons a b => cases e⟩
theorem sgsc_cons {es : List Expr} {k : Tgt} {ks : Tgts} {g : TG} {gs : TGs} (h1 : SGc X C Y vs e g k) (h2 : SGsc X C Y vs es gs ks) (hs : (assignEach (e :: es) X.env).map (·.2) = assign e X.env :: (assignEach es X.env).map (·.2) := by rfl) : SGsc X C Y vs (e :: es) (gCons g gs) (gsC k ks) := by
  refine ⟨pgs_cons h1.pg h2.pg hs, fun ds ws σ H F sa s s1 Q R V1 e q => ?_⟩
  cases ds with
  | nil => cases e
  | cons d r =>
    simp only [gsC] at e
    cases e1 : k d s with
    | none => rw [e1] at e; cases e
    | some s2 =>
      rw [e1] at e
      simp only [DatL] at V1
      obtain ⟨v, vr, rfl, h3, h4⟩ := V1
      exact ⟨v, vr, rfl, h1.go d v σ H F sa s s2 _ R h3 e1 fun σ' w1 R' => h2.go r vr σ' H F sa s2 s1 Q R' h4 e fun σ2 w2 => q σ2 (w2.trans w1)⟩
theorem sgc_tup (m : Nat) (K : X.K = C.K) (hc : X.calm = true) {es : List Expr} {j : Nat} {ks : Tgts} {gs : TGs} (h : SGsc X C Y vs es gs ks) (hn : (assignEach es X.env).length = m := by rfl) (hst : (assignEach es X.env).findIdx? (·.1) = none := by rfl) : SGc X C Y vs (.Tuple es j pos) (gTup C.K m gs) (gT m ks) := by
  refine ⟨by rw [← K]; exact pg_tup hc h.pg hn hst, fun d v σ H F sa s s1 Q R V1 e q => ?_⟩
  unfold gT at e
  split at e
  · rename_i ds
    split at e
    · rename_i hl
      simp only [Dat] at V1
      obtain ⟨a, vs, rfl, h1, h2⟩ := V1
      exact ⟨a, vs, rfl, sqT_mono R.sub h1, by rw [← h2.length]; exact hl, h.go ds vs σ H F sa s s1 Q R h2 e q⟩
    · cases e
  · cases e
theorem se_lc {ifs : List Expr} {scope : Scope} {own : List (Str × Nat)} {g : TG} (vs : List Nat) (K : Cxt X C W n) (hi : SI X C Y W tg e src) (ok : BlkOk X.N X.env.scope scope own)
    (hg : ∀ (s : Shared) (H : Hp) (B : Addr) (cl : List (Str × Addr)) (fp : List Addr), SGc (X.blk s H scope (compEnvC scope cl B X.env) fp) C Y vs tg g tgt) (go : GOwn tgt)
    (ht : ∀ (s : Shared) (H : Hp) (B : Addr) (cl : List (Str × Addr)) (fp : List Addr), SCs (X.blk s H scope (compEnvC scope cl B X.env) fp) C Y ifs cond)
    (he : ∀ (s : Shared) (H : Hp) (B : Addr) (cl : List (Str × Addr)) (fp : List Addr), SE (X.blk s H scope (compEnvC scope cl B X.env) fp) C Y W0 elt fe) (hs : ∀ x, foldedSetIterable e X.env x = pure x := by intro _; rfl) (hv : own.map (·.2) = vs := by rfl) :
    SE X C Y W (.ListComp elt [⟨tg, e, ifs, 0⟩] scope pos) (dLc src tgt cond fe vs) := by
  have h := pe_lc (X := X) (tg := tg) (g := g) K.calm K.nd hi ok (fun s H B cl fp => (hg s H B cl fp).pg) ht (fun s H B cl fp => se_fz (he s H B cl fp)) hs (pos := pos)
  rw [hv] at h
  refine pe_weak h fun σ H Q q => lc_core2 hi ?_ go σ H Q q
  exact fun d v σ H F sa s s1 Q R V1 e q => (hg X.s_0 H 0 [] []).go d v σ H F sa s s1 Q R V1 e q
/-- name = [..] -/
theorem ss_setlc {ifs : List Expr} {scope : Scope} {own : List (Str × Nat)} {g : TG} (i : Nat) {y : Str} {py spos : Pos} (vs : List Nat) (K : Cxt X C W n) (hi : SI X C Y W tg e src) (ok : BlkOk X.N X.env.scope scope own)
    (hg : ∀ (s : Shared) (H : Hp) (B : Addr) (cl : List (Str × Addr)) (fp : List Addr), SGc (X.blk s H scope (compEnvC scope cl B X.env) fp) C Y vs tg g tgt) (go : GOwn tgt)
    (ht : ∀ (s : Shared) (H : Hp) (B : Addr) (cl : List (Str × Addr)) (fp : List Addr), SCs (X.blk s H scope (compEnvC scope cl B X.env) fp) C Y ifs cond)
    (he : ∀ (s : Shared) (H : Hp) (B : Addr) (cl : List (Str × Addr)) (fp : List Addr), SE (X.blk s H scope (compEnvC scope cl B X.env) fp) C Y W0 elt fe) (hy : X.N[i]? = some y := by rfl) (hyl : X.env.scope.names.lookup y = some .local := by rfl)
    (hsw : swapsWith (.ListComp elt [⟨tg, e, ifs, 0⟩] scope pos) (some (.Name y py)) spos.line X.env = pure true := by exact sw_true rfl rfl rfl (by decide +kernel)) (hs : ∀ x, foldedSetIterable e X.env x = pure x := by intro _; rfl) (hv : own.map (·.2) = vs := by rfl) :
    SS X C Y W (.Assign [.Name y py] (.ListComp elt [⟨tg, e, ifs, 0⟩] scope pos) spos) (dSet i (dLc src tgt cond fe vs)) := by
  have h := ps_setLc (X := X) (tg := tg) (g := g) (i := i) (py := py) (spos := spos) (pos := pos) K.calm K.nd hy hyl hsw hi ok (fun s H B cl fp => (hg s H B cl fp).pg) ht (fun s H B cl fp => se_fz (he s H B cl fp)) hs
  rw [hv] at h
  refine ps_weak h fun Z σ H q => ?_
  have q2 := set_core (i := i) Z σ H q
  exact lc_core2 hi (fun d v σ H F sa s s1 Q R V1 e q => (hg X.s_0 H 0 [] []).go d v σ H F sa s s1 Q R V1 e q) go σ H _ q2
end
end Dn
end
section
set_option Elab.async false
set_option linter.all false
set_option maxRecDepth 100000
set_option maxHeartbeats 4000000
namespace Dn
open PySem PySem.Spec PyProof.Rows L2

/-! ### methods of texts -/
def endM (op : Str → D → Option Pv) (a : Str) (s : Sx) : Option D → Res Pv
  | some y => match op a y with
    | some pv => .ok pv s
    | none => .bad
  | none => .bad
def onStr (k : Str → Sx → Res Pv) : Pv → Sx → Res Pv
  | .d (.str a), s => k a s
  | _, _ => .bad
def dM1 (op : Str → D → Option Pv) (fo fe : Sx → Res Pv) : Sx → Res Pv := fun s => (fo s).bind (onStr fun a s1 => (fe s1).bind fun pb s2 => endM op a s2 (pb.get s2))
def OpM (C : Cf) (Y : Fm) (W : WX) (op : Str → D → Option Pv) (r : V → List V → Hp → VK → Prop) : Prop := ∀ (a : Str) (y : D) (pv : Pv) (u : V) (σ : L2.St) (H F : Hp) (sa : Nat → Addr) (s : Sx) (Q : VK),
  Rel C Y σ H F sa s → CR C H F y u → op a y = some pv → EndG C Y W (PvR C Y) sa s σ H F Q (.ok pv s) → r (.str a) [u] H Q
section
variable {C : Cf} {Y : Fm} {W : WX} {σ : L2.St} {H F H1 F1 : Hp} {sa : Nat → Addr} {s s1 s2 : Sx} {X : Cx} {o e : Expr} {es : List Expr} {fo fe f : Sx → Res Pv} {g a : Sx → Res (List Pv)} {pos p apos : Pos} {n : Nat}
theorem m1_core {op : Str → D → Option Pv} {r : V → List V → Hp → VK → Prop} (hr : OpM C Y W op r) : ∀ σ H Q, tE C Y W (dM1 op fo fe) σ H Q → tM1 r (tE C Y W fo) (tE C Y W fe) σ H Q := fun σ H Q ⟨F, sa, s, R, h⟩ =>
  ⟨F, sa, s, R, EndG.bind h fun pa s1 v H1 F1 _ R1 S1 V1 h1 => by
    cases pa with
    | d x =>
      cases x with
      | str a =>
        have e1 : v = .str a := by
          have V1 : Dat C F1 (.str a) v := V1
          simpa only [Dat] using V1
        subst e1
        exact ⟨⟨a, rfl⟩, F1, sa, s1, R1, EndG.bind h1 fun pb s2 u H2 F2 _ R2 S2 V2 h2 => by
          cases gb : pb.get s2 with
          | none => rw [gb] at h2; exact h2.elim
          | some y =>
            rw [gb] at h2
            simp only [endM] at h2
            split at h2
            · rename_i pv e
              exact hr a y pv u σ H2 F2 sa s2 Q R2 (V2.cr R2 gb) e h2
            · exact h2.elim⟩
      | _ => exact h1.elim
    | _ => exact h1.elim⟩
def txts : List D → Option (List Str)
  | [] => some []
  | .str b :: ds => (txts ds).map (b :: ·)
  | _ :: _ => none
theorem strs_dat {F : Hp} : ∀ {ds : List D} {vs : List V} {bs : List Str}, DatL C F ds vs → txts ds = some bs → vs = bs.map V.str
  | [], _, _, h, e => by
    cases e
    simp only [DatL] at h
    exact h
  | d :: ds, _, bs, h, e => by
    simp only [DatL] at h
    obtain ⟨v, r, e1, h1, h2⟩ := h
    cases d with
    | str b =>
      simp only [txts] at e
      cases h3 : txts ds with
      | none => rw [h3] at e; cases e
      | some cs =>
        rw [h3] at e
        cases e
        simp only [Dat] at h1
        rw [e1, h1, strs_dat h2 h3]
        rfl
    | _ => cases e
theorem strs_datL {F : Hp} : ∀ bs : List Str, DatL C F (bs.map D.str) (bs.map V.str)
  | [] => by simp [DatL]
  | n :: ns => by
    simp only [List.map_cons, DatL]
    exact ⟨_, _, rfl, str_dat, strs_datL ns⟩
def endJoin (a : Str) : Option (List Str) → Option Pv
  | some ys => if (ys.map (·.length)).sum + ys.length * a.length ≤ LIM then some (.d (.str (Txt.join a ys))) else none
  | none => none
def opJoin (a : Str) : D → Option Pv
  | .lst xs => endJoin a (txts xs)
  | .tup xs => endJoin a (txts xs)
  | _ => none
theorem opm_join (hK : X.K = C.K) : OpM C Y W opJoin (fun x xs H Q => ∃ a p, ∃ ys : List Str, x = .str a ∧ xs = [.ref p] ∧ (SqL X.K H p (ys.map V.str) ∨ SqT X.K H p (ys.map V.str)) ∧ (ys.map (·.length)).sum + ys.length * a.length ≤ 16777216 ∧ Q (.str (Txt.join a ys)) H) := by
  intro a y pv u σ H F sa s Q R cy e h
  rw [hK]
  cases y with
  | lst xs =>
    simp only [opJoin] at e
    cases hs : txts xs with
    | none => rw [hs] at e; cases e
    | some ys =>
      rw [hs] at e
      simp only [endJoin] at e
      split at e
      · rename_i hz
        cases e
        obtain ⟨q, ws, rfl, g1, g2⟩ := cy
        exact ⟨a, q, ys, rfl, rfl, .inl (by rw [← strs_dat g2 hs]; exact SqL.of g1), hz, fin_dat R h str_dat⟩
      · cases e
  | tup xs =>
    simp only [opJoin] at e
    cases hs : txts xs with
    | none => rw [hs] at e; cases e
    | some ys =>
      rw [hs] at e
      simp only [endJoin] at e
      split at e
      · rename_i hz
        cases e
        obtain ⟨q, ws, rfl, g1, g2⟩ := tup_cr cy
        exact ⟨a, q, ys, rfl, rfl, .inr (by rw [← strs_dat g2 hs]; exact sqT_mono R.sub g1), hz, fin_dat R h str_dat⟩
      · cases e
  | _ => cases e
theorem se_join (K : Cxt X C W n) (ho : SE X C Y W o fo) (he : SE X C Y W e fe) (hs : starEach [e] X.env = [(false, eval e X.env)] := by rfl) (hbase : attributeBase o "join" X.env (eval o X.env) = eval o X.env := by rfl) (hline : (apos.endLine == pos.line) = true := by rfl) :
    SE X C Y W (.Call (.Attribute o "join" apos) [e] [] pos) (dM1 opJoin fo fe) := pe_weak (pe_join ho he hs hbase hline) (m1_core (opm_join K.K))
def opSplit (a : Str) : D → Option Pv
  | .str b => if (b.length == 0) = false ∧ a.length + 2 ≤ LIM then some (.fr ((Txt.split a b).map .str)) else none
  | _ => none
theorem opm_split : OpM C Y W opSplit (fun x xs H Q => ∃ a b, x = .str a ∧ xs = [.str b] ∧ (b.length == 0) = false ∧ a.length + 2 ≤ sizeLine ∧ rNewStrs (Txt.split a b) H Q) := by
  intro a y pv u σ H F sa s Q R cy e h
  cases y with
  | str b =>
    simp only [opSplit] at e
    split at e
    · rename_i hz
      cases e
      exact ⟨a, b, rfl, by rw [str_cr cy], hz.1, by rw [← lim_eq]; exact hz.2, fin_lst R h (strs_datL _)⟩
    · cases e
  | _ => cases e
theorem se_split (ho : SE X C Y W o fo) (he : SE X C Y W e fe) (hs : starEach [e] X.env = [(false, eval e X.env)] := by rfl) (hbase : attributeBase o "split" X.env (eval o X.env) = eval o X.env := by rfl) (hline : (apos.endLine == pos.line) = true := by rfl) :
    SE X C Y W (.Call (.Attribute o "split" apos) [e] [] pos) (dM1 opSplit fo fe) := pe_weak (pe_split ho he hs hbase hline) (m1_core opm_split)
def opPart (a : Str) : D → Option Pv
  | .str b => if (b.length == 0) = false ∧ a.length ≤ LIM then some (.d (.tup [.str (Txt.partition a b).1, .str (Txt.partition a b).2.1, .str (Txt.partition a b).2.2])) else none
  | _ => none
theorem opm_part : OpM C Y W opPart (fun x xs H Q => ∃ a b, x = .str a ∧ xs = [.str b] ∧ (b.length == 0) = false ∧ a.length ≤ sizeLine ∧ ∀ p, H p = none → Q (.ref p) (upd H p (.tup [.str (Txt.partition a b).1, .str (Txt.partition a b).2.1, .str (Txt.partition a b).2.2]))) := by
  intro a y pv u σ H F sa s Q R cy e h
  cases y with
  | str b =>
    simp only [opPart] at e
    split at e
    · rename_i hz
      cases e
      exact ⟨a, b, rfl, by rw [str_cr cy], hz.1, by rw [← lim_eq]; exact hz.2, fin_tup R h (strs_datL [(Txt.partition a b).1, (Txt.partition a b).2.1, (Txt.partition a b).2.2])⟩
    · cases e
  | _ => cases e
theorem se_part (ho : SE X C Y W o fo) (he : SE X C Y W e fe) (hs : starEach [e] X.env = [(false, eval e X.env)] := by rfl) (hbase : attributeBase o "partition" X.env (eval o X.env) = eval o X.env := by rfl) (hline : (apos.endLine == pos.line) = true := by rfl) :
    SE X C Y W (.Call (.Attribute o "partition" apos) [e] [] pos) (dM1 opPart fo fe) := pe_weak (pe_partition ho he hs hbase hline) (m1_core opm_part)
def opStarts (a : Str) : D → Option Pv
  | .str b => some (.d (.bl (Txt.startswith a b)))
  | _ => none
theorem opm_starts : OpM C Y W opStarts (fun x xs H Q => ∃ a b, x = .str a ∧ xs = [.str b] ∧ Q (.bl (Txt.startswith a b)) H) := by
  intro a y pv u σ H F sa s Q R cy e h
  cases y with
  | str b =>
    cases e
    exact ⟨a, b, rfl, by rw [str_cr cy], fin_dat R h bl_dat'⟩
  | _ => cases e
theorem se_starts (ho : SE X C Y W o fo) (he : SE X C Y W e fe) (hs : starEach [e] X.env = [(false, eval e X.env)] := by rfl) (hbase : attributeBase o "startswith" X.env (eval o X.env) = eval o X.env := by rfl) (hline : (apos.endLine == pos.line) = true := by rfl) :
    SE X C Y W (.Call (.Attribute o "startswith" apos) [e] [] pos) (dM1 opStarts fo fe) := pe_weak (pe_m1 F.slot_str_startswith F.type_str_startswith mt_startswith ho he hs hbase hline) (m1_core opm_starts)

/-! ### lists changed in place -/
theorem Post.one (R : Rel C Y σ H F sa s) {q : Addr} {ws ws' : List V} {xs : List D} (e : H q = some (.lst ws)) (f : F q = none) (d : DatL C F xs ws') : Post C H F [q] [xs] (upd H q (.lst ws')) F := by
  refine ⟨Ext.refl _, fun b u h => ?_, fun b h1 h2 => ?_, upd_dom, rfl, fun k r ys h1 h2 => ?_⟩
  · have ne : b ≠ q := fun z => by
      rw [z, f] at h
      cases h
    rw [upd_ne ne]
    exact R.sub b u h
  · have ne : b ≠ q := fun z => h2 (by rw [z]; exact List.mem_cons_self)
    rw [upd_ne ne]
    exact ⟨rfl, rfl⟩
  · cases k with
    | zero =>
      simp only [List.getElem?_cons_zero, Option.some.injEq] at h1 h2
      subst h1 h2
      exact ⟨f, ws', upd_same, d⟩
    | succ k => simp at h1
theorem putOne {i : Nat} {xs : List D} (h : putAt s i xs = some s1) : putAll s [i] [xs] = some s1 := by
  simp only [putAll, h]
def endApp (s : Sx) : Pv → Pv → Res Pv
  | .pl i, .d x => match s.cont i with
    | some xs => if xs.length < LIM then (match putAt s i (xs ++ [x]) with
      | some s1 => .ok (.d .non) s1
      | none => .bad) else .bad
    | none => .bad
  | _, _ => .bad
/-- xs.append(e) -/
def onPl (k : Nat → Sx → Res Pv) : Pv → Sx → Res Pv
  | .pl i, s => k i s
  | _, _ => .bad
def dApp (fo fe : Sx → Res Pv) : Sx → Res Pv := fun s => (fo s).bind (onPl fun i s1 => (dFz fe s1).bind fun p s2 => endApp s2 (.pl i) p)
theorem bm_list {H F : Hp} (R : Rel C Y σ H F sa s) {i : Nat} {v : V} (h : σ[i]? = some (some v)) (hs : ∃ xs, s.cont i = some xs) : ∃ q ws, v = .ref q ∧ H q = some (.lst ws) := by
  obtain ⟨xs, hs⟩ := hs
  obtain ⟨q, e, _, _, ws, h1, _⟩ := place_r R h hs
  exact ⟨q, ws, e, h1⟩
theorem pl_cont {i : Nat} {s s' : Sx} {j : Nat} (h : dPl i s = .ok (.pl j) s') (R : Rel C Y σ H F sa s') : s' = s ∧ j = i ∧ ∃ xs, s.cont i = some xs := by
  unfold dPl at h
  split at h
  · cases h
  · rename_i xs hs
    cases h
    exact ⟨rfl, rfl, xs, by unfold Sx.cont; rw [hs]⟩
  · rename_i k hs
    cases h
    refine ⟨rfl, rfl, ?_⟩
    obtain ⟨q, h1, _⟩ := R.bor i k hs
    have hk : k < s.bo.length := by
      rw [← R.bol]
      exact (List.getElem?_eq_some_iff.mp h1).1
    exact ⟨s.bo[k], by unfold Sx.cont; rw [hs]; exact List.getElem?_eq_getElem hk⟩
  · cases h
theorem se_app (i : Nat) (ho : SE X C Y W o (dPl i)) (he : SE X C Y W e fe) (hbase : attributeBase o "append" X.env (eval o X.env) = eval o X.env := by rfl)
    (hfew : ((backTo pos (starEach [e] X.env)).all (fun x => !x.1) && (backToKw pos (keywordEach [] X.env)).all (fun x => x.1.isSome) && decide (([e] : List Expr).length + ([] : List Keyword).length + (if ([] : List Keyword).isEmpty then 0 else 1) < 30)) = true := by rfl)
    (hline : (apos.endLine == pos.line) = true := by rfl) (hs : starEach [e] X.env = (false, eval e X.env) :: starEach [] X.env := by rfl) (hplain : (backTo pos (starEach [] X.env)).any (·.1) = false := by rfl) :
    SE X C Y W (.Call (.Attribute o "append" apos) [e] [] pos) (dApp (dPl i) fe) :=
  pe_weak (pe_bm PySem.F.plainAttrs_list PySem.F.slot_list_append PySem.F.type_list_append mt_append ho (sa_cons he sa_nil hs).pa hbase hfew hline hs hplain) fun σ H Q ⟨F, sa, s, R, h⟩ =>
    ⟨F, sa, s, R, EndG.bind h fun pa s1 v H1 F1 e1 R1 S1 V1 h1 => by
      cases pa with
      | d x => exact h1.elim
      | fr x => exact h1.elim
      | pl j =>
        obtain ⟨es, ej, hc⟩ := pl_cont e1 R1
        subst es ej
        have V1 : σ[j]? = some (some v) := V1
        obtain ⟨q, ws, rfl, hw⟩ := bm_list R1 V1 hc
        refine ⟨.inl ⟨rfl, ws, SqL.of hw⟩, F1, sa, s1, R1, ?_⟩
        revert h1
        show EndG C Y W (PvR C Y) sa s1 σ H1 F1 Q ((dFz fe s1).bind _) → EndG C Y W (PvRs C) sa s1 σ H1 F1 _ ((dFz fe s1).bind _)
        cases hfz : dFz fe s1 with
        | bad => exact id
        | ex c d s' => exact id
        | ok pv s2 =>
          intro h1 vs H2 F2 R2 S2 V2
          obtain ⟨v2, r2, rfl, V3, V4⟩ := V2
          have V4 : r2 = [] := V4
          subst V4
          cases pv with
          | fr xs => exact V3.elim
          | pl k => exact h1.elim
          | d x =>
            have V3 : Dat C F2 x v2 := V3
            have h1 : EndG C Y W (PvR C Y) sa s1 σ H1 F1 Q (endApp s2 (.pl j) (.d x)) := h1
            unfold endApp at h1
            cases hc2 : s2.cont j with
            | none => simp only [hc2] at h1; exact h1.elim
            | some xs =>
              simp only [hc2] at h1
              split at h1
              · rename_i hl
                cases hp : putAt s2 j (xs ++ [x]) with
                | none => simp only [hp] at h1; exact h1.elim
                | some s3 =>
                  simp only [hp] at h1
                  obtain ⟨q', e2, hpl, hF, ws', hw', hd'⟩ := place_r R2 V1 hc2
                  cases e2
                  have P := Post.one (xs := xs ++ [x]) (ws' := ws' ++ [v2]) R2 hw' hF (hd'.append (by simp only [DatL]; exact ⟨_, _, rfl, V3, rfl⟩))
                  obtain ⟨R3, S3⟩ := R2.change (.cons hpl .nil) P (putOne hp)
                  exact ⟨q, ws', v2, rfl, rfl, hw', by rw [← hd'.length, ← lim_eq]; exact hl, h1 _ _ F2 R3 (S2.trans S3) (show Dat C F2 .non .non from non_dat)⟩
              · exact h1.elim⟩
def endSetIx (s : Sx) (x : D) : Pv → Option D → Res Fl
  | .pl i, some (.int k) => match s.cont i with
    | some xs => match ixN xs.length k with
      | some j => endN (putAt s i (xs.set j x))
      | none => .bad
    | none => .bad
  | _, _ => .bad
def onDat (k : D → Sx → Res Fl) : Pv → Sx → Res Fl
  | .d x, s => k x s
  | _, _ => .bad
/-- xs[i] = e -/
def dSetIx (fo fi f : Sx → Res Pv) : Sx → Res Fl := fun s => (dFz f s).bind (onDat fun x s1 => (fo s1).bind fun o s2 => (fi s2).bind fun q s3 => endSetIx s3 x o (q.get s3))
theorem ss_setix {i : Expr} {fi : Sx → Res Pv} (ho : SE X C Y W o fo) (hi : SE X C Y W i fi) (he : SE X C Y W e f)
    (ha : ∀ v, assign (.Subscript o i p) X.env v = (do
      let ov ← holding [v] (eval o X.env)
      let iv ← holding [v, ov] (eval i X.env)
      standAt p
      holding [v, ov, iv] (setItem ov iv v)
      release [v, ov, iv] []) := by intro _; rfl)
    (hs : swapsWithSole [.Subscript o i p] e pos.line X.env = pure false := by rfl) (hw : swappedStores [.Subscript o i p] e X.env = pure none := by rfl)
    (h1 : (assignEach [.Subscript o i p] X.env).map (·.2) = [assign (.Subscript o i p) X.env] := by rfl) : SS X C Y W (.Assign [.Subscript o i p] e pos) (dSetIx fo fi f) :=
  ps_weak (ps_asg (se_fz he) (pg_sub ho hi set_list ha) hs hw h1) fun Z σ H ⟨F, sa, s, R, h⟩ => ⟨F, sa, s, R, EndG.stmt h fun pv s1 v H1 F1 _ R1 S1 V1 h1 => by
    cases pv with
    | fr xs => exact h1.elim
    | pl j => exact h1.elim
    | d x =>
      refine ⟨F1, sa, s1, R1, EndG.stmt h1 fun pv2 s2 v2 H2 F2 _ R2 S2 V2 h2 => ⟨F2, sa, s2, R2, EndG.stmt h2 fun pv3 s3 v3 H3 F3 _ R3 S3 V3 h3 => ?_⟩⟩
      cases pv2 with
      | d y => exact h3.elim
      | fr y => exact h3.elim
      | pl j =>
        cases gq : pv3.get s3 with
        | none => rw [gq] at h3; exact h3.elim
        | some y =>
          rw [gq] at h3
          have c3 := V3.cr R3 gq
          cases y with
          | int k =>
            simp only [endSetIx] at h3
            cases hc : s3.cont j with
            | none => simp only [hc] at h3; exact h3.elim
            | some xs =>
              simp only [hc] at h3
              cases hj : ixN xs.length k with
              | none => simp only [hj] at h3; exact h3.elim
              | some jj =>
                simp only [hj] at h3
                cases hp : putAt s3 j (xs.set jj x) with
                | none => rw [hp] at h3; exact h3.elim
                | some s4 =>
                  rw [hp] at h3
                  have V2 : σ[j]? = some (some v2) := V2
                  obtain ⟨q, rfl, hpl, hF, ws, hw, hd⟩ := place_r R3 V2 hc
                  have dx : Dat C F3 x v := Dat.mono (S2.ext.trans S3.ext) x v V1
                  have P := Post.one (xs := xs.set jj x) (ws' := ws.set jj v) R3 hw hF (hd.set jj dx)
                  obtain ⟨R4, S4⟩ := R3.change (.cons hpl .nil) P (putOne hp)
                  exact ⟨q, ws, k, jj, rfl, int_cr c3, hw, by rw [← hd.length]; exact hj, h3 σ _ F3 sa R4 (Ext.refl _)⟩
          | _ => exact h3.elim⟩
/-- a, b = x, y: two local names -/
def endPar (i j : Nat) (s : Sx) : Option (List D) → Res Fl
  | some [x, y] => if i < s.sl.length ∧ j < s.sl.length then .ok .nx ⟨(s.sl.set i (.dat x)).set j (.dat y), s.bo⟩ else .bad
  | _ => .bad
def dPar (i j : Nat) (g : Sx → Res (List Pv)) : Sx → Res Fl := fun s => (g s).bind fun ps s1 => endPar i j s1 (dats ps)
theorem ss_par (K : Cxt X C W n) (i j : Nat) {x y : Str} {ea eb : Expr} {px py pt : Pos} {kt k2 pt2} (ha : SA X C Y W [ea, eb] g) (hi : X.N[i]? = some x := by rfl) (hj : X.N[j]? = some y := by rfl) (hij : i ≠ j := by decide)
    (hx : X.env.scope.names.lookup x = some .local := by rfl) (hy : X.env.scope.names.lookup y = some .local := by rfl)
    (hw : swappedStores [.Tuple [.Name x px, .Name y py] kt pt] (.Tuple [ea, eb] k2 pt2) X.env = pure (some [x, y]) := by rfl)
    (hs : swapsWithSole [.Tuple [.Name x px, .Name y py] kt pt] (.Tuple [ea, eb] k2 pt2) pos.line X.env = pure false := by rfl) :
    SS X C Y W (.Assign [.Tuple [.Name x px, .Name y py] kt pt] (.Tuple [ea, eb] k2 pt2) pos) (dPar i j g) :=
  ps_weak (ps_par K.calm K.nd hi hj hij hx hy ha.pa hw hs) fun Z σ H ⟨F, sa, s, R, h⟩ => ⟨F, sa, s, R, EndG.stmt h fun ps s1 vs H1 F1 _ R1 S1 V1 h1 => by
    cases hd : dats ps with
    | none => rw [hd] at h1; exact h1.elim
    | some ds =>
      rw [hd] at h1
      have l := dats_r V1 hd
      unfold endPar at h1
      split at h1
      · rename_i d1 d2 he
        cases he
        split at h1
        · rename_i hb
          simp only [DatL] at l
          obtain ⟨v1, r1, rfl, q1, v2, r2, rfl, q2, rfl⟩ := l
          have e1 : gN i d1 s1 = some ⟨s1.sl.set i (.dat d1), s1.bo⟩ := by unfold gN; rw [if_pos hb.1]
          have e2 : gN j d2 ⟨s1.sl.set i (.dat d1), s1.bo⟩ = some ⟨(s1.sl.set i (.dat d1)).set j (.dat d2), s1.bo⟩ := by
            unfold gN
            rw [if_pos (by show j < (s1.sl.set i (.dat d1)).length; rw [List.length_set]; exact hb.2)]
          exact ⟨v1, v2, rfl, h1 _ H1 F1 sa ((R1.setD q1 e1).setD q2 e2) (Ext.refl _)⟩
        · exact h1.elim
      · exact h1.elim⟩
end
end Dn
end
section
set_option Elab.async false
set_option linter.all false
set_option maxRecDepth 100000
set_option maxHeartbeats 4000000
namespace Dn
open PySem PySem.Spec PyProof.Rows L2

/-! ### a op b op c -/
def endCh (op op' : D → D → Option Pv) (pb : Pv) (fc : Sx → Res Pv) (s : Sx) : Option D → Option D → Res Pv
  | some x, some y => match op x y with
    | some (.d (.bl true)) => (fc s).bind fun pc s3 => end2 op' s3 (pb.get s3) (pc.get s3)
    | some (.d (.bl false)) => .ok (.d (.bl false)) s
    | _ => .bad
  | _, _ => .bad
def dChain (op op' : D → D → Option Pv) (fa fb fc : Sx → Res Pv) : Sx → Res Pv := fun s => (fa s).bind fun pa s1 => (fb s1).bind fun pb s2 => endCh op op' pb fc s2 (pa.get s2) (pb.get s2)
section
variable {C : Cf} {Y : Fm} {W : WX} {X : Cx} {a b c : Expr} {fa fb fc : Sx → Res Pv} {op op' : D → D → Option Pv} {r r' : R2} {pos : Pos}
theorem chain_core (hr : ∀ Y W, OpS C Y W op r) (hr' : OpS C Y W op' r') : ∀ σ H Q, tE C Y W (dChain op op' fa fb fc) σ H Q → tChain r r' (tE C Y W fa) (tE C Y W fb) (tE C Y W fc) σ H Q := fun σ H Q ⟨F, sa, s, R, h⟩ =>
  ⟨F, sa, s, R, EndG.bind h fun pa s1 v H1 F1 _ R1 S1 V1 h1 => ⟨F1, sa, s1, R1, EndG.bind h1 fun pb s2 u H2 F2 _ R2 S2 V2 h2 => by
    cases ga : pa.get s2 with
    | none => rw [ga] at h2; exact h2.elim
    | some x =>
      cases gb : pb.get s2 with
      | none => rw [ga, gb] at h2; exact h2.elim
      | some y =>
        rw [ga, gb] at h2
        simp only [endCh] at h2
        have cx := (V1.step S2).cr R2 ga
        have cy := V2.cr R2 gb
        split at h2
        · rename_i e
          refine hr Y W x y _ v u σ H2 F2 sa s2 _ R2 cx cy e ?_
          intro z H3 F3 R3 S3 V3
          have z3 : z = .bl true := by simpa only [PvR, Dat] using V3
          refine ⟨true, z3, ?_⟩
          rw [if_pos rfl]
          exact ⟨F3, sa, s2, R3, EndG.bind (EndG.shift S3 h2) fun pc s3 w H4 F4 _ R4 S4 V4 h4 => by
            cases gb4 : pb.get s3 with
            | none => rw [gb4] at h4; exact h4.elim
            | some y4 =>
              cases gc : pc.get s3 with
              | none => rw [gb4, gc] at h4; exact h4.elim
              | some z4 =>
                rw [gb4, gc] at h4
                simp only [end2] at h4
                split at h4
                · rename_i pv e4
                  exact hr' y4 z4 pv u w σ H4 F4 sa s3 Q R4 (((V2.step S3).step S4).cr R4 gb4) (V4.cr R4 gc) e4 h4
                · exact h4.elim⟩
        · rename_i e
          refine hr Y W x y _ v u σ H2 F2 sa s2 _ R2 cx cy e ?_
          intro z H3 F3 R3 S3 V3
          have z3 : z = .bl false := by simpa only [PvR, Dat] using V3
          refine ⟨false, z3, ?_⟩
          rw [if_neg (by decide)]
          exact h2 _ H3 F3 R3 S3 (show Dat C F3 (.bl false) (.bl false) from bl_dat')
        · exact h2.elim⟩⟩
theorem se_chain {o o' : CmpOp} (rule : OpR X (compareOp o) r) (rule' : OpR X (compareOp o') r') (hr : ∀ Y W, OpS C Y W op r) (hr' : OpS C Y W op' r') (ha : SE X C Y W a fa) (hb : SE X C Y W b fb) (hc : SE X C Y W c fc)
    (hm : lastMarks [o, o'] [b, c] = false := by with_unfolding_all rfl) : SE X C Y W (.Compare a [o, o'] [b, c] pos) (dChain op op' fa fb fc) := pe_weak (pe_chain rule rule' ha hb hc hm) (chain_core hr hr')
theorem st_chain {o o' : CmpOp} (rule : OpR X (compareOp o) r) (rule' : OpR X (compareOp o') r') (hr : ∀ Y W, OpS C Y W op r) (hr' : OpS C Y W op' r') (ha : SE X C Y W a fa) (hb : SE X C Y W b fb) (hc : SE X C Y W c fc)
    (hm : lastMarks [o, o'] [b, c] = false := by with_unfolding_all rfl) : ST X C Y W (.Compare a [o, o'] [b, c] pos) (dTest (dChain op op' fa fb fc)) := pt_weak (pt_chain rule rule' ha hb hc hm) fun σ H Q q => by
  obtain ⟨F, sa, s, R, hq⟩ := test_core σ H Q q
  exact chain_core hr hr' σ H _ ⟨F, sa, s, R, hq⟩
theorem se_ltle (ha : SE X C Y W a fa) (hb : SE X C Y W b fb) (hc : SE X C Y W c fc) (hm : lastMarks [.Lt, .LtE] [b, c] = false := by with_unfolding_all rfl) : SE X C Y W (.Compare a [.Lt, .LtE] [b, c] pos) (dChain opLt opLe fa fb fc) := se_chain op_lt op_le (fun _ _ => ops_lt) ops_le ha hb hc hm
theorem st_ltle (ha : SE X C Y W a fa) (hb : SE X C Y W b fb) (hc : SE X C Y W c fc) (hm : lastMarks [.Lt, .LtE] [b, c] = false := by with_unfolding_all rfl) : ST X C Y W (.Compare a [.Lt, .LtE] [b, c] pos) (dTest (dChain opLt opLe fa fb fc)) := st_chain op_lt op_le (fun _ _ => ops_lt) ops_le ha hb hc hm
theorem st_lele (ha : SE X C Y W a fa) (hb : SE X C Y W b fb) (hc : SE X C Y W c fc) (hm : lastMarks [.LtE, .LtE] [b, c] = false := by with_unfolding_all rfl) : ST X C Y W (.Compare a [.LtE, .LtE] [b, c] pos) (dTest (dChain opLe opLe fa fb fc)) := st_chain op_le op_le (fun _ _ => ops_le) ops_le ha hb hc hm
theorem st_lelt (ha : SE X C Y W a fa) (hb : SE X C Y W b fb) (hc : SE X C Y W c fc) (hm : lastMarks [.LtE, .Lt] [b, c] = false := by with_unfolding_all rfl) : ST X C Y W (.Compare a [.LtE, .Lt] [b, c] pos) (dTest (dChain opLe opLt fa fb fc)) := st_chain op_le op_lt (fun _ _ => ops_le) ops_lt ha hb hc hm
end

/-! ### x, *y = a list -/
def gStar (K : PySem.W.Frag) (i j : Nat) : TG := fun v σ H Q => ∃ a z zs, v = .ref a ∧ SqL K H a (z :: zs) ∧ zs.length ≤ 10000 ∧ ∀ p, H p = none → Q ((σ.set i (some z)).set j (some (.ref p))) (upd H p (.lst zs))
theorem pg_star {X : Cx} {x y : Str} {px py ps pos : Pos} {k i j : Nat} (hc : X.calm = true) (hN : X.N.Nodup) (hi : X.N[i]? = some x) (hj : X.N[j]? = some y) (hx : Loc X.env.scope x) (hy : Loc X.env.scope y)
    (fx : X.fn x = true ∨ X.env.scope.names.lookup x = some .local) (fy : X.fn y = true ∨ X.env.scope.names.lookup y = some .local) : PG X (.Tuple [.Name x px, .Starred (.Name y py) ps] k pos) (gStar X.K i j) := by
  refine ⟨fun pins s σ H v u Q I r hw => ?_⟩
  obtain ⟨a, z, zs, e1, hq, hz, hw⟩ := hw
  subst e1
  cases r
  obtain ⟨its, rv, pl, hsz⟩ := I.list hq
  have hl := pl.isList
  have hlt : a ≠ s.heap.objs.size := by obtain ⟨o, ho, _⟩ := hl; exact Nat.ne_of_lt (Heap.lt_size ho)
  have hh := I.ok.hd hc
  cases rv with
  | @cons _ z' _ zs' rz rzs =>
    have lz : zs'.length = zs.length := rzs.length.symm
    rw [PyProof.Rows.assign_Tuple]
    refine wpAny_bind (wpAny_standAt ?_)
    have h2 : (assignEach [.Name x px, .Starred (.Name y py) ps] X.env).length = 2 := rfl
    have h3 : (assignEach [.Name x px, .Starred (.Name y py) ps] X.env).findIdx? (·.1) = some 1 := rfl
    unfold unpack
    rw [h2, h3]
    refine wpAny_bind (wpAny_holding ?_)
    unfold unpackItems
    refine wpAny_bind ?_
    unfold notIterableAtAll
    refine wpAny_bind (wpAny_specialOf hl.typeIs slot_list_iter.lookup (wpAny_pure ?_))
    simp only [Bool.false_eq_true, if_false]
    refine wpAny_bind (wpAny_holding (wpAny_pyIter_list hl ?_))
    refine wpAny_bind (wpAny_holding (PySem.W.kun_draw hlt 1 0 _ _ ⟨_, Heap.get?_push_size _ rfl, rfl, rfl⟩ (hl.push _) (by simp) fun h₁ hit₁ hs₁ => ?_))
    have hl₁ : h₁.IsList a (z' :: zs').toArray := (hl.push _).extBut hs₁.extBut hlt
    rw [Nat.zero_add] at hit₁
    have hoi : s.heap.objs.size < h₁.objs.size := by obtain ⟨oi, hoi, _⟩ := hit₁; exact Heap.lt_size hoi
    have hol : a < h₁.objs.size := by obtain ⟨ol, hol, _⟩ := hl₁; exact Heap.lt_size hol
    rw [List.drop_zero]
    rw [if_neg (show ¬ (((z' :: zs').toArray.toList.take 1).length < 1) by simp)]
    refine wpAny_bind (wpAny_holding (PySem.W.kun_collect (s := { s with heap := h₁ }) (T := "list_iterator") (.inr (.inr (.inl rfl))) (Walks.list (A := X.A.in1) hh s.heap.objs.size a hlt (z' :: zs').toArray) (fun j u st => st.1.typeIs) (k := 1) (by simp) ⟨hit₁, hl₁⟩ hoi hol (fun h₂ tk hk => ?_) (by simp only [List.size_toArray, List.length_cons]; rw [sizeLine_eq]; omega)))
    have hd : List.drop 1 (z' :: zs').toArray.toList = zs' := rfl
    rw [hd]
    show wpAny _ _ (if zs'.length < 0 then _ else _) _ _ _
    rw [if_neg (by omega)]
    have hkeep : ∀ b o, s.heap.get? b = some o → h₂.get? b = some o := fun b o e =>
      hk b o (Nat.ne_of_lt (Heap.lt_size e)) (hs₁.extBut b o (Nat.ne_of_lt (Heap.lt_size e)) (Heap.get?_push_of_some _ e))
    have I2 : Inv X pins σ H { s with heap := h₂, toks := tk } := I.kept hkeep
    refine wpAny_bind ?_
    have e1 : zs'.length - (2 - 1 - 1) = zs'.length := by omega
    rw [e1, List.take_length, List.drop_length]
    refine wpAny_newList ?_ (by rw [sizeLine_eq]; omega)
    refine wpAny_pure ?_
    have hf : H h₂.objs.size = none := I2.hok.fresh (Nat.le_refl _)
    have I3 : Inv X pins σ (upd H h₂.objs.size (.lst zs)) { s with heap := h₂.push { cls := .type "list", data := .seq zs'.toArray }, toks := tk } :=
      I2.laid (t' := tk) (fun b u e => Heap.get?_push_of_some _ e) (Nat.le_refl _) ⟨by rw [← lz, sizeLine_eq]; omega, zs', 0, rzs, Heap.get?_push_size _ rfl⟩
    have P : PGs X [.Name x px, .Name y py] _ := pgs_cons (pg_name hN hi hx fx) (pgs_cons (pg_name hN hj hy fy) pgs_nil)
    exact P.run pins _ σ _ [z, .ref h₂.objs.size] [z', .ref h₂.objs.size] Q I3 (.cons rz (.cons rfl .nil)) ⟨z, _, rfl, .ref h₂.objs.size, _, rfl, rfl, hw _ hf⟩
def endStar (i j : Nat) (s : Sx) : Pv → Res Fl
  | .d (.lst (x :: xs)) => if xs.length ≤ 10000 ∧ i < s.sl.length ∧ j < s.sl.length ∧ i ≠ j then .ok .nx ⟨(s.sl.set i (.dat x)).set j (.own xs), s.bo⟩ else .bad
  | _ => .bad
def dStar (i j : Nat) (f : Sx → Res Pv) : Sx → Res Fl := fun s => (dFz f s).bind fun p s1 => endStar i j s1 p
theorem ss_star {C : Cf} {Y : Fm} {W : WX} {X : Cx} {n : Nat} {e : Expr} {f : Sx → Res Pv} {pos : Pos} (K : Cxt X C W n) (i j : Nat) {x y : Str} {px py ps pt : Pos} {k : Nat} (h : SE X C Y W e f) (hi : X.N[i]? = some x := by rfl) (hj : X.N[j]? = some y := by rfl)
    (hx : Loc X.env.scope x := by first | exact Or.inl rfl | exact Or.inr rfl) (hy : Loc X.env.scope y := by first | exact Or.inl rfl | exact Or.inr rfl)
    (fx : X.fn x = true ∨ X.env.scope.names.lookup x = some .local := by first | exact .inl rfl | exact .inr rfl | assumption) (fy : X.fn y = true ∨ X.env.scope.names.lookup y = some .local := by first | exact .inl rfl | exact .inr rfl | assumption)
    (hs : swapsWithSole [.Tuple [.Name x px, .Starred (.Name y py) ps] k pt] e pos.line X.env = pure false := by rfl) (hw : swappedStores [.Tuple [.Name x px, .Starred (.Name y py) ps] k pt] e X.env = pure none := by rfl)
    (h1 : (assignEach [.Tuple [.Name x px, .Starred (.Name y py) ps] k pt] X.env).map (·.2) = [assign (.Tuple [.Name x px, .Starred (.Name y py) ps] k pt) X.env] := by rfl) :
    SS X C Y W (.Assign [.Tuple [.Name x px, .Starred (.Name y py) ps] k pt] e pos) (dStar i j f) :=
  ps_weak (ps_asg (se_fz h) (pg_star K.calm K.nd hi hj hx hy fx fy) hs hw h1) fun Z σ H ⟨F, sa, s, R, h⟩ => ⟨F, sa, s, R, EndG.stmt h fun p s1 v H1 F1 _ R1 S1 V1 h1 => by
    unfold endStar at h1
    split at h1
    · rename_i x xs hq
      split at h1
      · rename_i hb
        have V1 : Dat C F1 (.lst (x :: xs)) v := V1
        simp only [Dat, DatL] at V1
        obtain ⟨a, vs, rfl, h2, z, zs, rfl, h3, h4⟩ := V1
        refine ⟨a, z, zs, rfl, .inl (.inl (R1.sub _ _ h2)), by rw [← h4.length]; exact hb.1, fun p hp => ?_⟩
        have e1 : gN i x s1 = some ⟨s1.sl.set i (.dat x), s1.bo⟩ := by unfold gN; rw [if_pos hb.2.1]
        have R2 := R1.setD h3 e1
        have R3 := Rel.newT (o := .lst zs) R2 hp
        have e3 : setSl j ⟨s1.sl.set i (.dat x), s1.bo⟩ (.fr xs) = some ⟨(s1.sl.set i (.dat x)).set j (.own xs), s1.bo⟩ := by
          exact if_pos (by show j < (s1.sl.set i (.dat x)).length; rw [List.length_set]; exact hb.2.2.1)
        obtain ⟨sa', R4⟩ := R3.set (pv := .fr xs) (v := .ref p) (Hs := H1) ⟨p, zs, rfl, upd_same, R2.fnone hp, h4, R2.h0none hp, R2.nmt hp, hp⟩ e3
        exact h1 _ _ F1 sa' R4 (Ext.refl _)
      · exact h1.elim
    · exact h1.elim⟩
end Dn
end
section
set_option Elab.async false
set_option linter.all false
set_option maxRecDepth 100000
set_option maxHeartbeats 4000000
namespace Dn
open PySem PySem.Spec PyProof.Rows L2

/-! ### a def by its body -/
def argSl : Nat → List Arg → List Slot
  | _, [] => []
  | k, .dat d :: as => .dat d :: argSl k as
  | k, .mut _ :: as => .bor k :: argSl (k + 1) as
def muts : List Arg → List (List D)
  | [] => []
  | .dat _ :: as => muts as
  | .mut xs :: as => xs :: muts as
def initS (n : Nat) (as : List Arg) : Sx := ⟨argSl 0 as ++ List.replicate (n - as.length) .un, muts as⟩
def endV (s : Sx) : Pv → Cr
  | .d x => .ret (.dat x) s.bo
  | .fr xs => .ret (.fr xs) s.bo
  | .pl i => match s.sl[i]? with
    | some (.own xs) => .ret (.fr xs) s.bo
    | _ => .bad
def endD : Res Fl → Cr
  | .ok .nx s => .ret (.dat .non) s.bo
  | .ok (.ret p) s => endV s p
  | .ex c d s => .ex c d s.bo
  | _ => .bad
def runDef (n : Nat) (body : Sx → Res Fl) (as : List Arg) : Cr := endD (body (initS n as))
section
variable {C : Cf} {Y : Fm} {W : WX} {σ : L2.St} {H F H' F' : Hp} {sa : Nat → Addr} {s s1 s2 : Sx} {X : Cx}
theorem ArgsR.length : ∀ {as : List Arg} {vs : List V} {bp : List Addr}, ArgsR C H F as vs bp → as.length = vs.length ∧ bp.length = (muts as).length
  | [], _, _, ⟨h1, h2⟩ => by rw [h1, h2]; exact ⟨rfl, rfl⟩
  | .dat d :: as, _, _, ⟨v, r, e, h1, h2⟩ => by
    obtain ⟨i1, i2⟩ := ArgsR.length h2
    rw [e, List.length_cons, List.length_cons, i1]
    exact ⟨rfl, i2⟩
  | .mut xs :: as, _, _, ⟨p, r, br, e1, e2, h1, h2, h3⟩ => by
    obtain ⟨i1, i2⟩ := ArgsR.length h3
    rw [e1, e2, List.length_cons, List.length_cons, i1, List.length_cons, i2]
    exact ⟨rfl, rfl⟩
theorem argSl_len : ∀ (k : Nat) (as : List Arg), (argSl k as).length = as.length
  | _, [] => rfl
  | k, .dat _ :: as => by simp only [argSl, List.length_cons, argSl_len]
  | k, .mut _ :: as => by simp only [argSl, List.length_cons, argSl_len]
/-- the start: what the slots hold -/
theorem args_at : ∀ {as : List Arg} {vs : List V} {br bp : List Addr} {k : Nat}, ArgsR C H F as vs br → bp.drop k = br → ∀ (i : Nat) (y : Slot), (argSl k as)[i]? = some y →
    (∃ d v, y = .dat d ∧ vs[i]? = some v ∧ Dat C F d v) ∨ (∃ l p, y = .bor l ∧ bp[l]? = some p ∧ vs[i]? = some (.ref p))
  | [], _, _, _, _, _, _, i, y, h => by cases h
  | .dat d :: as, _, br, bp, k, ⟨v, r, e, h1, h2⟩, hb, i, y, h => by
    subst e
    cases i with
    | zero => cases h; exact .inl ⟨d, v, rfl, rfl, h1⟩
    | succ i => simpa using args_at h2 hb i y h
  | .mut xs :: as, _, _, bp, k, ⟨p, r, br, e1, e2, h1, h2, h3⟩, hb, i, y, h => by
    subst e1 e2
    cases i with
    | zero =>
      cases h
      refine .inr ⟨k, p, rfl, ?_, rfl⟩
      have e : (bp.drop k)[0]? = some p := by rw [hb]; rfl
      simpa using e
    | succ i =>
      have hb' : bp.drop (k + 1) = br := by
        rw [← List.drop_drop, hb]
        rfl
      simpa using args_at h3 hb' i y h
theorem muts_at : ∀ {as : List Arg} {vs : List V} {bp : List Addr}, ArgsR C H F as vs bp → ∀ (k : Nat) (p : Addr) (xs : List D), bp[k]? = some p → (muts as)[k]? = some xs → F p = none ∧ ∃ ws, H p = some (.lst ws) ∧ DatL C F xs ws
  | [], _, _, ⟨_, h2⟩, k, p, xs, h, _ => by rw [h2] at h; cases h
  | .dat d :: as, _, _, ⟨v, r, e, h1, h2⟩, k, p, xs, h, h' => muts_at h2 k p xs h h'
  | .mut ys :: as, _, _, ⟨q, r, br, e1, e2, h1, h2, h3⟩, k, p, xs, h, h' => by
    subst e2
    cases k with
    | zero =>
      cases h
      cases h'
      exact ⟨h1, h2⟩
    | succ k => exact muts_at h3 k p xs (by simpa using h) (by simpa [muts] using h')
theorem start_rel {N : List Str} {as : List Arg} {vs : List V} {bp : List Addr} (hx : Ext F H) (ha : ArgsR C H F as vs bp) (hl : vs.length ≤ N.length) (nd : bp.Nodup) : Rel C ⟨H, F, bp⟩ (start N vs) H F (fun _ => 0) (initS N.length as) := by
  have la := ha.length
  have at_ : ∀ (i : Nat) (y : Slot), (initS N.length as).sl[i]? = some y → y = .un ∨ ((∃ d v, y = .dat d ∧ (start N vs)[i]? = some (some v) ∧ Dat C F d v) ∨ (∃ l p, y = .bor l ∧ bp[l]? = some p ∧ (start N vs)[i]? = some (some (.ref p)))) := fun i y h => by
    have h : (argSl 0 as ++ List.replicate (N.length - as.length) Slot.un)[i]? = some y := h
    have sv : ∀ {v : V}, vs[i]? = some v → (start N vs)[i]? = some (some v) := fun {v} e => by
      unfold L2.start
      have hi : i < (vs.map some).length := by rw [List.length_map]; exact (List.getElem?_eq_some_iff.mp e).1
      rw [List.getElem?_append_left hi, List.getElem?_map, e]
      rfl
    by_cases hi : i < (argSl 0 as).length
    · rw [List.getElem?_append_left hi] at h
      rcases args_at (k := 0) (bp := bp) ha rfl i y h with ⟨d, v, e1, e2, e3⟩ | ⟨l, p, e1, e2, e3⟩
      · exact .inr (.inl ⟨d, v, e1, sv e2, e3⟩)
      · exact .inr (.inr ⟨l, p, e1, e2, sv e3⟩)
    · rw [List.getElem?_append_right (Nat.le_of_not_lt hi)] at h
      exact .inl (List.eq_of_mem_replicate (List.mem_of_getElem? h))
  refine ⟨?_, hx, fun i d h => ?_, fun i xs h => ?_, fun i j xs ys h => ?_, fun i k h => ?_, la.2, fun k p xs h1 h2 => muts_at ha k p xs h1 h2, nd, fun p hp => ?_, fun b _ _ => ⟨rfl, rfl⟩, Ext.refl _⟩
  · show (start N vs).length = (argSl 0 as ++ List.replicate (N.length - as.length) Slot.un).length
    unfold L2.start
    rw [List.length_append, List.length_append, List.length_map, List.length_replicate, List.length_replicate, argSl_len, la.1]
  · rcases at_ i _ h with e | ⟨d', v, e, h1, h2⟩ | ⟨l, p, e, h1, h2⟩
    · cases e
    · cases e
      exact ⟨v, h1, h2⟩
    · cases e
  · rcases at_ i _ h with e | ⟨d', v, e, h1, h2⟩ | ⟨l, p, e, h1, h2⟩ <;> cases e
  · rcases at_ i _ h with e | ⟨d', v, e, h1, h2⟩ | ⟨l, p, e, h1, h2⟩ <;> cases e
  · rcases at_ i _ h with e | ⟨d', v, e, h1, h2⟩ | ⟨l, p, e, h1, h2⟩
    · cases e
    · cases e
    · cases e
      exact ⟨p, h1, h2⟩
  · obtain ⟨k, hk⟩ := List.getElem?_of_mem hp
    have hk1 : k < (muts as).length := by rw [← la.2]; exact (List.getElem?_eq_some_iff.mp hk).1
    obtain ⟨_, ws, h3, _⟩ := muts_at ha k p _ hk (List.getElem?_eq_getElem hk1)
    show H p ≠ none
    rw [h3]
    simp
theorem end_post {H0 F0 : Hp} {bp : List Addr} (R : Rel C ⟨H0, F0, bp⟩ σ H F sa s) : Post C H0 F0 bp s.bo H F :=
  ⟨R.ext0, R.sub, fun b h1 h2 => R.fr0 b h1 h2, R.dom0, R.bol.symm, fun k p xs h1 h2 => R.bos k p xs h1 h2⟩
abbrev WD (E : XK) : WX := fun cls d _ H => E cls d H
theorem end_core {H0 F0 : Hp} {bp : List Addr} {Q : VK} {E : XK} {r : Res Fl} {Fs : Hp} (h : CrEnd C H0 F0 bp Q E (endD r)) : EndS C ⟨H0, F0, bp⟩ (WD E) { nx := fun _ H' => Q .non H', rt := Q } Fs r := by
  cases r with
  | bad => exact h
  | ex c d s' => exact fun cls dct σ' H' F' sa' R _ x => h cls dct H' F' (end_post R) x
  | ok fl s' =>
    cases fl with
    | nx => exact fun σ' H' F' sa' R _ => h .non H' F' (end_post R) (show Dat C F' .non .non from non_dat)
    | bk => exact h.elim
    | ct => exact h.elim
    | ret pv =>
      intro v σ' H' F' sa' R _ V1
      cases pv with
      | d x => exact h v H' F' (end_post R) V1
      | fr xs =>
        obtain ⟨p, ws, e1, e2, e3, e4, e5, e6, e7⟩ := V1
        exact h v H' F' (end_post R) ⟨p, ws, e1, e5, e2, e3, e4⟩
      | pl i =>
        have V1 : σ'[i]? = some (some v) := V1
        simp only [endD, endV] at h
        split at h
        · rename_i xs hs
          obtain ⟨h1, h2, ⟨ws, h3, h4⟩, h5⟩ := R.own i xs hs
          rw [V1] at h1
          cases h1
          exact h _ H' F' (end_post R) ⟨_, ws, rfl, h5, h3, h2, h4⟩
        · exact h.elim
end
section
variable {P : Program} {w : World} {K : PySem.W.Frag} {mg : Str → Option Value} {base : Heap} {C : Cf}
abbrev Xd (P : Program) (w : World) (K : PySem.W.Frag) (mg : Str → Option Value) (base : Heap) (N : List Str) (qual : Str) (st : Stmt) (f : Addr) (cdv : Value) (A : Around) (outer : List Env) (s : Shared) (H : Hp) (E : XK) : Cx :=
  cxOf (L2.CX P w) P w K mg base N qual (defScope st) f cdv A outer s H E
/-- THE RULE for a def -/
theorem def_ok {x qual : Str} {st : Stmt} {f : Addr} {fd : FuncData} {N ps : List Str} {k : Nat} {body : Sx → Res Fl} (F : Fun K x qual st f fd) (S : FnScope N ps (defScope st)) (hC : K = C.K)
    (hb : ∀ (cdv : Value) (A : Around) (outer : List Env) (s : Shared) (H : Hp) (E : XK) (Y : Fm), Cxt (Xd P w K mg base N qual st f cdv A outer s H E) C (WD E) k → PassesOwn (model P w) (Xd P w K mg base N qual st f cdv A outer s H E).A (Xd P w K mg base N qual st f cdv A outer s H E).env (Xd P w K mg base N qual st f cdv A outer s H E).xe →
      SB (Xd P w K mg base N qual st f cdv A outer s H E) C Y (WD E) (defBody st) body) : FnOk P w K mg base (L2.CX P w) (k + 1) f fd ps (Pr C ps.length (runDef N.length body)) := by
  refine F.okX S (fun vs H Q E ⟨_, _, _, _, h, _⟩ => h) fun cdv A outer s H vs Q E hr ⟨F0, as, bp, hx, hl, ha, nd, he⟩ => ?_
  refine ⟨_, hb cdv A outer s H E ⟨H, F0, bp⟩ ⟨hC, takes_of rfl rfl rfl rfl, rfl, S.nd, hr⟩ (passes_of rfl), F0, _, _, start_rel hx ha ?_ nd, end_core he⟩
  rw [hl, ← S.pre, List.length_take]
  exact Nat.min_le_right _ _
end
end Dn
end
section
set_option Elab.async false
set_option linter.all false
set_option maxRecDepth 100000
set_option maxHeartbeats 4000000
namespace Dn
open PySem PySem.Spec PyProof.Rows L2

/-! ### own errors -/
/-- what the __init__ of an error class does: its one field -/
def InitP (K : PySem.W.Frag) : Sp := fun vs H Q _ => ∃ (a Cc : Addr) (v : V), vs = [.ref a, v] ∧ OexC K Cc ∧ PySem.W.findIn K (.ref Cc) "value" = some none ∧ H a = some (exo a Cc none) ∧
  ∀ dx, H dx = none → dx ≠ a → Q .non (upd (upd H dx (exd dx [(("value" : Str), v)])) a (exo a Cc (some dx)))
/-- error class number c under the name x -/
structure ExcE (P : Program) (w : World) (Kf : PySem.W.Frag) (mg : Str → Option Value) (base : Heap) (C : Cf) (n : Nat) (x : Str) (c : Nat) : Prop where
  o : OexC Kf (C.ca c)
  no : PySem.W.findIn Kf (.ref (C.ca c)) "value" = some none
  ini : ∃ (fI : Addr) (fd : FuncData) (ps : List Str), PySem.W.findIn Kf (.ref (C.ca c)) "__init__" = some (some (.ref fI)) ∧ PySem.W.typeIn Kf (.ref fI) = some (.type "function") ∧ FnOk P w Kf mg base (L2.CX P w) n fI fd ps (InitP Kf) ∧ Binds Kf fd ps []
  g : mg x = some (.ref (C.ca c))
abbrev Exc (X : Cx) (C : Cf) (n : Nat) (x : Str) (c : Nat) : Prop := ExcE X.prog X.w X.K X.mg X.base C n x c
def endRaise (c : Nat) (s : Sx) : Pv → Res Fl
  | .d x => .ex c x s
  | _ => .bad
def dRaise (c : Nat) (f : Sx → Res Pv) : Sx → Res Fl := fun s => (dFz f s).bind fun p s1 => endRaise c s1 p
section
variable {C : Cf} {Y : Fm} {W : WX} {σ : L2.St} {H F H' F' : Hp} {sa : Nat → Addr} {s s1 s2 : Sx} {X : Cx} {e : Expr} {f : Sx → Res Pv} {pos p p' : Pos} {n m : Nat}
theorem exo_ne {a b Cc : Addr} {d : Option Addr} : True := trivial
theorem ss_raise {x : Str} {c : Nat} (K : Cxt X C W n) (E : Exc X C m x c) (he : SE X C Y W e f) (hm : m + 1 ≤ n := by decide) (hg : Gl X x := by rfl) (hdb : (x == ("__debug__" : Str)) = false := by decide)
    (hs : starEach (e :: []) X.env = (false, eval e X.env) :: starEach [] X.env := by rfl) (hpl : (backTo pos (starEach [] X.env)).any (·.1) = false := by rfl) :
    SS X C Y W (.Raise (some (.Call (.Name x p) [e] [] pos)) none p') (dRaise c f) := by
  obtain ⟨fI, fd, ps, iC, tI, F1, hb⟩ := E.ini
  refine ps_weak (ps_raise K.calm K.tk (pmk_oex E.o iC tI F1 (K.room.mono hm) hb .nil passL hg E.g (pa_cons (se_fz he) pa_nil hs) hdb hs hpl)) fun Z σ H ⟨F, sa, s, R, h⟩ => ⟨F, sa, s, R, EndG.stmt h fun p s1 v H1 F1 _ R1 S1 V1 h1 => ?_⟩
  cases p with
  | fr xs => exact h1.elim
  | pl j => exact h1.elim
  | d d0 =>
    refine ⟨(by simp), fun a ha => ⟨a, C.ca c, v, rfl, E.o, E.no, upd_same, fun dx hdx hne => ⟨rfl, dx, [(("value" : Str), v)], upd_same, ?_, ?_, ?_⟩⟩⟩
    · rw [upd_ne hne, upd_same]
    · rw [upd_ne hne] at hdx
      exact hdx
    · rw [upd_ne hne] at hdx
      have eh : upd (del (upd (upd (upd H1 a (exo a (C.ca c) none)) dx (exd dx [(("value" : Str), v)])) a (exo a (C.ca c) (some dx))) a) dx (.xd [(("value" : Str), v)]) = upd H1 dx (.xd [(("value" : Str), v)]) := by
        funext b
        by_cases h1 : b = dx
        · rw [h1, upd_same, upd_same]
        · rw [upd_ne h1, upd_ne h1]
          by_cases h2 : b = a
          · rw [h2, del_same, ha]
          · rw [del_ne h2, upd_ne h2, upd_ne h1, upd_ne h2]
      rw [eh]
      exact h1 (.ref (C.ca c)) (some dx) σ _ F1 sa (R1.newT hdx) (Ext.refl _) ⟨rfl, dx, _, v, rfl, upd_same, by simp [List.lookup], V1⟩

/-! ### try -/
theorem Cxt.tr {W' : WX} {pn : List (Addr × Obj)} {xe : Value → Shared → Prop} (K : Cxt X C W n) (tk : Takes (X.tr pn xe) W') : Cxt (X.tr pn xe) C W' n := ⟨K.K, tk, K.calm, K.nd, K.room⟩
theorem Rel.setU (R : Rel C Y σ H F sa s) (i : Nat) (u : Option V) : Rel C Y (σ.set i u) H F sa ⟨s.sl.set i .un, s.bo⟩ := by
  have at_ : ∀ (j : Nat) (y : Slot), y ≠ .un → (s.sl.set i .un)[j]? = some y → j ≠ i ∧ s.sl[j]? = some y := fun j y ny q => by
    by_cases hj : j = i
    · subst hj
      rw [List.getElem?_set] at q
      split at q
      · split at q
        · exact absurd (Option.some.inj q).symm ny
        · cases q
      · exact absurd rfl ‹¬ j = j›
    · rw [List.getElem?_set_ne (Ne.symm hj)] at q
      exact ⟨hj, q⟩
  have oth : ∀ {j : Nat}, j ≠ i → (σ.set i u)[j]? = σ[j]? := fun hj => List.getElem?_set_ne (Ne.symm hj)
  refine ⟨by simpa using R.len, R.sub, fun j d q => ?_, fun j ys q => ?_, fun j k ys zs q1 q2 => ?_, fun j k q => ?_, R.bol, R.bos, R.bnd, R.bH, R.fr0, R.ext0⟩
  · obtain ⟨hj, q⟩ := at_ j _ (by simp) q
    rw [oth hj]
    exact R.dat j d q
  · obtain ⟨hj, q⟩ := at_ j _ (by simp) q
    rw [oth hj]
    exact R.own j ys q
  · obtain ⟨_, q1⟩ := at_ j _ (by simp) q1
    obtain ⟨_, q2⟩ := at_ k _ (by simp) q2
    exact R.inj j k ys zs q1 q2
  · obtain ⟨hj, q⟩ := at_ j _ (by simp) q
    rw [oth hj]
    exact R.bor j k q
def endTry (i j : Nat) (ex : Nat → Option Bool) : Res Fl → Res Fl
  | .ex c d s => match ex c with
    | some true => if i < s.sl.length ∧ j < s.sl.length ∧ i ≠ j then .ok .nx ⟨((s.sl.set i .un).set j (.dat d)).set i .un, s.bo⟩ else .bad
    | some false => .ex c d s
    | none => .bad
  | r => r
/-- try: .. except E as n: y = n.value -/
def dTry (i j : Nat) (ex : Nat → Option Bool) (g : Sx → Res Fl) : Sx → Res Fl := fun s => endTry i j ex (g s)
/-- what is asked of the class that the clause names -/
structure Cat (X : Cx) (C : Cf) (cV : Value) (ex : Nat → Option Bool) : Prop where
  xm : ∀ k b, ex k = some b → PySem.W.exmOne X.K (.ref (C.ca k)) cV = some b
  xf : ∀ k, ex k = some true → XfC X.K (C.ca k) ∧ PySem.W.findIn X.K (.ref (C.ca k)) "value" = some none
theorem ss_try {x n0 y : Str} {cV : Value} {ex : Nat → Option Bool} {body : List Stmt} {g : Sx → Res Fl} {np pos pos' pe pa py ps : Pos} (K : Cxt X C W n) (T : Cat X C cV ex) (hc : Names X x cV) (i j : Nat)
    (hb : ∀ (W' : WX) (pn : List (Addr × Obj)) (xe : Value → Shared → Prop), Cxt (X.tr pn xe) C W' n → PassesOwn (model X.prog X.w) X.A X.env xe → SB (X.tr pn xe) C Y W' body g)
    (hs : X.stack = X.env :: X.outer := by rfl) (hf : X.env.frame = some X.env.locals := by rfl) (hi : X.N[i]? = some n0 := by rfl) (hj : X.N[j]? = some y := by rfl) (hln : X.env.kindOf n0 = some .local := by rfl) (hv : X.env.scope.names.lookup n0 = some .local := by rfl)
    (hd : (n0 == ("__debug__" : Str)) = false := by decide) (hcd : (n0 == ("__classdict__" : Str)) = false := by decide) (hly : X.env.scope.names.lookup y = some .local := by rfl)
    (hab : attributeBase (.Name n0 pe) "value" X.env (eval (.Name n0 pe) X.env) = eval (.Name n0 pe) X.env := by rfl)
    (hsw : swapsWith (.Attribute (.Name n0 pe) "value" pa) (some (.Name y py)) ps.line X.env = pure false := by rfl) :
    SS X C Y W (.Try body [.ExceptHandler (some (.Name x np)) (some n0) [.Assign [.Name y py] (.Attribute (.Name n0 pe) "value" pa) ps] pos'] [] [] pos) (dTry i j ex g) := by
  refine ps_weak (ps_try_as (tb := fun W' => tS C Y W' g) (ts := fun a cls d D σ H => ∃ k, ex k = some true ∧ cls = .ref (C.ca k) ∧ tAsg (tXf a cls d (C.ca k) "value" (tVar i)) (gName j) D σ H) hs hf K.nd hi hln hc K.tk (fun W' pn xe tk po => hb W' pn xe (K.tr tk) po)
    (fun a oe cls d pn hz hfl => ⟨fun pins s σ H Z I ⟨k, h1, h2, h3⟩ => ?_⟩)) fun Z σ H ⟨F, sa, s, R, h⟩ => ⟨F, sa, s, R, ?_⟩
  · obtain ⟨t1, t2⟩ := T.xf k h1
    have P : PS (X.suite a ((a, oe) :: pn)) (.Assign [.Name y py] (.Attribute (.Name n0 pe) "value" pa) ps) _ := ps_set (i := j) K.nd hj (.inl hly) (pe_xf t1 t2 hz hfl (pe_var (i := i) hi (.inl hv) hd hcd) hab) hsw (.inr hly)
    exact (pss_one P).run pins s σ H Z I h3
  · unfold dTry endTry at h
    cases hg : g s with
    | bad => rw [hg] at h; exact h.elim
    | ok fl s' =>
      rw [hg] at h
      cases fl <;> exact h
    | ex c d s' =>
      rw [hg] at h
      intro cls dct σ' H' F' sa' R' x' ⟨ec, a0, fs, v, ed, ea, el, hv'⟩
      subst ec
      simp only at h
      split at h
      · rename_i hx
        refine ⟨true, T.xm c true hx, fun _ a ha => ⟨c, hx, rfl, ?_⟩, fun z => by cases z⟩
        split at h
        · rename_i hb
          have hiσ : i < σ'.length := by rw [R'.len]; exact hb.1
          refine ⟨.ref a, List.getElem?_set_self hiσ, rfl, rfl, a0, fs, v, ed, ea, el, ?_⟩
          have R1 := R'.setU i (some (.ref a))
          have e1 : gN j d ⟨s'.sl.set i .un, s'.bo⟩ = some ⟨(s'.sl.set i .un).set j (.dat d), s'.bo⟩ := if_pos (by show j < (s'.sl.set i .un).length; rw [List.length_set]; exact hb.2.1)
          have R2 := R1.setD hv' e1
          exact h _ H' F' sa' (R2.setU i none) x'
        · exact h.elim
      · rename_i hx
        exact ⟨false, T.xm c false hx, (fun z => by cases z), fun _ => h _ dct σ' H' F' sa' R' x' ⟨rfl, a0, fs, v, ed, ea, el, hv'⟩⟩
      · exact h.elim
end
end Dn
end
section
set_option Elab.async false
set_option linter.all false
set_option maxRecDepth 100000
set_option maxHeartbeats 4000000
namespace Dn
open PySem PySem.Spec PyProof.Rows L2

/-! ### len({key: True for x in ..}), the keys tuples -/
section
variable {X : Cx} {pins : List (Addr × Obj)} {σ : L2.St} {H : Hp} {s : Shared}
theorem setT {E : Value → Shared → Prop} {D0 b0 : Addr} {kvs : List (List Key × V)} {k : List Key} {v : V} {r : Value} {Q : Unit → Shared → Prop} (hu : X.A.units < cLine) (I : Inv X pins σ H s) (e : H D0 = some (.dT kvs))
    (l : kvs.length < sizeLine) (eb : H b0 = some (.tup (k.map kV))) (rv : RelV v r) (h : ∀ s', Inv X pins σ (upd H D0 (.dT (putK kvs k v))) s' → Q () s') :
    wpAny (model X.prog X.w) X.A (dictSet D0 (.ref b0) r) Q E s := by
  obtain ⟨z, hd, xs, rel, dd⟩ := dt_of I.hok e
  have kl : (putK kvs k v).length ≤ sizeLine := by
    have := length_putK kvs k v
    omega
  have xl : xs.length ≤ sizeLine := by
    rw [← Paired.length rel]
    exact z
  refine wpAny_dictSet_heap (knd := tupleKind (mixKind X.prog X.w)) (hsz := xl) hu (key_of I.hok eb) dd fun h2 dd2 sb => h _ ?_
  obtain ⟨q, es, ep, g1, g2, g3, g4, _, g5⟩ := dd2
  have keep := (rel.put k eb rv).keeps (H' := upd H D0 (.dT (putK kvs k v))) fun c ys ec => by
    rw [upd_ne (ne_of ec e (fun z => nomatch z))]
    exact ec
  exact d_write I (by rw [e]; exact True.intro) sb ⟨q, g1⟩ ⟨kl, hd, _, keep, q, es, ep, g1, g2, g3, g4, g5⟩
def tDcT (wi : TI) (g : TG) (tk : TE) (vs : List Nat) : TE := fun σ H Q => wi σ H fun J H1 => ∀ D0, H1 D0 = none → ∃ G : Nat → Nat → Hp → Prop, (∃ m, G 0 m (upd H1 D0 (.dT []))) ∧
  ∀ i m H, G i m H → (J.stop i H ∧ Q (.ref D0) H) ∨ (J.go i H ∧ ∃ Nx : Hp → Prop, (∀ H', Nx H' → ∃ m', m' < m ∧ G (i + 1) m' H') ∧
    ∀ x H', J.yld i H x H' → g x (wipe σ vs) H' fun σ2 H2 => wipe σ2 vs = wipe σ vs ∧ tk σ2 H2 fun y H4 =>
      ∃ kvs k b0, y = .ref b0 ∧ H4 b0 = some (.tup (k.map kV)) ∧ H4 D0 = some (.dT kvs) ∧ kvs.length < sizeLine ∧ Nx (upd H4 D0 (.dT (putK kvs k (.bl true)))))
abbrev ceOf (X : Cx) (scope : Scope) (B : Addr) : Env := compEnvC scope (cellsFrom (B + 1) scope.names (cloFrom X.env.cells scope.names [])) B X.env
theorem pe_dcT {kx tg iter : Expr} {scope : Scope} {own : List (Str × Nat)} {pos pb : Pos} {jb : Nat} {wi : TI} {g : TG} {tk : TE} (hc : X.calm = true) (hu : X.A.units < cLine) (hN : X.N.Nodup) (hi : PI X tg iter wi) (ok : BlkOk X.N X.env.scope scope own)
    (hg : ∀ (s : Shared) (H : Hp) (B : Addr) (cl : List (Str × Addr)) (fp : List Addr), PG (X.blk s H scope (compEnvC scope cl B X.env) fp) tg g)
    (hk : ∀ (s : Shared) (H : Hp) (B : Addr) (cl : List (Str × Addr)) (fp : List Addr), PE (X.blk s H scope (compEnvC scope cl B X.env) fp) kx tk)
    (hs : ∀ x, foldedSetIterable iter X.env x = pure x := by intro _; rfl) :
    PE X (.DictComp kx (.Constant (.bool true) jb pb) [⟨tg, iter, [], 0⟩] scope pos) (tDcT wi g tk (own.map (·.2))) := by
  refine ⟨fun pins s σ H Q I h => ?_⟩
  rw [arm_eval_DictComp]
  have fre : ∀ y ∈ scope.names, y.2 = .free → ∃ c, X.env.cells.lookup y.1 = some c := fun y hy e =>
    I.ok.has _ (ok.free y hy e)
  refine wpAny_comprehension_free rfl hs (closure_ok fre) ok.kind (fun y hy e => by rw [ok.uniq y hy, e]) (thn (hi.run pins s σ H _ I h) fun xv s1 hx => thn hx fun itv s2 h2 => ?_)
  obtain ⟨it, fp, tn, J, H2, e, I2, T, st2, f2, q⟩ := h2
  subst e
  refine wpAny_newObj_type (newEnv_comp ?_)
  generalize hD : s2.heap.objs.size = D0
  obtain ⟨G, ⟨m0, w0⟩, turn⟩ := q D0 (I2.hok.fresh (Nat.le_of_eq hD))
  generalize hs3 : ({ s2 with heap := s2.heap.push { cls := .type "dict", data := .dict #[] } } : Shared) = s3
  have hp3 : s3.heap = s2.heap.push { cls := .type "dict", data := .dict #[] } := by rw [← hs3]
  have old3 : ∀ b o, s2.heap.get? b = some o → s3.heap.get? b = some o := fun b o z => by
    rw [hp3]
    exact Heap.get?_push_of_some _ z
  have I3 : Inv X pins σ (upd H2 D0 (.dT [])) s3 := by
    rw [← hs3]
    refine I2.laid (t' := s2.toks) (fun b o z => Heap.get?_push_of_some _ z) (Nat.le_of_eq hD) ?_
    rw [← hD]
    exact dt_empty s2.heap I2.big
  have f3 : ∀ b ∈ fp, FpOk X pins (upd H2 D0 (.dT [])) b ∧ b < s3.heap.objs.size := fun b hb => by
    obtain ⟨o, z, _⟩ := T.obj _ _ st2 b hb
    have lt := Heap.lt_size z
    have ne : b ≠ D0 := by
      rw [← hD]
      exact Nat.ne_of_lt lt
    refine ⟨⟨?_, (f2 b hb).2⟩, Heap.lt_size (old3 b o z)⟩
    rw [upd_ne ne]
    exact (f2 b hb).1
  have I4 := block_start I3 ok hN f3
  have pg := hg s3 (upd H2 D0 (.dT [])) s3.heap.objs.size (cellsFrom (s3.heap.objs.size + 1) scope.names (cloFrom X.env.cells scope.names [])) fp
  have pk := hk s3 (upd H2 D0 (.dT [])) s3.heap.objs.size (cellsFrom (s3.heap.objs.size + 1) scope.names (cloFrom X.env.cells scope.names [])) fp
  have st3 : tn 0 s3.heap := T.keep _ _ _ st2 fun b _ o z => old3 b o z
  have none3 : ∀ b ∈ fp, (upd H2 D0 (.dT [])) b = none := fun b hb => (f3 b hb).1.1
  generalize hH3 : upd H2 D0 (.dT []) = H3 at I3 I4 pg pk w0 none3 f3
  show codeAny _ _ (.compStart _ 0 (.ref it) (.ref D0) (compEnvC scope (cellsFrom (s3.heap.objs.size + 1) scope.names (cloFrom X.env.cells scope.names [])) s3.heap.objs.size X.env)) (compPost _ _ _ _ _ _ s3.heap.objs.size)
    { s3 with heap := pushCells (s3.heap.push { cls := .type "dict", data := .dict #[] }) scope.names }
  generalize hce : compEnvC scope (cellsFrom (s3.heap.objs.size + 1) scope.names (cloFrom X.env.cells scope.names [])) s3.heap.objs.size X.env = ce at I4 pg pk ⊢
  have eC : ce.locals = s3.heap.objs.size := by rw [← hce]; rfl
  generalize hs4 : ({ s3 with heap := pushCells (s3.heap.push { cls := .type "dict", data := .dict #[] }) scope.names } : Shared) = s4 at I4 ⊢
  have st4 : tn 0 s4.heap := T.keep _ _ _ st3 fun b _ o z => by
    rw [← hs4]
    exact pushCells_keeps _ _ _ _ (Heap.get?_push_of_some _ z)
  generalize hB : X.blk s3 H3 scope ce fp = B at I4 pg pk
  have bx : B.prog = X.prog ∧ B.w = X.w ∧ B.A = X.A ∧ B.calm = X.calm ∧ B.ex = fp := by
    subst hB
    exact ⟨rfl, rfl, rfl, rfl, rfl⟩
  have quiet : ∀ {σ' : L2.St} {H' : Hp} {s' : Shared}, Inv B [] σ' H' s' → (∀ b ∈ fp, H' b = none) → ∀ b ∈ fp, FpOk B [] H' b := fun {σ' H' s'} I' hn b hb => by
    have hb' : b ∈ B.ex := by
      rw [bx.2.2.2.2]
      exact hb
    refine ⟨hn b hb, (I'.ok.exf b hb').1, I'.ok.exfs b hb', .inl hb', fun x c z => (I'.ok.exf b hb').2 x c z, fun p hp => ?_⟩
    subst hB
    exact absurd (show p ∈ ([] : List (Addr × Obj)) ++ [] from hp) (by simp)
  have loop : codeAny (model X.prog X.w) X.A (.compLoop (.DictComp kx (.Constant (.bool true) jb pb) [⟨tg, iter, [], 0⟩] scope pos) 0 (.ref it) (.ref D0) ce) (compPost (model X.prog X.w) X.A X.xe none (EP X pins σ Q) (.ref D0) s3.heap.objs.size) s4 := by
    refine compLoop_anyD (fun n s' => ∃ i H', Inv B [] (wipe σ (own.map (·.2))) H' s' ∧ tn i s'.heap ∧ (∀ b ∈ fp, H' b = none) ∧ G i n H') ?_ m0 ⟨0, H3, I4, st4, none3, w0⟩
    rintro n s5 ⟨i, H5, I5, st5, n5, w5⟩
    rcases turn i n H5 w5 with ⟨stop, qq⟩ | ⟨go, Nx, hNx, step⟩
    · subst hB
      refine thnF (T.done (X.blk s3 H3 scope ce fp) rfl rfl rfl hc i [] s5 _ H5 (fun _ _ => False) I5 (quiet I5 n5) st5 stop) fun r s6 ⟨hr, I6⟩ => ?_
      subst hr
      have I7 : Inv X pins σ H5 s6 := I3.call' (ch := fp) I6.os I6.base I6.hok I6.bare fun b hb => by
        obtain ⟨⟨_, k2, k3, k4, k5, k6⟩, _⟩ := f3 b hb
        exact ⟨k4, k2, k5, k6⟩
      have nC : H5 s3.heap.objs.size = none := by
        have z : H5 ce.locals = none := I6.free
        rwa [eC] at z
      obtain ⟨m, hn, _⟩ := I6.loc
      have hn : s6.heap.Ns ce.locals m := hn
      rw [eC] at hn
      obtain ⟨l0, l1, l2, l3, l4, l5⟩ := I3.fpOk (Nat.le_refl _) nC
      exact ⟨m, hn, fun h'' sb => ⟨.ref D0, H5, I7.turned (t' := s6.toks) (fun b o hb z => (sb.2 b hb).trans z) l0 l1 l3 l4 l5, rfl, qq⟩⟩
    · subst hB
      refine thnF (T.item (X.blk s3 H3 scope ce fp) rfl rfl rfl hc i [] s5 _ H5 (fun _ _ => False) I5 (quiet I5 n5) st5 go) fun r s6 ⟨u, hr, h6⟩ => ?_
      subst hr
      refine thnF h6 fun _ s7 ⟨x, H7, I7, r7, y7, st7, n7⟩ => ?_
      refine thnF (pg.run _ s7 _ H7 x u _ (I7.pinned (quiet I7 n7) (T.obj _ _ st7)) r7 (step x H7 y7)) fun _ s8 ⟨σ8, H8, I8, hw8, q8⟩ => ?_
      refine thnF ((pts_nil (X := X.blk s3 H3 scope ce fp)).run _ s8 σ8 H8 (fun b H' => b = true ∧ H' = H8) I8 ⟨rfl, rfl⟩) fun b s9 ⟨H9, I9, eb, e9⟩ => ?_
      subst eb e9
      simp only [if_true]
      refine thnF (pk.run _ s9 σ8 H9 _ I9 q8) fun z s10 ⟨yk, H10, I10, r10, kvs, k, b0, ek, eb0, hD10, hz10, nx⟩ => ?_
      subst ek
      obtain rfl : z = Value.ref b0 := r10
      refine thnF ((pe_bl (X := X.blk s3 H3 scope ce fp) (b := true)).run _ s10 σ8 H10 (fun v H' => v = .bl true ∧ H' = H10) I10 ⟨rfl, rfl⟩) fun z2 s11 ⟨yv, H11, I11, r11, ev, e11⟩ => ?_
      subst ev e11
      refine setT (X := X.blk s3 H3 scope ce fp) hu I11 hD10 hz10 eb0 r11 fun s12 I12 => ?_
      obtain ⟨m', hm, w'⟩ := hNx _ nx
      have hl : (wipe σ (own.map (·.2))).length = σ8.length := by rw [← hw8, wipe_length]
      have pin2 : ∀ b ∈ fp, ∀ o, s7.heap.get? b = some o → s12.heap.get? b = some o ∧ (upd H11 D0 (.dT (putK kvs k (.bl true)))) b = none := fun b hb o z => by
        have y := I12.pin (b, o) (List.mem_append_right _ (List.mem_append_right _ (mem_pinsAt hb z)))
        exact ⟨y.1, y.2.1⟩
      refine ⟨m', hm, i + 1, _, (I12.unpinned (pins := [])).weak hl (fun j v z => ?_), T.keep _ _ _ st7 fun b hb o z => (pin2 b hb o z).1, fun b hb => ?_, w'⟩
      · rw [← hw8] at z
        exact (wipe_some z).1
      · obtain ⟨o, z, _⟩ := T.obj _ _ st7 b hb
        exact (pin2 b hb o z).2
  exact codeAny_compStart_dict loop (T.self X.A 0 _ _ _ st4 loop)
end

def toKey : D → Option Key
  | .int i => some (.inl i)
  | .str x => some (.inr x)
  | _ => none
def toKeys : List D → Option (List Key)
  | [] => some []
  | d :: ds => match toKey d, toKeys ds with
    | some k, some ks => some (k :: ks)
    | _, _ => none
def keysOf : D → Option (List Key)
  | .tup ds => toKeys ds
  | _ => none
def putT (kvs : List (List Key × V)) (k : List Key) : List (List Key × V) := putK kvs k (.bl true)
def cntK (ks : List (List Key)) : Nat := (ks.foldl putT []).length
def consK (k : List Key) : Res (List (List Key)) → Res (List (List Key))
  | .ok ks s => .ok (k :: ks) s
  | _ => .bad
def onK (g : List Key → Sx → Res (List (List Key))) : Pv → Sx → Res (List (List Key))
  | .d d, s => match keysOf d with
    | some k => g k s
    | none => .bad
  | _, _ => .bad
def dcL (tgt : Tgt) (key : Sx → Res Pv) (vs : List Nat) : List D → Sx → Res (List (List Key))
  | [], s => .ok [] s
  | x :: xs, s => match tgt x s with
    | some s1 => (dFz key s1).calm.bind (onK fun k s2 => consK k (dcL tgt key vs xs (wipeS vs s2)))
    | none => .bad
def endDc (sl0 : List Slot) (vs : List Nat) : Res (List (List Key)) → Res Pv
  | .ok ks s => .ok (.d (.int ((cntK ks : Nat) : Int))) ⟨restL sl0 s.sl vs, s.bo⟩
  | _ => .bad
def dLenD (src : Sx → Res (List D)) (tgt : Tgt) (key : Sx → Res Pv) (vs : List Nat) : Sx → Res Pv := fun s => (src s).bind fun ds s1 =>
  if okW s1.sl vs then endDc s1.sl vs (dcL tgt key vs ds (wipeS vs s1)) else .bad
section
variable {C : Cf} {Y : Fm} {W : WX} {σ : L2.St} {H F H1 F1 : Hp} {sa : Nat → Addr} {s s1 s2 : Sx} {X : Cx} {tg e kx : Expr} {pos p : Pos} {n : Nat} {src : Sx → Res (List D)} {tgt : Tgt} {key : Sx → Res Pv} {vs : List Nat}
theorem toKey_v {d : D} {v : V} {k : Key} (h : Dat C F d v) (e : toKey d = some k) : v = kV k := by
  unfold toKey at e
  split at e
  · cases e
    simp only [Dat] at h
    exact h
  · cases e
    simp only [Dat] at h
    exact h
  · cases e
theorem toKeys_v : ∀ {ds : List D} {ws : List V} {k : List Key}, DatL C F ds ws → toKeys ds = some k → ws = k.map kV
  | [], ws, k, h, e => by
    cases e
    exact h.nil'
  | d :: ds, ws, k, h, e => by
    simp only [DatL] at h
    obtain ⟨v, r, rfl, h1, h2⟩ := h
    simp only [toKeys] at e
    split at e
    · rename_i k1 ks e1 e2
      cases e
      rw [toKey_v h1 e1, toKeys_v h2 e2]
      rfl
    · cases e
theorem keysOf_v {d : D} {v : V} {k : List Key} (h : Dat C F d v) (e : keysOf d = some k) : ∃ b0, v = .ref b0 ∧ F b0 = some (.tup (k.map kV)) := by
  unfold keysOf at e
  split at e
  · simp only [Dat] at h
    obtain ⟨a, ws, rfl, h1, h2⟩ := h
    exact ⟨a, rfl, by rw [h1, toKeys_v h2 e]⟩
  · cases e
theorem dc_it {J : It} {m : Nat} {Gd : Hp → Prop} {Yd : Nat → Hp → V → Hp → Prop} (w : Walk J m Gd Yd) {g : TG} {tk : TE} {D0 : Addr} {Qd : Hp → Prop} (Pv : Nat → Hp → Prop) (h0 : Pv 0 (upd H1 D0 (.dT []))) (hG : ∀ i H, i ≤ m → Pv i H → Gd H)
    (hs : ∀ i x H H', i < m → Pv i H → Yd i H x H' → g x (L2.wipe σ vs) H' fun σ2 H2 => L2.wipe σ2 vs = L2.wipe σ vs ∧ tk σ2 H2 fun y H4 => ∃ kvs k b0, y = .ref b0 ∧ H4 b0 = some (.tup (k.map kV)) ∧ H4 D0 = some (.dT kvs) ∧ kvs.length < sizeLine ∧ Pv (i + 1) (upd H4 D0 (.dT (putK kvs k (.bl true)))))
    (hd : ∀ H, Pv m H → Qd H) : ∃ G : Nat → Nat → Hp → Prop, (∃ m', G 0 m' (upd H1 D0 (.dT []))) ∧ ∀ i m' H, G i m' H → (J.stop i H ∧ Qd H) ∨ (J.go i H ∧ ∃ Nx : Hp → Prop, (∀ H', Nx H' → ∃ m2, m2 < m' ∧ G (i + 1) m2 H') ∧
      ∀ x H', J.yld i H x H' → g x (L2.wipe σ vs) H' fun σ2 H2 => L2.wipe σ2 vs = L2.wipe σ vs ∧ tk σ2 H2 fun y H4 => ∃ kvs k b0, y = .ref b0 ∧ H4 b0 = some (.tup (k.map kV)) ∧ H4 D0 = some (.dT kvs) ∧ kvs.length < sizeLine ∧ Nx (upd H4 D0 (.dT (putK kvs k (.bl true))))) := by
  refine ⟨fun i k H => k = m - i ∧ i ≤ m ∧ Pv i H, ⟨m, by simp, Nat.zero_le _, h0⟩, ?_⟩
  rintro i k H ⟨rfl, hi, pv⟩
  by_cases lt : i < m
  · exact .inr ⟨w.goes i H lt (hG i H hi pv), Pv (i + 1), fun H' p' => ⟨m - (i + 1), by omega, rfl, lt, p'⟩, fun x H' y => hs i x H H' lt pv (w.yields i H x H' lt (hG i H hi pv) y)⟩
  · have e : i = m := by omega
    subst e
    exact .inl ⟨w.stops H (hG i H hi pv), hd H pv⟩
theorem cnt_le (ks : List (List Key)) : ∀ acc : List (List Key × V), (ks.foldl putT acc).length ≤ acc.length + ks.length := by
  induction ks with
  | nil => intro acc; exact Nat.le_refl _
  | cons k ks ih =>
    intro acc
    have h1 := ih (putT acc k)
    have h2 := length_putK acc k (.bl true)
    simp only [List.foldl_cons, List.length_cons]
    unfold putT at h1 ⊢
    omega
theorem se_lenD {scope : Scope} {own : List (Str × Nat)} {g : TG} {pb pc : Pos} {jb : Nat} (vs : List Nat) (K : Cxt X C W n) (hm : X.mg "len" = none) (hi : SI X C Y W tg e src) (ok : BlkOk X.N X.env.scope scope own)
    (hg : ∀ (s : Shared) (H : Hp) (B : Addr) (cl : List (Str × Addr)) (fp : List Addr), SGc (X.blk s H scope (compEnvC scope cl B X.env) fp) C Y vs tg g tgt) (go : GOwn tgt)
    (he : ∀ (s : Shared) (H : Hp) (B : Addr) (cl : List (Str × Addr)) (fp : List Addr), SE (X.blk s H scope (compEnvC scope cl B X.env) fp) C Y W0 kx key) (hv : own.map (·.2) = vs := by rfl) (hgl : Gl X "len" := by rfl) (hs : ∀ x, foldedSetIterable e X.env x = pure x := by intro _; rfl)
    (hst : starEach (.DictComp kx (.Constant (.bool true) jb pb) [⟨tg, e, [], 0⟩] scope pc :: []) X.env = (false, eval (.DictComp kx (.Constant (.bool true) jb pb) [⟨tg, e, [], 0⟩] scope pc) X.env) :: starEach [] X.env := by rfl) (hpl : (backTo pos (starEach [] X.env)).any (·.1) = false := by rfl) :
    SE X C Y W (.Call (.Name "len" p) [.DictComp kx (.Constant (.bool true) jb pb) [⟨tg, e, [], 0⟩] scope pc] [] pos) (dLenD src tgt key vs) := by
  have h := pe_dcT (X := X) (tg := tg) (g := g) (pos := pc) (pb := pb) (jb := jb) K.calm K.room.units0 K.nd hi ok (fun s H B cl fp => (hg s H B cl fp).pg) (fun s H B cl fp => se_fz (he s H B cl fp)) hs
  rw [hv] at h
  refine pe_weak (pe_callB call_len_dT hgl hm PySem.boot_len (pa_cons h pa_nil hst) (by decide) (by decide) hst hpl) fun σ H Q ⟨F, sa, s, R, hq⟩ => ⟨F, sa, s, R, EndG.bind hq fun ds s1 J H1 F1 e1 R1 S1 V1 h1 => ?_⟩
  intro D0 hD
  obtain ⟨hl, G, Yd, w, hG, hY⟩ := V1
  by_cases ok : okW s1.sl vs = true
  · rw [if_pos ok] at h1
    have fD : F1 D0 = none := R1.fnone hD
    have zD : Y.H0 D0 = none := R1.h0none hD
    have wm : ∀ {s : Sx}, Mt Y sa (wipeS vs s) D0 → Mt Y sa s D0 := fun z => by
      rcases z with ⟨i, xs, z1, z2⟩ | z
      · exact .inl ⟨i, xs, (wipeL_get z1 (by simp)).1, z2⟩
      · exact .inr z
    refine dc_it w (fun i H => ∃ F s, ∃ ks : List (List Key), Rel C Y (L2.wipe σ vs) H F sa s ∧ H D0 = some (.dT (ks.foldl putT [])) ∧ F D0 = none ∧ Step Y sa s1 s H1 F1 H F ∧ ks.length ≤ i ∧
      ∃ rest s', dcL tgt key vs (ds.drop i) s = .ok rest s' ∧ EndG C Y W (PvR C Y) sa s1 σ H1 F1 Q (.ok (.d (.int ((cntK (ks ++ rest) : Nat) : Int))) ⟨restL s1.sl s'.sl vs, s'.bo⟩)) ?_ (fun i H hi ⟨F, s, ks, R, _, _, S, _⟩ => hG H F S.ext R.sub) ?_ ?_
    · cases hr : dcL tgt key vs ds (wipeS vs s1) with
      | bad => rw [hr] at h1; exact h1.elim
      | ex c d s' => rw [hr] at h1; exact h1.elim
      | ok rest s' =>
        rw [hr] at h1
        refine ⟨F1, wipeS vs s1, [], (R1.wipe vs).wr fD zD (fun z => R1.nmt hD (wm z)), upd_same, fD, ⟨Ext.refl _, fun b h2 _ => ?_, fun i xs z => ⟨xs, (wipeL_get z (by simp)).1⟩, upd_dom⟩, Nat.le_refl _, rest, s', by rw [List.drop_zero]; exact hr, h1⟩
        have ne : b ≠ D0 := fun z => h2 (by rw [z]; exact hD)
        rw [upd_ne ne]
        exact ⟨rfl, rfl⟩
    · rintro i x H' H'' hi ⟨F', s', ks, R', hw, hf, S', hal, rest, s3, hr, hq2⟩ y
      obtain ⟨d, hdi⟩ : ∃ d, ds[i]? = some d := ⟨ds[i], List.getElem?_eq_getElem hi⟩
      have hdr : ds.drop i = d :: ds.drop (i + 1) := by
        rw [List.drop_eq_getElem_cons hi]
        congr 1
        rw [List.getElem?_eq_getElem hi] at hdi
        exact Option.some.inj hdi
      rw [hdr] at hr
      simp only [dcL] at hr
      obtain ⟨F2, R2, S2, D2⟩ := hY i d (L2.wipe σ vs) H' F' sa s' x H'' hdi S'.ext R' y
      have nD' : ¬ Mt Y sa s' D0 := fun z => R1.nmt hD (S'.mt z)
      cases ht : tgt d s' with
      | none => rw [ht] at hr; cases hr
      | some s4 =>
        rw [ht] at hr
        simp only at hr
        refine (hg X.s_0 H 0 [] []).go d x (L2.wipe σ vs) H'' F2 sa s' s4 _ R2 D2 ht fun σ2 hwσ R4 => ⟨?_, F2, sa, s4, R4, ?_⟩
        · rw [hwσ, wipe_wipe]
        have S4 : Step Y sa s1 s4 H1 F1 H'' F2 := by
          have q := S'.trans S2
          exact ⟨q.ext, q.fr, fun j xs z => by
            obtain ⟨ys, z⟩ := go.own d s' s4 ht j xs z
            exact q.own j ys z, q.dom⟩
        have hw2 : H'' D0 = some (.dT (ks.foldl putT [])) ∧ F2 D0 = none := by
          obtain ⟨a, b⟩ := S2.fr D0 (by rw [hw]; simp) nD'
          exact ⟨a.trans hw, b.trans hf⟩
        cases hfe : dFz key s4 with
        | bad => rw [hfe] at hr; cases hr
        | ex c d s' => rw [hfe] at hr; cases hr
        | ok pv s6 =>
          rw [hfe] at hr
          simp only [Res.calm, Res.bind] at hr
          intro v6 H6 F6 R6 S6 V6
          cases pv with
          | fr xs => cases hr
          | pl j => cases hr
          | d x6 =>
            simp only [onK] at hr
            cases hk : keysOf x6 with
            | none => rw [hk] at hr; cases hr
            | some k =>
              rw [hk] at hr
              simp only at hr
              obtain ⟨b0, rfl, hb0⟩ := keysOf_v V6 hk
              have nD4 : ¬ Mt Y sa s4 D0 := fun z => R1.nmt hD (S4.mt z)
              have S6' := S4.trans S6
              have hw6 : H6 D0 = some (.dT (ks.foldl putT [])) ∧ F6 D0 = none := by
                obtain ⟨a, b⟩ := S6.fr D0 (by rw [hw2.1]; simp) nD4
                exact ⟨a.trans hw2.1, b.trans hw2.2⟩
              have nD6 : ¬ Mt Y sa s6 D0 := fun z => R1.nmt hD (S6'.mt z)
              cases hrest : dcL tgt key vs (ds.drop (i + 1)) (wipeS vs s6) with
              | bad => rw [hrest] at hr; cases hr
              | ex c d s' => rw [hrest] at hr; cases hr
              | ok rest' s7 =>
                rw [hrest] at hr
                cases hr
                have hcl := cnt_le ks []
                have ef : (ks ++ [k]).foldl putT [] = putK (ks.foldl putT []) k (.bl true) := by
                  rw [List.foldl_append]
                  rfl
                refine ⟨_, k, b0, rfl, R6.sub _ _ hb0, hw6.1, by simp only [List.length_nil] at hcl; omega, F6, wipeS vs s6, ks ++ [k], ?_, by rw [upd_same, ef], hw6.2, ?_, by simp only [List.length_append, List.length_cons, List.length_nil]; omega, rest', s3, hrest, by rw [List.append_assoc]; exact hq2⟩
                · have q := R6.wipe vs
                  rw [hwσ, wipe_wipe] at q
                  exact q.wr hw6.2 zD fun z => nD6 (wm z)
                · refine ⟨S6'.ext, fun b h2 h3 => ?_, fun j xs z => S6'.own j xs (wipeL_get z (by simp)).1, fun b hb => upd_dom b (S6'.dom b hb)⟩
                  have ne : b ≠ D0 := fun z => h2 (by rw [z]; exact hD)
                  rw [upd_ne ne]
                  exact S6'.fr b h2 h3
    · rintro H' ⟨F', s', ks, R', hw, hf, S', _, rest, s3, hr, hq2⟩
      rw [List.drop_length] at hr
      simp only [dcL] at hr
      cases hr
      rw [List.append_nil] at hq2
      obtain ⟨R8, S8⟩ := R1.rest ok R' S'
      exact ⟨D0, _, rfl, hw, hq2 _ H' F' R8 S8 (show Dat C F' (.int ((cntK ks : Nat) : Int)) (.int ((cntK ks : Nat) : Int)) by simp only [Dat])⟩
  · rw [if_neg ok] at h1
    exact h1.elim
end
end Dn
end
section
set_option Elab.async false
set_option linter.all false
set_option maxRecDepth 100000
set_option maxHeartbeats 4000000
namespace Dn
open PySem PySem.Spec PyProof.Rows L2
/-! ### defs by the head's facts -/
section
variable {P : Program} {w : World} {K : PySem.W.Frag} {mg : Str → Option Value} {base : Heap} {C : Cf}
abbrev FnP (K : PySem.W.Frag) (x qual : Str) (st : Stmt) (f : Addr) (fd : FuncData) : Prop := FunD K x qual (defArgs st) (defBody st) (defScope st) [] [] f fd
theorem def_okD {x qual : Str} {st : Stmt} {f : Addr} {fd : FuncData} {N ps : List Str} {k : Nat} {body : Sx → Res Fl} (F : FnP K x qual st f fd) (S : FnScope N ps (defScope st)) (hC : K = C.K)
    (hb : ∀ (cdv : Value) (A : Around) (outer : List Env) (s : Shared) (H : Hp) (E : XK) (Y : Fm), Cxt (Xd P w K mg base N qual st f cdv A outer s H E) C (WD E) k → PassesOwn (model P w) (Xd P w K mg base N qual st f cdv A outer s H E).A (Xd P w K mg base N qual st f cdv A outer s H E).env (Xd P w K mg base N qual st f cdv A outer s H E).xe →
      SB (Xd P w K mg base N qual st f cdv A outer s H E) C Y (WD E) (defBody st) body) : FnOk P w K mg base (L2.CX P w) (k + 1) f fd ps (Pr C ps.length (runDef N.length body)) := by
  refine FunD.ok F S (fun vs H Q E ⟨_, _, _, _, h, _⟩ => h) fun cdv A outer s H vs Q E hr ⟨F0, as, bp, hx, hl, ha, nd, he⟩ => ?_
  refine ⟨_, hb cdv A outer s H E ⟨H, F0, bp⟩ ⟨hC, takes_of rfl rfl rfl rfl, rfl, S.nd, hr⟩ (passes_of rfl), F0, _, _, start_rel hx ha ?_ nd, end_core he⟩
  rw [hl, ← S.pre, List.length_take]
  exact Nat.min_le_right _ _
theorem DefE.mono {n m : Nat} {x : Str} {ps : List Str} {g : List Arg → Cr} (D0 : DefE P w K mg base C n x ps g) (h : n ≤ m := by decide) : DefE P w K mg base C m x ps g := by
  obtain ⟨f, fd, F, r⟩ := D0.ex
  exact ⟨f, fd, F.mono h, r⟩
theorem DefKE.mono {n m : Nat} {x : Str} {ps ks : List Str} {js : List Nat} {g : List Arg → Cr} (D0 : DefKE P w K mg base C n x ps ks js g) (h : n ≤ m := by decide) : DefKE P w K mg base C m x ps ks js g := by
  obtain ⟨f, fd, F, r⟩ := D0.ex
  exact ⟨f, fd, F.mono h, r⟩
theorem HeldE.mono {n m j : Nat} {f : Addr} {sp : Sp} (D0 : HeldE P w K mg base n f j sp) (h : n ≤ m := by decide) : HeldE P w K mg base m f j sp := by
  obtain ⟨fd, ps, F, r⟩ := D0.ex
  exact ⟨fd, ps, F.mono h, r⟩
/-- a def called by keywords alone -/
theorem KBo.of {x qual : Str} {st : Stmt} {f : Addr} {fd : FuncData} {ps ks : List Str} {js : List Nat} (F : FnP K x qual st f fd)
    (h : ∀ (kV doc pm : Value) (an : Option Addr) (cdv ct : Value) (ws : List Value), ws.length = ks.length → bindArgs (PySem.W.fnOf x qual (defArgs st) (defBody st) (defScope st) .none kV doc pm an cdv ct) ⟨[], ks.zip ws⟩ = pure (ps.zip (js.filterMap (ws[·]?)))) : KBo K fd ps ks js := by
  obtain ⟨oc, od, dV, kV, doc, pm, an, cdv, ct, osl, rfl, lk, hcd, hD, hK⟩ := F.ex
  rcases hD with ⟨_, e⟩ | ⟨e, _⟩
  · subst e
    exact .all (h kV doc pm an cdv ct)
  · exact absurd rfl e
theorem defE_of {x qual : Str} {st : Stmt} {f : Addr} {fd : FuncData} {ps : List Str} {n : Nat} {g : List Arg → Cr} (F : FnP K x qual st f fd) (hm : mg x = some (.ref f)) (O : FnOk P w K mg base (L2.CX P w) n f fd ps (Pr C ps.length g))
    (h : ∀ (kV doc pm : Value) (an : Option Addr) (cdv ct : Value) (us : List Value), us.length = ps.length → bindArgs (PySem.W.fnOf x qual (defArgs st) (defBody st) (defScope st) .none kV doc pm an cdv ct) ⟨us, []⟩ = pure (ps.zip us)) :
    DefE P w K mg base C n x ps g := ⟨f, fd, O, hm, F.kp, FunD.bindsN F h⟩
theorem defKE_of {x qual : Str} {st : Stmt} {f : Addr} {fd : FuncData} {ps ks : List Str} {js : List Nat} {n : Nat} {g : List Arg → Cr} (F : FnP K x qual st f fd) (hm : mg x = some (.ref f)) (O : FnOk P w K mg base (L2.CX P w) n f fd ps (Pr C ps.length g))
    (h : ∀ (kV doc pm : Value) (an : Option Addr) (cdv ct : Value) (ws : List Value), ws.length = ks.length → bindArgs (PySem.W.fnOf x qual (defArgs st) (defBody st) (defScope st) .none kV doc pm an cdv ct) ⟨[], ks.zip ws⟩ = pure (ps.zip (js.filterMap (ws[·]?)))) :
    DefKE P w K mg base C n x ps ks js g := ⟨f, fd, O, hm, F.kp, KBo.of F h⟩
theorem heldE_of {x qual : Str} {st : Stmt} {f : Addr} {fd : FuncData} {ps : List Str} {n : Nat} {g : List Arg → Cr} (F : FnP K x qual st f fd) (O : FnOk P w K mg base (L2.CX P w) n f fd ps (Pr C ps.length g))
    (h : ∀ (kV doc pm : Value) (an : Option Addr) (cdv ct : Value) (us : List Value), us.length = ps.length → bindArgs (PySem.W.fnOf x qual (defArgs st) (defBody st) (defScope st) .none kV doc pm an cdv ct) ⟨us, []⟩ = pure (ps.zip us)) :
    HeldE P w K mg base n f ps.length (Pr C ps.length g) := ⟨fd, ps, O, rfl, F.kp, FunD.bindsN F h⟩
/-- a def that is not walked promises nothing -/
theorem fnOk_bad {f : Addr} {fd : FuncData} {ps : List Str} : FnOk P w K mg base (L2.CX P w) 0 f fd ps (Pr C ps.length fun _ => .bad) :=
  ⟨fun vs H Q E ⟨_, _, _, _, h, _⟩ => h, fun A outer s H args us vs Q E hr he hb hv ⟨_, _, _, _, _, _, _, z⟩ => z.elim⟩

/-! ### error classes by a look at K -/
def oexB (K : PySem.W.Frag) (Cc : Addr) : Bool := match K.lookup Cc with
  | some ⟨.type "type", _, .cls cd, sl⟩ => (match cd.mro, sl.toList with
    | .ref c1 :: bm, [_, _, _, _, some (.builtin n), _] => (c1 == Cc && n == "ValueError.__new__") && (!cd.hasDel && (cd.hasDict && PySem.HandSPX.refsVE bm))
    | _, _ => false)
  | _ => false
theorem oexB_ok {Cc : Addr} (h : oexB K Cc = true) : ∃ nm q N bs bm sn sub ab col dd k0 k1 k2 k3 k5, K.lookup Cc = some (excClassObj nm q Cc N bs bm true sn sub ab col dd k0 k1 k2 k3 k5 "ValueError.__new__") ∧ PySem.HandSPX.refsVE bm = true := by
  unfold oexB at h
  split at h
  · rename_i dd cd sl ho
    split at h
    · rename_i c1 bm k0 k1 k2 k3 n k5 hm hs
      simp only [Bool.and_eq_true, beq_iff_eq, Bool.not_eq_true'] at h
      obtain ⟨⟨e1, e2⟩, e3, e4, e5⟩ := h
      subst e1 e2
      obtain ⟨nm, bs, mro, ns, qn, hd, sn, sub, ab, col, del⟩ := cd
      dsimp only at hm e3 e4
      subst hm e3 e4
      obtain ⟨l⟩ := sl
      simp only at hs
      subst hs
      exact ⟨nm, qn, ns, bs, bm, sn, sub, ab, col, dd, k0, k1, k2, k3, k5, ho, e5⟩
    · cases h
  · cases h
/-- all that is asked of an error class named x -/
def clsB (K : PySem.W.Frag) (x : Str) : Bool := (oexB K (He.ga K x) && He.eqO (PySem.W.findIn K (.ref (He.ga K x)) "__setattr__") (some (some (.builtin "object.__setattr__")))) && (xfB K (He.ga K x) && (decide (PySem.W.typeIn K (.ref (He.ga K x)) = some (.type "type")) &&
  (PySem.W.keepIn K (.ref (He.ga K x)) && (He.eqO (PySem.W.findIn K (.ref (He.ga K x)) "value") (some none) && (He.eqO (PySem.W.findIn K (.ref (He.ga K x)) "__init__") (some (some (.ref (He.ma K (He.ga K x) "__init__")))) &&
    (decide (PySem.W.typeIn K (.ref (He.ma K (He.ga K x) "__init__")) = some (.type "function")) && decide (PySem.W.nsIn K mainGlobals x = some (some (.ref (He.ga K x))))))))))
structure ClsF (K : PySem.W.Frag) (x : Str) : Prop where
  o : OexC K (He.ga K x)
  xf : XfC K (He.ga K x)
  no : PySem.W.findIn K (.ref (He.ga K x)) "value" = some none
  i1 : PySem.W.findIn K (.ref (He.ga K x)) "__init__" = some (some (.ref (He.ma K (He.ga K x) "__init__")))
  i2 : PySem.W.typeIn K (.ref (He.ma K (He.ga K x) "__init__")) = some (.type "function")
  g : PySem.W.nsIn K mainGlobals x = some (some (.ref (He.ga K x)))
theorem clsB_ok {x : Str} (h : clsB K x = true) : ClsF K x := by
  unfold clsB at h
  simp only [Bool.and_eq_true, decide_eq_true_eq] at h
  obtain ⟨⟨h1, h2⟩, h3, h4, h5, h6, h7, h8, h9⟩ := h
  have X := xfB_ok h3
  exact ⟨⟨oexB_ok h1, He.eqO_ok h2, X.exC, h4, h5⟩, X, He.eqO_ok h6, He.eqO_ok h7, h8, h9⟩
def clsBody : Stmt → List Stmt
  | .ClassDef (body := b) .. => b
  | _ => []
end
section
variable {P : Program} {w : World} {K : PySem.W.Frag} {mg : Str → Option Value} {base : Heap} {C : Cf}
theorem ve_init {K : PySem.W.Frag} : PySem.W.findCls K (.type "ValueError") (.type "type") "__init__" = some (.val (.builtin "ValueError.__init__")) := by kernel_rfl
theorem init_core {qual : Str} {st : Stmt} {f : Addr} {fd : FuncData} (F : FnP K "__init__" qual st f fd) (S : FnScope ["self", "value"] ["self", "value"] (defScope st))
    (hb : ∀ (cdv : Value) (A : Around) (outer : List Env) (s : Shared) (H : Hp) (E : XK), PSs (Xd P w K mg base ["self", "value"] qual st f cdv A outer s H E) (defBody st) (tSeq (fun D σ H => tVeI K (tCons (tVar 0) (tCons (tVar 1) tNil)) σ H fun _ H1 => D.nx σ H1) (tOst K "value" (tVar 0) (tVar 1)))) :
    FnOk P w K mg base (L2.CX P w) 1 f fd ["self", "value"] (InitP K) :=
  FunD.ok F S (fun vs H Q E ⟨a, Cc, v, e, _⟩ => by rw [e]; rfl) fun cdv A outer s H vs Q E hr ⟨a, Cc, v, ev, O, hno, ea, hq⟩ => by
    subst ev
    exact ⟨_, hb cdv A outer s H E, .ref a, rfl, v, rfl, a, Cc, [v], rfl, by simp, O, ea, v, rfl, .ref a, rfl, a, Cc, rfl, O, hno, .inl ⟨ea, fun dx h1 h2 => hq dx h1 h2⟩⟩
theorem excE_of {x : Str} {h : Heap} {c : Nat} {qual : Str} {st : Stmt} {fd : FuncData} (X : K.In h) (G : h.Ns mainGlobals mg) (B : ClsF K x) (F : FnP K "__init__" qual st (He.fAd K (x, some "__init__")) fd) (O : FnOk P w K mg base (L2.CX P w) 1 (He.fAd K (x, some "__init__")) fd ["self", "value"] (InitP K)) (hc : C.ca c = He.ga K x)
    (hb : ∀ (kV doc pm : Value) (an : Option Addr) (cdv ct : Value) (us : List Value), us.length = (["self", "value"] : List Str).length → bindArgs (PySem.W.fnOf "__init__" qual (defArgs st) (defBody st) (defScope st) .none kV doc pm an cdv ct) ⟨us, []⟩ = pure ((["self", "value"] : List Str).zip us)) : ExcE P w K mg base C 1 x c :=
  ⟨by rw [hc]; exact B.o, by rw [hc]; exact B.no, ⟨He.ma K (He.ga K x) "__init__", fd, _, by rw [hc]; exact B.i1, B.i2, O, FunD.bindsN F hb⟩, by rw [hc]; exact PySem.W.mg_of X G B.g⟩
/-- at the top nothing is let out -/
theorem fnOk_calm {k : Nat} {f : Addr} {fd : FuncData} {ps : List Str} {sp : Sp} (F : FnOk P w K mg base (L2.CX P w) k f fd ps sp) : FnOk P w K mg base CX0 k f fd ps (fun vs H Q _ => sp vs H Q fun _ _ _ => False) :=
  ⟨fun vs H Q E h => F.len vs H Q _ h, fun A outer s H args us vs Q E hr he hb hv h => codeAny_mono (F.run A outer s H args us vs Q (fun _ _ _ => False) hr he hb hv h) fun r s' hq => by
    cases r with
    | error e =>
      obtain ⟨_, _, _, _, _, _, _, _, _, _, _, _, z⟩ := hq
      exact z.elim
    | ok fl => cases fl <;> exact hq⟩
theorem law_end {C : Cf} {g : List Arg → Cr} {H : Hp} {a : Addr} {ns : List Int} (hS : SqL C.K H a (ns.map V.int)) (h : g [.dat (.scr ns)] = .ret (.dat (.bl true)) []) : Pr C 1 g [.ref a] H (fun v _ => v = .bl true) fun _ _ _ => False := by
  refine ⟨H, [.dat (.scr ns)], [], Ext.refl _, rfl, ⟨.ref a, [], rfl, ?_, rfl, rfl⟩, List.nodup_nil, ?_⟩
  · simp only [Dat]
    exact ⟨a, rfl, hS⟩
  · rw [h]
    intro v H' F' _ hr
    simpa only [RvR, Dat] using hr
end
end Dn
end
section
set_option Elab.async false
set_option linter.all false
set_option maxRecDepth 100000
set_option maxHeartbeats 4000000
namespace Dn
open PySem PySem.Spec PyProof.Rows L2
/-! ### the den terms are run -/
section
variable {α β : Type} {s : Sx} {f g h : Sx → Res Pv} {c t : Sx → Res Bool} {a b : Sx → Res Fl} {as : Sx → Res (List Pv)} {ls : Sx → Res (List D)}
@[simp] theorem s_bind_ok (x : α) (k : α → Sx → Res β) : (Res.ok x s).bind k = k x s := rfl
@[simp] theorem s_bind_ex (e : Nat) (d : D) (k : α → Sx → Res β) : (Res.ex e d s : Res α).bind k = .ex e d s := rfl
@[simp] theorem s_bind_bad (k : α → Sx → Res β) : (Res.bad : Res α).bind k = .bad := rfl
@[simp] theorem s_seqR_nx : seqR a (.ok .nx s) = a s := rfl
@[simp] theorem s_seqR_ret (p : Pv) : seqR a (.ok (.ret p) s) = .ok (.ret p) s := rfl
@[simp] theorem s_seqR_bk : seqR a (.ok .bk s) = .ok .bk s := rfl
@[simp] theorem s_seqR_ct : seqR a (.ok .ct s) = .ok .ct s := rfl
@[simp] theorem s_seqR_ex (e : Nat) (d : D) : seqR a (.ex e d s) = .ex e d s := rfl
@[simp] theorem s_seq : dSeq a b s = seqR b (a s) := rfl
@[simp] theorem s_skip : dSkip s = .ok .nx s := rfl
@[simp] theorem s_ret : dRet f s = (f s).bind fun p s1 => .ok (.ret p) s1 := rfl
@[simp] theorem s_drop : dDrop f s = (f s).bind fun _ s1 => .ok .nx s1 := rfl
@[simp] theorem s_set (i : Nat) : dSet i f s = (f s).bind fun p s1 => endN (setSl i s1 p) := rfl
@[simp] theorem s_endN_some : endN (some s) = .ok .nx s := rfl
@[simp] theorem s_endN_none : endN none = .bad := rfl
@[simp] theorem s_var (i : Nat) (sl : List Slot) (bo : List (List D)) : dVar i ⟨sl, bo⟩ = match sl[i]? with
  | some (.dat d) => .ok (.d d) ⟨sl, bo⟩
  | some (.own xs) => .ok (.d (.lst xs)) ⟨sl.set i (.dat (.lst xs)), bo⟩
  | _ => .bad := rfl
@[simp] theorem s_pl (i : Nat) (sl : List Slot) (bo : List (List D)) : dPl i ⟨sl, bo⟩ = match sl[i]? with
  | some (.dat d) => .ok (.d d) ⟨sl, bo⟩
  | some (.own _) => .ok (.pl i) ⟨sl, bo⟩
  | some (.bor _) => .ok (.pl i) ⟨sl, bo⟩
  | _ => .bad := rfl
@[simp] theorem s_c (d : D) : dC d s = .ok (.d d) s := rfl
@[simp] theorem s_op2 (op : D → D → Option Pv) : dOp2 op f g s = (f s).bind fun pa s1 => (g s1).bind fun pb s2 => end2 op s2 (pa.get s2) (pb.get s2) := rfl
@[simp] theorem s_end2 (op : D → D → Option Pv) (x y : D) : end2 op s (some x) (some y) = match op x y with
    | some pv => .ok pv s
    | none => .bad := rfl
@[simp] theorem s_get_d (x : D) : (Pv.d x).get s = some x := rfl
@[simp] theorem s_get_fr (x : List D) : (Pv.fr x).get s = some (.lst x) := rfl
@[simp] theorem s_get_pl (i : Nat) : (Pv.pl i).get s = (s.cont i).map .lst := rfl
@[simp] theorem s_cont (i : Nat) (sl : List Slot) (bo : List (List D)) : (Sx.mk sl bo).cont i = match sl[i]? with
  | some (.own xs) => some xs
  | some (.bor k) => bo[k]?
  | _ => none := rfl
@[simp] theorem s_test : dTest f s = (f s).bind fun pv s1 => endT s1 (pv.get s1) := rfl
@[simp] theorem s_endT (k : Bool) : endT s (some (.bl k)) = .ok k s := rfl
@[simp] theorem s_not : dNot c s = (c s).bind fun b s1 => .ok (!b) s1 := rfl
@[simp] theorem s_and : dAnd c t s = (c s).bind fun b s1 => match b with
  | true => t s1
  | false => .ok false s1 := rfl
@[simp] theorem s_or : dOr c t s = (c s).bind fun b s1 => match b with
  | true => .ok true s1
  | false => t s1 := rfl
@[simp] theorem s_if (u v : Sx → Res α) : dIf c u v s = (c s).bind fun b s1 => match b with
  | true => u s1
  | false => v s1 := rfl
@[simp] theorem s_andV : dAndV f g s = (dTest f s).bind fun b s1 => match b with
  | true => g s1
  | false => .ok (.d (.bl false)) s1 := rfl
@[simp] theorem s_orV : dOrV f g s = (dTest f s).bind fun b s1 => match b with
  | true => .ok (.d (.bl true)) s1
  | false => g s1 := rfl
@[simp] theorem s_notV : dNotV f s = (dTest f s).bind fun b s1 => .ok (.d (.bl (!b))) s1 := rfl
@[simp] theorem s_nil : dNil s = .ok [] s := rfl
@[simp] theorem s_cons : dCons f as s = (f s).bind fun p s1 => (as s1).bind fun ps s2 => .ok (p :: ps) s2 := rfl
@[simp] theorem s_fz : dFz f s = (f s).bind fun p s1 => .ok p.cold s1 := rfl
@[simp] theorem s_cold_d (x : D) : (Pv.d x).cold = .d x := rfl
@[simp] theorem s_cold_fr (x : List D) : (Pv.fr x).cold = .d (.lst x) := rfl
@[simp] theorem s_cold_pl (i : Nat) : (Pv.pl i).cold = .pl i := rfl
@[simp] theorem s_tup : dTup as s = (as s).bind fun ps s1 => endO s1 (fun ds => .d (.tup ds)) (dats ps) := rfl
@[simp] theorem s_lst : dLst as s = (as s).bind fun ps s1 => endO s1 .fr (dats ps) := rfl
@[simp] theorem s_dats_nil : dats [] = some [] := rfl
@[simp] theorem s_dats_cons (x : D) (ps : List Pv) : dats (.d x :: ps) = (dats ps).map (x :: ·) := rfl
@[simp] theorem s_endO (k : List D → Pv) (ds : List D) : endO s k (some ds) = if ds.length ≤ 1000 then .ok (k ds) s else .bad := rfl
@[simp] theorem s_b (op : List D → Option Pv) : dB op as s = (as s).bind fun ps s1 => endB op s1 (gets s1 ps) := rfl
@[simp] theorem s_endB (op : List D → Option Pv) (xs : List D) : endB op s (some xs) = match op xs with
    | some pv => .ok pv s
    | none => .bad := rfl
@[simp] theorem s_gets_nil : gets s [] = some [] := rfl
@[simp] theorem s_gets_cons (p : Pv) (ps : List Pv) : gets s (p :: ps) = match p.get s, gets s ps with
    | some x, some xs => some (x :: xs)
    | _, _ => none := rfl
@[simp] theorem s_op1 (op : D → Option Pv) : dOp1 op f s = (f s).bind fun pa s1 => end1 op s1 (pa.get s1) := rfl
@[simp] theorem s_end1 (op : D → Option Pv) (x : D) : end1 op s (some x) = match op x with
    | some pv => .ok pv s
    | none => .bad := rfl
@[simp] theorem s_call (k : List Arg → Cr) : dCall k as s = (as s).bind fun ps s1 => callS k s1 ps := rfl
@[simp] theorem s_callK (js : List Nat) (k : List Arg → Cr) : dCallK js k as s = (as s).bind fun ps s1 => if (js.filterMap (ps[·]?)).length = js.length then callS k s1 (js.filterMap (ps[·]?)) else .bad := rfl
@[simp] theorem s_m1 (op : Str → D → Option Pv) : dM1 op f g s = (f s).bind (onStr fun a s1 => (g s1).bind fun pb s2 => endM op a s2 (pb.get s2)) := rfl
@[simp] theorem s_onStr (k : Str → Sx → Res Pv) (z : Str) : onStr k (.d (.str z)) s = k z s := rfl
@[simp] theorem s_endM (op : Str → D → Option Pv) (z : Str) (y : D) : endM op z s (some y) = match op z y with
    | some pv => .ok pv s
    | none => .bad := rfl
@[simp] theorem s_items : dItems f s = (dFz f s).bind fun p s1 => endI s1 p := rfl
@[simp] theorem s_endI (x : D) : endI s (.d x) = match itemsOf x with
    | some xs => .ok xs s
    | none => .bad := rfl
@[simp] theorem s_rng1 : dRng1 as s = (as s).bind fun ps s1 => endR1 s1 (gets s1 ps) := rfl
@[simp] theorem s_endR1 (j : Int) : endR1 s (some [.int j]) = if j ≤ LIM ∧ -(2 ^ 62) ≤ j then .ok (rng 0 j.toNat) s else .bad := rfl
@[simp] theorem s_for (tg : Tgt) : dFor ls tg a s = (ls s).bind fun ds s1 => forL tg a ds s1 := rfl
@[simp] theorem s_forL_nil (tg : Tgt) : forL tg a [] s = .ok .nx s := rfl
@[simp] theorem s_lc (tg : Tgt) (vs : List Nat) : dLc ls tg c f vs s = (ls s).bind fun ds s1 => if okW s1.sl vs then endLc s1.sl vs (lcL tg c f vs ds (wipeS vs s1)) else .bad := rfl
@[simp] theorem s_endLc (sl0 : List Slot) (vs : List Nat) (xs : List D) : endLc sl0 vs (.ok xs s) = .ok (.fr xs) ⟨restL sl0 s.sl vs, s.bo⟩ := rfl
@[simp] theorem s_true : dTrue s = .ok true s := rfl
@[simp] theorem s_chain (op op' : D → D → Option Pv) : dChain op op' f g h s = (f s).bind fun pa s1 => (g s1).bind fun pb s2 => endCh op op' pb h s2 (pa.get s2) (pb.get s2) := rfl
@[simp] theorem s_endCh (op op' : D → D → Option Pv) (pb : Pv) (x y : D) : endCh op op' pb h s (some x) (some y) = match op x y with
    | some (.d (.bl true)) => (h s).bind fun pc s3 => end2 op' s3 (pb.get s3) (pc.get s3)
    | some (.d (.bl false)) => .ok (.d (.bl false)) s
    | _ => .bad := rfl
@[simp] theorem s_sl (l u : Sx → Res (Option Int)) : dSl f l u s = (f s).bind fun p s1 => (l s1).bind fun lo s2 => (u s2).bind fun hi s3 => Dn.endS s3 lo hi (p.get s3) := rfl
@[simp] theorem s_endS (lo hi : Option Int) (x : D) : Dn.endS s lo hi (some x) = match opSl x lo hi with
    | some pv => .ok pv s
    | none => .bad := rfl
@[simp] theorem s_none : dNone s = .ok none s := rfl
@[simp] theorem s_part : dPart f s = (f s).bind fun p s1 => endP s1 (p.get s1) := rfl
@[simp] theorem s_endP (i : Int) : endP s (some (.int i)) = .ok (some i) s := rfl
@[simp] theorem s_asg (k : Tgt) : dAsg k f s = (dFz f s).bind fun p s1 => match p with
  | .d x => endN (k x s1)
  | _ => .bad := rfl
@[simp] theorem s_gT (n : Nat) (ks : Tgts) (ds : List D) : gT n ks (.tup ds) s = if ds.length = n then ks ds s else none := rfl
@[simp] theorem s_gsC (k : Tgt) (ks : Tgts) (d : D) (r : List D) : gsC k ks (d :: r) s = match k d s with
    | some s1 => ks r s1
    | none => none := rfl
@[simp] theorem s_gsN : gsN [] s = some s := rfl
@[simp] theorem s_gN (i : Nat) (d : D) : gN i d s = if i < s.sl.length then some ⟨s.sl.set i (.dat d), s.bo⟩ else none := rfl
@[simp] theorem s_setSl_d (i : Nat) (x : D) : setSl i s (.d x) = if i < s.sl.length then some ⟨s.sl.set i (.dat x), s.bo⟩ else none := rfl
@[simp] theorem s_setSl_fr (i : Nat) (x : List D) : setSl i s (.fr x) = if i < s.sl.length then some ⟨s.sl.set i (.own x), s.bo⟩ else none := rfl
@[simp] theorem s_raise (e : Nat) : dRaise e f s = (dFz f s).bind fun p s1 => endRaise e s1 p := rfl
@[simp] theorem s_endRaise (e : Nat) (x : D) : endRaise e s (.d x) = .ex e x s := rfl
@[simp] theorem s_par (i j : Nat) : dPar i j as s = (as s).bind fun ps s1 => endPar i j s1 (dats ps) := rfl
@[simp] theorem s_endPar (i j : Nat) (x y : D) : endPar i j s (some [x, y]) = if i < s.sl.length ∧ j < s.sl.length then .ok .nx ⟨(s.sl.set i (.dat x)).set j (.dat y), s.bo⟩ else .bad := rfl
@[simp] theorem s_star (i j : Nat) : dStar i j f s = (dFz f s).bind fun p s1 => endStar i j s1 p := rfl
@[simp] theorem s_try (i j : Nat) (ex : Nat → Option Bool) : dTry i j ex a s = endTry i j ex (a s) := rfl
/-! data -/
@[simp] theorem s_callS_nil (k : List Arg → Cr) : callS k s [] = endC s [] (k []) := rfl
theorem callS1 {k : List Arg → Cr} {x y : D} (h : k [.dat x] = .ret (.dat y) []) : callS k s [.d x] = .ok (.d y) s := by
  simp [callS, toArgs, places, distinct, h, endC, putAll]
theorem callS1f {k : List Arg → Cr} {x : D} {y : List D} (h : k [.dat x] = .ret (.fr y) []) : callS k s [.d x] = .ok (.fr y) s := by
  simp [callS, toArgs, places, distinct, h, endC, putAll]
theorem callS1x {k : List Arg → Cr} {x y : D} {e : Nat} (h : k [.dat x] = .ex e y []) : callS k s [.d x] = .ex e y s := by
  simp [callS, toArgs, places, distinct, h, endC, putAll]
theorem callS2 {k : List Arg → Cr} {x x2 y : D} (h : k [.dat x, .dat x2] = .ret (.dat y) []) : callS k s [.d x, .d x2] = .ok (.d y) s := by
  simp [callS, toArgs, places, distinct, h, endC, putAll]
theorem callS2x {k : List Arg → Cr} {x x2 y : D} {e : Nat} (h : k [.dat x, .dat x2] = .ex e y []) : callS k s [.d x, .d x2] = .ex e y s := by
  simp [callS, toArgs, places, distinct, h, endC, putAll]
theorem callS3 {k : List Arg → Cr} {x x2 x3 y : D} (h : k [.dat x, .dat x2, .dat x3] = .ret (.dat y) []) : callS k s [.d x, .d x2, .d x3] = .ok (.d y) s := by
  simp [callS, toArgs, places, distinct, h, endC, putAll]
theorem callS3x {k : List Arg → Cr} {x x2 x3 y : D} {e : Nat} (h : k [.dat x, .dat x2, .dat x3] = .ex e y []) : callS k s [.d x, .d x2, .d x3] = .ex e y s := by
  simp [callS, toArgs, places, distinct, h, endC, putAll]
/-- a comprehension without a test whose item changes nothing -/
theorem lc_pure {tg : Tgt} {elt : Sx → Res Pv} {vs : List Nat} (k : D → D) : ∀ {ds : List D}, (∀ x ∈ ds, ∃ s1 s2, tg x s = some s1 ∧ elt s1 = .ok (.d (k x)) s2 ∧ wipeS vs s2 = s) → lcL tg dTrue elt vs ds s = .ok (ds.map k) s
  | [], _ => rfl
  | x :: xs, h => by
    obtain ⟨s1, s2, h1, h2, h3⟩ := h x List.mem_cons_self
    have ih := lc_pure k (ds := xs) fun y hy => h y (List.mem_cons_of_mem _ hy)
    simp only [lcL, h1, s_true, s_fz, h2, s_bind_ok, s_cold_d, Res.calm, onD, h3, ih, consR, List.map_cons]
/-- a comprehension with a test, the item the name itself -/
theorem lc_filter {tg : Tgt} {cond : Sx → Res Bool} {elt : Sx → Res Pv} {vs : List Nat} (p : D → Bool) (k : D → D) : ∀ {ds : List D}, (∀ x ∈ ds, ∃ s1 s2, tg x s = some s1 ∧ cond s1 = .ok (p x) s1 ∧ wipeS vs s1 = s ∧ elt s1 = .ok (.d (k x)) s2 ∧ wipeS vs s2 = s) → lcL tg cond elt vs ds s = .ok ((ds.filter p).map k) s
  | [], _ => rfl
  | x :: xs, h => by
    obtain ⟨s1, s2, h1, h2, h3, h4, h5⟩ := h x List.mem_cons_self
    have ih := lc_filter p k (ds := xs) fun y hy => h y (List.mem_cons_of_mem _ hy)
    cases hp : p x with
    | true => simp only [lcL, h1, h2, hp, s_fz, h4, s_bind_ok, s_cold_d, Res.calm, onD, h5, ih, consR, List.filter_cons_of_pos hp, List.map_cons]
    | false =>
      rw [List.filter_cons_of_neg (by rw [hp]; exact Bool.false_ne_true)]
      simp only [lcL, h1, h2, hp, s_bind_ok, Res.calm, h3, ih]
/-! one step -/
variable {s1 s2 : Sx} {p q : Pv}
theorem seq_nx (h : a s = .ok .nx s1) : dSeq a b s = b s1 := by rw [s_seq, h, s_seqR_nx]
theorem seq_ret (h : a s = .ok (.ret p) s1) : dSeq a b s = .ok (.ret p) s1 := by rw [s_seq, h, s_seqR_ret]
theorem seq_ex {e : Nat} {d : D} (h : a s = .ex e d s1) : dSeq a b s = .ex e d s1 := by rw [s_seq, h, s_seqR_ex]
theorem if_t {u v : Sx → Res α} (h : c s = .ok true s1) : dIf c u v s = u s1 := by rw [s_if, h, s_bind_ok]
theorem if_f {u v : Sx → Res α} (h : c s = .ok false s1) : dIf c u v s = v s1 := by rw [s_if, h, s_bind_ok]
theorem or_t (h : c s = .ok true s1) : dOr c t s = .ok true s1 := by rw [s_or, h, s_bind_ok]
theorem or_f (h : c s = .ok false s1) : dOr c t s = t s1 := by rw [s_or, h, s_bind_ok]
theorem and_t (h : c s = .ok true s1) : dAnd c t s = t s1 := by rw [s_and, h, s_bind_ok]
theorem and_f (h : c s = .ok false s1) : dAnd c t s = .ok false s1 := by rw [s_and, h, s_bind_ok]
theorem not_of {k : Bool} (h : c s = .ok k s1) : dNot c s = .ok (!k) s1 := by rw [s_not, h, s_bind_ok]
theorem test_of {k : Bool} (h : f s = .ok (.d (.bl k)) s1) : dTest f s = .ok k s1 := by rw [s_test, h, s_bind_ok, s_get_d, s_endT]
theorem andV_t (h : f s = .ok (.d (.bl true)) s1) : dAndV f g s = g s1 := by rw [s_andV, test_of h, s_bind_ok]
theorem andV_f (h : f s = .ok (.d (.bl false)) s1) : dAndV f g s = .ok (.d (.bl false)) s1 := by rw [s_andV, test_of h, s_bind_ok]
theorem notV_of {k : Bool} (h : f s = .ok (.d (.bl k)) s1) : dNotV f s = .ok (.d (.bl (!k))) s1 := by rw [s_notV, test_of h, s_bind_ok]
theorem ret_of (h : f s = .ok p s1) : dRet f s = .ok (.ret p) s1 := by rw [s_ret, h, s_bind_ok]
theorem drop_of (h : f s = .ok p s1) : dDrop f s = .ok .nx s1 := by rw [s_drop, h, s_bind_ok]
theorem fz_of (h : f s = .ok p s1) : dFz f s = .ok p.cold s1 := by rw [s_fz, h, s_bind_ok]
theorem fz_d {x : D} (h : f s = .ok (.d x) s1) : dFz f s = .ok (.d x) s1 := fz_of h
theorem fz_fr {x : List D} (h : f s = .ok (.fr x) s1) : dFz f s = .ok (.d (.lst x)) s1 := fz_of h
theorem set_d {i : Nat} {x : D} (h : f s = .ok (.d x) s1) (hi : i < s1.sl.length) : dSet i f s = .ok .nx ⟨s1.sl.set i (.dat x), s1.bo⟩ := by
  rw [s_set, h, s_bind_ok, s_setSl_d, if_pos hi, s_endN_some]
theorem set_fr {i : Nat} {x : List D} (h : f s = .ok (.fr x) s1) (hi : i < s1.sl.length) : dSet i f s = .ok .nx ⟨s1.sl.set i (.own x), s1.bo⟩ := by
  rw [s_set, h, s_bind_ok, s_setSl_fr, if_pos hi, s_endN_some]
theorem set_ex {i : Nat} {e : Nat} {d : D} (h : f s = .ex e d s1) : dSet i f s = .ex e d s1 := by rw [s_set, h, s_bind_ex]
theorem call1 {k : List Arg → Cr} {x y : D} (h : f s = .ok p s1) (hp : p.cold = .d x) (e : k [.dat x] = .ret (.dat y) []) : dCall k (dCons (dFz f) dNil) s = .ok (.d y) s1 := by
  rw [s_call, s_cons, fz_of h, s_bind_ok, s_nil, s_bind_ok, s_bind_ok, hp, callS1 e]
theorem call1x {k : List Arg → Cr} {x y : D} {n : Nat} (h : f s = .ok p s1) (hp : p.cold = .d x) (e : k [.dat x] = .ex n y []) : dCall k (dCons (dFz f) dNil) s = .ex n y s1 := by
  rw [s_call, s_cons, fz_of h, s_bind_ok, s_nil, s_bind_ok, s_bind_ok, hp, callS1x e]
theorem call1k {k : List Arg → Cr} {x y : D} (h : f s = .ok p s1) (hp : p.cold = .d x) (e : k [.dat x] = .ret (.dat y) []) : dCallK [0] k (dCons (dFz f) dNil) s = .ok (.d y) s1 := by
  rw [s_callK, s_cons, fz_of h, s_bind_ok, s_nil, s_bind_ok, s_bind_ok, hp]
  exact callS1 e
theorem call1kx {k : List Arg → Cr} {x y : D} {n : Nat} (h : f s = .ok p s1) (hp : p.cold = .d x) (e : k [.dat x] = .ex n y []) : dCallK [0] k (dCons (dFz f) dNil) s = .ex n y s1 := by
  rw [s_callK, s_cons, fz_of h, s_bind_ok, s_nil, s_bind_ok, s_bind_ok, hp]
  exact callS1x e
theorem call2 {k : List Arg → Cr} {x x2 y : D} (h : f s = .ok p s1) (hp : p.cold = .d x) (h2 : g s1 = .ok q s2) (hq : q.cold = .d x2) (e : k [.dat x, .dat x2] = .ret (.dat y) []) : dCall k (dCons (dFz f) (dCons (dFz g) dNil)) s = .ok (.d y) s2 := by
  rw [s_call, s_cons, fz_of h, s_bind_ok, s_cons, fz_of h2, s_bind_ok, s_nil, s_bind_ok, s_bind_ok, s_bind_ok, hp, hq, callS2 e]
theorem call2x {k : List Arg → Cr} {x x2 y : D} {n : Nat} (h : f s = .ok p s1) (hp : p.cold = .d x) (h2 : g s1 = .ok q s2) (hq : q.cold = .d x2) (e : k [.dat x, .dat x2] = .ex n y []) : dCall k (dCons (dFz f) (dCons (dFz g) dNil)) s = .ex n y s2 := by
  rw [s_call, s_cons, fz_of h, s_bind_ok, s_cons, fz_of h2, s_bind_ok, s_nil, s_bind_ok, s_bind_ok, s_bind_ok, hp, hq, callS2x e]
theorem op2_of {op : D → D → Option Pv} {x y : D} (h : f s = .ok p s1) (h2 : g s1 = .ok q s2) (hp : p.get s2 = some x) (hq : q.get s2 = some y) {r : Pv} (e : op x y = some r) : dOp2 op f g s = .ok r s2 := by
  rw [s_op2, h, s_bind_ok, h2, s_bind_ok, hp, hq, s_end2, e]
theorem b1_of {op : List D → Option Pv} {x : D} (h : f s = .ok p s1) (hp : (p.cold).get s1 = some x) {r : Pv} (e : op [x] = some r) : dB op (dCons (dFz f) dNil) s = .ok r s1 := by
  rw [s_b, s_cons, fz_of h, s_bind_ok, s_nil, s_bind_ok, s_bind_ok, s_gets_cons, s_gets_nil, hp, s_endB, e]
theorem ret_data {n : Nat} {bd : Sx → Res Fl} {as : List Arg} {x : D} (h : bd (initS n as) = .ok (.ret (.d x)) s1) (hb : s1.bo = []) : runDef n bd as = .ret (.dat x) [] := by
  unfold runDef
  rw [h]
  simp only [endD, endV, hb]
theorem ret_frd {n : Nat} {bd : Sx → Res Fl} {as : List Arg} {x : List D} (h : bd (initS n as) = .ok (.ret (.fr x)) s1) (hb : s1.bo = []) : runDef n bd as = .ret (.fr x) [] := by
  unfold runDef
  rw [h]
  simp only [endD, endV, hb]
theorem ret_exd {n : Nat} {bd : Sx → Res Fl} {as : List Arg} {x : D} {e : Nat} (h : bd (initS n as) = .ex e x s1) (hb : s1.bo = []) : runDef n bd as = .ex e x [] := by
  unfold runDef
  rw [h]
  simp only [endD, hb]
/-- a comprehension, its source and its items known -/
theorem lc_of {tg : Tgt} {vs : List Nat} {ds xs : List D} {sw : Sx} (h : ls s = .ok ds s1) (ok : okW s1.sl vs = true) (e : lcL tg c f vs ds (wipeS vs s1) = .ok xs sw) : dLc ls tg c f vs s = .ok (.fr xs) ⟨restL s1.sl sw.sl vs, sw.bo⟩ := by
  rw [s_lc, h, s_bind_ok, if_pos ok, e, s_endLc]
theorem items_of {x : D} {xs : List D} (h : f s = .ok p s1) (hp : p.cold = .d x) (e : itemsOf x = some xs) : dItems f s = .ok xs s1 := by
  rw [s_items, fz_of h, s_bind_ok, hp, s_endI, e]
theorem q_nx {r : Res Fl} (h : a s = .ok .nx s1) (h2 : b s1 = r) : dSeq a b s = r := (seq_nx h).trans h2
theorem q_ift {u v : Sx → Res α} {r : Res α} (h : c s = .ok true s1) (h2 : u s1 = r) : dIf c u v s = r := (if_t h).trans h2
theorem q_iff {u v : Sx → Res α} {r : Res α} (h : c s = .ok false s1) (h2 : v s1 = r) : dIf c u v s = r := (if_f h).trans h2
theorem q_orf {r : Res Bool} (h : c s = .ok false s1) (h2 : t s1 = r) : dOr c t s = r := (or_f h).trans h2
theorem q_andt {r : Res Bool} (h : c s = .ok true s1) (h2 : t s1 = r) : dAnd c t s = r := (and_t h).trans h2
theorem q_andV {r : Res Pv} (h : f s = .ok (.d (.bl true)) s1) (h2 : g s1 = r) : dAndV f g s = r := (andV_t h).trans h2
theorem q_not {k j : Bool} (h : c s = .ok k s1) (e : (!k) = j := by rfl) : dNot c s = .ok j s1 := (not_of h).trans (by rw [e])
end
end Dn
end
section
set_option Elab.async false
set_option linter.all false
set_option maxRecDepth 100000
set_option maxHeartbeats 4000000
noncomputable section
namespace Dn.Ka
open PySem PySem.Spec PyProof.Rows L2
def ex_Unreadable : Nat → Option Bool
  | 0 => some true
  | _ => none
/- show_sides: sides side -/
def b_p_show_sides : Sx → Res Fl :=
  (dRet (dM1 opJoin (dC (.str (" " : Str))) (dLc (dItems (dVar 0)) (gN 1) dTrue (dB opStr (dCons (dFz (dVar 1)) dNil)) [1])))
def g_p_show_sides (as : List Arg) : Cr := runDef 2 b_p_show_sides as
/- is_integer: value -/
def b_p_is_integer : Sx → Res Fl :=
  (dRet (dAndV (dB opIsi (dCons (dFz (dVar 0)) (dCons (dFz (dC (.ty "int"))) dNil))) (dNotV (dB opIsi (dCons (dFz (dVar 0)) (dCons (dFz (dC (.ty "bool"))) dNil))))))
def g_p_is_integer (as : List Arg) : Cr := runDef 1 b_p_is_integer as
/- is_pair: value -/
def b_p_is_pair : Sx → Res Fl :=
  (dRet (dAndV (dB opIsi (dCons (dFz (dVar 0)) (dCons (dFz (dC (.ty "tuple"))) dNil))) (dOp2 opEq (dB opLen (dCons (dFz (dVar 0)) dNil)) (dC (.int 2)))))
def g_p_is_pair (as : List Arg) : Cr := runDef 1 b_p_is_pair as
/- divided: row common a -/
def b_p_divided : Sx → Res Fl :=
  (dSeq (dSet 1 (dC (.int 0)))
  (dSeq (dFor (dItems (dVar 0)) (gN 2) (dSet 1 (dB opGcd (dCons (dFz (dVar 1)) (dCons (dFz (dVar 2)) dNil)))))
  (dRet (dB opTupl (dCons (dFz (dLc (dItems (dVar 0)) (gN 2) dTrue (dOp2 opDiv (dVar 2) (dVar 1)) [2])) dNil)))))
def g_p_divided (as : List Arg) : Cr := runDef 3 b_p_divided as
/- row_of_question: question -/
def b_p_row_of_question : Sx → Res Fl :=
  (dRet (dOp2 opAdd (dOp2 opIx (dVar 0) (dC (.int 0))) (dTup (dCons (dFz (dOp2 opIx (dVar 0) (dC (.int 1)))) dNil))))
def g_p_row_of_question (as : List Arg) : Cr := runDef 1 b_p_row_of_question as
/- integer_of: text digits sign -/
def b_p_integer_of : Sx → Res Fl :=
  (dSeq (dSet 1 (dIf (dTest (dM1 opStarts (dVar 0) (dC (.str ("-" : Str))))) (dSl (dVar 0) (dPart (dC (.int 1))) dNone) (dVar 0)))
  (dSeq (dIf (dOr (dNot (dTest (dChain opLt opLe (dC (.int 0)) (dB opLen (dCons (dFz (dVar 1)) dNil)) (dC (.int 9))))) (dNot (dTest (dB opAll (dCons (dFz (dLc (dItems (dVar 1)) (gN 2) dTrue (dOp2 (opIn false) (dVar 2) (dC (.str ("0123456789" : Str)))) [2])) dNil))))) (dRet (dC .non)) dSkip)
  (dRet (dIf (dTest (dOp2 opEq (dB opStr (dCons (dFz (dB opInt (dCons (dFz (dVar 0)) dNil))) dNil)) (dVar 0))) (dB opInt (dCons (dFz (dVar 0)) dNil)) (dC .non)))))
def g_p_integer_of (as : List Arg) : Cr := runDef 3 b_p_integer_of as
/- whole: parts part -/
def b_p_whole : Sx → Res Fl :=
  (dRet (dIf (dTest (dB opAny (dCons (dFz (dLc (dItems (dVar 0)) (gN 1) dTrue (dOp2 opIsN (dVar 1) (dC .non)) [1])) dNil))) (dC .non) (dB opTupl (dCons (dFz (dVar 0)) dNil))))
def g_p_whole (as : List Arg) : Cr := runDef 2 b_p_whole as
/- _law_bag: script k cell -/
def b_z_law_bag : Sx → Res Fl :=
  (dSeq (dSet 2 (dIf (dTest (dOp2 opLt (dVar 1) (dB opLen (dCons (dFz (dVar 0)) dNil)))) (dB opInt (dCons (dFz (dOp2 opIx (dVar 0) (dVar 1))) dNil)) (dOp2 opAdd (dOp2 opMul (dVar 1) (dC (.int 9699713))) (dOp2 opMul (dB opLen (dCons (dFz (dVar 0)) dNil)) (dC (.int 32452867))))))
  (dRet (dLst (dCons (dFz (dB opMax2 (dCons (dFz (dC (.int 0))) (dCons (dFz (dOp2 opSub (dB opAbs (dCons (dFz (dVar 2)) dNil)) (dOp2 opPow (dC (.int 10)) (dC (.int 18))))) dNil)))) (dCons (dFz (dOp2 opMod (dB opInt (dCons (dFz (dOp2 opAdd (dOp2 opAdd (dOp2 opMul (dVar 2) (dC (.int 179426549))) (dOp2 opMul (dVar 1) (dC (.int 122949829)))) (dC (.int 4421)))) dNil)) (dOp2 opAdd (dOp2 opPow (dC (.int 10)) (dC (.int 26))) (dC (.int 67))))) (dCons (dFz (dC (.int 0))) dNil))))))
def g_z_law_bag (as : List Arg) : Cr := runDef 3 b_z_law_bag as
/- _law_take: bag many found mixed -- changed: bag -/
def b_z_law_take : Sx → Res Fl :=
  (dSeq (dIf (dTest (dOp2 opGt (dOp2 opIx (dPl 0) (dC (.int 0))) (dC (.int 0)))) (dSeq (dSet 2 (dOp2 opMod (dB opInt (dCons (dFz (dOp2 opIx (dPl 0) (dC (.int 0)))) dNil)) (dVar 1)))
   (dSeq (dSetIx (dPl 0) (dC (.int 0)) (dOp2 opDiv (dOp2 opIx (dPl 0) (dC (.int 0))) (dVar 1)))
   (dRet (dVar 2)))) dSkip)
  (dSeq (dSetIx (dPl 0) (dC (.int 2)) (dOp2 opAdd (dOp2 opIx (dPl 0) (dC (.int 2))) (dC (.int 1))))
  (dSeq (dSet 3 (dOp2 opMod (dB opInt (dCons (dFz (dOp2 opPow (dOp2 opAdd (dOp2 opIx (dPl 0) (dC (.int 1))) (dOp2 opMul (dC (.int 15485867)) (dOp2 opIx (dPl 0) (dC (.int 2))))) (dC (.int 3)))) dNil)) (dOp2 opAdd (dOp2 opPow (dC (.int 10)) (dC (.int 31))) (dC (.int 33)))))
  (dSeq (dSet 3 (dOp2 opMod (dB opInt (dCons (dFz (dOp2 opPow (dOp2 opAdd (dVar 3) (dC (.int 982451653))) (dC (.int 3)))) dNil)) (dOp2 opAdd (dOp2 opPow (dC (.int 10)) (dC (.int 33))) (dC (.int 33)))))
  (dRet (dOp2 opMod (dB opInt (dCons (dFz (dOp2 opDiv (dVar 3) (dOp2 opPow (dC (.int 10)) (dC (.int 7))))) dNil)) (dVar 1)))))))
def g_z_law_take (as : List Arg) : Cr := runDef 4 b_z_law_take as
/- _law_divisor: numbers common number one rest -/
def b_z_law_divisor : Sx → Res Fl :=
  (dSeq (dSet 1 (dC (.int 0)))
  (dSeq (dFor (dItems (dVar 0)) (gN 2) (dSeq (dPar 3 4 (dCons (dFz (dB opAbs (dCons (dFz (dVar 2)) dNil))) (dCons (dFz (dVar 1)) dNil)))
   (dSeq (dWhile (dTest (dOp2 opNe (dVar 4) (dC (.int 0)))) (dPar 3 4 (dCons (dFz (dVar 4)) (dCons (dFz (dOp2 opMod (dB opInt (dCons (dFz (dVar 3)) dNil)) (dVar 4))) dNil))))
   (dSet 1 (dVar 3)))))
  (dRet (dVar 1))))
def g_z_law_divisor (as : List Arg) : Cr := runDef 5 b_z_law_divisor as
/- _law_said: row a -/
def b_z_law_said : Sx → Res Fl :=
  (dRet (dM1 opJoin (dC (.str (" " : Str))) (dLc (dItems (dVar 0)) (gN 1) dTrue (dB opStr (dCons (dFz (dVar 1)) dNil)) [1])))
def g_z_law_said (as : List Arg) : Cr := runDef 2 b_z_law_said as
/- show_question: question sides wall -/
def b_p_show_question : Sx → Res Fl :=
  (dSeq (dAsg (gT 2 (gsC (gN 1) (gsC (gN 2) gsN))) (dVar 0))
  (dRet (dOp2 opAdd (dOp2 opAdd (dCall g_p_show_sides (dCons (dFz (dVar 1)) dNil)) (dC (.str (" : " : Str)))) (dB opStr (dCons (dFz (dVar 2)) dNil)))))
def g_p_show_question (as : List Arg) : Cr := runDef 3 b_p_show_question as
/- show_bundle: bundle d sticks stick -/
def b_p_show_bundle : Sx → Res Fl :=
  (dSeq (dAsg (gT 2 (gsC (gN 1) (gsC (gN 2) gsN))) (dVar 0))
  (dRet (dM1 opJoin (dC (.str ("\n" : Str))) (dOp2 opAdd (dLst (dCons (dFz (dOp2 opAdd (dC (.str ("bundle " : Str))) (dB opStr (dCons (dFz (dVar 1)) dNil)))) dNil)) (dLc (dItems (dVar 2)) (gN 3) dTrue (dCall g_p_show_sides (dCons (dFz (dVar 3)) dNil)) [3])))))
def g_p_show_bundle (as : List Arg) : Cr := runDef 4 b_p_show_bundle as
/- show_whole: point -/
def b_p_show_whole : Sx → Res Fl :=
  (dRet (dCall g_p_show_sides (dCons (dFz (dVar 0)) dNil)))
def g_p_show_whole (as : List Arg) : Cr := runDef 1 b_p_show_whole as
/- are_integers: value a -/
def b_p_are_integers : Sx → Res Fl :=
  (dRet (dAndV (dB opIsi (dCons (dFz (dVar 0)) (dCons (dFz (dC (.ty "tuple"))) dNil))) (dB opAll (dCons (dFz (dLc (dItems (dVar 0)) (gN 1) dTrue (dCall g_p_is_integer (dCons (dFz (dVar 1)) dNil)) [1])) dNil))))
def g_p_are_integers (as : List Arg) : Cr := runDef 2 b_p_are_integers as
/- ground_of: question numbers first a -/
def b_p_ground_of : Sx → Res Fl :=
  (dSeq (dSet 1 (dCall g_p_divided (dCons (dFz (dCall g_p_row_of_question (dCons (dFz (dVar 0)) dNil))) dNil)))
  (dSeq (dSet 2 (dOp2 opIx (dLc (dItems (dVar 1)) (gN 3) (dTest (dOp2 opNe (dVar 3) (dC (.int 0)))) (dVar 3) [3]) (dC (.int 0))))
  (dRet (dIf (dTest (dOp2 opGt (dVar 2) (dC (.int 0)))) (dVar 1) (dB opTupl (dCons (dFz (dLc (dItems (dVar 1)) (gN 3) dTrue (dOp1 opNeg (dVar 3)) [3])) dNil))))))
def g_p_ground_of (as : List Arg) : Cr := runDef 4 b_p_ground_of as
/- integers_of: text word -/
def b_p_integers_of : Sx → Res Fl :=
  (dRet (dCall g_p_whole (dCons (dFz (dLc (dItems (dM1 opSplit (dVar 0) (dC (.str (" " : Str))))) (gN 1) dTrue (dCall g_p_integer_of (dCons (dFz (dVar 1)) dNil)) [1])) dNil)))
def g_p_integers_of (as : List Arg) : Cr := runDef 2 b_p_integers_of as
/- unknowns_of: line word gap number -/
def b_p_unknowns_of : Sx → Res Fl :=
  (dSeq (dAsg (gT 3 (gsC (gN 1) (gsC (gN 2) (gsC (gN 3) gsN)))) (dM1 opPart (dVar 0) (dC (.str (" " : Str)))))
  (dRet (dIf (dTest (dOp2 opEq (dVar 1) (dC (.str ("book" : Str))))) (dCall g_p_integer_of (dCons (dFz (dVar 3)) dNil)) (dC .non))))
def g_p_unknowns_of (as : List Arg) : Cr := runDef 4 b_p_unknowns_of as
/- _law_ground: sides wall common first side -/
def b_z_law_ground : Sx → Res Fl :=
  (dSeq (dSet 2 (dCall g_z_law_divisor (dCons (dFz (dOp2 opAdd (dB opList (dCons (dFz (dVar 0)) dNil)) (dLst (dCons (dFz (dVar 1)) dNil)))) dNil)))
  (dSeq (dSet 3 (dOp2 opIx (dLc (dItems (dVar 0)) (gN 4) (dTest (dOp2 opNe (dVar 4) (dC (.int 0)))) (dVar 4) [4]) (dC (.int 0))))
  (dRet (dB opTupl (dCons (dFz (dLc (dItems (dOp2 opAdd (dB opList (dCons (dFz (dVar 0)) dNil)) (dLst (dCons (dFz (dVar 1)) dNil)))) (gN 4) dTrue (dOp2 opDiv (dVar 4) (dIf (dTest (dOp2 opGt (dVar 3) (dC (.int 0)))) (dVar 2) (dOp1 opNeg (dVar 2)))) [4])) dNil)))))
def g_z_law_ground (as : List Arg) : Cr := runDef 5 b_z_law_ground as
/- _law_integer: bag digits found turn -- changed: bag -/
def b_z_law_integer : Sx → Res Fl :=
  (dSeq (dSet 2 (dC (.int 0)))
  (dSeq (dFor (dRng1 (dCons (dFz (dOp2 opAdd (dC (.int 1)) (dCall g_z_law_take (dCons (dFz (dPl 0)) (dCons (dFz (dOp2 opIx (dLst (dCons (dFz (dC (.int 1))) (dCons (dFz (dC (.int 2))) (dCons (dFz (dVar 1)) dNil)))) (dCall g_z_law_take (dCons (dFz (dPl 0)) (dCons (dFz (dC (.int 3))) dNil))))) dNil))))) dNil)) (gN 3) (dSet 2 (dOp2 opAdd (dOp2 opMul (dC (.int 10)) (dVar 2)) (dCall g_z_law_take (dCons (dFz (dPl 0)) (dCons (dFz (dC (.int 10))) dNil))))))
  (dRet (dIf (dTest (dOp2 opEq (dCall g_z_law_take (dCons (dFz (dPl 0)) (dCons (dFz (dC (.int 2))) dNil))) (dC (.int 0)))) (dOp1 opNeg (dVar 2)) (dVar 2)))))
def g_z_law_integer (as : List Arg) : Cr := runDef 4 b_z_law_integer as
/- _law_said_system: word system lines sides wall -/
def b_z_law_said_system : Sx → Res Fl :=
  (dSeq (dSet 2 (dLc (dItems (dOp2 opIx (dVar 1) (dC (.int 1)))) (gT 2 (gsC (gN 3) (gsC (gN 4) gsN))) dTrue (dOp2 opAdd (dOp2 opAdd (dCall g_z_law_said (dCons (dFz (dVar 3)) dNil)) (dC (.str (" : " : Str)))) (dB opStr (dCons (dFz (dVar 4)) dNil))) [3, 4]))
  (dRet (dM1 opJoin (dC (.str ("\n" : Str))) (dOp2 opAdd (dLst (dCons (dFz (dOp2 opAdd (dOp2 opAdd (dVar 0) (dC (.str (" " : Str)))) (dB opStr (dCons (dFz (dOp2 opIx (dVar 1) (dC (.int 0)))) dNil)))) dNil)) (dVar 2)))))
def g_z_law_said_system (as : List Arg) : Cr := runDef 5 b_z_law_said_system as
/- _law_said_bundle: bundle stick -/
def b_z_law_said_bundle : Sx → Res Fl :=
  (dRet (dM1 opJoin (dC (.str ("\n" : Str))) (dOp2 opAdd (dLst (dCons (dFz (dOp2 opAdd (dC (.str ("bundle " : Str))) (dB opStr (dCons (dFz (dOp2 opIx (dVar 0) (dC (.int 0)))) dNil)))) dNil)) (dLc (dItems (dOp2 opIx (dVar 0) (dC (.int 1)))) (gN 1) dTrue (dCall g_z_law_said (dCons (dFz (dVar 1)) dNil)) [1]))))
def g_z_law_said_bundle (as : List Arg) : Cr := runDef 2 b_z_law_said_bundle as
/- show_book: book d questions question -/
def b_p_show_book : Sx → Res Fl :=
  (dSeq (dAsg (gT 2 (gsC (gN 1) (gsC (gN 2) gsN))) (dVar 0))
  (dRet (dM1 opJoin (dC (.str ("\n" : Str))) (dOp2 opAdd (dLst (dCons (dFz (dOp2 opAdd (dC (.str ("book " : Str))) (dB opStr (dCons (dFz (dVar 1)) dNil)))) dNil)) (dLc (dItems (dVar 2)) (gN 3) dTrue (dCall g_p_show_question (dCons (dFz (dVar 3)) dNil)) [3])))))
def g_p_show_book (as : List Arg) : Cr := runDef 4 b_p_show_book as
/- show_system: system d rows row -/
def b_p_show_system : Sx → Res Fl :=
  (dSeq (dAsg (gT 2 (gsC (gN 1) (gsC (gN 2) gsN))) (dVar 0))
  (dRet (dM1 opJoin (dC (.str ("\n" : Str))) (dOp2 opAdd (dLst (dCons (dFz (dOp2 opAdd (dC (.str ("system " : Str))) (dB opStr (dCons (dFz (dVar 1)) dNil)))) dNil)) (dLc (dItems (dVar 2)) (gN 3) dTrue (dCall g_p_show_question (dCons (dFz (dVar 3)) dNil)) [3])))))
def g_p_show_system (as : List Arg) : Cr := runDef 4 b_p_show_system as
/- is_question: d told side -/
def b_p_is_question : Sx → Res Fl :=
  (dSeq (dIf (dOr (dNot (dTest (dCall g_p_is_pair (dCons (dFz (dVar 1)) dNil)))) (dOr (dNot (dTest (dCall g_p_are_integers (dCons (dFz (dOp2 opIx (dVar 1) (dC (.int 0)))) dNil)))) (dNot (dTest (dCall g_p_is_integer (dCons (dFz (dOp2 opIx (dVar 1) (dC (.int 1)))) dNil)))))) (dRet (dC (.bl false))) dSkip)
  (dRet (dAndV (dOp2 opEq (dB opLen (dCons (dFz (dOp2 opIx (dVar 1) (dC (.int 0)))) dNil)) (dVar 0)) (dB opAny (dCons (dFz (dLc (dItems (dOp2 opIx (dVar 1) (dC (.int 0)))) (gN 2) dTrue (dOp2 opNe (dVar 2) (dC (.int 0))) [2])) dNil)))))
def g_p_is_question (as : List Arg) : Cr := runDef 3 b_p_is_question as
/- is_stick: d told a -/
def b_p_is_stick : Sx → Res Fl :=
  (dRet (dAndV (dCall g_p_are_integers (dCons (dFz (dVar 1)) dNil)) (dAndV (dOp2 opEq (dB opLen (dCons (dFz (dVar 1)) dNil)) (dVar 0)) (dB opAny (dCons (dFz (dLc (dItems (dVar 1)) (gN 2) dTrue (dOp2 opNe (dVar 2) (dC (.int 0))) [2])) dNil)))))
def g_p_is_stick (as : List Arg) : Cr := runDef 3 b_p_is_stick as
/- is_line: d told -/
def b_p_is_line : Sx → Res Fl :=
  (dRet (dAndV (dCall g_p_is_pair (dCons (dFz (dVar 1)) dNil)) (dAndV (dCall g_p_are_integers (dCons (dFz (dOp2 opIx (dVar 1) (dC (.int 0)))) dNil)) (dAndV (dOp2 opEq (dB opLen (dCons (dFz (dOp2 opIx (dVar 1) (dC (.int 0)))) dNil)) (dVar 0)) (dCall g_p_is_integer (dCons (dFz (dOp2 opIx (dVar 1) (dC (.int 1)))) dNil))))))
def g_p_is_line (as : List Arg) : Cr := runDef 2 b_p_is_line as
/- question_of: line sides colon wall -/
def b_p_question_of : Sx → Res Fl :=
  (dSeq (dAsg (gT 3 (gsC (gN 1) (gsC (gN 2) (gsC (gN 3) gsN)))) (dM1 opPart (dVar 0) (dC (.str (" : " : Str)))))
  (dRet (dIf (dTest (dOp2 opNe (dVar 2) (dC (.str ("" : Str))))) (dCall g_p_whole (dCons (dFz (dLst (dCons (dFz (dCall g_p_integers_of (dCons (dFz (dVar 1)) dNil))) (dCons (dFz (dCall g_p_integer_of (dCons (dFz (dVar 3)) dNil))) dNil)))) dNil)) (dC .non))))
def g_p_question_of (as : List Arg) : Cr := runDef 4 b_p_question_of as
/- _law_rows: bag d many digits rows_now row sides place -- changed: bag rows_now sides -/
def b_z_law_rows : Sx → Res Fl :=
  (dSeq (dSet 4 (dLst dNil))
  (dSeq (dFor (dRng1 (dCons (dFz (dVar 2)) dNil)) (gN 5) (dSeq (dSet 6 (dLc (dRng1 (dCons (dFz (dVar 1)) dNil)) (gN 7) dTrue (dCall g_z_law_integer (dCons (dFz (dPl 0)) (dCons (dFz (dVar 3)) dNil))) [7]))
   (dSeq (dSetIx (dPl 6) (dCall g_z_law_take (dCons (dFz (dPl 0)) (dCons (dFz (dVar 1)) dNil))) (dOp2 opAdd (dC (.int 1)) (dCall g_z_law_take (dCons (dFz (dPl 0)) (dCons (dFz (dC (.int 9))) dNil)))))
   (dDrop (dApp (dPl 4) (dB opTupl (dCons (dFz (dPl 6)) dNil)))))))
  (dRet (dVar 4))))
def g_z_law_rows (as : List Arg) : Cr := runDef 8 b_z_law_rows as
/- _law_is_book: system grounds sides wall -- changed: grounds -/
def b_z_law_is_book : Sx → Res Fl :=
  (dSeq (dSet 1 (dLst dNil))
  (dSeq (dFor (dItems (dOp2 opIx (dVar 0) (dC (.int 1)))) (gT 2 (gsC (gN 2) (gsC (gN 3) gsN))) (dSeq (dIf (dOr (dTest (dOp2 opEq (dCall g_z_law_divisor (dCons (dFz (dVar 2)) dNil)) (dC (.int 0)))) (dTest (dOp2 (opIn false) (dCall g_z_law_ground (dCons (dFz (dVar 2)) (dCons (dFz (dVar 3)) dNil))) (dPl 1)))) (dRet (dC (.bl false))) dSkip)
   (dDrop (dApp (dPl 1) (dCall g_z_law_ground (dCons (dFz (dVar 2)) (dCons (dFz (dVar 3)) dNil)))))))
  (dRet (dC (.bl true)))))
def g_z_law_is_book (as : List Arg) : Cr := runDef 4 b_z_law_is_book as
/- is_book: told question -/
def b_p_is_book : Sx → Res Fl :=
  (dSeq (dIf (dOr (dNot (dTest (dCall g_p_is_pair (dCons (dFz (dVar 0)) dNil)))) (dOr (dNot (dTest (dCall g_p_is_integer (dCons (dFz (dOp2 opIx (dVar 0) (dC (.int 0)))) dNil)))) (dOr (dTest (dOp2 opLt (dOp2 opIx (dVar 0) (dC (.int 0))) (dC (.int 1)))) (dNot (dTest (dB opIsi (dCons (dFz (dOp2 opIx (dVar 0) (dC (.int 1)))) (dCons (dFz (dC (.ty "tuple"))) dNil)))))))) (dRet (dC (.bl false))) dSkip)
  (dSeq (dIf (dNot (dTest (dB opAll (dCons (dFz (dLc (dItems (dOp2 opIx (dVar 0) (dC (.int 1)))) (gN 1) dTrue (dCall g_p_is_question (dCons (dFz (dOp2 opIx (dVar 0) (dC (.int 0)))) (dCons (dFz (dVar 1)) dNil))) [1])) dNil)))) (dRet (dC (.bl false))) dSkip)
  (dRet (dOp2 opEq (dLenD (dItems (dOp2 opIx (dVar 0) (dC (.int 1)))) (gN 1) (dCall g_p_ground_of (dCons (dFz (dVar 1)) dNil)) [1]) (dB opLen (dCons (dFz (dOp2 opIx (dVar 0) (dC (.int 1)))) dNil))))))
def g_p_is_book (as : List Arg) : Cr := runDef 2 b_p_is_book as
/- is_bundle_of: told stick -/
def b_p_is_bundle_of : Sx → Res Fl :=
  (dSeq (dIf (dOr (dNot (dTest (dCall g_p_is_pair (dCons (dFz (dVar 0)) dNil)))) (dOr (dNot (dTest (dCall g_p_is_integer (dCons (dFz (dOp2 opIx (dVar 0) (dC (.int 0)))) dNil)))) (dOr (dTest (dOp2 opLt (dOp2 opIx (dVar 0) (dC (.int 0))) (dC (.int 1)))) (dNot (dTest (dB opIsi (dCons (dFz (dOp2 opIx (dVar 0) (dC (.int 1)))) (dCons (dFz (dC (.ty "tuple"))) dNil)))))))) (dRet (dC (.bl false))) dSkip)
  (dRet (dB opAll (dCons (dFz (dLc (dItems (dOp2 opIx (dVar 0) (dC (.int 1)))) (gN 1) dTrue (dCall g_p_is_stick (dCons (dFz (dOp2 opIx (dVar 0) (dC (.int 0)))) (dCons (dFz (dVar 1)) dNil))) [1])) dNil))))
def g_p_is_bundle_of (as : List Arg) : Cr := runDef 2 b_p_is_bundle_of as
/- is_system: told line -/
def b_p_is_system : Sx → Res Fl :=
  (dSeq (dIf (dOr (dNot (dTest (dCall g_p_is_pair (dCons (dFz (dVar 0)) dNil)))) (dOr (dNot (dTest (dCall g_p_is_integer (dCons (dFz (dOp2 opIx (dVar 0) (dC (.int 0)))) dNil)))) (dOr (dTest (dOp2 opLt (dOp2 opIx (dVar 0) (dC (.int 0))) (dC (.int 1)))) (dNot (dTest (dB opIsi (dCons (dFz (dOp2 opIx (dVar 0) (dC (.int 1)))) (dCons (dFz (dC (.ty "tuple"))) dNil)))))))) (dRet (dC (.bl false))) dSkip)
  (dRet (dB opAll (dCons (dFz (dLc (dItems (dOp2 opIx (dVar 0) (dC (.int 1)))) (gN 1) dTrue (dCall g_p_is_line (dCons (dFz (dOp2 opIx (dVar 0) (dC (.int 0)))) (dCons (dFz (dVar 1)) dNil))) [1])) dNil))))
def g_p_is_system (as : List Arg) : Cr := runDef 2 b_p_is_system as
def gs_only : Nat → Option (List Arg → Cr)
  | 0 => some g_p_question_of
  | 1 => some g_p_integers_of
  | _ => none
/- only: told text line gap rest found -/
def b_p_only : Sx → Res Fl :=
  (dSeq (dAsg (gT 3 (gsC (gN 2) (gsC (gN 3) (gsC (gN 4) gsN)))) (dM1 opPart (dVar 1) (dC (.str ("\n" : Str)))))
  (dSeq (dSet 5 (dCallL 0 gs_only (dCons (dFz (dVar 2)) dNil)))
  (dSeq (dIf (dTest (dOp2 opIsN (dVar 5) (dC .non))) (dRaise 0 (dC (.int 1))) dSkip)
  (dSeq (dIf (dTest (dOp2 opNe (dVar 3) (dC (.str ("" : Str))))) (dRaise 0 (dC (.int 2))) dSkip)
  (dRet (dVar 5))))))
def g_p_only (as : List Arg) : Cr := runDef 6 b_p_only as
def gs_headed : Nat → Option (List Arg → Cr)
  | 0 => some g_p_question_of
  | 1 => some g_p_integers_of
  | _ => none
/- headed: word told text first lines head gap number d found line at part -/
def b_p_headed : Sx → Res Fl :=
  (dSeq (dStar 3 4 (dM1 opSplit (dVar 2) (dC (.str ("\n" : Str)))))
  (dSeq (dAsg (gT 3 (gsC (gN 5) (gsC (gN 6) (gsC (gN 7) gsN)))) (dM1 opPart (dVar 3) (dC (.str (" " : Str)))))
  (dSeq (dSet 8 (dIf (dTest (dOp2 opEq (dVar 5) (dVar 0))) (dCall g_p_integer_of (dCons (dFz (dVar 7)) dNil)) (dC .non)))
  (dSeq (dIf (dTest (dOp2 opIsN (dVar 8) (dC .non))) (dRaise 0 (dC (.int 1))) dSkip)
  (dSeq (dSet 9 (dLc (dItems (dVar 4)) (gN 10) dTrue (dCallL 1 gs_headed (dCons (dFz (dVar 10)) dNil)) [10]))
  (dSeq (dFor (dEnum (dCons (dFz (dVar 9)) dNil)) (gT 2 (gsC (gN 11) (gsC (gN 12) gsN))) (dIf (dTest (dOp2 opIsN (dVar 12) (dC .non))) (dRaise 0 (dOp2 opAdd (dVar 11) (dC (.int 2)))) dSkip))
  (dRet (dTup (dCons (dFz (dVar 8)) (dCons (dFz (dB opTupl (dCons (dFz (dVar 9)) dNil))) dNil))))))))))
def g_p_headed (as : List Arg) : Cr := runDef 13 b_p_headed as
/- _law_system: bag digits d many rows_now row -- changed: bag -/
def b_z_law_system : Sx → Res Fl :=
  (dSeq (dAsg (gT 2 (gsC (gN 2) (gsC (gN 3) gsN))) (dTup (dCons (dFz (dOp2 opAdd (dC (.int 1)) (dCall g_z_law_take (dCons (dFz (dPl 0)) (dCons (dFz (dOp2 opIx (dLst (dCons (dFz (dC (.int 3))) (dCons (dFz (dC (.int 12))) dNil))) (dCall g_z_law_take (dCons (dFz (dPl 0)) (dCons (dFz (dC (.int 2))) dNil))))) dNil))))) (dCons (dFz (dCall g_z_law_take (dCons (dFz (dPl 0)) (dCons (dFz (dOp2 opIx (dLst (dCons (dFz (dC (.int 4))) (dCons (dFz (dC (.int 21))) dNil))) (dCall g_z_law_take (dCons (dFz (dPl 0)) (dCons (dFz (dC (.int 2))) dNil))))) dNil)))) dNil))))
  (dSeq (dSet 4 (dLc (dItems (dCall g_z_law_rows (dCons (dFz (dPl 0)) (dCons (dFz (dVar 2)) (dCons (dFz (dVar 3)) (dCons (dFz (dVar 1)) dNil)))))) (gN 5) dTrue (dIf (dTest (dOp2 opGt (dCall g_z_law_take (dCons (dFz (dPl 0)) (dCons (dFz (dC (.int 9))) dNil))) (dC (.int 0)))) (dVar 5) (dOp2 opMul (dTup (dCons (dFz (dC (.int 0))) dNil)) (dVar 2))) [5]))
  (dRet (dTup (dCons (dFz (dVar 2)) (dCons (dFz (dB opTupl (dCons (dFz (dLc (dItems (dVar 4)) (gN 5) dTrue (dTup (dCons (dFz (dVar 5)) (dCons (dFz (dCall g_z_law_integer (dCons (dFz (dPl 0)) (dCons (dFz (dVar 1)) dNil)))) dNil))) [5])) dNil))) dNil))))))
def g_z_law_system (as : List Arg) : Cr := runDef 6 b_z_law_system as
/- _law_bundle: bag digits d many -- changed: bag -/
def b_z_law_bundle : Sx → Res Fl :=
  (dSeq (dPar 2 3 (dCons (dFz (dOp2 opAdd (dC (.int 1)) (dCall g_z_law_take (dCons (dFz (dPl 0)) (dCons (dFz (dOp2 opIx (dLst (dCons (dFz (dC (.int 3))) (dCons (dFz (dC (.int 12))) dNil))) (dCall g_z_law_take (dCons (dFz (dPl 0)) (dCons (dFz (dC (.int 2))) dNil))))) dNil))))) (dCons (dFz (dCall g_z_law_take (dCons (dFz (dPl 0)) (dCons (dFz (dOp2 opIx (dLst (dCons (dFz (dC (.int 4))) (dCons (dFz (dC (.int 21))) dNil))) (dCall g_z_law_take (dCons (dFz (dPl 0)) (dCons (dFz (dC (.int 2))) dNil))))) dNil)))) dNil)))
  (dRet (dTup (dCons (dFz (dVar 2)) (dCons (dFz (dB opTupl (dCons (dFz (dCall g_z_law_rows (dCons (dFz (dPl 0)) (dCons (dFz (dVar 2)) (dCons (dFz (dVar 3)) (dCons (dFz (dVar 1)) dNil)))))) dNil))) dNil)))))
def g_z_law_bundle (as : List Arg) : Cr := runDef 4 b_z_law_bundle as
/- is_bundle: told -/
def b_p_is_bundle : Sx → Res Fl :=
  (dRet (dCall g_p_is_bundle_of (dCons (dFz (dVar 0)) dNil)))
def g_p_is_bundle (as : List Arg) : Cr := runDef 1 b_p_is_bundle as
/- read_book: text first lines d questions at line question book -- changed: questions -/
def b_p_read_book : Sx → Res Fl :=
  (dSeq (dStar 1 2 (dM1 opSplit (dVar 0) (dC (.str ("\n" : Str)))))
  (dSeq (dSet 3 (dCall g_p_unknowns_of (dCons (dFz (dVar 1)) dNil)))
  (dSeq (dIf (dTest (dOp2 opIsN (dVar 3) (dC .non))) (dRaise 0 (dC (.int 1))) dSkip)
  (dSeq (dSet 4 (dLst dNil))
  (dSeq (dFor (dEnum (dCons (dFz (dVar 2)) dNil)) (gT 2 (gsC (gN 5) (gsC (gN 6) gsN))) (dSeq (dSet 7 (dCall g_p_question_of (dCons (dFz (dVar 6)) dNil)))
   (dSeq (dIf (dTest (dOp2 opIsN (dVar 7) (dC .non))) (dRaise 0 (dOp2 opAdd (dVar 5) (dC (.int 2)))) dSkip)
   (dDrop (dApp (dPl 4) (dVar 7))))))
  (dSeq (dSet 8 (dTup (dCons (dFz (dVar 3)) (dCons (dFz (dB opTupl (dCons (dFz (dPl 4)) dNil))) dNil))))
  (dSeq (dIf (dNot (dTest (dCall g_p_is_book (dCons (dFz (dVar 8)) dNil)))) (dRaise 0 (dC (.int 0))) dSkip)
  (dRet (dVar 8)))))))))
def g_p_read_book (as : List Arg) : Cr := runDef 9 b_p_read_book as
/- read_system: text system -/
def b_p_read_system : Sx → Res Fl :=
  (dSeq (dSet 1 (dCall g_p_headed (dCons (dFz (dC (.str ("system" : Str)))) (dCons (dFz (dC (.fn 0))) (dCons (dFz (dVar 0)) dNil)))))
  (dSeq (dIf (dNot (dTest (dCall g_p_is_system (dCons (dFz (dVar 1)) dNil)))) (dRaise 0 (dC (.int 0))) dSkip)
  (dRet (dVar 1))))
def g_p_read_system (as : List Arg) : Cr := runDef 2 b_p_read_system as
/- read_whole: text -/
def b_p_read_whole : Sx → Res Fl :=
  (dRet (dCall g_p_only (dCons (dFz (dC (.fn 1))) (dCons (dFz (dVar 0)) dNil))))
def g_p_read_whole (as : List Arg) : Cr := runDef 1 b_p_read_whole as
/- read_bundle: text bundle -/
def b_p_read_bundle : Sx → Res Fl :=
  (dSeq (dSet 1 (dCall g_p_headed (dCons (dFz (dC (.str ("bundle" : Str)))) (dCons (dFz (dC (.fn 1))) (dCons (dFz (dVar 0)) dNil)))))
  (dSeq (dIf (dNot (dTest (dCall g_p_is_bundle (dCons (dFz (dVar 1)) dNil)))) (dRaise 0 (dC (.int 0))) dSkip)
  (dRet (dVar 1))))
def g_p_read_bundle (as : List Arg) : Cr := runDef 2 b_p_read_bundle as
/- _law_read: kind text found error -/
def b_z_law_read : Sx → Res Fl :=
  (dSeq (dSet 2 (dC .non))
  (dSeq (dTry 3 2 ex_Unreadable (dIf (dTest (dOp2 opEq (dVar 0) (dC (.str ("system" : Str))))) (dSet 2 (dLst (dCons (dFz (dCall g_p_read_system (dCons (dFz (dVar 1)) dNil))) (dCons (dFz (dCallK [0] g_p_read_system (dCons (dFz (dVar 1)) dNil))) dNil)))) (dIf (dTest (dOp2 opEq (dVar 0) (dC (.str ("bundle" : Str))))) (dSet 2 (dLst (dCons (dFz (dCall g_p_read_bundle (dCons (dFz (dVar 1)) dNil))) (dCons (dFz (dCallK [0] g_p_read_bundle (dCons (dFz (dVar 1)) dNil))) dNil)))) (dIf (dTest (dOp2 opEq (dVar 0) (dC (.str ("book" : Str))))) (dSet 2 (dLst (dCons (dFz (dCall g_p_read_book (dCons (dFz (dVar 1)) dNil))) (dCons (dFz (dCallK [0] g_p_read_book (dCons (dFz (dVar 1)) dNil))) dNil)))) (dSet 2 (dLst (dCons (dFz (dCall g_p_read_whole (dCons (dFz (dVar 1)) dNil))) (dCons (dFz (dCallK [0] g_p_read_whole (dCons (dFz (dVar 1)) dNil))) dNil))))))))
  (dRet (dVar 2))))
def g_z_law_read (as : List Arg) : Cr := runDef 4 b_z_law_read as
/- _law_same: told due k -/
def b_z_law_same (g : List Arg → Cr) : Sx → Res Fl :=
  (dSeq (dIf (dTest (dOp2 opIsN (dVar 1) (dC .non))) (dRet (dOp2 opIsN (dVar 0) (dC .non))) dSkip)
  (dSeq (dIf (dTest (dB opIsi (dCons (dFz (dVar 1)) (dCons (dFz (dC (.ty "bool"))) dNil)))) (dRet (dAndV (dB opIsi (dCons (dFz (dVar 0)) (dCons (dFz (dC (.ty "bool"))) dNil))) (dOp2 opEq (dVar 0) (dVar 1)))) dSkip)
  (dSeq (dIf (dTest (dB opIsi (dCons (dFz (dVar 1)) (dCons (dFz (dC (.ty "int"))) dNil)))) (dRet (dAndV (dB opIsi (dCons (dFz (dVar 0)) (dCons (dFz (dC (.ty "int"))) dNil))) (dAndV (dNotV (dB opIsi (dCons (dFz (dVar 0)) (dCons (dFz (dC (.ty "bool"))) dNil)))) (dOp2 opEq (dVar 0) (dVar 1))))) dSkip)
  (dSeq (dIf (dTest (dB opIsi (dCons (dFz (dVar 1)) (dCons (dFz (dC (.ty "str"))) dNil)))) (dRet (dAndV (dB opIsi (dCons (dFz (dVar 0)) (dCons (dFz (dC (.ty "str"))) dNil))) (dOp2 opEq (dVar 0) (dVar 1)))) dSkip)
  (dSeq (dIf (dOr (dTest (dOp2 opNe (dB opIsi (dCons (dFz (dVar 1)) (dCons (dFz (dC (.ty "tuple"))) dNil))) (dB opIsi (dCons (dFz (dVar 0)) (dCons (dFz (dC (.ty "tuple"))) dNil))))) (dTest (dOp2 opNe (dB opIsi (dCons (dFz (dVar 1)) (dCons (dFz (dC (.ty "list"))) dNil))) (dB opIsi (dCons (dFz (dVar 0)) (dCons (dFz (dC (.ty "list"))) dNil)))))) (dRet (dC (.bl false))) dSkip)
  (dRet (dAndV (dOp2 opEq (dB opLen (dCons (dFz (dVar 0)) dNil)) (dB opLen (dCons (dFz (dVar 1)) dNil))) (dB opAll (dCons (dFz (dLc (dRng1 (dCons (dFz (dB opLen (dCons (dFz (dVar 1)) dNil))) dNil)) (gN 2) dTrue (dCall g (dCons (dFz (dOp2 opIx (dVar 0) (dVar 2))) (dCons (dFz (dOp2 opIx (dVar 1) (dVar 2))) dNil))) [2])) dNil)))))))))
def g_z_law_same : Nat → List Arg → Cr
  | 0 => fun _ => .bad
  | n + 1 => runDef 3 (b_z_law_same (g_z_law_same n))
/- _law_systems_right: bag asked system text other kind said due -- changed: asked bag -/
def b_z_law_systems_right : Sx → Res Fl :=
  (dSeq (dSet 2 (dCall g_z_law_system (dCons (dFz (dPl 0)) (dCons (dFz (dC (.int 9))) dNil))))
  (dSeq (dPar 3 4 (dCons (dFz (dCall g_z_law_said_system (dCons (dFz (dC (.str ("system" : Str)))) (dCons (dFz (dVar 2)) dNil)))) (dCons (dFz (dCall g_z_law_said_system (dCons (dFz (dC (.str ("book" : Str)))) (dCons (dFz (dVar 2)) dNil)))) dNil)))
  (dSeq (dIf (dNot (dTest (dCall (g_z_law_same 8) (dCons (dFz (dLst (dCons (dFz (dCall g_p_show_system (dCons (dFz (dVar 2)) dNil))) (dCons (dFz (dCallK [0] g_p_show_system (dCons (dFz (dVar 2)) dNil))) dNil)))) (dCons (dFz (dLst (dCons (dFz (dVar 3)) (dCons (dFz (dVar 3)) dNil)))) dNil))))) (dRet (dC (.bl false))) dSkip)
  (dSeq (dDrop (dApp (dPl 1) (dTup (dCons (dFz (dC (.str ("system" : Str)))) (dCons (dFz (dVar 3)) (dCons (dFz (dLst (dCons (dFz (dVar 2)) (dCons (dFz (dVar 2)) dNil)))) dNil))))))
  (dSeq (dDrop (dApp (dPl 1) (dTup (dCons (dFz (dC (.str ("book" : Str)))) (dCons (dFz (dVar 4)) (dCons (dFz (dIf (dTest (dCall g_z_law_is_book (dCons (dFz (dVar 2)) dNil))) (dLst (dCons (dFz (dVar 2)) (dCons (dFz (dVar 2)) dNil))) (dC (.int 0)))) dNil))))))
  (dSeq (dDrop (dApp (dPl 1) (dTup (dCons (dFz (dC (.str ("bundle" : Str)))) (dCons (dFz (dVar 3)) (dCons (dFz (dC (.int 1))) dNil))))))
  (dSeq (dIf (dAnd (dTest (dCall g_z_law_is_book (dCons (dFz (dVar 2)) dNil))) (dNot (dTest (dCall (g_z_law_same 8) (dCons (dFz (dLst (dCons (dFz (dCall g_p_show_book (dCons (dFz (dVar 2)) dNil))) (dCons (dFz (dCallK [0] g_p_show_book (dCons (dFz (dVar 2)) dNil))) dNil)))) (dCons (dFz (dLst (dCons (dFz (dVar 4)) (dCons (dFz (dVar 4)) dNil)))) dNil)))))) (dRet (dC (.bl false))) dSkip)
  (dRet (dCall (g_z_law_same 8) (dCons (dFz (dLc (dItems (dSl (dPl 1) (dPart (dOp1 opNeg (dC (.int 3)))) dNone)) (gT 3 (gsC (gN 5) (gsC (gN 6) (gsC (gN 7) gsN)))) dTrue (dCall g_z_law_read (dCons (dFz (dVar 5)) (dCons (dFz (dVar 6)) dNil))) [5, 6, 7])) (dCons (dFz (dLc (dItems (dSl (dPl 1) (dPart (dOp1 opNeg (dC (.int 3)))) dNone)) (gT 3 (gsC (gN 5) (gsC (gN 6) (gsC (gN 7) gsN)))) dTrue (dVar 7) [5, 6, 7])) dNil)))))))))))
def g_z_law_systems_right (as : List Arg) : Cr := runDef 8 b_z_law_systems_right as
/- _law_bundles_right: bag asked bundle point place text line kind said due -- changed: asked bag -/
def b_z_law_bundles_right : Sx → Res Fl :=
  (dSeq (dPar 2 3 (dCons (dFz (dCall g_z_law_bundle (dCons (dFz (dPl 0)) (dCons (dFz (dC (.int 9))) dNil)))) (dCons (dFz (dB opTupl (dCons (dFz (dLc (dRng1 (dCons (dFz (dOp2 opAdd (dC (.int 1)) (dCall g_z_law_take (dCons (dFz (dPl 0)) (dCons (dFz (dC (.int 12))) dNil))))) dNil)) (gN 4) dTrue (dCall g_z_law_integer (dCons (dFz (dPl 0)) (dCons (dFz (dC (.int 9))) dNil))) [4])) dNil))) dNil)))
  (dSeq (dPar 5 6 (dCons (dFz (dCall g_z_law_said_bundle (dCons (dFz (dVar 2)) dNil))) (dCons (dFz (dCall g_z_law_said (dCons (dFz (dVar 3)) dNil))) dNil)))
  (dSeq (dIf (dNot (dTest (dCall (g_z_law_same 8) (dCons (dFz (dLst (dCons (dFz (dCall g_p_show_bundle (dCons (dFz (dVar 2)) dNil))) (dCons (dFz (dCallK [0] g_p_show_bundle (dCons (dFz (dVar 2)) dNil))) dNil)))) (dCons (dFz (dLst (dCons (dFz (dVar 5)) (dCons (dFz (dVar 5)) dNil)))) dNil))))) (dRet (dC (.bl false))) dSkip)
  (dSeq (dIf (dNot (dTest (dCall (g_z_law_same 8) (dCons (dFz (dLst (dCons (dFz (dCall g_p_show_whole (dCons (dFz (dVar 3)) dNil))) (dCons (dFz (dCallK [0] g_p_show_whole (dCons (dFz (dVar 3)) dNil))) dNil)))) (dCons (dFz (dLst (dCons (dFz (dVar 6)) (dCons (dFz (dVar 6)) dNil)))) dNil))))) (dRet (dC (.bl false))) dSkip)
  (dSeq (dDrop (dApp (dPl 1) (dTup (dCons (dFz (dC (.str ("bundle" : Str)))) (dCons (dFz (dVar 5)) (dCons (dFz (dLst (dCons (dFz (dVar 2)) (dCons (dFz (dVar 2)) dNil)))) dNil))))))
  (dSeq (dDrop (dApp (dPl 1) (dTup (dCons (dFz (dC (.str ("whole" : Str)))) (dCons (dFz (dVar 6)) (dCons (dFz (dLst (dCons (dFz (dVar 3)) (dCons (dFz (dVar 3)) dNil)))) dNil))))))
  (dSeq (dDrop (dApp (dPl 1) (dTup (dCons (dFz (dC (.str ("system" : Str)))) (dCons (dFz (dOp2 opAdd (dC (.str ("system" : Str))) (dSl (dVar 5) (dPart (dC (.int 6))) dNone))) (dCons (dFz (dIf (dTest (dOp2 opNe (dOp2 opIx (dVar 2) (dC (.int 1))) (dTup dNil))) (dC (.int 2)) (dOp2 opMul (dLst (dCons (dFz (dTup (dCons (dFz (dOp2 opIx (dVar 2) (dC (.int 0)))) (dCons (dFz (dTup dNil)) dNil)))) dNil)) (dC (.int 2))))) dNil))))))
  (dSeq (dDrop (dApp (dPl 1) (dTup (dCons (dFz (dC (.str ("whole" : Str)))) (dCons (dFz (dVar 5)) (dCons (dFz (dC (.int 1))) dNil))))))
  (dRet (dCall (g_z_law_same 8) (dCons (dFz (dLc (dItems (dSl (dPl 1) (dPart (dOp1 opNeg (dC (.int 4)))) dNone)) (gT 3 (gsC (gN 7) (gsC (gN 8) (gsC (gN 9) gsN)))) dTrue (dCall g_z_law_read (dCons (dFz (dVar 7)) (dCons (dFz (dVar 8)) dNil))) [7, 8, 9])) (dCons (dFz (dLc (dItems (dSl (dPl 1) (dPart (dOp1 opNeg (dC (.int 4)))) dNone)) (gT 3 (gsC (gN 7) (gsC (gN 8) (gsC (gN 9) gsN)))) dTrue (dVar 9) [7, 8, 9])) dNil))))))))))))
def g_z_law_bundles_right (as : List Arg) : Cr := runDef 10 b_z_law_bundles_right as
/- _law_long_right: bag system bundle told due -- changed: bag due -/
def b_z_law_long_right : Sx → Res Fl :=
  (dSeq (dPar 1 2 (dCons (dFz (dCall g_z_law_system (dCons (dFz (dPl 0)) (dCons (dFz (dC (.int 300))) dNil)))) (dCons (dFz (dCall g_z_law_bundle (dCons (dFz (dPl 0)) (dCons (dFz (dC (.int 300))) dNil)))) dNil)))
  (dSeq (dSet 3 (dLst (dCons (dFz (dCall g_p_show_system (dCons (dFz (dVar 1)) dNil))) (dCons (dFz (dCall g_p_show_bundle (dCons (dFz (dVar 2)) dNil))) (dCons (dFz (dCall g_p_show_whole (dCons (dFz (dIf (dTest (dOp2 opNe (dOp2 opIx (dVar 2) (dC (.int 1))) (dTup dNil))) (dOp2 opIx (dOp2 opIx (dVar 2) (dC (.int 1))) (dC (.int 0))) (dTup (dCons (dFz (dC (.int 0))) dNil)))) dNil))) dNil)))))
  (dSeq (dSet 4 (dLst (dCons (dFz (dCall g_z_law_said_system (dCons (dFz (dC (.str ("system" : Str)))) (dCons (dFz (dVar 1)) dNil)))) (dCons (dFz (dCall g_z_law_said_bundle (dCons (dFz (dVar 2)) dNil))) dNil))))
  (dSeq (dDrop (dApp (dPl 4) (dCall g_z_law_said (dCons (dFz (dIf (dTest (dOp2 opNe (dOp2 opIx (dVar 2) (dC (.int 1))) (dTup dNil))) (dOp2 opIx (dOp2 opIx (dVar 2) (dC (.int 1))) (dC (.int 0))) (dTup (dCons (dFz (dC (.int 0))) dNil)))) dNil))))
  (dRet (dCall (g_z_law_same 8) (dCons (dFz (dVar 3)) (dCons (dFz (dVar 4)) dNil))))))))
def g_z_law_long_right (as : List Arg) : Cr := runDef 5 b_z_law_long_right as
/- law: script asked k bag turn kind text due -- changed: asked bag -/
def b_p_law : Sx → Res Fl :=
  (dSeq (dSet 1 (dLst dNil))
  (dSeq (dFor (dRng1 (dCons (dFz (dB opMax2 (dCons (dFz (dC (.int 1))) (dCons (dFz (dB opMin2 (dCons (dFz (dC (.int 2))) (dCons (dFz (dB opLen (dCons (dFz (dVar 0)) dNil))) dNil)))) dNil)))) dNil)) (gN 2) (dSeq (dSet 3 (dCall g_z_law_bag (dCons (dFz (dVar 0)) (dCons (dFz (dVar 2)) dNil))))
   (dSeq (dFor (dRng1 (dCons (dFz (dC (.int 4))) dNil)) (gN 4) (dIf (dOr (dNot (dTest (dCall g_z_law_systems_right (dCons (dFz (dPl 3)) (dCons (dFz (dPl 1)) dNil))))) (dNot (dTest (dCall g_z_law_bundles_right (dCons (dFz (dPl 3)) (dCons (dFz (dPl 1)) dNil)))))) (dRet (dC (.bl false))) dSkip))
   (dIf (dNot (dTest (dCall g_z_law_long_right (dCons (dFz (dPl 3)) dNil)))) (dRet (dC (.bl false))) dSkip))))
  (dSeq (dFor (dItems (dOp1 opRev (dPl 1))) (gT 3 (gsC (gN 5) (gsC (gN 6) (gsC (gN 7) gsN)))) (dIf (dNot (dTest (dCall (g_z_law_same 8) (dCons (dFz (dCall g_z_law_read (dCons (dFz (dVar 5)) (dCons (dFz (dVar 6)) dNil)))) (dCons (dFz (dVar 7)) dNil))))) (dRet (dC (.bl false))) dSkip))
  (dRet (dC (.bl true))))))
def g_p_law (as : List Arg) : Cr := runDef 8 b_p_law as
end Dn.Ka
end
end
section
set_option Elab.async false
set_option linter.all false
set_option maxRecDepth 100000
set_option maxHeartbeats 4000000
namespace Dn.Ka
open PySem PySem.Spec PyProof.Rows L2
/-! ### numbers as texts -/
def nt (i : Int) : Str := Str.ofString (toString i)
theorem nt_pos {i : Int} (h : 0 ≤ i) : TL.tl (nt i) = TL.numL i.natAbs := by
  have e : i = ((i.natAbs : Nat) : Int) := by omega
  unfold nt
  rw [e]
  exact TL.tl_num i.natAbs
theorem nt_neg {i : Int} (h : i < 0) : TL.tl (nt i) = 45 :: TL.numL i.natAbs := by
  cases i with
  | ofNat n => exact absurd h (by simp)
  | negSucc n =>
    have e : toString (Int.negSucc n) = "-" ++ toString (n + 1) := rfl
    unfold nt
    rw [e, TL.tl_ofString, String.toList_append, List.map_append, ← TL.tl_ofString (toString (n + 1))]
    exact congrArg (45 :: ·) (TL.tl_num (n + 1))
theorem nt_len {i : Int} {k : Nat} (hk : 0 < k) (h : i.natAbs < 10 ^ k) : (nt i).length ≤ k + 1 := by
  have l := TL.numL_len hk h
  rw [TL.len_tl]
  by_cases c : 0 ≤ i
  · rw [nt_pos c]
    omega
  · rw [nt_neg (by omega), List.length_cons]
    omega
theorem nt_int {i : Int} (h : i.natAbs < 10 ^ 300) : PySem.intText? (nt i) = some i := by
  have l := TL.numL_len (by decide) h
  have ll := nt_len (by decide) h
  by_cases c : 0 ≤ i
  · have e : (nt i).cps.toList = TL.numL i.natAbs := nt_pos c
    rw [intText_digits (by rw [e]; exact TL.numL_digits _) (by rw [e]; exact TL.numL_ne _) (by omega), e, TL.numL_val]
    congr 1
    omega
  · have e : (nt i).cps.toList = 45 :: TL.numL i.natAbs := nt_neg (by omega)
    rw [intText_neg e (TL.numL_digits _) (TL.numL_ne _) (by omega), TL.numL_val]
    congr 1
    omega
theorem log_lt {i : Int} {k : Nat} (h : i.natAbs < 2 ^ k) (hk : 0 < k) : i.natAbs.log2 < k := by
  by_cases z : i.natAbs = 0
  · rw [z]
    simpa using hk
  · exact (Nat.log2_lt z).mpr h
theorem small_log {i : Int} (h : i.natAbs < 10 ^ 300) : i.natAbs.log2 < 1920 := log_lt (k := 1920) (Nat.lt_of_lt_of_le h (by decide +kernel)) (by decide)
theorem nt_dig {i : Int} : ∀ c ∈ TL.tl (nt i), c = 45 ∨ (48 ≤ c ∧ c ≤ 57) := by
  intro c hc
  by_cases z : 0 ≤ i
  · rw [nt_pos z] at hc
    exact .inr (TL.numL_digits _ c hc)
  · rw [nt_neg (by omega)] at hc
    rcases List.mem_cons.mp hc with e | hc
    · exact .inl e
    · exact .inr (TL.numL_digits _ c hc)
theorem nt_free {i : Int} {c : Nat} (h : c < 45 ∨ 57 < c) : c ∉ TL.tl (nt i) := fun hm => by
  rcases nt_dig c hm with e | e <;> omega
/-! ### rows as texts -/
def Num (i : Int) : Prop := i.natAbs < 10 ^ 300
def Row (r : List Int) : Prop := r.length ≤ 12 ∧ ∀ i ∈ r, Num i
def said (r : List Int) : Str := Txt.join (" " : Str) (r.map nt)
theorem opStr_nt {i : Int} (h : Num i) : opStr [.int i] = some (.d (.str (nt i))) := if_pos (small_log h)
theorem txts_map {α : Type} (f : α → Str) : ∀ l : List α, txts (l.map fun x => .str (f x)) = some (l.map f)
  | [] => rfl
  | x :: l => by simp [txts, txts_map f l]
theorem sum_le {α : Type} {f : α → Nat} {k : Nat} : ∀ {l : List α}, (∀ x ∈ l, f x ≤ k) → (l.map f).sum ≤ k * l.length
  | [], _ => by simp
  | x :: l, h => by
    have h1 := h x List.mem_cons_self
    have h2 := sum_le (l := l) fun y hy => h y (List.mem_cons_of_mem _ hy)
    simp only [List.map_cons, List.sum_cons, List.length_cons, Nat.mul_add, Nat.mul_one]
    omega
theorem opJoin_map {α : Type} {a : Str} {f : α → Str} {k : Nat} {l : List α} (h : ∀ x ∈ l, (f x).length ≤ k) (hk : k * l.length + l.length * a.length ≤ LIM) :
    opJoin a (.lst (l.map fun x => .str (f x))) = some (.d (.str (Txt.join a (l.map f)))) := by
  simp only [opJoin, txts_map, endJoin]
  refine if_pos ?_
  have z := sum_le (f := fun x => (f x).length) h
  rw [List.length_map, List.map_map]
  exact Nat.le_trans (Nat.add_le_add_right z _) hk
def rowD (r : List Int) : D := .tup (r.map .int)
theorem show_sides {r : List Int} (h : Row r) : g_p_show_sides [.dat (rowD r)] = .ret (.dat (.str (said r))) [] := by
  have e : lcL (gN 1) dTrue (dB opStr (dCons (dFz (dVar 1)) dNil)) [1] (r.map D.int) ⟨[.dat (rowD r), .un], []⟩ = .ok ((r.map D.int).map fun x => match x with
    | .int i => .str (nt i)
    | _ => .non) ⟨[.dat (rowD r), .un], []⟩ := lc_pure _ fun x hx => by
      obtain ⟨i, hi, rfl⟩ := List.mem_map.mp hx
      refine ⟨⟨[.dat (rowD r), .dat (.int i)], []⟩, ⟨[.dat (rowD r), .dat (.int i)], []⟩, rfl, ?_, rfl⟩
      simp [opStr_nt (h.2 i hi)]
  have e2 : ((r.map D.int).map fun x => match x with
    | .int i => D.str (nt i)
    | _ => .non) = r.map fun i => .str (nt i) := by
    rw [List.map_map]
    rfl
  rw [e2] at e
  have ej : opJoin (" " : Str) (.lst (r.map fun i => .str (nt i))) = some (.d (.str (said r))) := opJoin_map (k := 301) (fun i hi => nt_len (by decide) (h.2 i hi)) (by
    have := h.1
    have l1 : (" " : Str).length = 1 := rfl
    rw [l1]
    unfold LIM
    omega)
  unfold g_p_show_sides runDef b_p_show_sides
  simp [initS, argSl, muts, rowD, itemsOf, okW, wipeS, wipeL]
  unfold rowD at e
  rw [e]
  simp [ej, restL, endD, endV]
end Dn.Ka
end
section
set_option Elab.async false
set_option linter.all false
set_option maxRecDepth 100000
set_option maxHeartbeats 4000000
namespace Dn.Ka
open PySem PySem.Spec PyProof.Rows L2
/-! ### readers -/
theorem starts1 (x : Str) (c : Nat) : Txt.startswith x ⟨#[c]⟩ = decide ((TL.tl x)[0]? = some c) := by
  have z := PySem.StrLaws.subAt_one x c 0
  unfold Txt.startswith
  rw [Bool.eq_iff_iff]
  simp only [Bool.and_eq_true, decide_eq_true_eq]
  exact z
theorem cut1 {x : Str} {c : Nat} {l : List Nat} (h : TL.tl x = c :: l) : TL.tl (cutS x (some 1) none) = l := by
  unfold cutS
  rw [TL.tl_mk]
  have e : HT.sIx x.length 0 (some 1) = 1 := by
    have l1 : x.length = l.length + 1 := by rw [TL.len_tl, h]; rfl
    rw [show (some (1 : Int)) = some ((1 : Nat) : Int) from rfl, HT.sIx_nat, l1]
    omega
  rw [e, HT.sIx_none]
  have h : x.cps.toList = c :: l := h
  rw [h, List.drop_one, List.tail_cons]
  refine List.take_of_length_le ?_
  have l1 : x.length = l.length + 1 := by rw [TL.len_tl]; show (TL.tl x).length = _; rw [show TL.tl x = c :: l from h]; rfl
  omega
theorem bls_map {α : Type} (f : α → Bool) : ∀ l : List α, bls (l.map fun x => .bl (f x)) = some (l.map f)
  | [] => rfl
  | x :: l => by simp [bls, bls_map f l]
def DIG : Str := ("0123456789" : Str)
theorem dig_mem (c : Nat) : decide (c ∈ DIG.cps.toList) = (decide (48 ≤ c) && decide (c ≤ 57)) := by
  have e : DIG.cps.toList = [48, 49, 50, 51, 52, 53, 54, 55, 56, 57] := by decide +kernel
  rw [e, Bool.eq_iff_iff]
  simp only [List.mem_cons, List.not_mem_nil, or_false, Bool.and_eq_true, decide_eq_true_eq]
  omega
def isDig (c : Nat) : Bool := decide (48 ≤ c) && decide (c ≤ 57)
/-- what integer_of gives -/
def intOf (x y : Str) : D := if (0 < y.length ∧ y.length ≤ 9) ∧ (TL.tl y).all isDig = true then (match PySem.intText? x with
  | some n => if nt n = x then .int n else .non
  | none => .non) else .non
theorem integer_core {x y : Str} {n : Int} (hx : x.length ≤ 640) (hs : (Txt.startswith x ("-" : Str) = true ∧ y = cutS x (some 1) none) ∨ (Txt.startswith x ("-" : Str) = false ∧ y = x)) (hy : y.length ≤ 640)
    (hn : (0 < y.length ∧ y.length ≤ 9) ∧ (TL.tl y).all isDig = true → PySem.intText? x = some n ∧ Num n) :
    g_p_integer_of [.dat (.str x)] = .ret (.dat (intOf x y)) [] := by
  have hL : x.length ≤ LIM := Nat.le_trans hx (by decide)
  have hL2 : y.length ≤ LIM := Nat.le_trans hy (by decide)
  have first : dIf (dTest (dM1 opStarts (dVar 0) (dC (.str ("-" : Str))))) (dSl (dVar 0) (dPart (dC (.int 1))) dNone) (dVar 0) ⟨[.dat (.str x), .un, .un], []⟩ = .ok (.d (.str y)) ⟨[.dat (.str x), .un, .un], []⟩ := by
    rcases hs with ⟨h1, h2⟩ | ⟨h1, h2⟩
    · simp [opStarts, h1, h2, opSl, hL]
    · simp [opStarts, h1, h2]
  have lc : lcL (gN 2) dTrue (dOp2 (opIn false) (dVar 2) (dC (.str ("0123456789" : Str)))) [2] ((TL.tl y).map fun c => .str ⟨#[c]⟩) ⟨[.dat (.str x), .dat (.str y), .un], []⟩ = .ok ((TL.tl y).map fun c => .bl (isDig c)) ⟨[.dat (.str x), .dat (.str y), .un], []⟩ := by
    have z := lc_pure (s := ⟨[.dat (.str x), .dat (.str y), .un], []⟩) (tg := gN 2) (elt := dOp2 (opIn false) (dVar 2) (dC (.str ("0123456789" : Str)))) (vs := [2]) (fun d => match d with
      | .str z => .bl ((TL.tl z).all isDig)
      | _ => .non) (ds := (TL.tl y).map fun c => .str ⟨#[c]⟩) fun d hd => by
        obtain ⟨c, hc, rfl⟩ := List.mem_map.mp hd
        refine ⟨⟨[.dat (.str x), .dat (.str y), .dat (.str ⟨#[c]⟩)], []⟩, ⟨[.dat (.str x), .dat (.str y), .dat (.str ⟨#[c]⟩)], []⟩, rfl, ?_, rfl⟩
        have e := dig_mem c
        unfold DIG at e
        simp [opIn, TL.tl, isDig] at e ⊢
        exact e
    rw [z, List.map_map]
    congr 1
    refine List.map_congr_left fun c _ => ?_
    simp [TL.tl]
  have second : dOr (dNot (dTest (dChain opLt opLe (dC (.int 0)) (dB opLen (dCons (dFz (dVar 1)) dNil)) (dC (.int 9))))) (dNot (dTest (dB opAll (dCons (dFz (dLc (dItems (dVar 1)) (gN 2) dTrue (dOp2 (opIn false) (dVar 2) (dC (.str ("0123456789" : Str)))) [2])) dNil)))) ⟨[.dat (.str x), .dat (.str y), .un], []⟩ = .ok (!decide ((0 < y.length ∧ y.length ≤ 9) ∧ (TL.tl y).all isDig = true)) ⟨[.dat (.str x), .dat (.str y), .un], []⟩ := by
    have third : dTest (dB opAll (dCons (dFz (dLc (dItems (dVar 1)) (gN 2) dTrue (dOp2 (opIn false) (dVar 2) (dC (.str ("0123456789" : Str)))) [2])) dNil)) ⟨[.dat (.str x), .dat (.str y), .un], []⟩ = .ok ((TL.tl y).all isDig) ⟨[.dat (.str x), .dat (.str y), .un], []⟩ := by
      have e2 : dLc (dItems (dVar 1)) (gN 2) dTrue (dOp2 (opIn false) (dVar 2) (dC (.str ("0123456789" : Str)))) [2] ⟨[.dat (.str x), .dat (.str y), .un], []⟩ = .ok (.fr ((TL.tl y).map fun c => .bl (isDig c))) ⟨[.dat (.str x), .dat (.str y), .un], []⟩ := by
        rw [s_lc]
        simp only [s_items, s_fz, s_var, List.getElem?_cons_succ, List.getElem?_cons_zero, s_bind_ok, s_cold_d, s_endI, itemsOf, if_pos hL2]
        rw [show wipeS [2] (⟨[.dat (.str x), .dat (.str y), .un], []⟩ : Sx) = ⟨[.dat (.str x), .dat (.str y), .un], []⟩ from rfl, lc]
        rfl
      rw [s_test, s_b, s_cons, s_fz, e2]
      simp [opAll, bls_map]
    have fourth : dTest (dChain opLt opLe (dC (.int 0)) (dB opLen (dCons (dFz (dVar 1)) dNil)) (dC (.int 9))) ⟨[.dat (.str x), .dat (.str y), .un], []⟩ = .ok (decide (0 < y.length ∧ y.length ≤ 9)) ⟨[.dat (.str x), .dat (.str y), .un], []⟩ := by
      by_cases h0 : 0 < y.length
      · have h0' : (0 : Int) < ((y.length : Nat) : Int) := by omega
        by_cases h9 : y.length ≤ 9
        · have h9' : ((y.length : Nat) : Int) ≤ 9 := by omega
          simp [opLt, opLe, opLen, hL2, h0, h9, h9', h0']
        · have h9' : ¬ ((y.length : Nat) : Int) ≤ 9 := by omega
          simp [opLt, opLe, opLen, hL2, h0, h9, h9', h0']
      · have h0' : ¬ (0 : Int) < ((y.length : Nat) : Int) := by omega
        simp [opLt, opLe, opLen, hL2, h0, h0']
    by_cases h0 : 0 < y.length ∧ y.length ≤ 9
    · rw [or_f (by rw [not_of fourth, decide_eq_true h0]; rfl), not_of third]
      simp only [h0, true_and, and_self]
      congr 2
      rw [Bool.decide_eq_true]
    · rw [or_t (by rw [not_of fourth, decide_eq_false h0]; rfl)]
      congr 1
      rw [decide_eq_false (fun z => h0 z.1)]
      rfl
  refine ret_data (s1 := ⟨[.dat (.str x), .dat (.str y), .un], []⟩) ?_ rfl
  rw [show initS 3 [.dat (.str x)] = ⟨[.dat (.str x), .un, .un], []⟩ from rfl]
  unfold b_p_integer_of
  refine q_nx (set_d first (by simp)) ?_
  by_cases hc : (0 < y.length ∧ y.length ≤ 9) ∧ (TL.tl y).all isDig = true
  · obtain ⟨e1, e2⟩ := hn hc
    refine q_nx (s1 := ⟨[.dat (.str x), .dat (.str y), .un], []⟩) (q_iff (second.trans (by rw [decide_eq_true hc]; rfl)) rfl) ?_
    have e3 : dTest (dOp2 opEq (dB opStr (dCons (dFz (dB opInt (dCons (dFz (dVar 0)) dNil))) dNil)) (dVar 0)) ⟨[.dat (.str x), .dat (.str y), .un], []⟩ = .ok (nt n == x) ⟨[.dat (.str x), .dat (.str y), .un], []⟩ := by
      simp [opInt, hx, e1, opStr_nt e2, opEq, deq]
    unfold intOf
    rw [if_pos hc, e1]
    by_cases h : nt n = x
    · simp only [if_pos h]
      exact ret_of (q_ift (e3.trans (by rw [h, beq_self_eq_true])) (b1_of (x := .str x) (r := .d (.int n)) (by rfl) (by rfl) (show opInt [.str x] = _ by simp only [opInt, if_pos hx, e1, Option.map_some])))
    · simp only [if_neg h]
      exact ret_of (q_iff (e3.trans (by rw [show (nt n == x) = false from by simpa using h])) rfl)
  · refine (seq_ret (s1 := ⟨[.dat (.str x), .dat (.str y), .un], []⟩) (p := .d .non) (q_ift (second.trans (by rw [decide_eq_false hc]; rfl)) rfl)).trans ?_
    simp only [intOf, if_neg hc]
end Dn.Ka
end
section
set_option Elab.async false
set_option linter.all false
set_option maxRecDepth 100000
set_option maxHeartbeats 4000000
namespace Dn.Ka
open PySem PySem.Spec PyProof.Rows L2
theorem minus_eq : ("-" : Str) = ⟨#[45]⟩ := by kernel_rfl
theorem blank_eq : ("," : Str) = ⟨#[44]⟩ := by kernel_rfl
theorem numL_head {n : Nat} : (TL.numL n)[0]? ≠ some 45 := by
  intro h
  have := TL.numL_digits n 45 (List.mem_of_getElem? h)
  omega
theorem all_dig {l : List Nat} (h : NumText.AllDigits l) : l.all isDig = true := by
  rw [List.all_eq_true]
  intro c hc
  have := h c hc
  simp only [isDig, Bool.and_eq_true, decide_eq_true_eq]
  exact this
theorem integer_of_nt {i : Int} (h : i.natAbs < 10 ^ 9) : g_p_integer_of [.dat (.str (nt i))] = .ret (.dat (.int i)) [] := by
  have hN : Num i := Nat.lt_of_lt_of_le h (by decide +kernel)
  have l9 := TL.numL_len (k := 9) (by decide) h
  have l0 : 0 < (TL.numL i.natAbs).length := List.length_pos_iff.mpr (TL.numL_ne _)
  have lx := nt_len (k := 9) (by decide) h
  by_cases c : 0 ≤ i
  · have e := nt_pos c
    have lt := TL.len_tl (nt i)
    rw [e] at lt
    have z := integer_core (x := nt i) (y := nt i) (n := i) (by omega) (.inr ⟨by rw [minus_eq, starts1, e]; exact decide_eq_false numL_head, rfl⟩) (by omega) (fun _ => ⟨nt_int hN, hN⟩)
    rw [z]
    unfold intOf
    rw [if_pos ⟨⟨by omega, by omega⟩, by rw [e]; exact all_dig (TL.numL_digits _)⟩, nt_int hN]
    simp
  · have e := nt_neg (i := i) (by omega)
    have e2 := cut1 e
    have lt := TL.len_tl (cutS (nt i) (some 1) none)
    rw [e2] at lt
    have z := integer_core (x := nt i) (y := cutS (nt i) (some 1) none) (n := i) (by omega) (.inl ⟨by rw [minus_eq, starts1, e]; rfl, rfl⟩) (by omega) (fun _ => ⟨nt_int hN, hN⟩)
    rw [z]
    unfold intOf
    rw [if_pos ⟨⟨by omega, by omega⟩, by rw [e2]; exact all_dig (TL.numL_digits _)⟩, nt_int hN]
    simp
theorem integer_of_word {x : Str} (hl : x.length ≤ 640) (h0 : (TL.tl x)[0]? ≠ some 45) (hd : (TL.tl x).all isDig = false) : g_p_integer_of [.dat (.str x)] = .ret (.dat .non) [] := by
  have z := integer_core (x := x) (y := x) (n := 0) hl (.inr ⟨by rw [minus_eq, starts1]; exact decide_eq_false h0, rfl⟩) hl (fun z => by rw [hd] at z; cases z.2)
  rw [z]
  unfold intOf
  rw [if_neg (fun z => by rw [hd] at z; cases z.2)]
/-! whole -/
theorem whole_of (ds : List D) : g_p_whole [.dat (.lst ds)] = .ret (.dat (if ds.any isN = true then .non else .tup ds)) [] := by
  have lc : lcL (gN 1) dTrue (dOp2 opIsN (dVar 1) (dC .non)) [1] ds ⟨[.dat (.lst ds), .un], []⟩ = .ok (ds.map fun x => .bl (isN x)) ⟨[.dat (.lst ds), .un], []⟩ := lc_pure _ fun x hx =>
    ⟨⟨[.dat (.lst ds), .dat x], []⟩, ⟨[.dat (.lst ds), .dat x], []⟩, rfl, by simp [opIsN], rfl⟩
  have e1 : dItems (dVar 0) ⟨[.dat (.lst ds), .un], []⟩ = .ok ds ⟨[.dat (.lst ds), .un], []⟩ := rfl
  have e3 : dLc (dItems (dVar 0)) (gN 1) dTrue (dOp2 opIsN (dVar 1) (dC .non)) [1] ⟨[.dat (.lst ds), .un], []⟩ = .ok (.fr (ds.map fun x => .bl (isN x))) ⟨[.dat (.lst ds), .un], []⟩ := lc_of e1 rfl lc
  have e2 : dTest (dB opAny (dCons (dFz (dLc (dItems (dVar 0)) (gN 1) dTrue (dOp2 opIsN (dVar 1) (dC .non)) [1])) dNil)) ⟨[.dat (.lst ds), .un], []⟩ = .ok (ds.any isN) ⟨[.dat (.lst ds), .un], []⟩ := by
    refine test_of (b1_of (x := .lst (ds.map fun x => .bl (isN x))) e3 rfl ?_)
    simp [opAny, bls_map]
  have e4 : dB opTupl (dCons (dFz (dVar 0)) dNil) ⟨[.dat (.lst ds), .un], []⟩ = .ok (.d (.tup ds)) ⟨[.dat (.lst ds), .un], []⟩ := rfl
  have e5 : (dC .non) ⟨[.dat (.lst ds), .un], []⟩ = .ok (.d .non) ⟨[.dat (.lst ds), .un], []⟩ := rfl
  refine ret_data (s1 := ⟨[.dat (.lst ds), .un], []⟩) ?_ rfl
  rw [show initS 2 [.dat (.lst ds)] = ⟨[.dat (.lst ds), .un], []⟩ from rfl]
  unfold b_p_whole
  by_cases h : ds.any isN = true
  · rw [if_pos h]
    exact ret_of (q_ift (e2.trans (by rw [h])) e5)
  · rw [if_neg h]
    exact ret_of (q_iff (e2.trans (by rw [show ds.any isN = false from by simpa using h])) e4)
/-! integers_of -/
theorem integers_core {x : Str} (f : Str → D) (hl : x.length + 2 ≤ LIM) (hf : ∀ w ∈ (Txt.split x (" " : Str)), g_p_integer_of [.dat (.str w)] = .ret (.dat (f w)) []) :
    g_p_integers_of [.dat (.str x)] = .ret (.dat (if ((Txt.split x (" " : Str)).map f).any isN = true then .non else .tup ((Txt.split x (" " : Str)).map f))) [] := by
  have lc : lcL (gN 1) dTrue (dCall g_p_integer_of (dCons (dFz (dVar 1)) dNil)) [1] ((Txt.split x (" " : Str)).map D.str) ⟨[.dat (.str x), .un], []⟩ = .ok (((Txt.split x (" " : Str)).map D.str).map fun d => match d with
    | .str w => f w
    | _ => .non) ⟨[.dat (.str x), .un], []⟩ := lc_pure _ fun d hd => by
      obtain ⟨w, hw, rfl⟩ := List.mem_map.mp hd
      have e0 : dVar 1 ⟨[.dat (.str x), .dat (.str w)], []⟩ = .ok (.d (.str w)) ⟨[.dat (.str x), .dat (.str w)], []⟩ := rfl
      exact ⟨⟨[.dat (.str x), .dat (.str w)], []⟩, ⟨[.dat (.str x), .dat (.str w)], []⟩, rfl, call1 e0 rfl (hf w hw), rfl⟩
  have lc2 := lc
  rw [List.map_map, show ((fun d => match d with
    | D.str w => f w
    | _ => D.non) ∘ D.str) = f from rfl] at lc2
  have e1 : dM1 opSplit (dVar 0) (dC (.str (" " : Str))) ⟨[.dat (.str x), .un], []⟩ = .ok (.fr ((Txt.split x (" " : Str)).map D.str)) ⟨[.dat (.str x), .un], []⟩ := by
    rw [s_m1]
    simp only [s_var, List.getElem?_cons_zero, s_bind_ok, s_onStr, s_c, s_get_d, s_endM, opSplit]
    rw [if_pos ⟨by decide +kernel, hl⟩]
  refine ret_data (s1 := ⟨[.dat (.str x), .un], []⟩) ?_ rfl
  rw [show initS 2 [.dat (.str x)] = ⟨[.dat (.str x), .un], []⟩ from rfl]
  unfold b_p_integers_of
  exact ret_of (call1 (lc_of (items_of (x := .lst ((Txt.split x (" " : Str)).map D.str)) e1 rfl rfl) rfl lc2) rfl (whole_of _))
end Dn.Ka
end
section
set_option Elab.async false
set_option linter.all false
set_option maxRecDepth 100000
set_option maxHeartbeats 4000000
namespace Dn.Ka
open PySem PySem.Spec PyProof.Rows L2
theorem mem_join {S : List Nat} {c : Nat} : ∀ {ps : List (List Nat)}, c ∈ TL.joinL S ps → c ∈ S ∨ ∃ p ∈ ps, c ∈ p
  | [], h => by cases h
  | [p], h => .inr ⟨p, List.mem_singleton.mpr rfl, h⟩
  | p :: q :: r, h => by
    have h : c ∈ p ++ (S ++ TL.joinL S (q :: r)) := h
    rcases List.mem_append.mp h with h | h
    · exact .inr ⟨p, List.mem_cons_self, h⟩
    · rcases List.mem_append.mp h with h | h
      · exact .inl h
      · rcases mem_join h with h | ⟨z, hz, h⟩
        · exact .inl h
        · exact .inr ⟨z, List.mem_cons_of_mem _ hz, h⟩
theorem sp_eq : TL.tl (" " : Str) = [32] := by kernel_rfl
theorem nl_eq : TL.tl ("\n" : Str) = [10] := by kernel_rfl
theorem co_eq : TL.tl (" : " : Str) = [32, 58, 32] := by kernel_rfl
theorem said_mem {r : List Int} {c : Nat} (h : c ∈ TL.tl (said r)) : c = 32 ∨ c = 45 ∨ (48 ≤ c ∧ c ≤ 57) := by
  unfold said at h
  rw [TL.join_eq, TL.tl_join, sp_eq] at h
  rcases mem_join h with h | ⟨p, hp, h⟩
  · exact .inl (List.mem_singleton.mp h)
  · obtain ⟨z, hz, rfl⟩ := List.mem_map.mp hp
    obtain ⟨i, _, rfl⟩ := List.mem_map.mp hz
    exact .inr (nt_dig c h)
theorem said_split {r : List Int} (h : r ≠ []) : Txt.split (said r) (" " : Str) = r.map nt :=
  TL.split_join sp_eq (by kernel_rfl) (by simpa using h) fun p hp => by
    obtain ⟨i, _, rfl⟩ := List.mem_map.mp hp
    exact nt_free (by omega)
theorem join_len {a : Str} {k : Nat} {l : List Str} (h : ∀ x ∈ l, x.length ≤ k) : (Txt.join a l).length ≤ (k + a.length) * l.length := by
  rw [TL.join_eq]
  induction l with
  | nil => exact Nat.zero_le _
  | cons x l ih =>
    have ih := ih fun y hy => h y (List.mem_cons_of_mem _ hy)
    have hx := h x List.mem_cons_self
    cases l with
    | nil =>
      show x.length ≤ _
      simp only [List.length_cons, List.length_nil]
      omega
    | cons y l =>
      have e : (Str.join a (x :: y :: l)).length = x.length + a.length + (Str.join a (y :: l)).length := by
        rw [TL.len_tl, TL.len_tl x, TL.len_tl a, TL.len_tl (Str.join a (y :: l)), show Str.join a (x :: y :: l) = x ++ a ++ Str.join a (y :: l) from rfl, TL.tl_append, TL.tl_append, List.length_append, List.length_append]
      rw [e]
      simp only [List.length_cons, Nat.mul_add, Nat.mul_one] at ih ⊢
      omega
theorem said_len {r : List Int} (h : Row r) : (said r).length ≤ 3624 := by
  have z := join_len (a := (" " : Str)) (k := 301) (l := r.map nt) fun x hx => by
    obtain ⟨i, hi, rfl⟩ := List.mem_map.mp hx
    exact nt_len (by decide) (h.2 i hi)
  have l1 : (" " : Str).length = 1 := rfl
  rw [l1, List.length_map] at z
  have := h.1
  unfold said
  omega
/-- what a word reads as -/
def word (w : Str) : D := match PySem.intText? w with
  | some n => .int n
  | none => .non
def Row9 (r : List Int) : Prop := (r ≠ [] ∧ r.length ≤ 12) ∧ ∀ i ∈ r, i.natAbs < 10 ^ 9
theorem Row9.row {r : List Int} (h : Row9 r) : Row r := ⟨h.1.2, fun i hi => Nat.lt_of_lt_of_le (h.2 i hi) (by decide +kernel)⟩
theorem num9 {i : Int} (h : i.natAbs < 10 ^ 9) : Num i := Nat.lt_of_lt_of_le h (by decide +kernel)
theorem ints_no {r : List Int} : ((r.map D.int).any isN) = false := by
  rw [List.any_map, List.any_eq_false]
  intro x _
  simp [isN]
theorem integers_of_said {r : List Int} (h : Row9 r) : g_p_integers_of [.dat (.str (said r))] = .ret (.dat (rowD r)) [] := by
  have z := integers_core (x := said r) word (by have := said_len h.row; unfold LIM; omega) fun w hw => by
    rw [said_split h.1.1] at hw
    obtain ⟨i, hi, rfl⟩ := List.mem_map.mp hw
    have e : word (nt i) = .int i := by unfold word; rw [nt_int (num9 (h.2 i hi))]
    rw [e]
    exact integer_of_nt (h.2 i hi)
  have e : (r.map nt).map word = r.map D.int := by
    rw [List.map_map]
    refine List.map_congr_left fun i hi => ?_
    show word (nt i) = .int i
    unfold word
    rw [nt_int (num9 (h.2 i hi))]
  rw [z, said_split h.1.1, e, ints_no]
  rfl
theorem pre_no {L : List Nat} {i : Nat} (h : L[i + 1]? ≠ some 58) : TL.pre [32, 58, 32] (L.drop i) = false := by
  unfold TL.pre
  rw [beq_eq_false_iff_ne]
  intro e
  have e2 : ((L.drop i).take [32, 58, 32].length)[1]? = some 58 := by rw [e]; rfl
  rw [List.getElem?_take, List.getElem?_drop] at e2
  exact h e2
theorem no58 {l rest : List Nat} (h : ∀ c ∈ l, c ≠ 58) {i : Nat} (hi : i < l.length) : (l ++ (32 :: rest))[i + 1]? ≠ some 58 := fun e => by
  by_cases c : i + 1 < l.length
  · rw [List.getElem?_append_left c] at e
    exact h 58 (List.mem_of_getElem? e) rfl
  · have ei : i + 1 = l.length := by omega
    rw [List.getElem?_append_right (by omega), ei, Nat.sub_self] at e
    cases e
theorem said_no58 {r : List Int} : ∀ c ∈ TL.tl (said r), c ≠ 58 := fun c hc e => by
  rcases said_mem hc with h | h | h <;> omega
theorem part_line {r : List Int} {w : Str} : Txt.partition (said r ++ (" : " : Str) ++ w) (" : " : Str) = (said r, (" : " : Str), w) := by
  rw [TL.partition_par _ _ (by rw [co_eq]; simp), TL.tl_append, TL.tl_append, List.append_assoc, co_eq, TL.par_part (by simp) fun i hi => pre_no (no58 said_no58 hi)]
  show ((⟨([] ++ TL.tl (said r)).toArray⟩ : Str), (" : " : Str), (⟨(TL.tl w).toArray⟩ : Str)) = _
  rw [List.nil_append, TL.mk_tl, TL.mk_tl]
theorem part_said {r : List Int} : Txt.partition (said r) (" : " : Str) = (said r, Str.empty, Str.empty) := by
  rw [TL.partition_par _ _ (by rw [co_eq]; simp), co_eq, TL.par_none fun i hi => pre_no fun e => said_no58 58 (List.mem_of_getElem? e) rfl]
/-! questions -/
def line (q : List Int × Int) : Str := said q.1 ++ (" : " : Str) ++ nt q.2
def lineD (q : List Int × Int) : D := .tup [rowD q.1, .int q.2]
def Q9 (q : List Int × Int) : Prop := Row9 q.1 ∧ q.2.natAbs < 10 ^ 9
def QN (q : List Int × Int) : Prop := Row q.1 ∧ Num q.2
theorem Q9.qn {q : List Int × Int} (h : Q9 q) : QN q := ⟨h.1.row, num9 h.2⟩
theorem line_len {q : List Int × Int} (h : QN q) : (line q).length ≤ 3928 := by
  have l1 := said_len h.1
  have l2 := nt_len (by decide) h.2
  have l3 : (" : " : Str).length = 3 := rfl
  unfold line
  rw [TL.len_tl, TL.tl_append, TL.tl_append, List.length_append, List.length_append, ← TL.len_tl, ← TL.len_tl, ← TL.len_tl]
  omega
theorem question_core {x a b c : Str} {v w : D} (hl : x.length ≤ LIM) (hp : Txt.partition x (" : " : Str) = (a, b, c)) (h1 : g_p_integers_of [.dat (.str a)] = .ret (.dat v) []) (h2 : b ≠ ("" : Str) → g_p_integer_of [.dat (.str c)] = .ret (.dat w) []) :
    g_p_question_of [.dat (.str x)] = .ret (.dat (if b = ("" : Str) then .non else if [v, w].any isN = true then .non else .tup [v, w])) [] := by
  have e1 : dM1 opPart (dVar 0) (dC (.str (" : " : Str))) ⟨[.dat (.str x), .un, .un, .un], []⟩ = .ok (.d (.tup [.str a, .str b, .str c])) ⟨[.dat (.str x), .un, .un, .un], []⟩ := by
    rw [s_m1]
    simp only [s_var, List.getElem?_cons_zero, s_bind_ok, s_onStr, s_c, s_get_d, s_endM, opPart]
    rw [if_pos ⟨by decide +kernel, hl⟩, hp]
  have e2 : dAsg (gT 3 (gsC (gN 1) (gsC (gN 2) (gsC (gN 3) gsN)))) (dM1 opPart (dVar 0) (dC (.str (" : " : Str)))) ⟨[.dat (.str x), .un, .un, .un], []⟩ = .ok .nx ⟨[.dat (.str x), .dat (.str a), .dat (.str b), .dat (.str c)], []⟩ := by
    rw [s_asg, fz_d e1]
    rfl
  have e3 : dTest (dOp2 opNe (dVar 2) (dC (.str ("" : Str)))) ⟨[.dat (.str x), .dat (.str a), .dat (.str b), .dat (.str c)], []⟩ = .ok (!(b == ("" : Str))) ⟨[.dat (.str x), .dat (.str a), .dat (.str b), .dat (.str c)], []⟩ := by simp [opNe, deq]
  refine ret_data (s1 := ⟨[.dat (.str x), .dat (.str a), .dat (.str b), .dat (.str c)], []⟩) ?_ rfl
  rw [show initS 4 [.dat (.str x)] = ⟨[.dat (.str x), .un, .un, .un], []⟩ from rfl]
  unfold b_p_question_of
  refine q_nx e2 (ret_of ?_)
  by_cases hb : b = ("" : Str)
  · rw [if_pos hb]
    exact q_iff (e3.trans (by rw [hb, beq_self_eq_true]; rfl)) rfl
  · rw [if_neg hb]
    have v1 : dVar 1 ⟨[.dat (.str x), .dat (.str a), .dat (.str b), .dat (.str c)], []⟩ = .ok (.d (.str a)) ⟨[.dat (.str x), .dat (.str a), .dat (.str b), .dat (.str c)], []⟩ := rfl
    have v3 : dVar 3 ⟨[.dat (.str x), .dat (.str a), .dat (.str b), .dat (.str c)], []⟩ = .ok (.d (.str c)) ⟨[.dat (.str x), .dat (.str a), .dat (.str b), .dat (.str c)], []⟩ := rfl
    have e4 : dLst (dCons (dFz (dCall g_p_integers_of (dCons (dFz (dVar 1)) dNil))) (dCons (dFz (dCall g_p_integer_of (dCons (dFz (dVar 3)) dNil))) dNil)) ⟨[.dat (.str x), .dat (.str a), .dat (.str b), .dat (.str c)], []⟩ = .ok (.fr [v, w]) ⟨[.dat (.str x), .dat (.str a), .dat (.str b), .dat (.str c)], []⟩ := by
      rw [s_lst, s_cons, fz_d (call1 v1 rfl h1), s_bind_ok, s_cons, fz_d (call1 v3 rfl (h2 hb))]
      rfl
    exact q_ift (e3.trans (by rw [show (b == ("" : Str)) = false from by simpa using hb]; rfl)) (call1 e4 rfl (whole_of _))
theorem question_of_line {q : List Int × Int} (h : Q9 q) : g_p_question_of [.dat (.str (line q))] = .ret (.dat (lineD q)) [] := by
  have z := question_core (x := line q) (by have := line_len h.qn; unfold LIM; omega) part_line (integers_of_said h.1) (fun _ => integer_of_nt h.2)
  rw [z, if_neg (by decide +kernel)]
  rfl
theorem question_of_said {r : List Int} (h : Row9 r) : g_p_question_of [.dat (.str (said r))] = .ret (.dat .non) [] := by
  have z := question_core (w := .non) (x := said r) (by have := said_len h.row; unfold LIM; omega) part_said (integers_of_said h) (fun z => absurd rfl z)
  rw [z, if_pos (by kernel_rfl)]
end Dn.Ka
end
section
set_option Elab.async false
set_option linter.all false
set_option maxRecDepth 100000
set_option maxHeartbeats 4000000
namespace Dn.Ka
open PySem PySem.Spec PyProof.Rows L2
/-! ### texts of rows -/
def text (ls : List Str) : Str := Txt.join ("\n" : Str) ls
theorem text_split {l : Str} {ls : List Str} (h : ∀ p ∈ l :: ls, 10 ∉ TL.tl p) : Txt.split (text (l :: ls)) ("\n" : Str) = l :: ls :=
  TL.split_join nl_eq (by kernel_rfl) (by simp) h
def head (w : Str) (d : Int) : Str := w ++ (" " : Str) ++ nt d
theorem part_head {w : Str} {d : Int} (h : 32 ∉ TL.tl w) : Txt.partition (head w d) (" " : Str) = (w, (" " : Str), nt d) := TL.partition_app sp_eq h
theorem split_op {x : Str} {l : Str} {ls : List Str} (hl : x.length + 2 ≤ LIM) (e : Txt.split x ("\n" : Str) = l :: ls) : opSplit x (.str ("\n" : Str)) = some (.fr (.str l :: ls.map D.str)) := by
  unfold opSplit
  simp only
  rw [if_pos ⟨by decide +kernel, hl⟩, e]
  rfl
theorem part_op {x y a b c : Str} (hy : (y.length == 0) = false) (hl : x.length ≤ LIM) (e : Txt.partition x y = (a, b, c)) : opPart x (.str y) = some (.d (.tup [.str a, .str b, .str c])) := by
  unfold opPart
  simp only
  rw [if_pos ⟨hy, hl⟩, e]
theorem enum_map (k : Nat) : ∀ ds : List D, enumFrom k ds = (ds.zipIdx k).map fun p => .tup [.int (p.2 : Int), p.1]
  | [] => rfl
  | x :: ds => by
    rw [enumFrom, enum_map (k + 1) ds]
    rfl
theorem head_first {w x h a b c : Str} {ls : List Str} {k : Nat} (hl : x.length + 2 ≤ LIM) (e : Txt.split x ("\n" : Str) = h :: ls) (n : ls.length ≤ 1000) (hh : h.length ≤ LIM) (ep : Txt.partition h (" " : Str) = (a, b, c)) {r : Res Fl} {rest : Sx → Res Fl}
    (hr : rest ⟨[.dat (.str w), .dat (.fn k), .dat (.str x), .dat (.str h), .own (ls.map D.str), .dat (.str a), .dat (.str b), .dat (.str c), .un, .un, .un, .un, .un], []⟩ = r) : dSeq (dStar 3 4 (dM1 opSplit (dVar 2) (dC (.str ("\n" : Str))))) (dSeq (dAsg (gT 3 (gsC (gN 5) (gsC (gN 6) (gsC (gN 7) gsN)))) (dM1 opPart (dVar 3) (dC (.str (" " : Str))))) rest) ⟨[.dat (.str w), .dat (.fn k), .dat (.str x), .un, .un, .un, .un, .un, .un, .un, .un, .un, .un], []⟩ = r := by
  have e1 : dM1 opSplit (dVar 2) (dC (.str ("\n" : Str))) ⟨[.dat (.str w), .dat (.fn k), .dat (.str x), .un, .un, .un, .un, .un, .un, .un, .un, .un, .un], []⟩ = .ok (.fr (.str h :: ls.map D.str)) ⟨[.dat (.str w), .dat (.fn k), .dat (.str x), .un, .un, .un, .un, .un, .un, .un, .un, .un, .un], []⟩ := by
    rw [s_m1]
    simp only [s_var, List.getElem?_cons_succ, List.getElem?_cons_zero, s_bind_ok, s_onStr, s_c, s_get_d, s_endM, split_op hl e]
  have e2 : dStar 3 4 (dM1 opSplit (dVar 2) (dC (.str ("\n" : Str)))) ⟨[.dat (.str w), .dat (.fn k), .dat (.str x), .un, .un, .un, .un, .un, .un, .un, .un, .un, .un], []⟩ = .ok .nx ⟨[.dat (.str w), .dat (.fn k), .dat (.str x), .dat (.str h), .own (ls.map D.str), .un, .un, .un, .un, .un, .un, .un, .un], []⟩ := by
    rw [s_star, fz_fr e1, s_bind_ok]
    unfold endStar
    simp only
    rw [if_pos ⟨by rw [List.length_map]; omega, by simp, by simp, by decide⟩]
    rfl
  have e3 : dM1 opPart (dVar 3) (dC (.str (" " : Str))) ⟨[.dat (.str w), .dat (.fn k), .dat (.str x), .dat (.str h), .own (ls.map D.str), .un, .un, .un, .un, .un, .un, .un, .un], []⟩ = .ok (.d (.tup [.str a, .str b, .str c])) ⟨[.dat (.str w), .dat (.fn k), .dat (.str x), .dat (.str h), .own (ls.map D.str), .un, .un, .un, .un, .un, .un, .un, .un], []⟩ := by
    rw [s_m1]
    simp only [s_var, List.getElem?_cons_succ, List.getElem?_cons_zero, s_bind_ok, s_onStr, s_c, s_get_d, s_endM, part_op (by decide +kernel) hh ep]
  have e4 : dAsg (gT 3 (gsC (gN 5) (gsC (gN 6) (gsC (gN 7) gsN)))) (dM1 opPart (dVar 3) (dC (.str (" " : Str)))) ⟨[.dat (.str w), .dat (.fn k), .dat (.str x), .dat (.str h), .own (ls.map D.str), .un, .un, .un, .un, .un, .un, .un, .un], []⟩ = .ok .nx ⟨[.dat (.str w), .dat (.fn k), .dat (.str x), .dat (.str h), .own (ls.map D.str), .dat (.str a), .dat (.str b), .dat (.str c), .un, .un, .un, .un, .un], []⟩ := by
    rw [s_asg, fz_d e3]
    rfl
  exact q_nx e2 (q_nx e4 hr)
/-- another word -/
theorem headed_other {w x h a b c : Str} {ls : List Str} {k : Nat} (hl : x.length + 2 ≤ LIM) (e : Txt.split x ("\n" : Str) = h :: ls) (n : ls.length ≤ 1000) (hh : h.length ≤ LIM) (ep : Txt.partition h (" " : Str) = (a, b, c)) (ha : a ≠ w) :
    g_p_headed [.dat (.str w), .dat (.fn k), .dat (.str x)] = .ex 0 (.int 1) [] := by
  refine ret_exd (s1 := ⟨[.dat (.str w), .dat (.fn k), .dat (.str x), .dat (.str h), .own (ls.map D.str), .dat (.str a), .dat (.str b), .dat (.str c), .dat .non, .un, .un, .un, .un], []⟩) ?_ rfl
  rw [show initS 13 [.dat (.str w), .dat (.fn k), .dat (.str x)] = ⟨[.dat (.str w), .dat (.fn k), .dat (.str x), .un, .un, .un, .un, .un, .un, .un, .un, .un, .un], []⟩ from rfl]
  unfold b_p_headed
  refine head_first hl e n hh ep ?_
  have t : dTest (dOp2 opEq (dVar 5) (dVar 0)) ⟨[.dat (.str w), .dat (.fn k), .dat (.str x), .dat (.str h), .own (ls.map D.str), .dat (.str a), .dat (.str b), .dat (.str c), .un, .un, .un, .un, .un], []⟩ = .ok false ⟨[.dat (.str w), .dat (.fn k), .dat (.str x), .dat (.str h), .own (ls.map D.str), .dat (.str a), .dat (.str b), .dat (.str c), .un, .un, .un, .un, .un], []⟩ := by
    have z : (a == w) = false := by simpa using ha
    simp [opEq, deq, z]
  have e5 : dSet 8 (dIf (dTest (dOp2 opEq (dVar 5) (dVar 0))) (dCall g_p_integer_of (dCons (dFz (dVar 7)) dNil)) (dC .non)) ⟨[.dat (.str w), .dat (.fn k), .dat (.str x), .dat (.str h), .own (ls.map D.str), .dat (.str a), .dat (.str b), .dat (.str c), .un, .un, .un, .un, .un], []⟩ = .ok .nx ⟨[.dat (.str w), .dat (.fn k), .dat (.str x), .dat (.str h), .own (ls.map D.str), .dat (.str a), .dat (.str b), .dat (.str c), .dat .non, .un, .un, .un, .un], []⟩ := set_d (q_iff t rfl) (by simp)
  refine q_nx e5 (seq_ex (q_ift rfl rfl))
/-- the loop that looks for a part that is not told -/
theorem loop_ok {s0 s1 s2 s3 s4 s5 s6 s7 s8 s9 s10 : Slot} : ∀ (ds : List D) (j : Nat) (u v : Slot), (∀ d ∈ ds, isN d = false) → ∃ u' v', forL (gT 2 (gsC (gN 11) (gsC (gN 12) gsN))) (dIf (dTest (dOp2 opIsN (dVar 12) (dC .non))) (dRaise 0 (dOp2 opAdd (dVar 11) (dC (.int 2)))) dSkip) (enumFrom j ds) ⟨[s0, s1, s2, s3, s4, s5, s6, s7, s8, s9, s10, u, v], []⟩ = .ok .nx ⟨[s0, s1, s2, s3, s4, s5, s6, s7, s8, s9, s10, u', v'], []⟩
  | [], j, u, v, _ => ⟨u, v, rfl⟩
  | d :: ds, j, u, v, h => by
    obtain ⟨u', v', e⟩ := loop_ok ds (j + 1) (.dat (.int (j : Int))) (.dat d) fun x hx => h x (List.mem_cons_of_mem _ hx)
    refine ⟨u', v', ?_⟩
    have hd := h d List.mem_cons_self
    have e1 : dTest (dOp2 opIsN (dVar 12) (dC .non)) ⟨[s0, s1, s2, s3, s4, s5, s6, s7, s8, s9, s10, .dat (.int (j : Int)), .dat d], []⟩ = .ok false ⟨[s0, s1, s2, s3, s4, s5, s6, s7, s8, s9, s10, .dat (.int (j : Int)), .dat d], []⟩ := by
      refine test_of ((op2_of (x := d) (y := .non) rfl rfl rfl rfl (r := .d (.bl (isN d))) rfl).trans (by rw [hd]))
    unfold enumFrom forL
    rw [show gT 2 (gsC (gN 11) (gsC (gN 12) gsN)) (.tup [.int (j : Int), d]) ⟨[s0, s1, s2, s3, s4, s5, s6, s7, s8, s9, s10, u, v], []⟩ = some ⟨[s0, s1, s2, s3, s4, s5, s6, s7, s8, s9, s10, .dat (.int (j : Int)), .dat d], []⟩ from rfl]
    simp only
    rw [show dIf (dTest (dOp2 opIsN (dVar 12) (dC .non))) (dRaise 0 (dOp2 opAdd (dVar 11) (dC (.int 2)))) dSkip ⟨[s0, s1, s2, s3, s4, s5, s6, s7, s8, s9, s10, .dat (.int (j : Int)), .dat d], []⟩ = .ok .nx ⟨[s0, s1, s2, s3, s4, s5, s6, s7, s8, s9, s10, .dat (.int (j : Int)), .dat d], []⟩ from q_iff e1 rfl]
    exact e
/-- the head's word fits -/
theorem headed_same {w x h b c : Str} {ls : List Str} {k : Nat} {d : Int} {f : Str → D} {g : List Arg → Cr} (hl : x.length + 2 ≤ LIM) (e : Txt.split x ("\n" : Str) = h :: ls) (n : ls.length ≤ 1000) (hh : h.length ≤ LIM) (ep : Txt.partition h (" " : Str) = (w, b, c))
    (hc : g_p_integer_of [.dat (.str c)] = .ret (.dat (.int d)) []) (hk : gs_headed k = some g) (hf : ∀ l ∈ ls, g [.dat (.str l)] = .ret (.dat (f l)) []) :
    ((∀ l ∈ ls, isN (f l) = false) → g_p_headed [.dat (.str w), .dat (.fn k), .dat (.str x)] = .ret (.dat (.tup [.int d, .tup (ls.map f)])) []) ∧
      ∀ l r, ls = l :: r → f l = .non → g_p_headed [.dat (.str w), .dat (.fn k), .dat (.str x)] = .ex 0 (.int 2) [] := by
  have t : dTest (dOp2 opEq (dVar 5) (dVar 0)) ⟨[.dat (.str w), .dat (.fn k), .dat (.str x), .dat (.str h), .own (ls.map D.str), .dat (.str w), .dat (.str b), .dat (.str c), .un, .un, .un, .un, .un], []⟩ = .ok true ⟨[.dat (.str w), .dat (.fn k), .dat (.str x), .dat (.str h), .own (ls.map D.str), .dat (.str w), .dat (.str b), .dat (.str c), .un, .un, .un, .un, .un], []⟩ := by simp [opEq, deq]
  have v7 : dVar 7 ⟨[.dat (.str w), .dat (.fn k), .dat (.str x), .dat (.str h), .own (ls.map D.str), .dat (.str w), .dat (.str b), .dat (.str c), .un, .un, .un, .un, .un], []⟩ = .ok (.d (.str c)) ⟨[.dat (.str w), .dat (.fn k), .dat (.str x), .dat (.str h), .own (ls.map D.str), .dat (.str w), .dat (.str b), .dat (.str c), .un, .un, .un, .un, .un], []⟩ := rfl
  have e5 : dSet 8 (dIf (dTest (dOp2 opEq (dVar 5) (dVar 0))) (dCall g_p_integer_of (dCons (dFz (dVar 7)) dNil)) (dC .non)) ⟨[.dat (.str w), .dat (.fn k), .dat (.str x), .dat (.str h), .own (ls.map D.str), .dat (.str w), .dat (.str b), .dat (.str c), .un, .un, .un, .un, .un], []⟩ = .ok .nx ⟨[.dat (.str w), .dat (.fn k), .dat (.str x), .dat (.str h), .own (ls.map D.str), .dat (.str w), .dat (.str b), .dat (.str c), .dat (.int d), .un, .un, .un, .un], []⟩ := set_d (q_ift t (call1 v7 rfl hc)) (by simp)
  have e6 : dIf (dTest (dOp2 opIsN (dVar 8) (dC .non))) (dRaise 0 (dC (.int 1))) dSkip ⟨[.dat (.str w), .dat (.fn k), .dat (.str x), .dat (.str h), .own (ls.map D.str), .dat (.str w), .dat (.str b), .dat (.str c), .dat (.int d), .un, .un, .un, .un], []⟩ = .ok .nx ⟨[.dat (.str w), .dat (.fn k), .dat (.str x), .dat (.str h), .own (ls.map D.str), .dat (.str w), .dat (.str b), .dat (.str c), .dat (.int d), .un, .un, .un, .un], []⟩ := q_iff rfl rfl
  have lc : lcL (gN 10) dTrue (dCallL 1 gs_headed (dCons (dFz (dVar 10)) dNil)) [10] (ls.map D.str) ⟨[.dat (.str w), .dat (.fn k), .dat (.str x), .dat (.str h), .dat (.lst (ls.map D.str)), .dat (.str w), .dat (.str b), .dat (.str c), .dat (.int d), .un, .un, .un, .un], []⟩ = .ok ((ls.map D.str).map fun d => match d with
    | .str l => f l
    | _ => .non) ⟨[.dat (.str w), .dat (.fn k), .dat (.str x), .dat (.str h), .dat (.lst (ls.map D.str)), .dat (.str w), .dat (.str b), .dat (.str c), .dat (.int d), .un, .un, .un, .un], []⟩ := lc_pure _ fun y hy => by
      obtain ⟨l, hl, rfl⟩ := List.mem_map.mp hy
      have v10 : dVar 10 ⟨[.dat (.str w), .dat (.fn k), .dat (.str x), .dat (.str h), .dat (.lst (ls.map D.str)), .dat (.str w), .dat (.str b), .dat (.str c), .dat (.int d), .un, .dat (.str l), .un, .un], []⟩ = .ok (.d (.str l)) ⟨[.dat (.str w), .dat (.fn k), .dat (.str x), .dat (.str h), .dat (.lst (ls.map D.str)), .dat (.str w), .dat (.str b), .dat (.str c), .dat (.int d), .un, .dat (.str l), .un, .un], []⟩ := rfl
      refine ⟨⟨[.dat (.str w), .dat (.fn k), .dat (.str x), .dat (.str h), .dat (.lst (ls.map D.str)), .dat (.str w), .dat (.str b), .dat (.str c), .dat (.int d), .un, .dat (.str l), .un, .un], []⟩, ⟨[.dat (.str w), .dat (.fn k), .dat (.str x), .dat (.str h), .dat (.lst (ls.map D.str)), .dat (.str w), .dat (.str b), .dat (.str c), .dat (.int d), .un, .dat (.str l), .un, .un], []⟩, rfl, ?_, rfl⟩
      unfold dCallL
      simp only [List.getElem?_cons_succ, List.getElem?_cons_zero, hk]
      exact call1 v10 rfl (hf l hl)
  have lc2 := lc
  rw [List.map_map, show ((fun d => match d with
    | D.str l => f l
    | _ => D.non) ∘ D.str) = f from rfl] at lc2
  have i4 : dItems (dVar 4) ⟨[.dat (.str w), .dat (.fn k), .dat (.str x), .dat (.str h), .own (ls.map D.str), .dat (.str w), .dat (.str b), .dat (.str c), .dat (.int d), .un, .un, .un, .un], []⟩ = .ok (ls.map D.str) ⟨[.dat (.str w), .dat (.fn k), .dat (.str x), .dat (.str h), .dat (.lst (ls.map D.str)), .dat (.str w), .dat (.str b), .dat (.str c), .dat (.int d), .un, .un, .un, .un], []⟩ := rfl
  have e7 : dSet 9 (dLc (dItems (dVar 4)) (gN 10) dTrue (dCallL 1 gs_headed (dCons (dFz (dVar 10)) dNil)) [10]) ⟨[.dat (.str w), .dat (.fn k), .dat (.str x), .dat (.str h), .own (ls.map D.str), .dat (.str w), .dat (.str b), .dat (.str c), .dat (.int d), .un, .un, .un, .un], []⟩ = .ok .nx ⟨[.dat (.str w), .dat (.fn k), .dat (.str x), .dat (.str h), .dat (.lst (ls.map D.str)), .dat (.str w), .dat (.str b), .dat (.str c), .dat (.int d), .own (ls.map f), .un, .un, .un], []⟩ := set_fr (lc_of i4 rfl lc2) (by simp [restL])
  have e8 : dEnum (dCons (dFz (dVar 9)) dNil) ⟨[.dat (.str w), .dat (.fn k), .dat (.str x), .dat (.str h), .dat (.lst (ls.map D.str)), .dat (.str w), .dat (.str b), .dat (.str c), .dat (.int d), .own (ls.map f), .un, .un, .un], []⟩ = .ok (enumFrom 0 (ls.map f)) ⟨[.dat (.str w), .dat (.fn k), .dat (.str x), .dat (.str h), .dat (.lst (ls.map D.str)), .dat (.str w), .dat (.str b), .dat (.str c), .dat (.int d), .dat (.lst (ls.map f)), .un, .un, .un], []⟩ := by
    unfold dEnum
    rw [s_cons, show dFz (dVar 9) ⟨[.dat (.str w), .dat (.fn k), .dat (.str x), .dat (.str h), .dat (.lst (ls.map D.str)), .dat (.str w), .dat (.str b), .dat (.str c), .dat (.int d), .own (ls.map f), .un, .un, .un], []⟩ = .ok (.d (.lst (ls.map f))) ⟨[.dat (.str w), .dat (.fn k), .dat (.str x), .dat (.str h), .dat (.lst (ls.map D.str)), .dat (.str w), .dat (.str b), .dat (.str c), .dat (.int d), .dat (.lst (ls.map f)), .un, .un, .un], []⟩ from rfl, s_bind_ok, s_nil, s_bind_ok, s_bind_ok]
    simp only
    rw [if_pos (by rw [List.length_map]; unfold LIM; omega)]
  have pre : ∀ (r : Res Fl) (rest : Sx → Res Fl), (dSeq (dFor (dEnum (dCons (dFz (dVar 9)) dNil)) (gT 2 (gsC (gN 11) (gsC (gN 12) gsN))) (dIf (dTest (dOp2 opIsN (dVar 12) (dC .non))) (dRaise 0 (dOp2 opAdd (dVar 11) (dC (.int 2)))) dSkip)) rest) ⟨[.dat (.str w), .dat (.fn k), .dat (.str x), .dat (.str h), .dat (.lst (ls.map D.str)), .dat (.str w), .dat (.str b), .dat (.str c), .dat (.int d), .own (ls.map f), .un, .un, .un], []⟩ = r →
      dSeq (dStar 3 4 (dM1 opSplit (dVar 2) (dC (.str ("\n" : Str))))) (dSeq (dAsg (gT 3 (gsC (gN 5) (gsC (gN 6) (gsC (gN 7) gsN)))) (dM1 opPart (dVar 3) (dC (.str (" " : Str))))) (dSeq (dSet 8 (dIf (dTest (dOp2 opEq (dVar 5) (dVar 0))) (dCall g_p_integer_of (dCons (dFz (dVar 7)) dNil)) (dC .non)))
        (dSeq (dIf (dTest (dOp2 opIsN (dVar 8) (dC .non))) (dRaise 0 (dC (.int 1))) dSkip) (dSeq (dSet 9 (dLc (dItems (dVar 4)) (gN 10) dTrue (dCallL 1 gs_headed (dCons (dFz (dVar 10)) dNil)) [10])) (dSeq (dFor (dEnum (dCons (dFz (dVar 9)) dNil)) (gT 2 (gsC (gN 11) (gsC (gN 12) gsN))) (dIf (dTest (dOp2 opIsN (dVar 12) (dC .non))) (dRaise 0 (dOp2 opAdd (dVar 11) (dC (.int 2)))) dSkip)) rest))))) ⟨[.dat (.str w), .dat (.fn k), .dat (.str x), .un, .un, .un, .un, .un, .un, .un, .un, .un, .un], []⟩ = r := fun r rest hr =>
    head_first hl e n hh ep (q_nx e5 (q_nx e6 (q_nx e7 hr)))
  refine ⟨fun hn => ?_, fun l r el hn => ?_⟩
  · obtain ⟨u', v', e9⟩ := loop_ok (s0 := .dat (.str w)) (s1 := .dat (.fn k)) (s2 := .dat (.str x)) (s3 := .dat (.str h)) (s4 := .dat (.lst (ls.map D.str))) (s5 := .dat (.str w)) (s6 := .dat (.str b)) (s7 := .dat (.str c)) (s8 := .dat (.int d)) (s9 := .dat (.lst (ls.map f))) (s10 := .un) (ls.map f) 0 .un .un fun y hy => by
      obtain ⟨l, hl, rfl⟩ := List.mem_map.mp hy
      exact hn l hl
    refine ret_data (s1 := ⟨[.dat (.str w), .dat (.fn k), .dat (.str x), .dat (.str h), .dat (.lst (ls.map D.str)), .dat (.str w), .dat (.str b), .dat (.str c), .dat (.int d), .dat (.lst (ls.map f)), .un, u', v'], []⟩) ?_ rfl
    rw [show initS 13 [.dat (.str w), .dat (.fn k), .dat (.str x)] = ⟨[.dat (.str w), .dat (.fn k), .dat (.str x), .un, .un, .un, .un, .un, .un, .un, .un, .un, .un], []⟩ from rfl]
    unfold b_p_headed
    refine pre _ _ (q_nx (s1 := ⟨[.dat (.str w), .dat (.fn k), .dat (.str x), .dat (.str h), .dat (.lst (ls.map D.str)), .dat (.str w), .dat (.str b), .dat (.str c), .dat (.int d), .dat (.lst (ls.map f)), .un, u', v'], []⟩) ?_ rfl)
    rw [s_for, e8, s_bind_ok]
    exact e9
  · refine ret_exd (s1 := ⟨[.dat (.str w), .dat (.fn k), .dat (.str x), .dat (.str h), .dat (.lst (ls.map D.str)), .dat (.str w), .dat (.str b), .dat (.str c), .dat (.int d), .dat (.lst (ls.map f)), .un, .dat (.int 0), .dat .non], []⟩) ?_ rfl
    rw [show initS 13 [.dat (.str w), .dat (.fn k), .dat (.str x)] = ⟨[.dat (.str w), .dat (.fn k), .dat (.str x), .un, .un, .un, .un, .un, .un, .un, .un, .un, .un], []⟩ from rfl]
    unfold b_p_headed
    refine pre _ _ (seq_ex ?_)
    rw [s_for, e8, s_bind_ok, el, List.map_cons, hn]
    rfl
end Dn.Ka
end
section
set_option Elab.async false
set_option linter.all false
set_option maxRecDepth 100000
set_option maxHeartbeats 4000000
namespace Dn.Ka
open PySem PySem.Spec PyProof.Rows L2
/-! ### the shapes -/
theorem is_integer_int (i : Int) : g_p_is_integer [.dat (.int i)] = .ret (.dat (.bl true)) [] := rfl
theorem is_pair_two (a b : D) : g_p_is_pair [.dat (.tup [a, b])] = .ret (.dat (.bl true)) [] := rfl
theorem are_integers_row (r : List Int) : g_p_are_integers [.dat (rowD r)] = .ret (.dat (.bl true)) [] := by
  have lc : lcL (gN 1) dTrue (dCall g_p_is_integer (dCons (dFz (dVar 1)) dNil)) [1] (r.map D.int) ⟨[.dat (rowD r), .un], []⟩ = .ok ((r.map D.int).map fun _ => .bl true) ⟨[.dat (rowD r), .un], []⟩ := lc_pure _ fun x hx => by
    obtain ⟨i, hi, rfl⟩ := List.mem_map.mp hx
    have v1 : dVar 1 ⟨[.dat (rowD r), .dat (.int i)], []⟩ = .ok (.d (.int i)) ⟨[.dat (rowD r), .dat (.int i)], []⟩ := rfl
    exact ⟨⟨[.dat (rowD r), .dat (.int i)], []⟩, ⟨[.dat (rowD r), .dat (.int i)], []⟩, rfl, call1 v1 rfl (is_integer_int i), rfl⟩
  have i0 : dItems (dVar 0) ⟨[.dat (rowD r), .un], []⟩ = .ok (r.map D.int) ⟨[.dat (rowD r), .un], []⟩ := rfl
  have e1 : dLc (dItems (dVar 0)) (gN 1) dTrue (dCall g_p_is_integer (dCons (dFz (dVar 1)) dNil)) [1] ⟨[.dat (rowD r), .un], []⟩ = .ok (.fr ((r.map D.int).map fun _ => .bl true)) ⟨[.dat (rowD r), .un], []⟩ := lc_of i0 rfl lc
  refine ret_data (s1 := ⟨[.dat (rowD r), .un], []⟩) ?_ rfl
  rw [show initS 2 [.dat (rowD r)] = ⟨[.dat (rowD r), .un], []⟩ from rfl]
  unfold b_p_are_integers
  refine ret_of (q_andV (s1 := ⟨[.dat (rowD r), .un], []⟩) rfl (b1_of e1 rfl ?_))
  show (bls ((r.map D.int).map fun _ => D.bl true)).map _ = _
  rw [bls_map fun _ => true]
  simp
/-- len(r) == d -/
theorem deq_int (i j : Int) : deq (.int i) (.int j) = some (i == j) := rfl
def nz (r : List Int) : Bool := r.any fun i => i != 0
theorem opEq_len (n : Nat) (d : Nat) : opEq (.int (n : Int)) (.int (d : Int)) = some (.d (.bl (decide (n = d)))) := by
  unfold opEq
  rw [deq_int]
  simp only [Option.map_some]
  congr 3
  rw [Bool.eq_iff_iff, beq_iff_eq, decide_eq_true_eq]
  omega
theorem row_len (r : List Int) : opLen [rowD r] = some (.d (.int (r.length : Int))) := by
  unfold rowD opLen
  simp
theorem is_line_of (d : Nat) (q : List Int × Int) : g_p_is_line [.dat (.int (d : Int)), .dat (lineD q)] = .ret (.dat (.bl (decide (q.1.length = d)))) [] := by
  have v1 : dVar 1 ⟨[.dat (.int (d : Int)), .dat (lineD q)], []⟩ = .ok (.d (lineD q)) ⟨[.dat (.int (d : Int)), .dat (lineD q)], []⟩ := rfl
  have x0 : dOp2 opIx (dVar 1) (dC (.int 0)) ⟨[.dat (.int (d : Int)), .dat (lineD q)], []⟩ = .ok (.d (rowD q.1)) ⟨[.dat (.int (d : Int)), .dat (lineD q)], []⟩ := rfl
  have x1 : dOp2 opIx (dVar 1) (dC (.int 1)) ⟨[.dat (.int (d : Int)), .dat (lineD q)], []⟩ = .ok (.d (.int q.2)) ⟨[.dat (.int (d : Int)), .dat (lineD q)], []⟩ := rfl
  have c0 : (dC (.int (d : Int))) ⟨[.dat (.int (d : Int)), .dat (lineD q)], []⟩ = .ok (.d (.int (d : Int))) ⟨[.dat (.int (d : Int)), .dat (lineD q)], []⟩ := rfl
  have v0 : dVar 0 ⟨[.dat (.int (d : Int)), .dat (lineD q)], []⟩ = .ok (.d (.int (d : Int))) ⟨[.dat (.int (d : Int)), .dat (lineD q)], []⟩ := rfl
  have l : dOp2 opEq (dB opLen (dCons (dFz (dOp2 opIx (dVar 1) (dC (.int 0)))) dNil)) (dVar 0) ⟨[.dat (.int (d : Int)), .dat (lineD q)], []⟩ = .ok (.d (.bl (decide (q.1.length = d)))) ⟨[.dat (.int (d : Int)), .dat (lineD q)], []⟩ :=
    op2_of (b1_of x0 rfl (row_len q.1)) v0 rfl rfl (opEq_len _ _)
  refine ret_data (s1 := ⟨[.dat (.int (d : Int)), .dat (lineD q)], []⟩) ?_ rfl
  rw [show initS 2 [.dat (.int (d : Int)), .dat (lineD q)] = ⟨[.dat (.int (d : Int)), .dat (lineD q)], []⟩ from rfl]
  unfold b_p_is_line
  refine ret_of (q_andV (call1 v1 rfl (is_pair_two _ _)) (q_andV (call1 x0 rfl (are_integers_row _)) ?_))
  by_cases h : q.1.length = d
  · rw [decide_eq_true h] at l ⊢
    exact q_andV l (call1 x1 rfl (is_integer_int _))
  · rw [decide_eq_false h] at l ⊢
    exact andV_f l
theorem is_stick_of (d : Nat) (r : List Int) : g_p_is_stick [.dat (.int (d : Int)), .dat (rowD r)] = .ret (.dat (.bl (decide (r.length = d) && nz r))) [] := by
  have v1 : dVar 1 ⟨[.dat (.int (d : Int)), .dat (rowD r), .un], []⟩ = .ok (.d (rowD r)) ⟨[.dat (.int (d : Int)), .dat (rowD r), .un], []⟩ := rfl
  have v0 : dVar 0 ⟨[.dat (.int (d : Int)), .dat (rowD r), .un], []⟩ = .ok (.d (.int (d : Int))) ⟨[.dat (.int (d : Int)), .dat (rowD r), .un], []⟩ := rfl
  have l : dOp2 opEq (dB opLen (dCons (dFz (dVar 1)) dNil)) (dVar 0) ⟨[.dat (.int (d : Int)), .dat (rowD r), .un], []⟩ = .ok (.d (.bl (decide (r.length = d)))) ⟨[.dat (.int (d : Int)), .dat (rowD r), .un], []⟩ := op2_of (b1_of v1 rfl (row_len r)) v0 rfl rfl (opEq_len _ _)
  have lc : lcL (gN 2) dTrue (dOp2 opNe (dVar 2) (dC (.int 0))) [2] (r.map D.int) ⟨[.dat (.int (d : Int)), .dat (rowD r), .un], []⟩ = .ok ((r.map D.int).map fun x => match x with
    | .int i => .bl (i != 0)
    | _ => .non) ⟨[.dat (.int (d : Int)), .dat (rowD r), .un], []⟩ := lc_pure _ fun x hx => by
      obtain ⟨i, hi, rfl⟩ := List.mem_map.mp hx
      exact ⟨⟨[.dat (.int (d : Int)), .dat (rowD r), .dat (.int i)], []⟩, ⟨[.dat (.int (d : Int)), .dat (rowD r), .dat (.int i)], []⟩, rfl, rfl, rfl⟩
  rw [List.map_map, show ((fun x => match x with
    | D.int i => D.bl (i != 0)
    | _ => D.non) ∘ D.int) = fun i => D.bl (i != 0) from rfl] at lc
  have i1 : dItems (dVar 1) ⟨[.dat (.int (d : Int)), .dat (rowD r), .un], []⟩ = .ok (r.map D.int) ⟨[.dat (.int (d : Int)), .dat (rowD r), .un], []⟩ := rfl
  have a : dB opAny (dCons (dFz (dLc (dItems (dVar 1)) (gN 2) dTrue (dOp2 opNe (dVar 2) (dC (.int 0))) [2])) dNil) ⟨[.dat (.int (d : Int)), .dat (rowD r), .un], []⟩ = .ok (.d (.bl (nz r))) ⟨[.dat (.int (d : Int)), .dat (rowD r), .un], []⟩ := by
    refine b1_of (lc_of (sw := ⟨[.dat (.int (d : Int)), .dat (rowD r), .un], []⟩) i1 rfl lc) rfl ?_
    show (bls (r.map fun i => D.bl (i != 0))).map _ = _
    rw [bls_map fun i : Int => i != 0]
    simp [nz]
  refine ret_data (s1 := ⟨[.dat (.int (d : Int)), .dat (rowD r), .un], []⟩) ?_ rfl
  rw [show initS 3 [.dat (.int (d : Int)), .dat (rowD r)] = ⟨[.dat (.int (d : Int)), .dat (rowD r), .un], []⟩ from rfl]
  unfold b_p_is_stick
  refine ret_of (q_andV (call1 v1 rfl (are_integers_row _)) ?_)
  by_cases h : r.length = d
  · rw [decide_eq_true h] at l ⊢
    exact q_andV l (a.trans (by rw [Bool.true_and]))
  · rw [decide_eq_false h] at l ⊢
    exact (andV_f l).trans (by rw [Bool.false_and])
theorem is_question_of (d : Nat) (q : List Int × Int) : g_p_is_question [.dat (.int (d : Int)), .dat (lineD q)] = .ret (.dat (.bl (decide (q.1.length = d) && nz q.1))) [] := by
  have v1 : dVar 1 ⟨[.dat (.int (d : Int)), .dat (lineD q), .un], []⟩ = .ok (.d (lineD q)) ⟨[.dat (.int (d : Int)), .dat (lineD q), .un], []⟩ := rfl
  have v0 : dVar 0 ⟨[.dat (.int (d : Int)), .dat (lineD q), .un], []⟩ = .ok (.d (.int (d : Int))) ⟨[.dat (.int (d : Int)), .dat (lineD q), .un], []⟩ := rfl
  have x0 : (dOp2 opIx (dVar 1) (dC (.int 0))) ⟨[.dat (.int (d : Int)), .dat (lineD q), .un], []⟩ = .ok (.d (rowD q.1)) ⟨[.dat (.int (d : Int)), .dat (lineD q), .un], []⟩ := rfl
  have x1 : dOp2 opIx (dVar 1) (dC (.int 1)) ⟨[.dat (.int (d : Int)), .dat (lineD q), .un], []⟩ = .ok (.d (.int q.2)) ⟨[.dat (.int (d : Int)), .dat (lineD q), .un], []⟩ := rfl
  have l : dOp2 opEq (dB opLen (dCons (dFz (dOp2 opIx (dVar 1) (dC (.int 0)))) dNil)) (dVar 0) ⟨[.dat (.int (d : Int)), .dat (lineD q), .un], []⟩ = .ok (.d (.bl (decide (q.1.length = d)))) ⟨[.dat (.int (d : Int)), .dat (lineD q), .un], []⟩ := op2_of (b1_of x0 rfl (row_len q.1)) v0 rfl rfl (opEq_len _ _)
  have lc : lcL (gN 2) dTrue (dOp2 opNe (dVar 2) (dC (.int 0))) [2] (q.1.map D.int) ⟨[.dat (.int (d : Int)), .dat (lineD q), .un], []⟩ = .ok ((q.1.map D.int).map fun x => match x with
    | .int i => .bl (i != 0)
    | _ => .non) ⟨[.dat (.int (d : Int)), .dat (lineD q), .un], []⟩ := lc_pure _ fun x hx => by
      obtain ⟨i, hi, rfl⟩ := List.mem_map.mp hx
      exact ⟨⟨[.dat (.int (d : Int)), .dat (lineD q), .dat (.int i)], []⟩, ⟨[.dat (.int (d : Int)), .dat (lineD q), .dat (.int i)], []⟩, rfl, rfl, rfl⟩
  rw [List.map_map, show ((fun x => match x with
    | D.int i => D.bl (i != 0)
    | _ => D.non) ∘ D.int) = fun i => D.bl (i != 0) from rfl] at lc
  have i1 : dItems (dOp2 opIx (dVar 1) (dC (.int 0))) ⟨[.dat (.int (d : Int)), .dat (lineD q), .un], []⟩ = .ok (q.1.map D.int) ⟨[.dat (.int (d : Int)), .dat (lineD q), .un], []⟩ := rfl
  have a : dB opAny (dCons (dFz (dLc (dItems (dOp2 opIx (dVar 1) (dC (.int 0)))) (gN 2) dTrue (dOp2 opNe (dVar 2) (dC (.int 0))) [2])) dNil) ⟨[.dat (.int (d : Int)), .dat (lineD q), .un], []⟩ = .ok (.d (.bl (nz q.1))) ⟨[.dat (.int (d : Int)), .dat (lineD q), .un], []⟩ := by
    refine b1_of (lc_of (sw := ⟨[.dat (.int (d : Int)), .dat (lineD q), .un], []⟩) i1 rfl lc) rfl ?_
    show (bls (q.1.map fun i => D.bl (i != 0))).map _ = _
    rw [bls_map fun i : Int => i != 0]
    simp [nz]
  refine ret_data (s1 := ⟨[.dat (.int (d : Int)), .dat (lineD q), .un], []⟩) ?_ rfl
  rw [show initS 3 [.dat (.int (d : Int)), .dat (lineD q)] = ⟨[.dat (.int (d : Int)), .dat (lineD q), .un], []⟩ from rfl]
  unfold b_p_is_question
  refine q_nx (s1 := ⟨[.dat (.int (d : Int)), .dat (lineD q), .un], []⟩) (q_iff (q_orf (q_not (test_of (call1 v1 rfl (is_pair_two _ _)))) (q_orf (q_not (test_of (call1 x0 rfl (are_integers_row _)))) (q_not (test_of (call1 x1 rfl (is_integer_int _)))))) rfl) (ret_of ?_)
  by_cases h : q.1.length = d
  · rw [decide_eq_true h] at l ⊢
    exact q_andV l (a.trans (by rw [Bool.true_and]))
  · rw [decide_eq_false h] at l ⊢
    exact (andV_f l).trans (by rw [Bool.false_and])
/-! ### wholes -/
def sysD (d : Nat) (qs : List (List Int × Int)) : D := .tup [.int (d : Int), .tup (qs.map lineD)]
def bunD (d : Nat) (rs : List (List Int)) : D := .tup [.int (d : Int), .tup (rs.map rowD)]
theorem guard_of {d : Nat} {ds : List D} (hd : 1 ≤ d) : (dOr (dNot (dTest (dCall g_p_is_pair (dCons (dFz (dVar 0)) dNil)))) (dOr (dNot (dTest (dCall g_p_is_integer (dCons (dFz (dOp2 opIx (dVar 0) (dC (.int 0)))) dNil)))) (dOr (dTest (dOp2 opLt (dOp2 opIx (dVar 0) (dC (.int 0))) (dC (.int 1)))) (dNot (dTest (dB opIsi (dCons (dFz (dOp2 opIx (dVar 0) (dC (.int 1)))) (dCons (dFz (dC (.ty "tuple"))) dNil)))))))) ⟨[.dat (.tup [.int (d : Int), .tup ds]), .un], []⟩ = .ok false ⟨[.dat (.tup [.int (d : Int), .tup ds]), .un], []⟩ := by
  have v0 : dVar 0 ⟨[.dat (.tup [.int (d : Int), .tup ds]), .un], []⟩ = .ok (.d (.tup [.int (d : Int), .tup ds])) ⟨[.dat (.tup [.int (d : Int), .tup ds]), .un], []⟩ := rfl
  have x0 : (dOp2 opIx (dVar 0) (dC (.int 0))) ⟨[.dat (.tup [.int (d : Int), .tup ds]), .un], []⟩ = .ok (.d (.int (d : Int))) ⟨[.dat (.tup [.int (d : Int), .tup ds]), .un], []⟩ := rfl
  have c1 : dC (.int 1) ⟨[.dat (.tup [.int (d : Int), .tup ds]), .un], []⟩ = .ok (.d (.int 1)) ⟨[.dat (.tup [.int (d : Int), .tup ds]), .un], []⟩ := rfl
  have t : dTest (dOp2 opLt (dOp2 opIx (dVar 0) (dC (.int 0))) (dC (.int 1))) ⟨[.dat (.tup [.int (d : Int), .tup ds]), .un], []⟩ = .ok false ⟨[.dat (.tup [.int (d : Int), .tup ds]), .un], []⟩ := test_of (op2_of x0 c1 rfl rfl (show opLt (.int (d : Int)) (.int 1) = some (.d (.bl false)) by
    unfold opLt
    simp only
    rw [decide_eq_false (by omega)]))
  exact q_orf (q_not (test_of (call1 v0 rfl (is_pair_two _ _)))) (q_orf (q_not (test_of (call1 x0 rfl (is_integer_int _)))) (q_orf t rfl))
/-- all([g(told[0], x) for x in told[1]]) -/
theorem all_of {α : Type} {d : Nat} {g : List Arg → Cr} (f : α → D) (p : α → Bool) {xs : List α} (h : ∀ x ∈ xs, g [.dat (.int (d : Int)), .dat (f x)] = .ret (.dat (.bl (p x))) []) :
    dB opAll (dCons (dFz (dLc (dItems (dOp2 opIx (dVar 0) (dC (.int 1)))) (gN 1) dTrue (dCall g (dCons (dFz (dOp2 opIx (dVar 0) (dC (.int 0)))) (dCons (dFz (dVar 1)) dNil))) [1])) dNil) ⟨[.dat (.tup [.int (d : Int), .tup (xs.map f)]), .un], []⟩ = .ok (.d (.bl (xs.all p))) ⟨[.dat (.tup [.int (d : Int), .tup (xs.map f)]), .un], []⟩ := by
  have i1 : dItems (dOp2 opIx (dVar 0) (dC (.int 1))) ⟨[.dat (.tup [.int (d : Int), .tup (xs.map f)]), .un], []⟩ = .ok (xs.map f) ⟨[.dat (.tup [.int (d : Int), .tup (xs.map f)]), .un], []⟩ := rfl
  have lc : ∀ ys : List α, (∀ x ∈ ys, x ∈ xs) → lcL (gN 1) dTrue (dCall g (dCons (dFz (dOp2 opIx (dVar 0) (dC (.int 0)))) (dCons (dFz (dVar 1)) dNil))) [1] (ys.map f) ⟨[.dat (.tup [.int (d : Int), .tup (xs.map f)]), .un], []⟩ = .ok (ys.map fun x => .bl (p x)) ⟨[.dat (.tup [.int (d : Int), .tup (xs.map f)]), .un], []⟩ := by
    intro ys
    induction ys with
    | nil => intro _; rfl
    | cons x ys ih =>
      intro hy
      have ih := ih fun z hz => hy z (List.mem_cons_of_mem _ hz)
      have x0 : (dOp2 opIx (dVar 0) (dC (.int 0))) ⟨[.dat (.tup [.int (d : Int), .tup (xs.map f)]), .dat (f x)], []⟩ = .ok (.d (.int (d : Int))) ⟨[.dat (.tup [.int (d : Int), .tup (xs.map f)]), .dat (f x)], []⟩ := rfl
      have v1 : dVar 1 ⟨[.dat (.tup [.int (d : Int), .tup (xs.map f)]), .dat (f x)], []⟩ = .ok (.d (f x)) ⟨[.dat (.tup [.int (d : Int), .tup (xs.map f)]), .dat (f x)], []⟩ := rfl
      have e := fz_d (call2 x0 rfl v1 rfl (h x (hy x List.mem_cons_self)))
      rw [List.map_cons, lcL, show gN 1 (f x) ⟨[.dat (.tup [.int (d : Int), .tup (xs.map f)]), .un], []⟩ = some ⟨[.dat (.tup [.int (d : Int), .tup (xs.map f)]), .dat (f x)], []⟩ from rfl]
      simp only [s_true, s_bind_ok, Res.calm]
      rw [e]
      simp only [s_bind_ok, Res.calm, onD]
      rw [show wipeS [1] (⟨[.dat (.tup [.int (d : Int), .tup (xs.map f)]), .dat (f x)], []⟩ : Sx) = ⟨[.dat (.tup [.int (d : Int), .tup (xs.map f)]), .un], []⟩ from rfl, ih]
      rfl
  refine b1_of (lc_of (sw := ⟨[.dat (.tup [.int (d : Int), .tup (xs.map f)]), .un], []⟩) i1 rfl (lc xs fun _ hx => hx)) rfl ?_
  show (bls (xs.map fun x => D.bl (p x))).map _ = _
  rw [bls_map p]
  simp
theorem is_system_of {d : Nat} {qs : List (List Int × Int)} (hd : 1 ≤ d) (h : ∀ q ∈ qs, q.1.length = d) : g_p_is_system [.dat (sysD d qs)] = .ret (.dat (.bl true)) [] := by
  have a := all_of lineD (fun q => decide (q.1.length = d)) (xs := qs) fun q _ => is_line_of d q
  have e : (qs.all fun q => decide (q.1.length = d)) = true := List.all_eq_true.mpr fun q hq => decide_eq_true (h q hq)
  rw [e] at a
  refine ret_data (s1 := ⟨[.dat (sysD d qs), .un], []⟩) ?_ rfl
  rw [show initS 2 [.dat (sysD d qs)] = ⟨[.dat (sysD d qs), .un], []⟩ from rfl]
  unfold b_p_is_system
  exact q_nx (q_iff (guard_of hd) rfl) (ret_of a)
theorem is_bundle_of {d : Nat} {rs : List (List Int)} (hd : 1 ≤ d) (h : ∀ r ∈ rs, r.length = d ∧ nz r = true) : g_p_is_bundle [.dat (bunD d rs)] = .ret (.dat (.bl true)) [] := by
  have a := all_of rowD (fun r => decide (r.length = d) && nz r) (xs := rs) fun r _ => is_stick_of d r
  have e : (rs.all fun r => decide (r.length = d) && nz r) = true := List.all_eq_true.mpr fun r hr => by rw [decide_eq_true (h r hr).1, (h r hr).2]; rfl
  rw [e] at a
  have z : g_p_is_bundle_of [.dat (bunD d rs)] = .ret (.dat (.bl true)) [] := by
    refine ret_data (s1 := ⟨[.dat (bunD d rs), .un], []⟩) ?_ rfl
    rw [show initS 2 [.dat (bunD d rs)] = ⟨[.dat (bunD d rs), .un], []⟩ from rfl]
    unfold b_p_is_bundle_of
    exact q_nx (q_iff (guard_of hd) rfl) (ret_of a)
  have v0 : dVar 0 ⟨[.dat (bunD d rs)], []⟩ = .ok (.d (bunD d rs)) ⟨[.dat (bunD d rs)], []⟩ := rfl
  exact ret_data (n := 1) (bd := b_p_is_bundle) (s1 := ⟨[.dat (bunD d rs)], []⟩) (ret_of (call1 v0 rfl z)) rfl
end Dn.Ka
end
section
set_option Elab.async false
set_option linter.all false
set_option maxRecDepth 100000
set_option maxHeartbeats 4000000
namespace Dn.Ka
open PySem PySem.Spec PyProof.Rows L2
/-! ### the readers of whole texts -/
def Wd (w : Str) : Prop := w.length ≤ 100 ∧ 32 ∉ TL.tl w ∧ 10 ∉ TL.tl w
theorem wd_system : Wd ("system" : Str) := ⟨by decide +kernel, by decide +kernel, by decide +kernel⟩
theorem wd_bundle : Wd ("bundle" : Str) := ⟨by decide +kernel, by decide +kernel, by decide +kernel⟩
theorem wd_book : Wd ("book" : Str) := ⟨by decide +kernel, by decide +kernel, by decide +kernel⟩
theorem head_no {w : Str} {d : Int} (h : Wd w) : 10 ∉ TL.tl (head w d) := by
  unfold head
  rw [TL.tl_append, TL.tl_append, sp_eq]
  simp only [List.mem_append, not_or]
  exact ⟨⟨h.2.2, by simp⟩, nt_free (by omega)⟩
theorem said_no10 {r : List Int} : 10 ∉ TL.tl (said r) := fun h => by rcases said_mem h with e | e | e <;> omega
theorem line_no10 {q : List Int × Int} : 10 ∉ TL.tl (line q) := by
  unfold line
  rw [TL.tl_append, TL.tl_append, co_eq]
  simp only [List.mem_append, not_or]
  exact ⟨⟨said_no10, by simp⟩, nt_free (by omega)⟩
theorem head_len {w : Str} {d : Int} (h : Wd w) (hd : Num d) : (head w d).length ≤ 500 := by
  have l2 := nt_len (by decide) hd
  have l3 : (" " : Str).length = 1 := rfl
  have := h.1
  unfold head
  rw [TL.len_tl, TL.tl_append, TL.tl_append, List.length_append, List.length_append, ← TL.len_tl, ← TL.len_tl, ← TL.len_tl]
  omega
def sysT (w : Str) (d : Nat) (qs : List (List Int × Int)) : Str := text (head w (d : Int) :: qs.map line)
def bunT (w : Str) (d : Nat) (rs : List (List Int)) : Str := text (head w (d : Int) :: rs.map said)
theorem text_len {k : Nat} {ls : List Str} (h : ∀ x ∈ ls, x.length ≤ k) : (text ls).length ≤ (k + 1) * ls.length := by
  have z := join_len (a := ("\n" : Str)) h
  have l3 : ("\n" : Str).length = 1 := rfl
  rw [l3] at z
  exact z
/-- what is asked of a system that is written and read -/
structure SysOk (d : Nat) (qs : List (List Int × Int)) : Prop where
  d1 : 1 ≤ d
  d9 : d ≤ 12
  n : qs.length ≤ 20
  q : ∀ q ∈ qs, QN q
  l : ∀ q ∈ qs, q.1.length = d
structure BunOk (d : Nat) (rs : List (List Int)) : Prop where
  d1 : 1 ≤ d
  d9 : d ≤ 12
  n : rs.length ≤ 20
  q : ∀ r ∈ rs, Row r
  l : ∀ r ∈ rs, r.length = d ∧ nz r = true
theorem numd {d : Nat} (h : d ≤ 12) : Num (d : Int) := Nat.lt_of_le_of_lt (show ((d : Int)).natAbs ≤ 12 by omega) (by decide +kernel)
theorem numd9 {d : Nat} (h : d ≤ 12) : ((d : Int)).natAbs < 10 ^ 9 := by omega
theorem sysT_len {w : Str} {d : Nat} {qs : List (List Int × Int)} (hw : Wd w) (h : SysOk d qs) : (sysT w d qs).length ≤ 82509 := by
  have z := text_len (k := 3928) (ls := head w (d : Int) :: qs.map line) fun x hx => by
    rcases List.mem_cons.mp hx with rfl | hx
    · exact Nat.le_trans (head_len hw (numd h.d9)) (by decide)
    · obtain ⟨q, hq, rfl⟩ := List.mem_map.mp hx
      exact line_len (h.q q hq)
  have := h.n
  rw [List.length_cons, List.length_map] at z
  unfold sysT
  omega
theorem bunT_len {w : Str} {d : Nat} {rs : List (List Int)} (hw : Wd w) (h : BunOk d rs) : (bunT w d rs).length ≤ 82509 := by
  have z := text_len (k := 3928) (ls := head w (d : Int) :: rs.map said) fun x hx => by
    rcases List.mem_cons.mp hx with rfl | hx
    · exact Nat.le_trans (head_len hw (numd h.d9)) (by decide)
    · obtain ⟨q, hq, rfl⟩ := List.mem_map.mp hx
      exact Nat.le_trans (said_len (h.q q hq)) (by decide)
  have := h.n
  rw [List.length_cons, List.length_map] at z
  unfold bunT
  omega
theorem sysT_split {w : Str} {d : Nat} {qs : List (List Int × Int)} (hw : Wd w) : Txt.split (sysT w d qs) ("\n" : Str) = head w (d : Int) :: qs.map line := text_split fun p hp => by
  rcases List.mem_cons.mp hp with rfl | hp
  · exact head_no hw
  · obtain ⟨q, _, rfl⟩ := List.mem_map.mp hp
    exact line_no10
theorem bunT_split {w : Str} {d : Nat} {rs : List (List Int)} (hw : Wd w) : Txt.split (bunT w d rs) ("\n" : Str) = head w (d : Int) :: rs.map said := text_split fun p hp => by
  rcases List.mem_cons.mp hp with rfl | hp
  · exact head_no hw
  · obtain ⟨q, _, rfl⟩ := List.mem_map.mp hp
    exact said_no10
theorem lim1 {n : Nat} (h : n ≤ 100000) : n + 2 ≤ LIM := by unfold LIM; omega
theorem lim0 {n : Nat} (h : n ≤ 100000) : n ≤ LIM := by unfold LIM; omega
/-! headed on these texts -/
theorem headed_sys {d : Nat} {qs : List (List Int × Int)} (h : SysOk d qs) (h9 : ∀ q ∈ qs, Q9 q) (w : Str) (hw : Wd w) : g_p_headed [.dat (.str w), .dat (.fn 0), .dat (.str (sysT w d qs))] = .ret (.dat (sysD d qs)) [] := by
  have inj : ∀ l ∈ qs.map line, ∃ v, g_p_question_of [.dat (.str l)] = .ret (.dat v) [] ∧ isN v = false := fun l hl => by
    obtain ⟨q, hq, rfl⟩ := List.mem_map.mp hl
    exact ⟨_, question_of_line (h9 q hq), rfl⟩
  let f : Str → D := fun l => match g_p_question_of [.dat (.str l)] with
    | .ret (.dat v) _ => v
    | _ => .non
  have hf : ∀ q ∈ qs, f (line q) = lineD q := fun q hq => by
    show (match g_p_question_of [.dat (.str (line q))] with
      | .ret (.dat v) _ => v
      | _ => .non) = _
    rw [question_of_line (h9 q hq)]
  have z := (headed_same (w := w) (k := 0) (f := f) (lim1 (Nat.le_trans (sysT_len hw h) (by decide))) (sysT_split hw) (by rw [List.length_map]; have := h.n; omega) (lim0 (Nat.le_trans (head_len hw (numd h.d9)) (by decide))) (part_head hw.2.1) (integer_of_nt (numd9 h.d9)) rfl fun l hl => by
    obtain ⟨q, hq, rfl⟩ := List.mem_map.mp hl
    rw [hf q hq]
    exact question_of_line (h9 q hq)).1 fun l hl => by
      obtain ⟨q, hq, rfl⟩ := List.mem_map.mp hl
      rw [hf q hq]
      rfl
  have e : (qs.map line).map f = qs.map lineD := by
    rw [List.map_map]
    exact List.map_congr_left fun q hq => hf q hq
  rw [z, e]
  rfl
theorem headed_bun {d : Nat} {rs : List (List Int)} (h : BunOk d rs) (h9 : ∀ r ∈ rs, Row9 r) (w : Str) (hw : Wd w) : g_p_headed [.dat (.str w), .dat (.fn 1), .dat (.str (bunT w d rs))] = .ret (.dat (bunD d rs)) [] := by
  let f : Str → D := fun l => match g_p_integers_of [.dat (.str l)] with
    | .ret (.dat v) _ => v
    | _ => .non
  have hf : ∀ q ∈ rs, f (said q) = rowD q := fun q hq => by
    show (match g_p_integers_of [.dat (.str (said q))] with
      | .ret (.dat v) _ => v
      | _ => .non) = _
    rw [integers_of_said (h9 q hq)]
  have z := (headed_same (w := w) (k := 1) (f := f) (lim1 (Nat.le_trans (bunT_len hw h) (by decide))) (bunT_split hw) (by rw [List.length_map]; have := h.n; omega) (lim0 (Nat.le_trans (head_len hw (numd h.d9)) (by decide))) (part_head hw.2.1) (integer_of_nt (numd9 h.d9)) rfl fun l hl => by
    obtain ⟨q, hq, rfl⟩ := List.mem_map.mp hl
    rw [hf q hq]
    exact integers_of_said (h9 q hq)).1 fun l hl => by
      obtain ⟨q, hq, rfl⟩ := List.mem_map.mp hl
      rw [hf q hq]
      rfl
  have e : (rs.map said).map f = rs.map rowD := by
    rw [List.map_map]
    exact List.map_congr_left fun q hq => hf q hq
  rw [z, e]
  rfl
/-- a bundle's lines are no questions -/
theorem headed_mix {d : Nat} {rs : List (List Int)} (h : BunOk d rs) (h9 : ∀ r ∈ rs, Row9 r) (w : Str) (hw : Wd w) :
    g_p_headed [.dat (.str w), .dat (.fn 0), .dat (.str (bunT w d rs))] = if rs = [] then .ret (.dat (.tup [.int (d : Int), .tup []])) [] else .ex 0 (.int 2) [] := by
  have z := headed_same (w := w) (k := 0) (f := fun _ => .non) (lim1 (Nat.le_trans (bunT_len hw h) (by decide))) (bunT_split hw) (by rw [List.length_map]; have := h.n; omega) (lim0 (Nat.le_trans (head_len hw (numd h.d9)) (by decide))) (part_head hw.2.1) (integer_of_nt (numd9 h.d9)) rfl fun l hl => by
    obtain ⟨q, hq, rfl⟩ := List.mem_map.mp hl
    exact question_of_said (h9 q hq)
  cases rs with
  | nil => exact z.1 fun l hl => by cases hl
  | cons r rs => exact (z.2 (said r) (rs.map said) rfl rfl).trans (by rw [if_neg (by simp)])
theorem headed_no_sys {d : Nat} {qs : List (List Int × Int)} (h : SysOk d qs) {w w2 : Str} (hw : Wd w) (k : Nat) (ne : w ≠ w2) : g_p_headed [.dat (.str w2), .dat (.fn k), .dat (.str (sysT w d qs))] = .ex 0 (.int 1) [] :=
  headed_other (lim1 (Nat.le_trans (sysT_len hw h) (by decide))) (sysT_split hw) (by rw [List.length_map]; have := h.n; omega) (lim0 (Nat.le_trans (head_len hw (numd h.d9)) (by decide))) (part_head hw.2.1) ne
/-! read_system, read_bundle -/
theorem read_system_ok {x : Str} {v : D} (h : g_p_headed [.dat (.str ("system" : Str)), .dat (.fn 0), .dat (.str x)] = .ret (.dat v) []) (h2 : g_p_is_system [.dat v] = .ret (.dat (.bl true)) []) : g_p_read_system [.dat (.str x)] = .ret (.dat v) [] := by
  refine ret_data (s1 := ⟨[.dat (.str x), .dat v], []⟩) ?_ rfl
  rw [show initS 2 [.dat (.str x)] = ⟨[.dat (.str x), .un], []⟩ from rfl]
  unfold b_p_read_system
  have e1 : dCall g_p_headed (dCons (dFz (dC (.str ("system" : Str)))) (dCons (dFz (dC (.fn 0))) (dCons (dFz (dVar 0)) dNil))) ⟨[.dat (.str x), .un], []⟩ = .ok (.d v) ⟨[.dat (.str x), .un], []⟩ := callS3 h
  have v1 : dVar 1 ⟨[.dat (.str x), .dat v], []⟩ = .ok (.d v) ⟨[.dat (.str x), .dat v], []⟩ := rfl
  exact q_nx (s1 := ⟨[.dat (.str x), .dat v], []⟩) (set_d e1 (by simp)) (q_nx (s1 := ⟨[.dat (.str x), .dat v], []⟩) (q_iff (q_not (test_of (call1 v1 rfl h2))) rfl) rfl)
theorem read_system_ex {x : Str} {v : D} (h : g_p_headed [.dat (.str ("system" : Str)), .dat (.fn 0), .dat (.str x)] = .ex 0 v []) : g_p_read_system [.dat (.str x)] = .ex 0 v [] := by
  refine ret_exd (s1 := ⟨[.dat (.str x), .un], []⟩) ?_ rfl
  rw [show initS 2 [.dat (.str x)] = ⟨[.dat (.str x), .un], []⟩ from rfl]
  unfold b_p_read_system
  have e1 : dCall g_p_headed (dCons (dFz (dC (.str ("system" : Str)))) (dCons (dFz (dC (.fn 0))) (dCons (dFz (dVar 0)) dNil))) ⟨[.dat (.str x), .un], []⟩ = .ex 0 v ⟨[.dat (.str x), .un], []⟩ := callS3x h
  exact seq_ex (set_ex e1)
theorem read_bundle_ok {x : Str} {v : D} (h : g_p_headed [.dat (.str ("bundle" : Str)), .dat (.fn 1), .dat (.str x)] = .ret (.dat v) []) (h2 : g_p_is_bundle [.dat v] = .ret (.dat (.bl true)) []) : g_p_read_bundle [.dat (.str x)] = .ret (.dat v) [] := by
  refine ret_data (s1 := ⟨[.dat (.str x), .dat v], []⟩) ?_ rfl
  rw [show initS 2 [.dat (.str x)] = ⟨[.dat (.str x), .un], []⟩ from rfl]
  unfold b_p_read_bundle
  have e1 : dCall g_p_headed (dCons (dFz (dC (.str ("bundle" : Str)))) (dCons (dFz (dC (.fn 1))) (dCons (dFz (dVar 0)) dNil))) ⟨[.dat (.str x), .un], []⟩ = .ok (.d v) ⟨[.dat (.str x), .un], []⟩ := callS3 h
  have v1 : dVar 1 ⟨[.dat (.str x), .dat v], []⟩ = .ok (.d v) ⟨[.dat (.str x), .dat v], []⟩ := rfl
  exact q_nx (s1 := ⟨[.dat (.str x), .dat v], []⟩) (set_d e1 (by simp)) (q_nx (s1 := ⟨[.dat (.str x), .dat v], []⟩) (q_iff (q_not (test_of (call1 v1 rfl h2))) rfl) rfl)
theorem read_bundle_ex {x : Str} {v : D} (h : g_p_headed [.dat (.str ("bundle" : Str)), .dat (.fn 1), .dat (.str x)] = .ex 0 v []) : g_p_read_bundle [.dat (.str x)] = .ex 0 v [] := by
  refine ret_exd (s1 := ⟨[.dat (.str x), .un], []⟩) ?_ rfl
  rw [show initS 2 [.dat (.str x)] = ⟨[.dat (.str x), .un], []⟩ from rfl]
  unfold b_p_read_bundle
  have e1 : dCall g_p_headed (dCons (dFz (dC (.str ("bundle" : Str)))) (dCons (dFz (dC (.fn 1))) (dCons (dFz (dVar 0)) dNil))) ⟨[.dat (.str x), .un], []⟩ = .ex 0 v ⟨[.dat (.str x), .un], []⟩ := callS3x h
  exact seq_ex (set_ex e1)
/-! only, read_whole -/
theorem only_core {x a b c : Str} {v : D} (hl : x.length ≤ LIM) (hp : Txt.partition x ("\n" : Str) = (a, b, c)) (h : g_p_integers_of [.dat (.str a)] = .ret (.dat v) []) :
    (v = .non → g_p_read_whole [.dat (.str x)] = .ex 0 (.int 1) []) ∧ (isN v = false → b = ("" : Str) → g_p_read_whole [.dat (.str x)] = .ret (.dat v) []) := by
  have e1 : dM1 opPart (dVar 1) (dC (.str ("\n" : Str))) ⟨[.dat (.fn 1), .dat (.str x), .un, .un, .un, .un], []⟩ = .ok (.d (.tup [.str a, .str b, .str c])) ⟨[.dat (.fn 1), .dat (.str x), .un, .un, .un, .un], []⟩ := by
    rw [s_m1]
    simp only [s_var, List.getElem?_cons_succ, List.getElem?_cons_zero, s_bind_ok, s_onStr, s_c, s_get_d, s_endM, part_op (by decide +kernel) hl hp]
  have e2 : dAsg (gT 3 (gsC (gN 2) (gsC (gN 3) (gsC (gN 4) gsN)))) (dM1 opPart (dVar 1) (dC (.str ("\n" : Str)))) ⟨[.dat (.fn 1), .dat (.str x), .un, .un, .un, .un], []⟩ = .ok .nx ⟨[.dat (.fn 1), .dat (.str x), .dat (.str a), .dat (.str b), .dat (.str c), .un], []⟩ := by
    rw [s_asg, fz_d e1]
    rfl
  have v2 : dVar 2 ⟨[.dat (.fn 1), .dat (.str x), .dat (.str a), .dat (.str b), .dat (.str c), .un], []⟩ = .ok (.d (.str a)) ⟨[.dat (.fn 1), .dat (.str x), .dat (.str a), .dat (.str b), .dat (.str c), .un], []⟩ := rfl
  have e3 : dCallL 0 gs_only (dCons (dFz (dVar 2)) dNil) ⟨[.dat (.fn 1), .dat (.str x), .dat (.str a), .dat (.str b), .dat (.str c), .un], []⟩ = .ok (.d v) ⟨[.dat (.fn 1), .dat (.str x), .dat (.str a), .dat (.str b), .dat (.str c), .un], []⟩ := call1 (k := g_p_integers_of) v2 rfl h
  have e4 : dSet 5 (dCallL 0 gs_only (dCons (dFz (dVar 2)) dNil)) ⟨[.dat (.fn 1), .dat (.str x), .dat (.str a), .dat (.str b), .dat (.str c), .un], []⟩ = .ok .nx ⟨[.dat (.fn 1), .dat (.str x), .dat (.str a), .dat (.str b), .dat (.str c), .dat v], []⟩ := set_d e3 (by simp)
  have v5 : dTest (dOp2 opIsN (dVar 5) (dC .non)) ⟨[.dat (.fn 1), .dat (.str x), .dat (.str a), .dat (.str b), .dat (.str c), .dat v], []⟩ = .ok (isN v) ⟨[.dat (.fn 1), .dat (.str x), .dat (.str a), .dat (.str b), .dat (.str c), .dat v], []⟩ := rfl
  have c1 : ∀ s : Sx, dCons (dFz (dC (.fn 1))) (dCons (dFz (dVar 0)) dNil) ⟨[.dat (.str x)], []⟩ = .ok [.d (.fn 1), .d (.str x)] ⟨[.dat (.str x)], []⟩ := fun _ => rfl
  refine ⟨fun hv => ?_, fun hv hb => ?_⟩
  · subst hv
    have z : g_p_only [.dat (.fn 1), .dat (.str x)] = .ex 0 (.int 1) [] := by
      refine ret_exd (s1 := ⟨[.dat (.fn 1), .dat (.str x), .dat (.str a), .dat (.str b), .dat (.str c), .dat .non], []⟩) ?_ rfl
      rw [show initS 6 [.dat (.fn 1), .dat (.str x)] = ⟨[.dat (.fn 1), .dat (.str x), .un, .un, .un, .un], []⟩ from rfl]
      unfold b_p_only
      exact q_nx e2 (q_nx e4 (seq_ex (q_ift v5 rfl)))
    refine ret_exd (n := 1) (bd := b_p_read_whole) (s1 := ⟨[.dat (.str x)], []⟩) ?_ rfl
    have e : dCall g_p_only (dCons (dFz (dC (.fn 1))) (dCons (dFz (dVar 0)) dNil)) ⟨[.dat (.str x)], []⟩ = .ex 0 (.int 1) ⟨[.dat (.str x)], []⟩ := callS2x z
    show (dCall g_p_only (dCons (dFz (dC (.fn 1))) (dCons (dFz (dVar 0)) dNil)) ⟨[.dat (.str x)], []⟩).bind _ = _
    rw [e, s_bind_ex]
  · have z : g_p_only [.dat (.fn 1), .dat (.str x)] = .ret (.dat v) [] := by
      refine ret_data (s1 := ⟨[.dat (.fn 1), .dat (.str x), .dat (.str a), .dat (.str b), .dat (.str c), .dat v], []⟩) ?_ rfl
      rw [show initS 6 [.dat (.fn 1), .dat (.str x)] = ⟨[.dat (.fn 1), .dat (.str x), .un, .un, .un, .un], []⟩ from rfl]
      unfold b_p_only
      have t : dTest (dOp2 opNe (dVar 3) (dC (.str ("" : Str)))) ⟨[.dat (.fn 1), .dat (.str x), .dat (.str a), .dat (.str b), .dat (.str c), .dat v], []⟩ = .ok false ⟨[.dat (.fn 1), .dat (.str x), .dat (.str a), .dat (.str b), .dat (.str c), .dat v], []⟩ := by
        simp [opNe, deq, hb]
      exact q_nx e2 (q_nx e4 (q_nx (q_iff (v5.trans (by rw [hv])) rfl) (q_nx (q_iff t rfl) rfl)))
    refine ret_data (n := 1) (bd := b_p_read_whole) (s1 := ⟨[.dat (.str x)], []⟩) ?_ rfl
    have e : dCall g_p_only (dCons (dFz (dC (.fn 1))) (dCons (dFz (dVar 0)) dNil)) ⟨[.dat (.str x)], []⟩ = .ok (.d v) ⟨[.dat (.str x)], []⟩ := callS2 z
    exact ret_of e
theorem read_whole_said {r : List Int} (h : Row9 r) : g_p_read_whole [.dat (.str (said r))] = .ret (.dat (rowD r)) [] :=
  (only_core (lim0 (Nat.le_trans (said_len h.row) (by decide))) (TL.partition_none nl_eq said_no10) (integers_of_said h)).2 rfl (by kernel_rfl)
theorem bundle_word : g_p_integer_of [.dat (.str ("bundle" : Str))] = .ret (.dat .non) [] := integer_of_word (by decide +kernel) (by decide +kernel) (by decide +kernel)
theorem integers_of_head {d : Nat} (h : d ≤ 12) : g_p_integers_of [.dat (.str (head ("bundle" : Str) (d : Int)))] = .ret (.dat .non) [] := by
  have sp : Txt.split (head ("bundle" : Str) (d : Int)) (" " : Str) = [("bundle" : Str), nt (d : Int)] := by
    have e : head ("bundle" : Str) (d : Int) = Txt.join (" " : Str) [("bundle" : Str), nt (d : Int)] := by
      rw [TL.join_eq]
      rfl
    rw [e]
    refine TL.split_join sp_eq (by kernel_rfl) (by simp) fun p hp => ?_
    rcases List.mem_cons.mp hp with rfl | hp
    · exact wd_bundle.2.1
    · rw [List.mem_singleton.mp hp]
      exact nt_free (by omega)
  have z := integers_core (x := head ("bundle" : Str) (d : Int)) (fun w => if w = ("bundle" : Str) then .non else .int (d : Int)) (lim1 (Nat.le_trans (head_len wd_bundle (numd h)) (by decide))) fun w hw => by
    rw [sp] at hw
    rcases List.mem_cons.mp hw with rfl | hw
    · rw [if_pos rfl]
      exact bundle_word
    · rw [List.mem_singleton.mp hw, if_neg (fun e => by
        have e2 : 98 ∈ TL.tl (nt (d : Int)) := by
          rw [e]
          decide +kernel
        exact nt_free (by omega) e2)]
      exact integer_of_nt (numd9 h)
  rw [z, sp]
  simp [isN]
theorem read_whole_bun {d : Nat} {rs : List (List Int)} (h : BunOk d rs) : g_p_read_whole [.dat (.str (bunT ("bundle" : Str) d rs))] = .ex 0 (.int 1) [] := by
  have hl : (bunT ("bundle" : Str) d rs).length ≤ LIM := lim0 (Nat.le_trans (bunT_len wd_bundle h) (by decide))
  have e : ∃ b c, Txt.partition (bunT ("bundle" : Str) d rs) ("\n" : Str) = (head ("bundle" : Str) (d : Int), b, c) := by
    unfold bunT text
    rw [TL.join_eq]
    cases rs with
    | nil => exact ⟨_, _, TL.partition_none nl_eq (head_no wd_bundle)⟩
    | cons r rs => exact ⟨_, _, TL.partition_app nl_eq (head_no wd_bundle)⟩
  obtain ⟨b, c, e⟩ := e
  exact (only_core hl e (integers_of_head h.d9)).1 rfl
end Dn.Ka
end
section
set_option Elab.async false
set_option linter.all false
set_option maxRecDepth 100000
set_option maxHeartbeats 4000000
namespace Dn.Ka
open PySem PySem.Spec PyProof.Rows L2
/-! ### the bag -/
def Vb (N : Nat) (xs : List D) : Prop := ∃ a b c : Int, xs = [.int a, .int b, .int c] ∧ 0 ≤ a ∧ 0 ≤ b ∧ b < 10 ^ 27 ∧ 0 ≤ c ∧ c ≤ (N : Int)
theorem Vb.mono {N M : Nat} {xs : List D} (h : Vb N xs) (e : N ≤ M) : Vb M xs := by
  obtain ⟨a, b, c, h1, h2, h3, h4, h5, h6⟩ := h
  exact ⟨a, b, c, h1, h2, h3, h4, h5, by omega⟩
theorem bits_le {v : Int} {k : Nat} (h0 : 0 ≤ v) (h : v < 2 ^ k) (hk : 0 < k) : Builtin.Int.intBits v ≤ k := by
  unfold Builtin.Int.intBits
  split
  · exact Nat.zero_le _
  · have h2 : v.natAbs < 2 ^ k := by
      have e : ((v.natAbs : Nat) : Int) = v := by omega
      have h3 : ((v.natAbs : Nat) : Int) < ((2 ^ k : Nat) : Int) := by rw [e]; simpa using h
      exact Int.ofNat_lt.mp h3
    have := log_lt h2 hk
    omega
theorem pow3 {v : Int} (h0 : 0 ≤ v) (h : v < 2 ^ 120) : opPow (.int v) (.int 3) = some (.d (.int (v ^ 3))) := by
  have b := bits_le h0 h (by decide)
  unfold opPow
  simp only
  rw [if_pos ⟨by decide, by omega⟩]
  rfl
theorem mul_small {i j : Int} (h : -(2 ^ 64) < i ∧ i < 2 ^ 64) : opMul (.int i) (.int j) = some (.d (.int (i * j))) := by
  unfold opMul
  simp only
  exact if_pos (.inl (.inl h))
theorem mul_small2 {i j : Int} (h : -(2 ^ 64) < j ∧ j < 2 ^ 64) : opMul (.int i) (.int j) = some (.d (.int (i * j))) := by
  unfold opMul
  simp only
  exact if_pos (.inl (.inr h))
theorem mod_pos {i j : Int} (h : 0 < j) : opMod (.int i) (.int j) = some (.d (.int (i % j))) := if_pos h
theorem div_pos {i j : Int} (h : 0 < j) (h2 : j < 2 ^ 100) : opDiv (.int i) (.int j) = some (.d (.int (i / j))) := by
  unfold opDiv
  simp only
  refine if_pos ⟨h, ?_⟩
  have e : j.natAbs < 2 ^ 100 := by omega
  exact Nat.lt_trans (log_lt e (by decide)) (by decide)
theorem ret_bo {n : Nat} {bd : Sx → Res Fl} {as : List Arg} {x : D} {s1 : Sx} (h : bd (initS n as) = .ok (.ret (.d x)) s1) : runDef n bd as = .ret (.dat x) s1.bo := by
  unfold runDef
  rw [h]
  rfl
theorem p31 : opPow (.int 10) (.int 31) = some (.d (.int (10 ^ 31))) := by rfl
theorem p33 : opPow (.int 10) (.int 33) = some (.d (.int (10 ^ 33))) := by rfl
theorem p7 : opPow (.int 10) (.int 7) = some (.d (.int (10 ^ 7))) := by rfl
theorem take_of {N : Nat} {xs : List D} {m : Int} (h : Vb N xs) (hN : N ≤ 10 ^ 12) (hm : 0 < m) (hm2 : m < 10 ^ 6) : ∃ (r : Int) (xs' : List D), g_z_law_take [.mut xs, .dat (.int m)] = .ret (.dat (.int r)) [xs'] ∧ 0 ≤ r ∧ r < m ∧ Vb (N + 1) xs' := by
  obtain ⟨a, b, c, rfl, h2, h3, h4, h5, h6⟩ := h
  have i0 : (dOp2 opIx (dPl 0) (dC (.int 0))) ⟨[.bor 0, .dat (.int m), .un, .un], [[.int a, .int b, .int c]]⟩ = .ok (.d (.int a)) ⟨[.bor 0, .dat (.int m), .un, .un], [[.int a, .int b, .int c]]⟩ := rfl
  have c0 : ∀ (s : Sx) (d : D), dC d s = .ok (.d d) s := fun _ _ => rfl
  have v1 : dVar 1 ⟨[.bor 0, .dat (.int m), .un, .un], [[.int a, .int b, .int c]]⟩ = .ok (.d (.int m)) ⟨[.bor 0, .dat (.int m), .un, .un], [[.int a, .int b, .int c]]⟩ := rfl
  have t : dTest (dOp2 opGt (dOp2 opIx (dPl 0) (dC (.int 0))) (dC (.int 0))) ⟨[.bor 0, .dat (.int m), .un, .un], [[.int a, .int b, .int c]]⟩ = .ok (decide (0 < a)) ⟨[.bor 0, .dat (.int m), .un, .un], [[.int a, .int b, .int c]]⟩ := rfl
  by_cases ha : 0 < a
  · have e2 : dSet 2 (dOp2 opMod (dB opInt (dCons (dFz (dOp2 opIx (dPl 0) (dC (.int 0)))) dNil)) (dVar 1)) ⟨[.bor 0, .dat (.int m), .un, .un], [[.int a, .int b, .int c]]⟩ = .ok .nx ⟨[.bor 0, .dat (.int m), .dat (.int (a % m)), .un], [[.int a, .int b, .int c]]⟩ := set_d (op2_of (b1_of i0 rfl (r := .d (.int a)) rfl) v1 rfl rfl (mod_pos hm)) (by simp)
    have j0 : (dOp2 opIx (dPl 0) (dC (.int 0))) ⟨[.bor 0, .dat (.int m), .dat (.int (a % m)), .un], [[.int a, .int b, .int c]]⟩ = .ok (.d (.int a)) ⟨[.bor 0, .dat (.int m), .dat (.int (a % m)), .un], [[.int a, .int b, .int c]]⟩ := rfl
    have w1 : dVar 1 ⟨[.bor 0, .dat (.int m), .dat (.int (a % m)), .un], [[.int a, .int b, .int c]]⟩ = .ok (.d (.int m)) ⟨[.bor 0, .dat (.int m), .dat (.int (a % m)), .un], [[.int a, .int b, .int c]]⟩ := rfl
    have e3 : dSetIx (dPl 0) (dC (.int 0)) (dOp2 opDiv (dOp2 opIx (dPl 0) (dC (.int 0))) (dVar 1)) ⟨[.bor 0, .dat (.int m), .dat (.int (a % m)), .un], [[.int a, .int b, .int c]]⟩ = .ok .nx ⟨[.bor 0, .dat (.int m), .dat (.int (a % m)), .un], [[.int (a / m), .int b, .int c]]⟩ := by
      unfold dSetIx
      rw [fz_d (op2_of j0 w1 rfl rfl (div_pos hm (by omega)))]
      rfl
    refine ⟨a % m, [.int (a / m), .int b, .int c], ?_, Int.emod_nonneg _ (by omega), Int.emod_lt_of_pos _ hm, a / m, b, c, rfl, Int.ediv_nonneg h2 (by omega), h3, h4, h5, by omega⟩
    refine ret_bo (s1 := ⟨[.bor 0, .dat (.int m), .dat (.int (a % m)), .un], [[.int (a / m), .int b, .int c]]⟩) ?_
    rw [show initS 4 [.mut [.int a, .int b, .int c], .dat (.int m)] = ⟨[.bor 0, .dat (.int m), .un, .un], [[.int a, .int b, .int c]]⟩ from rfl]
    unfold b_z_law_take
    exact seq_ret (q_ift (t.trans (by rw [decide_eq_true ha])) (q_nx e2 (q_nx e3 rfl)))
  · have e4 : dSetIx (dPl 0) (dC (.int 2)) (dOp2 opAdd (dOp2 opIx (dPl 0) (dC (.int 2))) (dC (.int 1))) ⟨[.bor 0, .dat (.int m), .un, .un], [[.int a, .int b, .int c]]⟩ = .ok .nx ⟨[.bor 0, .dat (.int m), .un, .un], [[.int a, .int b, .int (c + 1)]]⟩ := rfl
    have i1 : (dOp2 opIx (dPl 0) (dC (.int 1))) ⟨[.bor 0, .dat (.int m), .un, .un], [[.int a, .int b, .int (c + 1)]]⟩ = .ok (.d (.int b)) ⟨[.bor 0, .dat (.int m), .un, .un], [[.int a, .int b, .int (c + 1)]]⟩ := rfl
    have i2 : (dOp2 opIx (dPl 0) (dC (.int 2))) ⟨[.bor 0, .dat (.int m), .un, .un], [[.int a, .int b, .int (c + 1)]]⟩ = .ok (.d (.int (c + 1))) ⟨[.bor 0, .dat (.int m), .un, .un], [[.int a, .int b, .int (c + 1)]]⟩ := rfl
    have x1 : dOp2 opMul (dC (.int 15485867)) (dOp2 opIx (dPl 0) (dC (.int 2))) ⟨[.bor 0, .dat (.int m), .un, .un], [[.int a, .int b, .int (c + 1)]]⟩ = .ok (.d (.int (15485867 * (c + 1)))) ⟨[.bor 0, .dat (.int m), .un, .un], [[.int a, .int b, .int (c + 1)]]⟩ := op2_of rfl i2 rfl rfl (mul_small (by decide))
    have x2 : dOp2 opAdd (dOp2 opIx (dPl 0) (dC (.int 1))) (dOp2 opMul (dC (.int 15485867)) (dOp2 opIx (dPl 0) (dC (.int 2)))) ⟨[.bor 0, .dat (.int m), .un, .un], [[.int a, .int b, .int (c + 1)]]⟩ = .ok (.d (.int (b + 15485867 * (c + 1)))) ⟨[.bor 0, .dat (.int m), .un, .un], [[.int a, .int b, .int (c + 1)]]⟩ := op2_of i1 x1 rfl rfl rfl
    have x3 : dOp2 opPow (dOp2 opAdd (dOp2 opIx (dPl 0) (dC (.int 1))) (dOp2 opMul (dC (.int 15485867)) (dOp2 opIx (dPl 0) (dC (.int 2))))) (dC (.int 3)) ⟨[.bor 0, .dat (.int m), .un, .un], [[.int a, .int b, .int (c + 1)]]⟩ = .ok (.d (.int ((b + 15485867 * (c + 1)) ^ 3))) ⟨[.bor 0, .dat (.int m), .un, .un], [[.int a, .int b, .int (c + 1)]]⟩ := op2_of x2 rfl rfl rfl (pow3 (by omega) (by omega))
    have m1 : dOp2 opAdd (dOp2 opPow (dC (.int 10)) (dC (.int 31))) (dC (.int 33)) ⟨[.bor 0, .dat (.int m), .un, .un], [[.int a, .int b, .int (c + 1)]]⟩ = .ok (.d (.int (10 ^ 31 + 33))) ⟨[.bor 0, .dat (.int m), .un, .un], [[.int a, .int b, .int (c + 1)]]⟩ := op2_of (op2_of rfl rfl rfl rfl p31) rfl rfl rfl rfl
    generalize hv : (b + 15485867 * (c + 1)) ^ 3 = v at x3
    have x4 := op2_of (b1_of (op := opInt) x3 rfl (r := .d (.int v)) rfl) m1 rfl rfl (mod_pos (by decide))
    have e5 := set_d (i := 3) x4 (by simp)
    have v3 : dVar 3 ⟨[.bor 0, .dat (.int m), .un, .dat (.int (v % (10 ^ 31 + 33)))], [[.int a, .int b, .int (c + 1)]]⟩ = .ok (.d (.int (v % (10 ^ 31 + 33)))) ⟨[.bor 0, .dat (.int m), .un, .dat (.int (v % (10 ^ 31 + 33)))], [[.int a, .int b, .int (c + 1)]]⟩ := rfl
    have u0 : 0 ≤ v % (10 ^ 31 + 33) := Int.emod_nonneg _ (by decide)
    have u1 : v % (10 ^ 31 + 33) < 10 ^ 31 + 33 := Int.emod_lt_of_pos _ (by decide)
    have y1 : dOp2 opAdd (dVar 3) (dC (.int 982451653)) ⟨[.bor 0, .dat (.int m), .un, .dat (.int (v % (10 ^ 31 + 33)))], [[.int a, .int b, .int (c + 1)]]⟩ = .ok (.d (.int (v % (10 ^ 31 + 33) + 982451653))) ⟨[.bor 0, .dat (.int m), .un, .dat (.int (v % (10 ^ 31 + 33)))], [[.int a, .int b, .int (c + 1)]]⟩ := op2_of v3 rfl rfl rfl rfl
    have y2 : dOp2 opPow (dOp2 opAdd (dVar 3) (dC (.int 982451653))) (dC (.int 3)) ⟨[.bor 0, .dat (.int m), .un, .dat (.int (v % (10 ^ 31 + 33)))], [[.int a, .int b, .int (c + 1)]]⟩ = .ok (.d (.int ((v % (10 ^ 31 + 33) + 982451653) ^ 3))) ⟨[.bor 0, .dat (.int m), .un, .dat (.int (v % (10 ^ 31 + 33)))], [[.int a, .int b, .int (c + 1)]]⟩ := op2_of y1 rfl rfl rfl (pow3 (by omega) (by omega))
    generalize hw : (v % (10 ^ 31 + 33) + 982451653) ^ 3 = w at y2
    have m2 : dOp2 opAdd (dOp2 opPow (dC (.int 10)) (dC (.int 33))) (dC (.int 33)) ⟨[.bor 0, .dat (.int m), .un, .dat (.int (v % (10 ^ 31 + 33)))], [[.int a, .int b, .int (c + 1)]]⟩ = .ok (.d (.int (10 ^ 33 + 33))) ⟨[.bor 0, .dat (.int m), .un, .dat (.int (v % (10 ^ 31 + 33)))], [[.int a, .int b, .int (c + 1)]]⟩ := op2_of (op2_of rfl rfl rfl rfl p33) rfl rfl rfl rfl
    have y3 := op2_of (b1_of (op := opInt) y2 rfl (r := .d (.int w)) rfl) m2 rfl rfl (mod_pos (by decide))
    have e6 := set_d (i := 3) y3 (by simp)
    have v3' : dVar 3 ⟨[.bor 0, .dat (.int m), .un, .dat (.int (w % (10 ^ 33 + 33)))], [[.int a, .int b, .int (c + 1)]]⟩ = .ok (.d (.int (w % (10 ^ 33 + 33)))) ⟨[.bor 0, .dat (.int m), .un, .dat (.int (w % (10 ^ 33 + 33)))], [[.int a, .int b, .int (c + 1)]]⟩ := rfl
    have z1 : dOp2 opDiv (dVar 3) (dOp2 opPow (dC (.int 10)) (dC (.int 7))) ⟨[.bor 0, .dat (.int m), .un, .dat (.int (w % (10 ^ 33 + 33)))], [[.int a, .int b, .int (c + 1)]]⟩ = .ok (.d (.int (w % (10 ^ 33 + 33) / 10 ^ 7))) ⟨[.bor 0, .dat (.int m), .un, .dat (.int (w % (10 ^ 33 + 33)))], [[.int a, .int b, .int (c + 1)]]⟩ := op2_of v3' (op2_of rfl rfl rfl rfl p7) rfl rfl (div_pos (by decide) (by decide))
    have v1' : dVar 1 ⟨[.bor 0, .dat (.int m), .un, .dat (.int (w % (10 ^ 33 + 33)))], [[.int a, .int b, .int (c + 1)]]⟩ = .ok (.d (.int m)) ⟨[.bor 0, .dat (.int m), .un, .dat (.int (w % (10 ^ 33 + 33)))], [[.int a, .int b, .int (c + 1)]]⟩ := rfl
    have z2 := op2_of (b1_of (op := opInt) z1 rfl (r := .d (.int (w % (10 ^ 33 + 33) / 10 ^ 7))) rfl) v1' rfl rfl (mod_pos hm)
    refine ⟨w % (10 ^ 33 + 33) / 10 ^ 7 % m, [.int a, .int b, .int (c + 1)], ?_, Int.emod_nonneg _ (by omega), Int.emod_lt_of_pos _ hm, a, b, c + 1, rfl, h2, h3, h4, by omega, by omega⟩
    refine ret_bo (s1 := ⟨[.bor 0, .dat (.int m), .un, .dat (.int (w % (10 ^ 33 + 33)))], [[.int a, .int b, .int (c + 1)]]⟩) ?_
    rw [show initS 4 [.mut [.int a, .int b, .int c], .dat (.int m)] = ⟨[.bor 0, .dat (.int m), .un, .un], [[.int a, .int b, .int c]]⟩ from rfl]
    unfold b_z_law_take
    exact q_nx (q_iff (t.trans (by rw [decide_eq_false ha])) rfl) (q_nx e4 (q_nx e5 (q_nx e6 (ret_of z2))))
/-- a call with the bag ahead -/
theorem callb2 {k : List Arg → Cr} {f : Sx → Res Pv} {x y : D} {p : Pv} {sl : List Slot} {xs xs1 xs2 : List D} {bs : List (List D)} (h0 : sl[0]? = some (.bor 0)) (hf : f ⟨sl, xs :: bs⟩ = .ok p ⟨sl, xs1 :: bs⟩) (hp : p.cold = .d x) (e : k [.mut xs1, .dat x] = .ret (.dat y) [xs2]) :
    dCall k (dCons (dFz (dPl 0)) (dCons (dFz f) dNil)) ⟨sl, xs :: bs⟩ = .ok (.d y) ⟨sl, xs2 :: bs⟩ := by
  have e0 : dFz (dPl 0) ⟨sl, xs :: bs⟩ = .ok (.pl 0) ⟨sl, xs :: bs⟩ := by simp [h0]
  rw [s_call, s_cons, e0, s_bind_ok, s_cons, fz_of hf, s_bind_ok, s_nil, s_bind_ok, s_bind_ok, s_bind_ok, hp]
  simp [callS, toArgs, places, distinct, h0, e, endC, putAll, putAt]
end Dn.Ka
end
section
set_option Elab.async false
set_option linter.all false
set_option maxRecDepth 100000
set_option maxHeartbeats 4000000
namespace Dn.Ka
open PySem PySem.Spec PyProof.Rows L2
theorem mem_rng {x : D} {a : Int} {n : Nat} (h : x ∈ rng a n) : ∃ i : Int, x = .int i := by
  unfold rng at h
  obtain ⟨i, _, rfl⟩ := List.mem_map.mp h
  exact ⟨_, rfl⟩
theorem rng_length (a : Int) (n : Nat) : (rng a n).length = n := by simp [rng]
theorem rng1_of {f : Sx → Res Pv} {s s1 : Sx} {j : Int} (h : f s = .ok (.d (.int j)) s1) (h0 : 0 ≤ j) (h1 : j ≤ 1000000) : dRng1 (dCons (dFz f) dNil) s = .ok (rng 0 j.toNat) s1 := by
  rw [s_rng1, s_cons, fz_d h, s_bind_ok, s_nil, s_bind_ok, s_bind_ok, s_gets_cons, s_gets_nil]
  simp only [s_get_d, s_endR1]
  rw [if_pos ⟨by unfold LIM; omega, by omega⟩]
/-- one take within a def whose bag is the first borrowed list -/
theorem take_at {N : Nat} {xs : List D} {m : Int} {sl : List Slot} {bs : List (List D)} (h : Vb N xs) (hN : N ≤ 10 ^ 12) (h0 : sl[0]? = some (.bor 0)) (hm : 0 < m) (hm2 : m < 10 ^ 6) :
    ∃ (r : Int) (xs' : List D), dCall g_z_law_take (dCons (dFz (dPl 0)) (dCons (dFz (dC (.int m))) dNil)) ⟨sl, xs :: bs⟩ = .ok (.d (.int r)) ⟨sl, xs' :: bs⟩ ∧ 0 ≤ r ∧ r < m ∧ Vb (N + 1) xs' := by
  obtain ⟨r, xs', e, h1, h2, h3⟩ := take_of h hN hm hm2
  exact ⟨r, xs', callb2 h0 (by rfl) rfl e, h1, h2, h3⟩
theorem take_f {N : Nat} {xs xs1 : List D} {m : Int} {sl : List Slot} {bs : List (List D)} {f : Sx → Res Pv} (h : Vb N xs1) (hN : N ≤ 10 ^ 12) (h0 : sl[0]? = some (.bor 0)) (hf : f ⟨sl, xs :: bs⟩ = .ok (.d (.int m)) ⟨sl, xs1 :: bs⟩) (hm : 0 < m) (hm2 : m < 10 ^ 6) :
    ∃ (r : Int) (xs' : List D), dCall g_z_law_take (dCons (dFz (dPl 0)) (dCons (dFz f) dNil)) ⟨sl, xs :: bs⟩ = .ok (.d (.int r)) ⟨sl, xs' :: bs⟩ ∧ 0 ≤ r ∧ r < m ∧ Vb (N + 1) xs' := by
  obtain ⟨r, xs', e, h1, h2, h3⟩ := take_of h hN hm hm2
  exact ⟨r, xs', callb2 h0 hf rfl e, h1, h2, h3⟩
theorem digits_loop {g : Int} : ∀ (ds : List D) (N : Nat) (xs : List D) (v : Int) (k : Nat) (u : Slot), (∀ x ∈ ds, ∃ i : Int, x = .int i) → Vb N xs → N + ds.length ≤ 10 ^ 12 → 0 ≤ v → v < 10 ^ k →
    ∃ (v' : Int) (xs' : List D) (u' : Slot), forL (gN 3) (dSet 2 (dOp2 opAdd (dOp2 opMul (dC (.int 10)) (dVar 2)) (dCall g_z_law_take (dCons (dFz (dPl 0)) (dCons (dFz (dC (.int 10))) dNil))))) ds ⟨[.bor 0, .dat (.int g), .dat (.int v), u], [xs]⟩ = .ok .nx ⟨[.bor 0, .dat (.int g), .dat (.int v'), u'], [xs']⟩ ∧ 0 ≤ v' ∧ v' < 10 ^ (k + ds.length) ∧ Vb (N + ds.length) xs'
  | [], N, xs, v, k, u, _, hb, _, h0, h1 => ⟨v, xs, u, rfl, h0, h1, hb⟩
  | x :: ds, N, xs, v, k, u, hx, hb, hN, h0, h1 => by
    obtain ⟨i, rfl⟩ := hx x List.mem_cons_self
    rw [List.length_cons] at hN
    obtain ⟨r, xs1, e, r0, r1, hb1⟩ := take_at (sl := [.bor 0, .dat (.int g), .dat (.int v), .dat (.int i)]) (bs := []) hb (by omega) rfl (m := 10) (by decide) (by decide)
    have v2 : dVar 2 ⟨[.bor 0, .dat (.int g), .dat (.int v), .dat (.int i)], [xs]⟩ = .ok (.d (.int v)) ⟨[.bor 0, .dat (.int g), .dat (.int v), .dat (.int i)], [xs]⟩ := rfl
    have e1 : dOp2 opMul (dC (.int 10)) (dVar 2) ⟨[.bor 0, .dat (.int g), .dat (.int v), .dat (.int i)], [xs]⟩ = .ok (.d (.int (10 * v))) ⟨[.bor 0, .dat (.int g), .dat (.int v), .dat (.int i)], [xs]⟩ := op2_of rfl v2 rfl rfl (mul_small (by decide))
    have e2 : (dSet 2 (dOp2 opAdd (dOp2 opMul (dC (.int 10)) (dVar 2)) (dCall g_z_law_take (dCons (dFz (dPl 0)) (dCons (dFz (dC (.int 10))) dNil))))) ⟨[.bor 0, .dat (.int g), .dat (.int v), .dat (.int i)], [xs]⟩ = .ok .nx ⟨[.bor 0, .dat (.int g), .dat (.int (10 * v + r)), .dat (.int i)], [xs1]⟩ := set_d (op2_of e1 e rfl rfl rfl) (by simp)
    have lt : 10 * v + r < 10 ^ (k + 1) := by
      rw [Int.pow_succ]
      omega
    obtain ⟨v', xs', u', e3, h3, h4, h5⟩ := digits_loop ds (N + 1) xs1 (10 * v + r) (k + 1) (.dat (.int i)) (fun y hy => hx y (List.mem_cons_of_mem _ hy)) hb1 (by omega) (by omega) lt
    refine ⟨v', xs', u', ?_, h3, by rw [List.length_cons, Nat.add_comm ds.length 1, ← Nat.add_assoc]; exact h4, by rw [List.length_cons, Nat.add_comm ds.length 1, ← Nat.add_assoc]; exact h5⟩
    unfold forL
    rw [show gN 3 (.int i) ⟨[.bor 0, .dat (.int g), .dat (.int v), u], [xs]⟩ = some ⟨[.bor 0, .dat (.int g), .dat (.int v), .dat (.int i)], [xs]⟩ from rfl]
    simp only
    rw [e2]
    exact e3
theorem ix3 {a b c r : Int} (h0 : 0 ≤ r) (h1 : r < 3) : ∃ x, opIx (.lst [.int a, .int b, .int c]) (.int r) = some (.d (.int x)) ∧ (x = a ∨ x = b ∨ x = c) := by
  have : r = 0 ∨ r = 1 ∨ r = 2 := by omega
  rcases this with rfl | rfl | rfl
  · exact ⟨a, rfl, .inl rfl⟩
  · exact ⟨b, rfl, .inr (.inl rfl)⟩
  · exact ⟨c, rfl, .inr (.inr rfl)⟩
theorem ix2 {a b r : Int} (h0 : 0 ≤ r) (h1 : r < 2) : ∃ x, opIx (.lst [.int a, .int b]) (.int r) = some (.d (.int x)) ∧ (x = a ∨ x = b) := by
  have : r = 0 ∨ r = 1 := by omega
  rcases this with rfl | rfl
  · exact ⟨a, rfl, .inl rfl⟩
  · exact ⟨b, rfl, .inr rfl⟩
theorem integer_spec {N : Nat} {xs : List D} {g : Nat} (h : Vb N xs) (hN : N ≤ 10 ^ 11) (g2 : 2 ≤ g) (g3 : g ≤ 300) : ∃ (i : Int) (xs' : List D), g_z_law_integer [.mut xs, .dat (.int (g : Int))] = .ret (.dat (.int i)) [xs'] ∧ i.natAbs < 10 ^ g ∧ Vb (N + 400) xs' := by
  obtain ⟨r1, xs1, e1, a1, b1, hb1⟩ := take_at (sl := [.bor 0, .dat (.int (g : Int)), .dat (.int 0), .un]) (bs := []) h (by omega) rfl (m := 3) (by decide) (by decide)
  obtain ⟨x, ex, hx⟩ := ix3 (a := 1) (b := 2) (c := (g : Int)) a1 b1
  have l1 : dLst (dCons (dFz (dC (.int 1))) (dCons (dFz (dC (.int 2))) (dCons (dFz (dVar 1)) dNil))) ⟨[.bor 0, .dat (.int (g : Int)), .dat (.int 0), .un], [xs]⟩ = .ok (.fr [.int 1, .int 2, .int (g : Int)]) ⟨[.bor 0, .dat (.int (g : Int)), .dat (.int 0), .un], [xs]⟩ := rfl
  have e2 := op2_of (op := opIx) l1 e1 rfl rfl ex
  obtain ⟨r2, xs2, e3, a2, b2, hb2⟩ := take_f (m := x) hb1 (by omega) rfl e2 (by omega) (by omega)
  have e4 := op2_of (op := opAdd) (f := dC (.int 1)) (s1 := ⟨[.bor 0, .dat (.int (g : Int)), .dat (.int 0), .un], [xs]⟩) (p := .d (.int 1)) rfl e3 rfl rfl (r := .d (.int (1 + r2))) rfl
  have e5 := rng1_of e4 (by omega) (by omega)
  obtain ⟨v, xs3, u, e6, h3, h4, hb3⟩ := digits_loop (g := (g : Int)) (rng 0 (1 + r2).toNat) (N + 1 + 1) xs2 0 0 .un (fun y hy => mem_rng hy) hb2 (by rw [rng_length]; omega) (by omega) (by decide)
  rw [rng_length] at h4 hb3
  obtain ⟨r4, xs4, e7, a4, b4, hb4⟩ := take_at (sl := [.bor 0, .dat (.int (g : Int)), .dat (.int v), u]) (bs := []) hb3 (by omega) rfl (m := 2) (by decide) (by decide)
  have t := test_of (op2_of e7 rfl rfl rfl (q := .d (.int 0)) (g := dC (.int 0)) (op := opEq) (r := .d (.bl (r4 == 0))) rfl)
  have na : v.natAbs < 10 ^ g := by
    have le : 0 + (1 + r2).toNat ≤ g := by omega
    have e : ((v.natAbs : Nat) : Int) = v := by omega
    have q : ((v.natAbs : Nat) : Int) < ((10 ^ (0 + (1 + r2).toNat) : Nat) : Int) := by rw [e]; simpa using h4
    exact Nat.lt_of_lt_of_le (Int.ofNat_lt.mp q) (Nat.pow_le_pow_right (by decide) le)
  have vv : dVar 2 ⟨[.bor 0, .dat (.int (g : Int)), .dat (.int v), u], [xs4]⟩ = .ok (.d (.int v)) ⟨[.bor 0, .dat (.int (g : Int)), .dat (.int v), u], [xs4]⟩ := rfl
  have ng : dOp1 opNeg (dVar 2) ⟨[.bor 0, .dat (.int (g : Int)), .dat (.int v), u], [xs4]⟩ = .ok (.d (.int (-v))) ⟨[.bor 0, .dat (.int (g : Int)), .dat (.int v), u], [xs4]⟩ := rfl
  have big : Vb (N + 400) xs4 := hb4.mono (by omega)
  by_cases z : r4 = 0
  · refine ⟨-v, xs4, ?_, by omega, big⟩
    refine ret_bo (s1 := ⟨[.bor 0, .dat (.int (g : Int)), .dat (.int v), u], [xs4]⟩) ?_
    rw [show initS 4 [.mut xs, .dat (.int (g : Int))] = ⟨[.bor 0, .dat (.int (g : Int)), .un, .un], [xs]⟩ from rfl]
    unfold b_z_law_integer
    refine q_nx (s1 := ⟨[.bor 0, .dat (.int (g : Int)), .dat (.int 0), .un], [xs]⟩) rfl (q_nx (s1 := ⟨[.bor 0, .dat (.int (g : Int)), .dat (.int v), u], [xs3]⟩) ?_ (ret_of (q_ift (t.trans (by rw [z]; rfl)) ng)))
    rw [s_for, e5, s_bind_ok]
    exact e6
  · refine ⟨v, xs4, ?_, by omega, big⟩
    refine ret_bo (s1 := ⟨[.bor 0, .dat (.int (g : Int)), .dat (.int v), u], [xs4]⟩) ?_
    rw [show initS 4 [.mut xs, .dat (.int (g : Int))] = ⟨[.bor 0, .dat (.int (g : Int)), .un, .un], [xs]⟩ from rfl]
    unfold b_z_law_integer
    refine q_nx (s1 := ⟨[.bor 0, .dat (.int (g : Int)), .dat (.int 0), .un], [xs]⟩) rfl (q_nx (s1 := ⟨[.bor 0, .dat (.int (g : Int)), .dat (.int v), u], [xs3]⟩) ?_ (ret_of (q_iff (t.trans (by rw [show (r4 == 0) = false from by simpa using z])) vv)))
    rw [s_for, e5, s_bind_ok]
    exact e6
end Dn.Ka
end
section
set_option Elab.async false
set_option linter.all false
set_option maxRecDepth 100000
set_option maxHeartbeats 4000000
namespace Dn.Ka
open PySem PySem.Spec PyProof.Rows L2
def Lt (g : Nat) (r : List Int) : Prop := ∀ i ∈ r, i.natAbs < 10 ^ g
theorem ints_lc {g : Nat} {f : Sx → Res Pv} {j : Nat} {sl : List Slot} {bs : List (List D)} (g2 : 2 ≤ g) (g3 : g ≤ 300) (hj : j < sl.length) (h0 : ∀ x, (sl.set j (.dat x))[0]? = some (.bor 0)) (hf : ∀ x bo, f ⟨sl.set j (.dat x), bo⟩ = .ok (.d (.int (g : Int))) ⟨sl.set j (.dat x), bo⟩) (hw : ∀ x, (sl.set j (.dat x)).set j .un = sl) :
    ∀ (ds : List D) (N : Nat) (xs : List D), Vb N xs → N + 400 * ds.length ≤ 10 ^ 11 → ∃ (is : List Int) (xs' : List D), lcL (gN j) dTrue (dCall g_z_law_integer (dCons (dFz (dPl 0)) (dCons (dFz f) dNil))) [j] ds ⟨sl, xs :: bs⟩ = .ok (is.map D.int) ⟨sl, xs' :: bs⟩ ∧ is.length = ds.length ∧ Lt g is ∧ Vb (N + 400 * ds.length) xs'
  | [], N, xs, h, _ => ⟨[], xs, rfl, rfl, fun i hi => (by cases hi), h⟩
  | x :: ds, N, xs, h, hN => by
    rw [List.length_cons] at hN
    obtain ⟨i, xs1, e1, hi, hb1⟩ := integer_spec h (by omega) g2 g3
    have e2 := callb2 (k := g_z_law_integer) (h0 x) (hf x (xs :: bs)) rfl e1
    obtain ⟨is, xs2, e3, hl, hi2, hb2⟩ := ints_lc g2 g3 hj h0 hf hw ds (N + 400) xs1 hb1 (by omega)
    refine ⟨i :: is, xs2, ?_, by rw [List.length_cons, List.length_cons, hl], fun k hk => ?_, by rw [List.length_cons]; exact hb2.mono (by omega)⟩
    · rw [lcL, show gN j x ⟨sl, xs :: bs⟩ = some ⟨sl.set j (.dat x), xs :: bs⟩ from if_pos hj]
      simp only [s_true, s_bind_ok, Res.calm]
      rw [fz_d e2]
      simp only [s_bind_ok, Res.calm, onD]
      rw [show wipeS [j] (⟨sl.set j (.dat x), xs1 :: bs⟩ : Sx) = ⟨sl, xs1 :: bs⟩ from by unfold wipeS wipeL; simp only [wipeL]; rw [hw], e3]
      rfl
    · rcases List.mem_cons.mp hk with rfl | hk
      · exact hi
      · exact hi2 k hk
theorem nz_set {is : List Int} {j : Nat} {v : Int} (hj : j < is.length) (hv : v ≠ 0) : nz (is.set j v) = true := by
  unfold nz
  rw [List.any_eq_true]
  exact ⟨v, List.mem_of_getElem? (List.getElem?_set_self hj), by simpa using hv⟩
def RowsOk (d g : Nat) (rs : List (List Int)) : Prop := ∀ r ∈ rs, (r.length = d ∧ nz r = true) ∧ Lt g r
theorem rows_loop {d g m : Nat} (d1 : 1 ≤ d) (d2 : d ≤ 12) (g2 : 2 ≤ g) (g3 : g ≤ 300) : ∀ (ds : List D) (N : Nat) (xs : List D) (rs : List (List Int)) (u v : Slot), (∀ x ∈ ds, ∃ i : Int, x = .int i) → Vb N xs → N + 5000 * ds.length ≤ 10 ^ 10 → rs.length + ds.length ≤ 100 → RowsOk d g rs →
    ∃ (rs' : List (List Int)) (xs' : List D) (u' v' : Slot), forL (gN 5) (dSeq (dSet 6 (dLc (dRng1 (dCons (dFz (dVar 1)) dNil)) (gN 7) dTrue (dCall g_z_law_integer (dCons (dFz (dPl 0)) (dCons (dFz (dVar 3)) dNil))) [7])) (dSeq (dSetIx (dPl 6) (dCall g_z_law_take (dCons (dFz (dPl 0)) (dCons (dFz (dVar 1)) dNil))) (dOp2 opAdd (dC (.int 1)) (dCall g_z_law_take (dCons (dFz (dPl 0)) (dCons (dFz (dC (.int 9))) dNil))))) (dDrop (dApp (dPl 4) (dB opTupl (dCons (dFz (dPl 6)) dNil)))))) ds ⟨[.bor 0, .dat (.int (d : Int)), .dat (.int (m : Int)), .dat (.int (g : Int)), .own (rs.map rowD), u, v, .un], [xs]⟩ = .ok .nx ⟨[.bor 0, .dat (.int (d : Int)), .dat (.int (m : Int)), .dat (.int (g : Int)), .own (rs'.map rowD), u', v', .un], [xs']⟩ ∧ rs'.length = rs.length + ds.length ∧ RowsOk d g rs' ∧ Vb (N + 5000 * ds.length) xs'
  | [], N, xs, rs, u, v, _, h, _, _, hr => ⟨rs, xs, u, v, rfl, rfl, hr, h⟩
  | x :: ds, N, xs, rs, u, v, hx, h, hN, hl, hr => by
    obtain ⟨i, rfl⟩ := hx x List.mem_cons_self
    rw [List.length_cons] at hN hl
    obtain ⟨is, xs1, e1, hil, hil2, hb1⟩ := ints_lc (f := dVar 3) (j := 7) (sl := [.bor 0, .dat (.int (d : Int)), .dat (.int (m : Int)), .dat (.int (g : Int)), .own (rs.map rowD), .dat (.int i), v, .un]) (bs := []) g2 g3 (by simp) (fun _ => rfl) (fun _ _ => rfl) (fun _ => rfl) (rng 0 ((d : Int)).toNat) N xs h (by rw [rng_length]; omega)
    rw [rng_length] at hil hb1
    have hd : ((d : Int)).toNat = d := by omega
    rw [hd] at hil hb1
    have r1 : dRng1 (dCons (dFz (dVar 1)) dNil) ⟨[.bor 0, .dat (.int (d : Int)), .dat (.int (m : Int)), .dat (.int (g : Int)), .own (rs.map rowD), .dat (.int i), v, .un], [xs]⟩ = .ok (rng 0 ((d : Int)).toNat) ⟨[.bor 0, .dat (.int (d : Int)), .dat (.int (m : Int)), .dat (.int (g : Int)), .own (rs.map rowD), .dat (.int i), v, .un], [xs]⟩ := rng1_of rfl (by omega) (by omega)
    have e2 : (dLc (dRng1 (dCons (dFz (dVar 1)) dNil)) (gN 7) dTrue (dCall g_z_law_integer (dCons (dFz (dPl 0)) (dCons (dFz (dVar 3)) dNil))) [7]) ⟨[.bor 0, .dat (.int (d : Int)), .dat (.int (m : Int)), .dat (.int (g : Int)), .own (rs.map rowD), .dat (.int i), v, .un], [xs]⟩ = .ok (.fr (is.map D.int)) ⟨[.bor 0, .dat (.int (d : Int)), .dat (.int (m : Int)), .dat (.int (g : Int)), .own (rs.map rowD), .dat (.int i), v, .un], [xs1]⟩ := lc_of r1 rfl e1
    have e3 : dSet 6 (dLc (dRng1 (dCons (dFz (dVar 1)) dNil)) (gN 7) dTrue (dCall g_z_law_integer (dCons (dFz (dPl 0)) (dCons (dFz (dVar 3)) dNil))) [7]) ⟨[.bor 0, .dat (.int (d : Int)), .dat (.int (m : Int)), .dat (.int (g : Int)), .own (rs.map rowD), .dat (.int i), v, .un], [xs]⟩ = .ok .nx ⟨[.bor 0, .dat (.int (d : Int)), .dat (.int (m : Int)), .dat (.int (g : Int)), .own (rs.map rowD), .dat (.int i), .own (is.map D.int), .un], [xs1]⟩ := set_fr e2 (by simp)
    obtain ⟨t9, xs2, e4, a4, b4, hb2⟩ := take_at (sl := [.bor 0, .dat (.int (d : Int)), .dat (.int (m : Int)), .dat (.int (g : Int)), .own (rs.map rowD), .dat (.int i), .own (is.map D.int), .un]) (bs := []) hb1 (by omega) rfl (m := 9) (by decide) (by decide)
    have e5 := op2_of (op := opAdd) (f := dC (.int 1)) (s1 := ⟨[.bor 0, .dat (.int (d : Int)), .dat (.int (m : Int)), .dat (.int (g : Int)), .own (rs.map rowD), .dat (.int i), .own (is.map D.int), .un], [xs1]⟩) (p := .d (.int 1)) rfl e4 rfl rfl (r := .d (.int (1 + t9))) rfl
    obtain ⟨k, xs3, e6, a6, b6, hb3⟩ := take_f (sl := [.bor 0, .dat (.int (d : Int)), .dat (.int (m : Int)), .dat (.int (g : Int)), .own (rs.map rowD), .dat (.int i), .own (is.map D.int), .un]) (bs := []) (f := dVar 1) (xs := xs2) hb2 (by omega) rfl (m := (d : Int)) rfl (by omega) (by omega)
    have kl : k.toNat < is.length := by omega
    have ek : ixN (is.map D.int).length k = some k.toNat := by
      unfold ixN
      rw [if_pos a6, List.length_map, if_pos (by omega)]
    have e7 : (dSetIx (dPl 6) (dCall g_z_law_take (dCons (dFz (dPl 0)) (dCons (dFz (dVar 1)) dNil))) (dOp2 opAdd (dC (.int 1)) (dCall g_z_law_take (dCons (dFz (dPl 0)) (dCons (dFz (dC (.int 9))) dNil))))) ⟨[.bor 0, .dat (.int (d : Int)), .dat (.int (m : Int)), .dat (.int (g : Int)), .own (rs.map rowD), .dat (.int i), .own (is.map D.int), .un], [xs1]⟩ = .ok .nx ⟨[.bor 0, .dat (.int (d : Int)), .dat (.int (m : Int)), .dat (.int (g : Int)), .own (rs.map rowD), .dat (.int i), .own ((is.set k.toNat (1 + t9)).map D.int), .un], [xs3]⟩ := by
      unfold dSetIx
      rw [fz_d e5, s_bind_ok]
      simp only [onDat]
      rw [show dPl 6 ⟨[.bor 0, .dat (.int (d : Int)), .dat (.int (m : Int)), .dat (.int (g : Int)), .own (rs.map rowD), .dat (.int i), .own (is.map D.int), .un], [xs2]⟩ = .ok (.pl 6) ⟨[.bor 0, .dat (.int (d : Int)), .dat (.int (m : Int)), .dat (.int (g : Int)), .own (rs.map rowD), .dat (.int i), .own (is.map D.int), .un], [xs2]⟩ from rfl, s_bind_ok, e6, s_bind_ok]
      unfold endSetIx
      simp only [s_get_d, s_cont, List.getElem?_cons_succ, List.getElem?_cons_zero, ek]
      rw [← List.map_set]
      rfl
    have e8 : dDrop (dApp (dPl 4) (dB opTupl (dCons (dFz (dPl 6)) dNil))) ⟨[.bor 0, .dat (.int (d : Int)), .dat (.int (m : Int)), .dat (.int (g : Int)), .own (rs.map rowD), .dat (.int i), .own ((is.set k.toNat (1 + t9)).map D.int), .un], [xs3]⟩ = .ok .nx ⟨[.bor 0, .dat (.int (d : Int)), .dat (.int (m : Int)), .dat (.int (g : Int)), .own ((rs ++ [is.set k.toNat (1 + t9)]).map rowD), .dat (.int i), .own ((is.set k.toNat (1 + t9)).map D.int), .un], [xs3]⟩ := by
      refine drop_of (p := .d .non) ?_
      unfold dApp
      rw [show dPl 4 ⟨[.bor 0, .dat (.int (d : Int)), .dat (.int (m : Int)), .dat (.int (g : Int)), .own (rs.map rowD), .dat (.int i), .own ((is.set k.toNat (1 + t9)).map D.int), .un], [xs3]⟩ = .ok (.pl 4) ⟨[.bor 0, .dat (.int (d : Int)), .dat (.int (m : Int)), .dat (.int (g : Int)), .own (rs.map rowD), .dat (.int i), .own ((is.set k.toNat (1 + t9)).map D.int), .un], [xs3]⟩ from rfl, s_bind_ok]
      unfold onPl
      simp only
      rw [show dFz (dB opTupl (dCons (dFz (dPl 6)) dNil)) ⟨[.bor 0, .dat (.int (d : Int)), .dat (.int (m : Int)), .dat (.int (g : Int)), .own (rs.map rowD), .dat (.int i), .own ((is.set k.toNat (1 + t9)).map D.int), .un], [xs3]⟩ = .ok (.d (rowD (is.set k.toNat (1 + t9)))) ⟨[.bor 0, .dat (.int (d : Int)), .dat (.int (m : Int)), .dat (.int (g : Int)), .own (rs.map rowD), .dat (.int i), .own ((is.set k.toNat (1 + t9)).map D.int), .un], [xs3]⟩ from rfl, s_bind_ok]
      unfold endApp
      simp only [s_cont, List.getElem?_cons_succ, List.getElem?_cons_zero]
      rw [if_pos (by rw [List.length_map]; unfold LIM; omega), List.map_append]
      rfl
    obtain ⟨rs', xs', u', v', e9, hl9, hr9, hb9⟩ := rows_loop (m := m) d1 d2 g2 g3 ds (N + 5000) xs3 (rs ++ [is.set k.toNat (1 + t9)]) (.dat (.int i)) (.own ((is.set k.toNat (1 + t9)).map D.int)) (fun y hy => hx y (List.mem_cons_of_mem _ hy)) (hb3.mono (by omega)) (by omega) (by rw [List.length_append, List.length_cons, List.length_nil]; omega) (fun r hr' => by
      rcases List.mem_append.mp hr' with hr' | hr'
      · exact hr r hr'
      · rw [List.mem_singleton.mp hr']
        refine ⟨⟨by rw [List.length_set, hil], nz_set kl (by omega)⟩, fun z hz => ?_⟩
        rcases List.mem_or_eq_of_mem_set hz with hz | rfl
        · exact hil2 z hz
        · refine Nat.lt_of_lt_of_le (show (1 + t9).natAbs < 10 ^ 2 by omega) (Nat.pow_le_pow_right (by decide) g2))
    refine ⟨rs', xs', u', v', ?_, by rw [hl9, List.length_append, List.length_cons, List.length_nil, List.length_cons]; omega, hr9, hb9.mono (by rw [List.length_cons]; omega)⟩
    unfold forL
    rw [show gN 5 (.int i) ⟨[.bor 0, .dat (.int (d : Int)), .dat (.int (m : Int)), .dat (.int (g : Int)), .own (rs.map rowD), u, v, .un], [xs]⟩ = some ⟨[.bor 0, .dat (.int (d : Int)), .dat (.int (m : Int)), .dat (.int (g : Int)), .own (rs.map rowD), .dat (.int i), v, .un], [xs]⟩ from rfl]
    simp only
    rw [show (dSeq (dSet 6 (dLc (dRng1 (dCons (dFz (dVar 1)) dNil)) (gN 7) dTrue (dCall g_z_law_integer (dCons (dFz (dPl 0)) (dCons (dFz (dVar 3)) dNil))) [7])) (dSeq (dSetIx (dPl 6) (dCall g_z_law_take (dCons (dFz (dPl 0)) (dCons (dFz (dVar 1)) dNil))) (dOp2 opAdd (dC (.int 1)) (dCall g_z_law_take (dCons (dFz (dPl 0)) (dCons (dFz (dC (.int 9))) dNil))))) (dDrop (dApp (dPl 4) (dB opTupl (dCons (dFz (dPl 6)) dNil)))))) ⟨[.bor 0, .dat (.int (d : Int)), .dat (.int (m : Int)), .dat (.int (g : Int)), .own (rs.map rowD), .dat (.int i), v, .un], [xs]⟩ = _ from q_nx e3 (q_nx e7 e8)]
    exact e9
theorem rows_spec {N : Nat} {xs : List D} {d m g : Nat} (h : Vb N xs) (hN : N ≤ 10 ^ 9) (d1 : 1 ≤ d) (d2 : d ≤ 12) (hm : m ≤ 20) (g2 : 2 ≤ g) (g3 : g ≤ 300) :
    ∃ (rs : List (List Int)) (xs' : List D), g_z_law_rows [.mut xs, .dat (.int (d : Int)), .dat (.int (m : Int)), .dat (.int (g : Int))] = .ret (.dat (.lst (rs.map rowD))) [xs'] ∧ rs.length = m ∧ RowsOk d g rs ∧ Vb (N + 100000) xs' := by
  obtain ⟨rs, xs', u, v, e, hl, hr, hb⟩ := rows_loop (m := m) d1 d2 g2 g3 (rng 0 ((m : Int)).toNat) N xs [] .un .un (fun y hy => mem_rng hy) h (by rw [rng_length]; omega) (by rw [rng_length, List.length_nil]; omega) (fun r hr => by cases hr)
  rw [rng_length] at hl hb
  have r1 : dRng1 (dCons (dFz (dVar 2)) dNil) ⟨[.bor 0, .dat (.int (d : Int)), .dat (.int (m : Int)), .dat (.int (g : Int)), .own [], .un, .un, .un], [xs]⟩ = .ok (rng 0 ((m : Int)).toNat) ⟨[.bor 0, .dat (.int (d : Int)), .dat (.int (m : Int)), .dat (.int (g : Int)), .own [], .un, .un, .un], [xs]⟩ := rng1_of rfl (by omega) (by omega)
  refine ⟨rs, xs', ?_, by rw [hl, List.length_nil]; omega, hr, hb.mono (by omega)⟩
  refine ret_bo (s1 := ⟨[.bor 0, .dat (.int (d : Int)), .dat (.int (m : Int)), .dat (.int (g : Int)), .dat (.lst (rs.map rowD)), u, v, .un], [xs']⟩) ?_
  rw [show initS 8 [.mut xs, .dat (.int (d : Int)), .dat (.int (m : Int)), .dat (.int (g : Int))] = ⟨[.bor 0, .dat (.int (d : Int)), .dat (.int (m : Int)), .dat (.int (g : Int)), .un, .un, .un, .un], [xs]⟩ from rfl]
  unfold b_z_law_rows
  refine q_nx (s1 := ⟨[.bor 0, .dat (.int (d : Int)), .dat (.int (m : Int)), .dat (.int (g : Int)), .own [], .un, .un, .un], [xs]⟩) rfl (q_nx (s1 := ⟨[.bor 0, .dat (.int (d : Int)), .dat (.int (m : Int)), .dat (.int (g : Int)), .own (rs.map rowD), u, v, .un], [xs']⟩) ?_ rfl)
  rw [s_for, r1, s_bind_ok]
  exact e
end Dn.Ka
end
section
set_option Elab.async false
set_option linter.all false
set_option maxRecDepth 100000
set_option maxHeartbeats 4000000
namespace Dn.Ka
open PySem PySem.Spec PyProof.Rows L2
theorem callb4 {k : List Dn.Arg → Cr} {f1 f2 f3 : Sx → Res Pv} {x1 x2 x3 y : D} {sl : List Slot} {xs xs2 : List D} {bs : List (List D)} (h0 : sl[0]? = some (.bor 0)) (h1 : f1 ⟨sl, xs :: bs⟩ = .ok (.d x1) ⟨sl, xs :: bs⟩) (h2 : f2 ⟨sl, xs :: bs⟩ = .ok (.d x2) ⟨sl, xs :: bs⟩) (h3 : f3 ⟨sl, xs :: bs⟩ = .ok (.d x3) ⟨sl, xs :: bs⟩)
    (e : k [.mut xs, .dat x1, .dat x2, .dat x3] = .ret (.dat y) [xs2]) : dCall k (dCons (dFz (dPl 0)) (dCons (dFz f1) (dCons (dFz f2) (dCons (dFz f3) dNil)))) ⟨sl, xs :: bs⟩ = .ok (.d y) ⟨sl, xs2 :: bs⟩ := by
  have e0 : dFz (dPl 0) ⟨sl, xs :: bs⟩ = .ok (.pl 0) ⟨sl, xs :: bs⟩ := by simp [h0]
  rw [s_call, s_cons, e0, s_bind_ok, s_cons, fz_d h1, s_bind_ok, s_cons, fz_d h2, s_bind_ok, s_cons, fz_d h3, s_bind_ok, s_nil, s_bind_ok, s_bind_ok, s_bind_ok, s_bind_ok, s_bind_ok]
  simp [callS, toArgs, places, distinct, h0, e, endC, putAll, putAt]
/-- _law_take(bag, [a, b][_law_take(bag, 2)]) -/
theorem two_at {N : Nat} {xs : List D} {a b : Int} {sl : List Slot} {bs : List (List D)} (h : Vb N xs) (hN : N ≤ 10 ^ 11) (h0 : sl[0]? = some (.bor 0)) (a0 : 0 < a ∧ a < 1000) (b0 : 0 < b ∧ b < 1000) :
    ∃ (r : Int) (xs' : List D), (dCall g_z_law_take (dCons (dFz (dPl 0)) (dCons (dFz (dOp2 opIx (dLst (dCons (dFz (dC (.int a))) (dCons (dFz (dC (.int b))) dNil))) (dCall g_z_law_take (dCons (dFz (dPl 0)) (dCons (dFz (dC (.int 2))) dNil))))) dNil))) ⟨sl, xs :: bs⟩ = .ok (.d (.int r)) ⟨sl, xs' :: bs⟩ ∧ 0 ≤ r ∧ (r < a ∨ r < b) ∧ Vb (N + 2) xs' := by
  obtain ⟨r1, xs1, e1, a1, b1, hb1⟩ := take_at (bs := bs) h (by omega) h0 (m := 2) (by decide) (by decide)
  obtain ⟨x, ex, hx⟩ := ix2 (a := a) (b := b) a1 b1
  have l1 : dLst (dCons (dFz (dC (.int a))) (dCons (dFz (dC (.int b))) dNil)) ⟨sl, xs :: bs⟩ = .ok (.fr [.int a, .int b]) ⟨sl, xs :: bs⟩ := rfl
  have e2 := op2_of (op := opIx) l1 e1 rfl rfl ex
  obtain ⟨r2, xs2, e3, a2, b2, hb2⟩ := take_f (m := x) hb1 (by omega) h0 e2 (by omega) (by omega)
  refine ⟨r2, xs2, e3, a2, ?_, hb2⟩
  rcases hx with rfl | rfl
  · exact .inl b2
  · exact .inr b2
def QOk (d g : Nat) (qs : List (List Int × Int)) : Prop := ∀ q ∈ qs, q.1.length = d ∧ Lt g q.1 ∧ q.2.natAbs < 10 ^ g
def LOk (d g : Nat) (rs : List (List Int)) : Prop := ∀ r ∈ rs, r.length = d ∧ Lt g r
theorem zeros_mul {d : Nat} (d1 : 1 ≤ d) (d2 : d ≤ 12) : opMul (.tup [.int 0]) (.int (d : Int)) = some (.d (rowD (List.replicate d 0))) := by
  unfold opMul
  simp only
  rw [if_pos ⟨by simp, by omega, by omega, by simp⟩]
  unfold rowD
  congr 3
  have e : ((d : Int)).toNat = d := by omega
  rw [e, List.map_replicate]
  clear e d1 d2
  induction d with
  | zero => rfl
  | succ d ih => rw [List.replicate_succ, List.replicate_succ, List.flatten_cons, ih]; rfl
theorem zero_lc {d g m : Nat} (d1 : 1 ≤ d) (d2 : d ≤ 12) : ∀ (rs : List (List Int)) (N : Nat) (xs : List D), Vb N xs → N + rs.length ≤ 10 ^ 11 → LOk d g rs → ∃ (rs' : List (List Int)) (xs' : List D),
    lcL (gN 5) dTrue (dIf (dTest (dOp2 opGt (dCall g_z_law_take (dCons (dFz (dPl 0)) (dCons (dFz (dC (.int 9))) dNil))) (dC (.int 0)))) (dVar 5) (dOp2 opMul (dTup (dCons (dFz (dC (.int 0))) dNil)) (dVar 2))) [5] (rs.map rowD) ⟨[.bor 0, .dat (.int (g : Int)), .dat (.int (d : Int)), .dat (.int (m : Int)), .un, .un], [xs]⟩ = .ok (rs'.map rowD) ⟨[.bor 0, .dat (.int (g : Int)), .dat (.int (d : Int)), .dat (.int (m : Int)), .un, .un], [xs']⟩ ∧ rs'.length = rs.length ∧ LOk d g rs' ∧ Vb (N + rs.length) xs'
  | [], N, xs, h, _, _ => ⟨[], xs, rfl, rfl, fun r hr => (by cases hr), h⟩
  | r :: rs, N, xs, h, hN, hr => by
    rw [List.length_cons] at hN
    obtain ⟨t, xs1, e1, a1, b1, hb1⟩ := take_at (sl := [.bor 0, .dat (.int (g : Int)), .dat (.int (d : Int)), .dat (.int (m : Int)), .un, .dat (rowD r)]) (bs := []) h (by omega) rfl (m := 9) (by decide) (by decide)
    obtain ⟨rs', xs2, e2, hl, hr2, hb2⟩ := zero_lc (g := g) (m := m) d1 d2 rs (N + 1) xs1 hb1 (by omega) fun z hz => hr z (List.mem_cons_of_mem _ hz)
    have tt := test_of (op2_of (op := opGt) e1 (g := dC (.int 0)) (q := .d (.int 0)) rfl rfl rfl (r := .d (.bl (decide (0 < t)))) rfl)
    have hr0 := hr r List.mem_cons_self
    have mz : dOp2 opMul (dTup (dCons (dFz (dC (.int 0))) dNil)) (dVar 2) ⟨[.bor 0, .dat (.int (g : Int)), .dat (.int (d : Int)), .dat (.int (m : Int)), .un, .dat (rowD r)], [xs1]⟩ = .ok (.d (rowD (List.replicate d 0))) ⟨[.bor 0, .dat (.int (g : Int)), .dat (.int (d : Int)), .dat (.int (m : Int)), .un, .dat (rowD r)], [xs1]⟩ := op2_of (x := .tup [.int 0]) (y := .int (d : Int)) (p := .d (.tup [.int 0])) (q := .d (.int (d : Int))) (s1 := ⟨[.bor 0, .dat (.int (g : Int)), .dat (.int (d : Int)), .dat (.int (m : Int)), .un, .dat (rowD r)], [xs1]⟩) rfl rfl rfl rfl (zeros_mul d1 d2)
    have el : ∃ r', (dIf (dTest (dOp2 opGt (dCall g_z_law_take (dCons (dFz (dPl 0)) (dCons (dFz (dC (.int 9))) dNil))) (dC (.int 0)))) (dVar 5) (dOp2 opMul (dTup (dCons (dFz (dC (.int 0))) dNil)) (dVar 2))) ⟨[.bor 0, .dat (.int (g : Int)), .dat (.int (d : Int)), .dat (.int (m : Int)), .un, .dat (rowD r)], [xs]⟩ = .ok (.d (rowD r')) ⟨[.bor 0, .dat (.int (g : Int)), .dat (.int (d : Int)), .dat (.int (m : Int)), .un, .dat (rowD r)], [xs1]⟩ ∧ r'.length = d ∧ Lt g r' := by
      by_cases z : 0 < t
      · exact ⟨r, q_ift (tt.trans (by rw [decide_eq_true z])) rfl, hr0.1, hr0.2⟩
      · refine ⟨List.replicate d 0, q_iff (tt.trans (by rw [decide_eq_false z])) mz, List.length_replicate, fun i hi => ?_⟩
        rw [(List.mem_replicate.mp hi).2]
        exact Nat.pow_pos (by decide)
    obtain ⟨r', er, h1, h2⟩ := el
    refine ⟨r' :: rs', xs2, ?_, by rw [List.length_cons, List.length_cons, hl], fun z hz => ?_, by rw [List.length_cons]; exact hb2.mono (by omega)⟩
    · rw [List.map_cons, lcL, show gN 5 (rowD r) ⟨[.bor 0, .dat (.int (g : Int)), .dat (.int (d : Int)), .dat (.int (m : Int)), .un, .un], [xs]⟩ = some ⟨[.bor 0, .dat (.int (g : Int)), .dat (.int (d : Int)), .dat (.int (m : Int)), .un, .dat (rowD r)], [xs]⟩ from rfl]
      simp only [s_true, s_bind_ok, Res.calm]
      rw [fz_d er]
      simp only [s_bind_ok, Res.calm, onD]
      rw [show wipeS [5] (⟨[.bor 0, .dat (.int (g : Int)), .dat (.int (d : Int)), .dat (.int (m : Int)), .un, .dat (rowD r)], [xs1]⟩ : Sx) = ⟨[.bor 0, .dat (.int (g : Int)), .dat (.int (d : Int)), .dat (.int (m : Int)), .un, .un], [xs1]⟩ from rfl, e2]
      rfl
    · rcases List.mem_cons.mp hz with rfl | hz
      · exact ⟨h1, h2⟩
      · exact hr2 z hz
theorem wall_lc {d g m : Nat} {rs0 : List (List Int)} (g2 : 2 ≤ g) (g3 : g ≤ 300) : ∀ (rs : List (List Int)) (N : Nat) (xs : List D), Vb N xs → N + 400 * rs.length ≤ 10 ^ 11 → LOk d g rs → ∃ (qs : List (List Int × Int)) (xs' : List D),
    lcL (gN 5) dTrue (dTup (dCons (dFz (dVar 5)) (dCons (dFz (dCall g_z_law_integer (dCons (dFz (dPl 0)) (dCons (dFz (dVar 1)) dNil)))) dNil))) [5] (rs.map rowD) ⟨[.bor 0, .dat (.int (g : Int)), .dat (.int (d : Int)), .dat (.int (m : Int)), .dat (.lst (rs0.map rowD)), .un], [xs]⟩ = .ok (qs.map lineD) ⟨[.bor 0, .dat (.int (g : Int)), .dat (.int (d : Int)), .dat (.int (m : Int)), .dat (.lst (rs0.map rowD)), .un], [xs']⟩ ∧ qs.length = rs.length ∧ QOk d g qs ∧ Vb (N + 400 * rs.length) xs'
  | [], N, xs, h, _, _ => ⟨[], xs, rfl, rfl, fun r hr => (by cases hr), h⟩
  | r :: rs, N, xs, h, hN, hr => by
    rw [List.length_cons] at hN
    obtain ⟨i, xs1, e1, hi, hb1⟩ := integer_spec h (by omega) g2 g3
    have e2 := callb2 (k := g_z_law_integer) (f := dVar 1) (sl := [.bor 0, .dat (.int (g : Int)), .dat (.int (d : Int)), .dat (.int (m : Int)), .dat (.lst (rs0.map rowD)), .dat (rowD r)]) (bs := []) rfl rfl rfl e1
    obtain ⟨qs, xs2, e3, hl, hr2, hb2⟩ := wall_lc (d := d) (m := m) (rs0 := rs0) g2 g3 rs (N + 400) xs1 hb1 (by omega) fun z hz => hr z (List.mem_cons_of_mem _ hz)
    have hr0 := hr r List.mem_cons_self
    have er : (dTup (dCons (dFz (dVar 5)) (dCons (dFz (dCall g_z_law_integer (dCons (dFz (dPl 0)) (dCons (dFz (dVar 1)) dNil)))) dNil))) ⟨[.bor 0, .dat (.int (g : Int)), .dat (.int (d : Int)), .dat (.int (m : Int)), .dat (.lst (rs0.map rowD)), .dat (rowD r)], [xs]⟩ = .ok (.d (lineD (r, i))) ⟨[.bor 0, .dat (.int (g : Int)), .dat (.int (d : Int)), .dat (.int (m : Int)), .dat (.lst (rs0.map rowD)), .dat (rowD r)], [xs1]⟩ := by
      rw [s_tup, s_cons, show dFz (dVar 5) ⟨[.bor 0, .dat (.int (g : Int)), .dat (.int (d : Int)), .dat (.int (m : Int)), .dat (.lst (rs0.map rowD)), .dat (rowD r)], [xs]⟩ = .ok (.d (rowD r)) ⟨[.bor 0, .dat (.int (g : Int)), .dat (.int (d : Int)), .dat (.int (m : Int)), .dat (.lst (rs0.map rowD)), .dat (rowD r)], [xs]⟩ from rfl, s_bind_ok, s_cons, fz_d e2]
      rfl
    refine ⟨(r, i) :: qs, xs2, ?_, by rw [List.length_cons, List.length_cons, hl], fun z hz => ?_, by rw [List.length_cons]; exact hb2.mono (by omega)⟩
    · rw [List.map_cons, lcL, show gN 5 (rowD r) ⟨[.bor 0, .dat (.int (g : Int)), .dat (.int (d : Int)), .dat (.int (m : Int)), .dat (.lst (rs0.map rowD)), .un], [xs]⟩ = some ⟨[.bor 0, .dat (.int (g : Int)), .dat (.int (d : Int)), .dat (.int (m : Int)), .dat (.lst (rs0.map rowD)), .dat (rowD r)], [xs]⟩ from rfl]
      simp only [s_true, s_bind_ok, Res.calm]
      rw [fz_d er]
      simp only [s_bind_ok, Res.calm, onD]
      rw [show wipeS [5] (⟨[.bor 0, .dat (.int (g : Int)), .dat (.int (d : Int)), .dat (.int (m : Int)), .dat (.lst (rs0.map rowD)), .dat (rowD r)], [xs1]⟩ : Sx) = ⟨[.bor 0, .dat (.int (g : Int)), .dat (.int (d : Int)), .dat (.int (m : Int)), .dat (.lst (rs0.map rowD)), .un], [xs1]⟩ from rfl, e3]
      rfl
    · rcases List.mem_cons.mp hz with rfl | hz
      · exact ⟨hr0.1, hr0.2, hi⟩
      · exact hr2 z hz
theorem system_spec {N : Nat} {xs : List D} {g : Nat} (h : Vb N xs) (hN : N ≤ 10 ^ 8) (g2 : 2 ≤ g) (g3 : g ≤ 300) : ∃ (d : Nat) (qs : List (List Int × Int)) (xs' : List D), g_z_law_system [.mut xs, .dat (.int (g : Int))] = .ret (.dat (sysD d qs)) [xs'] ∧
    ((1 ≤ d ∧ d ≤ 12) ∧ qs.length ≤ 20) ∧ QOk d g qs ∧ Vb (N + 200000) xs' := by
  obtain ⟨r1, xs1, e1, a1, b1, hb1⟩ := two_at (a := 3) (b := 12) (sl := [.bor 0, .dat (.int (g : Int)), .un, .un, .un, .un]) (bs := []) h (by omega) rfl (by decide) (by decide)
  obtain ⟨r2, xs2, e2, a2, b2, hb2⟩ := two_at (a := 4) (b := 21) (sl := [.bor 0, .dat (.int (g : Int)), .un, .un, .un, .un]) (bs := []) hb1 (by omega) rfl (by decide) (by decide)
  obtain ⟨d, ed⟩ : ∃ d : Nat, 1 + r1 = (d : Int) := ⟨(1 + r1).toNat, by omega⟩
  obtain ⟨m, em⟩ : ∃ m : Nat, r2 = (m : Int) := ⟨r2.toNat, by omega⟩
  subst em
  have d1 : 1 ≤ d := by omega
  have d2 : d ≤ 12 := by omega
  have m2 : m ≤ 20 := by omega
  have e3 := op2_of (op := opAdd) (f := dC (.int 1)) (p := .d (.int 1)) (s := ⟨[.bor 0, .dat (.int (g : Int)), .un, .un, .un, .un], [xs]⟩) rfl e1 rfl rfl (r := .d (.int (d : Int))) (by rw [← ed]; rfl)
  have e4 : dAsg (gT 2 (gsC (gN 2) (gsC (gN 3) gsN))) (dTup (dCons (dFz (dOp2 opAdd (dC (.int 1)) (dCall g_z_law_take (dCons (dFz (dPl 0)) (dCons (dFz (dOp2 opIx (dLst (dCons (dFz (dC (.int 3))) (dCons (dFz (dC (.int 12))) dNil))) (dCall g_z_law_take (dCons (dFz (dPl 0)) (dCons (dFz (dC (.int 2))) dNil))))) dNil))))) (dCons (dFz (dCall g_z_law_take (dCons (dFz (dPl 0)) (dCons (dFz (dOp2 opIx (dLst (dCons (dFz (dC (.int 4))) (dCons (dFz (dC (.int 21))) dNil))) (dCall g_z_law_take (dCons (dFz (dPl 0)) (dCons (dFz (dC (.int 2))) dNil))))) dNil)))) dNil))) ⟨[.bor 0, .dat (.int (g : Int)), .un, .un, .un, .un], [xs]⟩ = .ok .nx ⟨[.bor 0, .dat (.int (g : Int)), .dat (.int (d : Int)), .dat (.int (m : Int)), .un, .un], [xs2]⟩ := by
    rw [s_asg, s_fz, s_tup, s_cons, fz_d e3, s_bind_ok, s_cons, fz_d e2]
    rfl
  obtain ⟨rs, xs3, e5, hl, hr, hb3⟩ := rows_spec hb2 (by omega) d1 d2 m2 g2 g3
  have e6 := callb4 (f1 := dVar 2) (f2 := dVar 3) (f3 := dVar 1) (sl := [.bor 0, .dat (.int (g : Int)), .dat (.int (d : Int)), .dat (.int (m : Int)), .un, .un]) (bs := []) rfl rfl rfl rfl e5
  obtain ⟨rs2, xs4, e7, hl2, hr2, hb4⟩ := zero_lc (g := g) (m := m) d1 d2 rs _ xs3 hb3 (by omega) fun r hr' => ⟨(hr r hr').1.1, (hr r hr').2⟩
  have e8 := lc_of (items_of (x := .lst (rs.map rowD)) e6 rfl rfl) rfl e7
  have e9 : dSet 4 (dLc (dItems (dCall g_z_law_rows (dCons (dFz (dPl 0)) (dCons (dFz (dVar 2)) (dCons (dFz (dVar 3)) (dCons (dFz (dVar 1)) dNil)))))) (gN 5) dTrue (dIf (dTest (dOp2 opGt (dCall g_z_law_take (dCons (dFz (dPl 0)) (dCons (dFz (dC (.int 9))) dNil))) (dC (.int 0)))) (dVar 5) (dOp2 opMul (dTup (dCons (dFz (dC (.int 0))) dNil)) (dVar 2))) [5]) ⟨[.bor 0, .dat (.int (g : Int)), .dat (.int (d : Int)), .dat (.int (m : Int)), .un, .un], [xs2]⟩ = .ok .nx ⟨[.bor 0, .dat (.int (g : Int)), .dat (.int (d : Int)), .dat (.int (m : Int)), .own (rs2.map rowD), .un], [xs4]⟩ := set_fr (i := 4) e8 (by simp [restL])
  obtain ⟨qs, xs5, e10, hl3, hr3, hb5⟩ := wall_lc (m := m) (rs0 := rs2) g2 g3 rs2 _ xs4 hb4 (by omega) hr2
  have i4 : dItems (dVar 4) ⟨[.bor 0, .dat (.int (g : Int)), .dat (.int (d : Int)), .dat (.int (m : Int)), .own (rs2.map rowD), .un], [xs4]⟩ = .ok (rs2.map rowD) ⟨[.bor 0, .dat (.int (g : Int)), .dat (.int (d : Int)), .dat (.int (m : Int)), .dat (.lst (rs2.map rowD)), .un], [xs4]⟩ := rfl
  have e11 := lc_of i4 rfl e10
  have e12 := b1_of (op := opTupl) e11 (x := .lst (qs.map lineD)) rfl rfl
  refine ⟨d, qs, xs5, ?_, ⟨⟨d1, d2⟩, by omega⟩, hr3, hb5.mono (by omega)⟩
  refine ret_bo (s1 := ⟨[.bor 0, .dat (.int (g : Int)), .dat (.int (d : Int)), .dat (.int (m : Int)), .dat (.lst (rs2.map rowD)), .un], [xs5]⟩) ?_
  rw [show initS 6 [.mut xs, .dat (.int (g : Int))] = ⟨[.bor 0, .dat (.int (g : Int)), .un, .un, .un, .un], [xs]⟩ from rfl]
  unfold b_z_law_system
  refine q_nx e4 (q_nx e9 (ret_of ?_))
  rw [s_tup, s_cons, show dFz (dVar 2) ⟨[.bor 0, .dat (.int (g : Int)), .dat (.int (d : Int)), .dat (.int (m : Int)), .own (rs2.map rowD), .un], [xs4]⟩ = .ok (.d (.int (d : Int))) ⟨[.bor 0, .dat (.int (g : Int)), .dat (.int (d : Int)), .dat (.int (m : Int)), .own (rs2.map rowD), .un], [xs4]⟩ from rfl, s_bind_ok, s_cons]
  rw [fz_d e12]
  rfl
theorem bundle_spec {N : Nat} {xs : List D} {g : Nat} (h : Vb N xs) (hN : N ≤ 10 ^ 8) (g2 : 2 ≤ g) (g3 : g ≤ 300) : ∃ (d : Nat) (rs : List (List Int)) (xs' : List D), g_z_law_bundle [.mut xs, .dat (.int (g : Int))] = .ret (.dat (bunD d rs)) [xs'] ∧
    ((1 ≤ d ∧ d ≤ 12) ∧ rs.length ≤ 20) ∧ RowsOk d g rs ∧ Vb (N + 200000) xs' := by
  obtain ⟨r1, xs1, e1, a1, b1, hb1⟩ := two_at (a := 3) (b := 12) (sl := [.bor 0, .dat (.int (g : Int)), .un, .un]) (bs := []) h (by omega) rfl (by decide) (by decide)
  obtain ⟨r2, xs2, e2, a2, b2, hb2⟩ := two_at (a := 4) (b := 21) (sl := [.bor 0, .dat (.int (g : Int)), .un, .un]) (bs := []) hb1 (by omega) rfl (by decide) (by decide)
  obtain ⟨d, ed⟩ : ∃ d : Nat, 1 + r1 = (d : Int) := ⟨(1 + r1).toNat, by omega⟩
  obtain ⟨m, em⟩ : ∃ m : Nat, r2 = (m : Int) := ⟨r2.toNat, by omega⟩
  subst em
  have d1 : 1 ≤ d := by omega
  have d2 : d ≤ 12 := by omega
  have m2 : m ≤ 20 := by omega
  have e3 := op2_of (op := opAdd) (f := dC (.int 1)) (p := .d (.int 1)) (s := ⟨[.bor 0, .dat (.int (g : Int)), .un, .un], [xs]⟩) rfl e1 rfl rfl (r := .d (.int (d : Int))) (by rw [← ed]; rfl)
  obtain ⟨rs, xs3, e5, hl, hr, hb3⟩ := rows_spec hb2 (by omega) d1 d2 m2 g2 g3
  have e6 := callb4 (f1 := dVar 2) (f2 := dVar 3) (f3 := dVar 1) (sl := [.bor 0, .dat (.int (g : Int)), .dat (.int (d : Int)), .dat (.int (m : Int))]) (bs := []) rfl rfl rfl rfl e5
  have e12 := b1_of (op := opTupl) e6 (x := .lst (rs.map rowD)) rfl rfl
  refine ⟨d, rs, xs3, ?_, ⟨⟨d1, d2⟩, by omega⟩, hr, hb3.mono (by omega)⟩
  refine ret_bo (s1 := ⟨[.bor 0, .dat (.int (g : Int)), .dat (.int (d : Int)), .dat (.int (m : Int))], [xs3]⟩) ?_
  rw [show initS 4 [.mut xs, .dat (.int (g : Int))] = ⟨[.bor 0, .dat (.int (g : Int)), .un, .un], [xs]⟩ from rfl]
  unfold b_z_law_bundle
  refine q_nx (s1 := ⟨[.bor 0, .dat (.int (g : Int)), .dat (.int (d : Int)), .dat (.int (m : Int))], [xs2]⟩) ?_ (ret_of ?_)
  · rw [s_par, s_cons, fz_d e3, s_bind_ok, s_cons, fz_d e2]
    rfl
  · rw [s_tup, s_cons, show dFz (dVar 2) ⟨[.bor 0, .dat (.int (g : Int)), .dat (.int (d : Int)), .dat (.int (m : Int))], [xs2]⟩ = .ok (.d (.int (d : Int))) ⟨[.bor 0, .dat (.int (g : Int)), .dat (.int (d : Int)), .dat (.int (m : Int))], [xs2]⟩ from rfl, s_bind_ok, s_cons, fz_d e12]
    rfl
end Dn.Ka
end
section
set_option Elab.async false
set_option linter.all false
set_option maxRecDepth 100000
set_option maxHeartbeats 4000000
namespace Dn.Ka
open PySem PySem.Spec PyProof.Rows L2
/-! ### what is shown -/
theorem law_said_of {r : List Int} (h : Row r) : g_z_law_said [.dat (rowD r)] = .ret (.dat (.str (said r))) [] := show_sides h
theorem add_str {x y : Str} (h : x.length + y.length ≤ 200000) : opAdd (.str x) (.str y) = some (.d (.str (x ++ y))) := by
  unfold opAdd
  simp only
  exact if_pos (by unfold LIM; omega)
theorem app_len (x y : Str) : (x ++ y).length = x.length + y.length := by rw [TL.len_tl, TL.tl_append, List.length_append, ← TL.len_tl, ← TL.len_tl]
theorem co_len : (" : " : Str).length = 3 := rfl
theorem show_question_of {q : List Int × Int} (h : QN q) : g_p_show_question [.dat (lineD q)] = .ret (.dat (.str (line q))) [] := by
  have v1 : dVar 1 ⟨[.dat (lineD q), .dat (rowD q.1), .dat (.int q.2)], []⟩ = .ok (.d (rowD q.1)) ⟨[.dat (lineD q), .dat (rowD q.1), .dat (.int q.2)], []⟩ := rfl
  have v2 : dVar 2 ⟨[.dat (lineD q), .dat (rowD q.1), .dat (.int q.2)], []⟩ = .ok (.d (.int q.2)) ⟨[.dat (lineD q), .dat (rowD q.1), .dat (.int q.2)], []⟩ := rfl
  have l1 := said_len h.1
  have l2 := nt_len (by decide) h.2
  have l3 := co_len
  refine ret_data (s1 := ⟨[.dat (lineD q), .dat (rowD q.1), .dat (.int q.2)], []⟩) ?_ rfl
  rw [show initS 3 [.dat (lineD q)] = ⟨[.dat (lineD q), .un, .un], []⟩ from rfl]
  unfold b_p_show_question
  refine q_nx (s1 := ⟨[.dat (lineD q), .dat (rowD q.1), .dat (.int q.2)], []⟩) rfl (ret_of ?_)
  exact op2_of (op2_of (call1 v1 rfl (show_sides h.1)) rfl rfl rfl (add_str (by omega))) (b1_of v2 rfl (opStr_nt h.2)) rfl rfl (add_str (by rw [app_len]; omega))
theorem join_ls {ls : List Str} (h : ∀ x ∈ ls, x.length ≤ 3928) (n : ls.length ≤ 21) : opJoin ("\n" : Str) (.lst (ls.map D.str)) = some (.d (.str (text ls))) := by
  have z := opJoin_map (a := ("\n" : Str)) (f := fun x : Str => x) (k := 3928) (l := ls) h (by
    have l1 : ("\n" : Str).length = 1 := rfl
    rw [l1]
    unfold LIM
    omega)
  rw [List.map_id'] at z
  exact z
theorem add_lst {xs ys : List D} (h : xs.length + ys.length ≤ 1000) : opAdd (.lst xs) (.lst ys) = some (.fr (xs ++ ys)) := by
  unfold opAdd
  simp only
  exact if_pos (by unfold LIM; omega)
theorem sys_len {w : Str} {d : Nat} {qs : List (List Int × Int)} (hw : Wd w) (h : SysOk d qs) : ∀ x ∈ head w (d : Int) :: qs.map line, x.length ≤ 3928 := fun x hx => by
  rcases List.mem_cons.mp hx with rfl | hx
  · exact Nat.le_trans (head_len hw (numd h.d9)) (by decide)
  · obtain ⟨q, hq, rfl⟩ := List.mem_map.mp hx
    exact line_len (h.q q hq)
theorem bun_len {w : Str} {d : Nat} {rs : List (List Int)} (hw : Wd w) (h : BunOk d rs) : ∀ x ∈ head w (d : Int) :: rs.map said, x.length ≤ 3928 := fun x hx => by
  rcases List.mem_cons.mp hx with rfl | hx
  · exact Nat.le_trans (head_len hw (numd h.d9)) (by decide)
  · obtain ⟨q, hq, rfl⟩ := List.mem_map.mp hx
    exact Nat.le_trans (said_len (h.q q hq)) (by decide)
theorem len_system : ("system " : Str).length = 7 := rfl
theorem len_book : ("book " : Str).length = 5 := rfl
theorem len_bundle : ("bundle " : Str).length = 7 := rfl
theorem hd_system {d : Int} : ("system " : Str) ++ nt d = head ("system" : Str) d := by
  have e : ("system " : Str) = ("system" : Str) ++ (" " : Str) := by kernel_rfl
  rw [e]
  rfl
theorem hd_book {d : Int} : ("book " : Str) ++ nt d = head ("book" : Str) d := by
  have e : ("book " : Str) = ("book" : Str) ++ (" " : Str) := by kernel_rfl
  rw [e]
  rfl
theorem hd_bundle {d : Int} : ("bundle " : Str) ++ nt d = head ("bundle" : Str) d := by
  have e : ("bundle " : Str) = ("bundle" : Str) ++ (" " : Str) := by kernel_rfl
  rw [e]
  rfl
/-- '\n'.join([x] + [g(y) for y in ys]), the state kept -/
theorem joined {s : Sx} {f g : Sx → Res Pv} {x : Str} {ys : List Str} (hf : f s = .ok (.d (.str x)) s) (hg : g s = .ok (.fr (ys.map D.str)) s) (h : ∀ z ∈ x :: ys, z.length ≤ 3928) (n : ys.length ≤ 20) :
    dM1 opJoin (dC (.str ("\n" : Str))) (dOp2 opAdd (dLst (dCons (dFz f) dNil)) g) s = .ok (.d (.str (text (x :: ys)))) s := by
  have e1 : dLst (dCons (dFz f) dNil) s = .ok (.fr [.str x]) s := by
    rw [s_lst, s_cons, fz_d hf]
    rfl
  have e2 := op2_of (op := opAdd) e1 hg rfl rfl (add_lst (by rw [List.length_map]; simp only [List.length_cons, List.length_nil]; omega))
  rw [s_m1, s_c, s_bind_ok, s_onStr, e2, s_bind_ok, s_get_fr, s_endM]
  have j := join_ls h (by rw [List.length_cons]; omega)
  rw [List.map_cons] at j
  rw [show [D.str x] ++ List.map D.str ys = D.str x :: List.map D.str ys from rfl, j]
theorem show_lc {d : Nat} {qs : List (List Int × Int)} (h : SysOk d qs) : dLc (dItems (dVar 2)) (gN 3) dTrue (dCall g_p_show_question (dCons (dFz (dVar 3)) dNil)) [3] ⟨[.dat (sysD d qs), .dat (.int (d : Int)), .dat (.tup (qs.map lineD)), .un], []⟩ = .ok (.fr ((qs.map line).map D.str)) ⟨[.dat (sysD d qs), .dat (.int (d : Int)), .dat (.tup (qs.map lineD)), .un], []⟩ := by
  have lc : ∀ ys : List (List Int × Int), (∀ q ∈ ys, q ∈ qs) → lcL (gN 3) dTrue (dCall g_p_show_question (dCons (dFz (dVar 3)) dNil)) [3] (ys.map lineD) ⟨[.dat (sysD d qs), .dat (.int (d : Int)), .dat (.tup (qs.map lineD)), .un], []⟩ = .ok ((ys.map line).map D.str) ⟨[.dat (sysD d qs), .dat (.int (d : Int)), .dat (.tup (qs.map lineD)), .un], []⟩ := by
    intro ys
    induction ys with
    | nil => intro _; rfl
    | cons q ys ih =>
      intro hy
      have v : dVar 3 ⟨[.dat (sysD d qs), .dat (.int (d : Int)), .dat (.tup (qs.map lineD)), .dat (lineD q)], []⟩ = .ok (.d (lineD q)) ⟨[.dat (sysD d qs), .dat (.int (d : Int)), .dat (.tup (qs.map lineD)), .dat (lineD q)], []⟩ := rfl
      have e := fz_d (call1 v rfl (show_question_of (h.q q (hy q List.mem_cons_self))))
      rw [List.map_cons, lcL, show gN 3 (lineD q) ⟨[.dat (sysD d qs), .dat (.int (d : Int)), .dat (.tup (qs.map lineD)), .un], []⟩ = some ⟨[.dat (sysD d qs), .dat (.int (d : Int)), .dat (.tup (qs.map lineD)), .dat (lineD q)], []⟩ from rfl]
      simp only [s_true, s_bind_ok, Res.calm]
      rw [e]
      simp only [s_bind_ok, Res.calm, onD]
      rw [show wipeS [3] (⟨[.dat (sysD d qs), .dat (.int (d : Int)), .dat (.tup (qs.map lineD)), .dat (lineD q)], []⟩ : Sx) = ⟨[.dat (sysD d qs), .dat (.int (d : Int)), .dat (.tup (qs.map lineD)), .un], []⟩ from rfl, ih fun z hz => hy z (List.mem_cons_of_mem _ hz)]
      rfl
  have i : dItems (dVar 2) ⟨[.dat (sysD d qs), .dat (.int (d : Int)), .dat (.tup (qs.map lineD)), .un], []⟩ = .ok (qs.map lineD) ⟨[.dat (sysD d qs), .dat (.int (d : Int)), .dat (.tup (qs.map lineD)), .un], []⟩ := rfl
  exact lc_of i rfl (lc qs fun _ hq => hq)
theorem show_system_of {d : Nat} {qs : List (List Int × Int)} (h : SysOk d qs) : g_p_show_system [.dat (sysD d qs)] = .ret (.dat (.str (sysT ("system" : Str) d qs))) [] := by
  have v1 : dVar 1 ⟨[.dat (sysD d qs), .dat (.int (d : Int)), .dat (.tup (qs.map lineD)), .un], []⟩ = .ok (.d (.int (d : Int))) ⟨[.dat (sysD d qs), .dat (.int (d : Int)), .dat (.tup (qs.map lineD)), .un], []⟩ := rfl
  have l2 := nt_len (by decide) (numd h.d9)
  have hd := op2_of (op := opAdd) (f := dC (.str ("system " : Str))) (p := .d (.str ("system " : Str))) (s := ⟨[.dat (sysD d qs), .dat (.int (d : Int)), .dat (.tup (qs.map lineD)), .un], []⟩) rfl (b1_of v1 rfl (opStr_nt (numd h.d9))) rfl rfl (add_str (by rw [len_system]; omega))
  rw [hd_system] at hd
  refine ret_data (s1 := ⟨[.dat (sysD d qs), .dat (.int (d : Int)), .dat (.tup (qs.map lineD)), .un], []⟩) ?_ rfl
  rw [show initS 4 [.dat (sysD d qs)] = ⟨[.dat (sysD d qs), .un, .un, .un], []⟩ from rfl]
  unfold b_p_show_system
  exact q_nx (s1 := ⟨[.dat (sysD d qs), .dat (.int (d : Int)), .dat (.tup (qs.map lineD)), .un], []⟩) rfl (ret_of (joined hd (show_lc h) (sys_len wd_system h) (by rw [List.length_map]; exact h.n)))
theorem show_book_of {d : Nat} {qs : List (List Int × Int)} (h : SysOk d qs) : g_p_show_book [.dat (sysD d qs)] = .ret (.dat (.str (sysT ("book" : Str) d qs))) [] := by
  have v1 : dVar 1 ⟨[.dat (sysD d qs), .dat (.int (d : Int)), .dat (.tup (qs.map lineD)), .un], []⟩ = .ok (.d (.int (d : Int))) ⟨[.dat (sysD d qs), .dat (.int (d : Int)), .dat (.tup (qs.map lineD)), .un], []⟩ := rfl
  have l2 := nt_len (by decide) (numd h.d9)
  have hd := op2_of (op := opAdd) (f := dC (.str ("book " : Str))) (p := .d (.str ("book " : Str))) (s := ⟨[.dat (sysD d qs), .dat (.int (d : Int)), .dat (.tup (qs.map lineD)), .un], []⟩) rfl (b1_of v1 rfl (opStr_nt (numd h.d9))) rfl rfl (add_str (by rw [len_book]; omega))
  rw [hd_book] at hd
  refine ret_data (s1 := ⟨[.dat (sysD d qs), .dat (.int (d : Int)), .dat (.tup (qs.map lineD)), .un], []⟩) ?_ rfl
  rw [show initS 4 [.dat (sysD d qs)] = ⟨[.dat (sysD d qs), .un, .un, .un], []⟩ from rfl]
  unfold b_p_show_book
  exact q_nx (s1 := ⟨[.dat (sysD d qs), .dat (.int (d : Int)), .dat (.tup (qs.map lineD)), .un], []⟩) rfl (ret_of (joined hd (show_lc h) (sys_len wd_book h) (by rw [List.length_map]; exact h.n)))
theorem show_bundle_of {d : Nat} {rs : List (List Int)} (h : BunOk d rs) : g_p_show_bundle [.dat (bunD d rs)] = .ret (.dat (.str (bunT ("bundle" : Str) d rs))) [] := by
  have v1 : dVar 1 ⟨[.dat (bunD d rs), .dat (.int (d : Int)), .dat (.tup (rs.map rowD)), .un], []⟩ = .ok (.d (.int (d : Int))) ⟨[.dat (bunD d rs), .dat (.int (d : Int)), .dat (.tup (rs.map rowD)), .un], []⟩ := rfl
  have l2 := nt_len (by decide) (numd h.d9)
  have hd := op2_of (op := opAdd) (f := dC (.str ("bundle " : Str))) (p := .d (.str ("bundle " : Str))) (s := ⟨[.dat (bunD d rs), .dat (.int (d : Int)), .dat (.tup (rs.map rowD)), .un], []⟩) rfl (b1_of v1 rfl (opStr_nt (numd h.d9))) rfl rfl (add_str (by rw [len_bundle]; omega))
  rw [hd_bundle] at hd
  have lc : ∀ ys : List (List Int), (∀ q ∈ ys, q ∈ rs) → lcL (gN 3) dTrue (dCall g_p_show_sides (dCons (dFz (dVar 3)) dNil)) [3] (ys.map rowD) ⟨[.dat (bunD d rs), .dat (.int (d : Int)), .dat (.tup (rs.map rowD)), .un], []⟩ = .ok ((ys.map said).map D.str) ⟨[.dat (bunD d rs), .dat (.int (d : Int)), .dat (.tup (rs.map rowD)), .un], []⟩ := by
    intro ys
    induction ys with
    | nil => intro _; rfl
    | cons q ys ih =>
      intro hy
      have v : dVar 3 ⟨[.dat (bunD d rs), .dat (.int (d : Int)), .dat (.tup (rs.map rowD)), .dat (rowD q)], []⟩ = .ok (.d (rowD q)) ⟨[.dat (bunD d rs), .dat (.int (d : Int)), .dat (.tup (rs.map rowD)), .dat (rowD q)], []⟩ := rfl
      have e := fz_d (call1 v rfl (show_sides (h.q q (hy q List.mem_cons_self))))
      rw [List.map_cons, lcL, show gN 3 (rowD q) ⟨[.dat (bunD d rs), .dat (.int (d : Int)), .dat (.tup (rs.map rowD)), .un], []⟩ = some ⟨[.dat (bunD d rs), .dat (.int (d : Int)), .dat (.tup (rs.map rowD)), .dat (rowD q)], []⟩ from rfl]
      simp only [s_true, s_bind_ok, Res.calm]
      rw [e]
      simp only [s_bind_ok, Res.calm, onD]
      rw [show wipeS [3] (⟨[.dat (bunD d rs), .dat (.int (d : Int)), .dat (.tup (rs.map rowD)), .dat (rowD q)], []⟩ : Sx) = ⟨[.dat (bunD d rs), .dat (.int (d : Int)), .dat (.tup (rs.map rowD)), .un], []⟩ from rfl, ih fun z hz => hy z (List.mem_cons_of_mem _ hz)]
      rfl
  have i : dItems (dVar 2) ⟨[.dat (bunD d rs), .dat (.int (d : Int)), .dat (.tup (rs.map rowD)), .un], []⟩ = .ok (rs.map rowD) ⟨[.dat (bunD d rs), .dat (.int (d : Int)), .dat (.tup (rs.map rowD)), .un], []⟩ := rfl
  refine ret_data (s1 := ⟨[.dat (bunD d rs), .dat (.int (d : Int)), .dat (.tup (rs.map rowD)), .un], []⟩) ?_ rfl
  rw [show initS 4 [.dat (bunD d rs)] = ⟨[.dat (bunD d rs), .un, .un, .un], []⟩ from rfl]
  unfold b_p_show_bundle
  exact q_nx (s1 := ⟨[.dat (bunD d rs), .dat (.int (d : Int)), .dat (.tup (rs.map rowD)), .un], []⟩) rfl (ret_of (joined hd (lc_of i rfl (lc rs fun _ hq => hq)) (bun_len wd_bundle h) (by rw [List.length_map]; exact h.n)))
theorem show_whole_of {r : List Int} (h : Row r) : g_p_show_whole [.dat (rowD r)] = .ret (.dat (.str (said r))) [] := by
  have v0 : dVar 0 ⟨[.dat (rowD r)], []⟩ = .ok (.d (rowD r)) ⟨[.dat (rowD r)], []⟩ := rfl
  exact ret_data (n := 1) (bd := b_p_show_whole) (s1 := ⟨[.dat (rowD r)], []⟩) (ret_of (call1 v0 rfl (show_sides h))) rfl
/-! the law's own -/
theorem law_said_system_of {w : Str} {d : Nat} {qs : List (List Int × Int)} (hw : Wd w) (h : SysOk d qs) : g_z_law_said_system [.dat (.str w), .dat (sysD d qs)] = .ret (.dat (.str (sysT w d qs))) [] := by
  have lc : ∀ ys : List (List Int × Int), (∀ q ∈ ys, q ∈ qs) → lcL (gT 2 (gsC (gN 3) (gsC (gN 4) gsN))) dTrue (dOp2 opAdd (dOp2 opAdd (dCall g_z_law_said (dCons (dFz (dVar 3)) dNil)) (dC (.str (" : " : Str)))) (dB opStr (dCons (dFz (dVar 4)) dNil))) [3, 4] (ys.map lineD) ⟨[.dat (.str w), .dat (sysD d qs), .un, .un, .un], []⟩ = .ok ((ys.map line).map D.str) ⟨[.dat (.str w), .dat (sysD d qs), .un, .un, .un], []⟩ := by
    intro ys
    induction ys with
    | nil => intro _; rfl
    | cons q ys ih =>
      intro hy
      have hq := h.q q (hy q List.mem_cons_self)
      have l1 := said_len hq.1
      have l2 := nt_len (by decide) hq.2
      have l3 := co_len
      have v3 : dVar 3 ⟨[.dat (.str w), .dat (sysD d qs), .un, .dat (rowD q.1), .dat (.int q.2)], []⟩ = .ok (.d (rowD q.1)) ⟨[.dat (.str w), .dat (sysD d qs), .un, .dat (rowD q.1), .dat (.int q.2)], []⟩ := rfl
      have v4 : dVar 4 ⟨[.dat (.str w), .dat (sysD d qs), .un, .dat (rowD q.1), .dat (.int q.2)], []⟩ = .ok (.d (.int q.2)) ⟨[.dat (.str w), .dat (sysD d qs), .un, .dat (rowD q.1), .dat (.int q.2)], []⟩ := rfl
      have e : (dOp2 opAdd (dOp2 opAdd (dCall g_z_law_said (dCons (dFz (dVar 3)) dNil)) (dC (.str (" : " : Str)))) (dB opStr (dCons (dFz (dVar 4)) dNil))) ⟨[.dat (.str w), .dat (sysD d qs), .un, .dat (rowD q.1), .dat (.int q.2)], []⟩ = .ok (.d (.str (line q))) ⟨[.dat (.str w), .dat (sysD d qs), .un, .dat (rowD q.1), .dat (.int q.2)], []⟩ := op2_of (op2_of (call1 v3 rfl (law_said_of hq.1)) rfl rfl rfl (add_str (by omega))) (b1_of v4 rfl (opStr_nt hq.2)) rfl rfl (add_str (by rw [app_len]; omega))
      rw [List.map_cons, lcL, show gT 2 (gsC (gN 3) (gsC (gN 4) gsN)) (lineD q) ⟨[.dat (.str w), .dat (sysD d qs), .un, .un, .un], []⟩ = some ⟨[.dat (.str w), .dat (sysD d qs), .un, .dat (rowD q.1), .dat (.int q.2)], []⟩ from rfl]
      simp only [s_true, s_bind_ok, Res.calm]
      rw [fz_d e]
      simp only [s_bind_ok, Res.calm, onD]
      rw [show wipeS [3, 4] (⟨[.dat (.str w), .dat (sysD d qs), .un, .dat (rowD q.1), .dat (.int q.2)], []⟩ : Sx) = ⟨[.dat (.str w), .dat (sysD d qs), .un, .un, .un], []⟩ from rfl, ih fun z hz => hy z (List.mem_cons_of_mem _ hz)]
      rfl
  have i : dItems (dOp2 opIx (dVar 1) (dC (.int 1))) ⟨[.dat (.str w), .dat (sysD d qs), .un, .un, .un], []⟩ = .ok (qs.map lineD) ⟨[.dat (.str w), .dat (sysD d qs), .un, .un, .un], []⟩ := rfl
  have e2 : dSet 2 (dLc (dItems (dOp2 opIx (dVar 1) (dC (.int 1)))) (gT 2 (gsC (gN 3) (gsC (gN 4) gsN))) dTrue (dOp2 opAdd (dOp2 opAdd (dCall g_z_law_said (dCons (dFz (dVar 3)) dNil)) (dC (.str (" : " : Str)))) (dB opStr (dCons (dFz (dVar 4)) dNil))) [3, 4]) ⟨[.dat (.str w), .dat (sysD d qs), .un, .un, .un], []⟩ = .ok .nx ⟨[.dat (.str w), .dat (sysD d qs), .own ((qs.map line).map D.str), .un, .un], []⟩ := set_fr (lc_of i rfl (lc qs fun _ hq => hq)) (by simp [restL])
  have v0 : dVar 0 ⟨[.dat (.str w), .dat (sysD d qs), .own ((qs.map line).map D.str), .un, .un], []⟩ = .ok (.d (.str w)) ⟨[.dat (.str w), .dat (sysD d qs), .own ((qs.map line).map D.str), .un, .un], []⟩ := rfl
  have x0 : dOp2 opIx (dVar 1) (dC (.int 0)) ⟨[.dat (.str w), .dat (sysD d qs), .own ((qs.map line).map D.str), .un, .un], []⟩ = .ok (.d (.int (d : Int))) ⟨[.dat (.str w), .dat (sysD d qs), .own ((qs.map line).map D.str), .un, .un], []⟩ := rfl
  have l2 := nt_len (by decide) (numd h.d9)
  have lw := hw.1
  have l1 : (" " : Str).length = 1 := rfl
  have hd : dOp2 opAdd (dOp2 opAdd (dVar 0) (dC (.str (" " : Str)))) (dB opStr (dCons (dFz (dOp2 opIx (dVar 1) (dC (.int 0)))) dNil)) ⟨[.dat (.str w), .dat (sysD d qs), .own ((qs.map line).map D.str), .un, .un], []⟩ = .ok (.d (.str (head w (d : Int)))) ⟨[.dat (.str w), .dat (sysD d qs), .own ((qs.map line).map D.str), .un, .un], []⟩ := op2_of (op2_of v0 rfl rfl rfl (add_str (by omega))) (b1_of x0 rfl (opStr_nt (numd h.d9))) rfl rfl (add_str (by rw [app_len]; omega))
  have e1 : dLst (dCons (dFz (dOp2 opAdd (dOp2 opAdd (dVar 0) (dC (.str (" " : Str)))) (dB opStr (dCons (dFz (dOp2 opIx (dVar 1) (dC (.int 0)))) dNil)))) dNil) ⟨[.dat (.str w), .dat (sysD d qs), .own ((qs.map line).map D.str), .un, .un], []⟩ = .ok (.fr [.str (head w (d : Int))]) ⟨[.dat (.str w), .dat (sysD d qs), .own ((qs.map line).map D.str), .un, .un], []⟩ := by
    rw [s_lst, s_cons, fz_d hd]
    rfl
  have v2 : dVar 2 ⟨[.dat (.str w), .dat (sysD d qs), .own ((qs.map line).map D.str), .un, .un], []⟩ = .ok (.d (.lst ((qs.map line).map D.str))) ⟨[.dat (.str w), .dat (sysD d qs), .dat (.lst ((qs.map line).map D.str)), .un, .un], []⟩ := rfl
  have e3 := op2_of (op := opAdd) e1 v2 rfl rfl (add_lst (by rw [List.length_map, List.length_map]; have := h.n; simp only [List.length_cons, List.length_nil]; omega))
  refine ret_data (s1 := ⟨[.dat (.str w), .dat (sysD d qs), .dat (.lst ((qs.map line).map D.str)), .un, .un], []⟩) ?_ rfl
  rw [show initS 5 [.dat (.str w), .dat (sysD d qs)] = ⟨[.dat (.str w), .dat (sysD d qs), .un, .un, .un], []⟩ from rfl]
  unfold b_z_law_said_system
  refine q_nx e2 (ret_of ?_)
  rw [s_m1, s_c, s_bind_ok, s_onStr, e3, s_bind_ok, s_get_fr, s_endM]
  have j := join_ls (sys_len hw h) (by rw [List.length_cons, List.length_map]; have := h.n; omega)
  rw [List.map_cons] at j
  rw [show [D.str (head w (d : Int))] ++ List.map D.str (qs.map line) = D.str (head w (d : Int)) :: List.map D.str (qs.map line) from rfl, j]
  rfl
theorem law_said_bundle_of {d : Nat} {rs : List (List Int)} (h : BunOk d rs) : g_z_law_said_bundle [.dat (bunD d rs)] = .ret (.dat (.str (bunT ("bundle" : Str) d rs))) [] := by
  have x0 : dOp2 opIx (dVar 0) (dC (.int 0)) ⟨[.dat (bunD d rs), .un], []⟩ = .ok (.d (.int (d : Int))) ⟨[.dat (bunD d rs), .un], []⟩ := rfl
  have l2 := nt_len (by decide) (numd h.d9)
  have hd := op2_of (op := opAdd) (f := dC (.str ("bundle " : Str))) (p := .d (.str ("bundle " : Str))) (s := ⟨[.dat (bunD d rs), .un], []⟩) rfl (b1_of x0 rfl (opStr_nt (numd h.d9))) rfl rfl (add_str (by rw [len_bundle]; omega))
  rw [hd_bundle] at hd
  have lc : ∀ ys : List (List Int), (∀ q ∈ ys, q ∈ rs) → lcL (gN 1) dTrue (dCall g_z_law_said (dCons (dFz (dVar 1)) dNil)) [1] (ys.map rowD) ⟨[.dat (bunD d rs), .un], []⟩ = .ok ((ys.map said).map D.str) ⟨[.dat (bunD d rs), .un], []⟩ := by
    intro ys
    induction ys with
    | nil => intro _; rfl
    | cons q ys ih =>
      intro hy
      have v : dVar 1 ⟨[.dat (bunD d rs), .dat (rowD q)], []⟩ = .ok (.d (rowD q)) ⟨[.dat (bunD d rs), .dat (rowD q)], []⟩ := rfl
      have e := fz_d (call1 v rfl (law_said_of (h.q q (hy q List.mem_cons_self))))
      rw [List.map_cons, lcL, show gN 1 (rowD q) ⟨[.dat (bunD d rs), .un], []⟩ = some ⟨[.dat (bunD d rs), .dat (rowD q)], []⟩ from rfl]
      simp only [s_true, s_bind_ok, Res.calm]
      rw [e]
      simp only [s_bind_ok, Res.calm, onD]
      rw [show wipeS [1] (⟨[.dat (bunD d rs), .dat (rowD q)], []⟩ : Sx) = ⟨[.dat (bunD d rs), .un], []⟩ from rfl, ih fun z hz => hy z (List.mem_cons_of_mem _ hz)]
      rfl
  have i : dItems (dOp2 opIx (dVar 0) (dC (.int 1))) ⟨[.dat (bunD d rs), .un], []⟩ = .ok (rs.map rowD) ⟨[.dat (bunD d rs), .un], []⟩ := rfl
  refine ret_data (s1 := ⟨[.dat (bunD d rs), .un], []⟩) ?_ rfl
  rw [show initS 2 [.dat (bunD d rs)] = ⟨[.dat (bunD d rs), .un], []⟩ from rfl]
  unfold b_z_law_said_bundle
  exact ret_of (joined hd (lc_of i rfl (lc rs fun _ hq => hq)) (bun_len wd_bundle h) (by rw [List.length_map]; exact h.n))
end Dn.Ka
end
section
set_option Elab.async false
set_option linter.all false
set_option maxRecDepth 100000
set_option maxHeartbeats 4000000
namespace Dn.Ka
open PySem PySem.Spec PyProof.Rows L2
/-! ### _law_same -/
def Same (n : Nat) (x : D) : Prop := g_z_law_same n [.dat x, .dat x] = .ret (.dat (.bl true)) []
theorem same_non (n : Nat) : Same (n + 1) .non := rfl
theorem same_bl (n : Nat) (b : Bool) : Same (n + 1) (.bl b) := by cases b <;> rfl
theorem same_int (n : Nat) (i : Int) : Same (n + 1) (.int i) := by
  have e : dOp2 opEq (dVar 0) (dVar 1) ⟨[.dat (.int i), .dat (.int i), .un], []⟩ = .ok (.d (.bl true)) ⟨[.dat (.int i), .dat (.int i), .un], []⟩ := op2_of (x := (.int i)) (y := (.int i)) (p := .d (.int i)) (q := .d (.int i)) (s1 := ⟨[.dat (.int i), .dat (.int i), .un], []⟩) rfl rfl rfl rfl (by unfold opEq; rw [deq_int, beq_self_eq_true]; rfl)
  refine ret_data (n := 3) (bd := b_z_law_same (g_z_law_same n)) (s1 := ⟨[.dat (.int i), .dat (.int i), .un], []⟩) ?_ rfl
  rw [show initS 3 [.dat (.int i), .dat (.int i)] = ⟨[.dat (.int i), .dat (.int i), .un], []⟩ from rfl]
  unfold b_z_law_same
  exact q_nx (s1 := ⟨[.dat (.int i), .dat (.int i), .un], []⟩) rfl (q_nx (s1 := ⟨[.dat (.int i), .dat (.int i), .un], []⟩) rfl (seq_ret (q_ift (s1 := ⟨[.dat (.int i), .dat (.int i), .un], []⟩) rfl (ret_of (q_andV (s1 := ⟨[.dat (.int i), .dat (.int i), .un], []⟩) rfl (q_andV (s1 := ⟨[.dat (.int i), .dat (.int i), .un], []⟩) rfl e))))))
theorem same_str (n : Nat) (i : Str) : Same (n + 1) (.str i) := by
  have e : dOp2 opEq (dVar 0) (dVar 1) ⟨[.dat (.str i), .dat (.str i), .un], []⟩ = .ok (.d (.bl true)) ⟨[.dat (.str i), .dat (.str i), .un], []⟩ := op2_of (x := (.str i)) (y := (.str i)) (p := .d (.str i)) (q := .d (.str i)) (s1 := ⟨[.dat (.str i), .dat (.str i), .un], []⟩) rfl rfl rfl rfl (by unfold opEq; rw [show deq (.str i) (.str i) = some (i == i) from rfl, beq_self_eq_true]; rfl)
  refine ret_data (n := 3) (bd := b_z_law_same (g_z_law_same n)) (s1 := ⟨[.dat (.str i), .dat (.str i), .un], []⟩) ?_ rfl
  rw [show initS 3 [.dat (.str i), .dat (.str i)] = ⟨[.dat (.str i), .dat (.str i), .un], []⟩ from rfl]
  unfold b_z_law_same
  exact q_nx (s1 := ⟨[.dat (.str i), .dat (.str i), .un], []⟩) rfl (q_nx (s1 := ⟨[.dat (.str i), .dat (.str i), .un], []⟩) rfl (q_nx (s1 := ⟨[.dat (.str i), .dat (.str i), .un], []⟩) rfl (seq_ret (q_ift (s1 := ⟨[.dat (.str i), .dat (.str i), .un], []⟩) rfl (ret_of (q_andV (s1 := ⟨[.dat (.str i), .dat (.str i), .un], []⟩) rfl e))))))
theorem ix_nat {ds : List D} {k : Nat} {x : D} (h : ds[k]? = some x) : atI ds (k : Int) = some x := by
  have hk : k < ds.length := (List.getElem?_eq_some_iff.mp h).1
  unfold atI ixN
  rw [if_pos (by omega), if_pos (by omega)]
  simpa using h
/-- the part that goes through the items -/
theorem same_lc {g : List Dn.Arg → Cr} {x : D} {ds : List D} (hx : ∀ k : Nat, ∀ y, ds[k]? = some y → opIx x (.int (k : Int)) = some (.d y)) (h : ∀ y ∈ ds, g [.dat y, .dat y] = .ret (.dat (.bl true)) []) :
    ∀ ks : List Nat, (∀ k ∈ ks, k < ds.length) → lcL (gN 2) dTrue (dCall g (dCons (dFz (dOp2 opIx (dVar 0) (dVar 2))) (dCons (dFz (dOp2 opIx (dVar 1) (dVar 2))) dNil))) [2] (ks.map fun (i : Nat) => D.int (0 + (i : Int))) ⟨[.dat x, .dat x, .un], []⟩ = .ok (ks.map fun _ => .bl true) ⟨[.dat x, .dat x, .un], []⟩
  | [], _ => rfl
  | k :: ks, hk => by
    have ih := same_lc hx h ks fun j hj => hk j (List.mem_cons_of_mem _ hj)
    have kl := hk k List.mem_cons_self
    have e0 : (0 + (k : Int)) = (k : Int) := by omega
    have ek : ds[k]? = some ds[k] := List.getElem?_eq_getElem kl
    have x0 : dOp2 opIx (dVar 0) (dVar 2) ⟨[.dat x, .dat x, .dat (.int ((k : Nat) : Int))], []⟩ = .ok (.d ds[k]) ⟨[.dat x, .dat x, .dat (.int ((k : Nat) : Int))], []⟩ := op2_of (x := x) (y := .int (k : Int)) (p := .d x) (q := .d (.int (k : Int))) (s1 := ⟨[.dat x, .dat x, .dat (.int ((k : Nat) : Int))], []⟩) rfl rfl rfl rfl (hx k _ ek)
    have x1 : dOp2 opIx (dVar 1) (dVar 2) ⟨[.dat x, .dat x, .dat (.int ((k : Nat) : Int))], []⟩ = .ok (.d ds[k]) ⟨[.dat x, .dat x, .dat (.int ((k : Nat) : Int))], []⟩ := op2_of (x := x) (y := .int (k : Int)) (p := .d x) (q := .d (.int (k : Int))) (s1 := ⟨[.dat x, .dat x, .dat (.int ((k : Nat) : Int))], []⟩) rfl rfl rfl rfl (hx k _ ek)
    have e := fz_d (call2 x0 rfl x1 rfl (h _ (List.getElem_mem kl)))
    rw [List.map_cons, e0, lcL, show gN 2 (.int (k : Int)) ⟨[.dat x, .dat x, .un], []⟩ = some ⟨[.dat x, .dat x, .dat (.int ((k : Nat) : Int))], []⟩ from rfl]
    simp only [s_true, s_bind_ok, Res.calm]
    rw [e]
    simp only [s_bind_ok, Res.calm, onD]
    rw [show wipeS [2] (⟨[.dat x, .dat x, .dat (.int ((k : Nat) : Int))], []⟩ : Sx) = ⟨[.dat x, .dat x, .un], []⟩ from rfl, ih]
    rfl
theorem same_end {g : List Dn.Arg → Cr} {x : D} {ds : List D} (hl : ds.length ≤ 1000) (ol : opLen [x] = some (.d (.int (ds.length : Int)))) (hx : ∀ k : Nat, ∀ y, ds[k]? = some y → opIx x (.int (k : Int)) = some (.d y)) (h : ∀ y ∈ ds, g [.dat y, .dat y] = .ret (.dat (.bl true)) []) :
    dAndV (dOp2 opEq (dB opLen (dCons (dFz (dVar 0)) dNil)) (dB opLen (dCons (dFz (dVar 1)) dNil))) (dB opAll (dCons (dFz (dLc (dRng1 (dCons (dFz (dB opLen (dCons (dFz (dVar 1)) dNil))) dNil)) (gN 2) dTrue (dCall g (dCons (dFz (dOp2 opIx (dVar 0) (dVar 2))) (dCons (dFz (dOp2 opIx (dVar 1) (dVar 2))) dNil))) [2])) dNil)) ⟨[.dat x, .dat x, .un], []⟩ = .ok (.d (.bl true)) ⟨[.dat x, .dat x, .un], []⟩ := by
  have v0 : dVar 0 ⟨[.dat x, .dat x, .un], []⟩ = .ok (.d x) ⟨[.dat x, .dat x, .un], []⟩ := rfl
  have v1 : dVar 1 ⟨[.dat x, .dat x, .un], []⟩ = .ok (.d x) ⟨[.dat x, .dat x, .un], []⟩ := rfl
  have l0 := b1_of v0 rfl ol
  have l1 := b1_of v1 rfl ol
  have e : dOp2 opEq (dB opLen (dCons (dFz (dVar 0)) dNil)) (dB opLen (dCons (dFz (dVar 1)) dNil)) ⟨[.dat x, .dat x, .un], []⟩ = .ok (.d (.bl true)) ⟨[.dat x, .dat x, .un], []⟩ := op2_of l0 l1 rfl rfl (by unfold opEq; rw [deq_int, beq_self_eq_true]; rfl)
  have r := rng1_of l1 (by omega) (by omega)
  have lc := same_lc hx h (List.range ds.length) fun k hk => List.mem_range.mp hk
  have en : ((ds.length : Int)).toNat = ds.length := by omega
  rw [en] at r
  have a := lc_of r rfl lc
  refine q_andV e (b1_of a rfl ?_)
  show (bls ((List.range ds.length).map fun _ => D.bl true)).map _ = _
  rw [bls_map fun _ : Nat => true]
  simp
theorem same_tup {n : Nat} {ds : List D} (hl : ds.length ≤ 1000) (h : ∀ y ∈ ds, Same n y) : Same (n + 1) (.tup ds) := by
  refine ret_data (n := 3) (bd := b_z_law_same (g_z_law_same n)) (s1 := ⟨[.dat (.tup ds), .dat (.tup ds), .un], []⟩) ?_ rfl
  rw [show initS 3 [.dat (.tup ds), .dat (.tup ds)] = ⟨[.dat (.tup ds), .dat (.tup ds), .un], []⟩ from rfl]
  unfold b_z_law_same
  refine q_nx (s1 := ⟨[.dat (.tup ds), .dat (.tup ds), .un], []⟩) rfl (q_nx (s1 := ⟨[.dat (.tup ds), .dat (.tup ds), .un], []⟩) rfl (q_nx (s1 := ⟨[.dat (.tup ds), .dat (.tup ds), .un], []⟩) rfl (q_nx (s1 := ⟨[.dat (.tup ds), .dat (.tup ds), .un], []⟩) rfl (q_nx (s1 := ⟨[.dat (.tup ds), .dat (.tup ds), .un], []⟩) rfl (ret_of ?_)))))
  exact same_end hl rfl (fun k y hy => by
    show (atI ds (k : Int)).map Pv.d = _
    rw [ix_nat hy]
    rfl) h
theorem same_lst {n : Nat} {ds : List D} (hl : ds.length ≤ 1000) (h : ∀ y ∈ ds, Same n y) : Same (n + 1) (.lst ds) := by
  refine ret_data (n := 3) (bd := b_z_law_same (g_z_law_same n)) (s1 := ⟨[.dat (.lst ds), .dat (.lst ds), .un], []⟩) ?_ rfl
  rw [show initS 3 [.dat (.lst ds), .dat (.lst ds)] = ⟨[.dat (.lst ds), .dat (.lst ds), .un], []⟩ from rfl]
  unfold b_z_law_same
  refine q_nx (s1 := ⟨[.dat (.lst ds), .dat (.lst ds), .un], []⟩) rfl (q_nx (s1 := ⟨[.dat (.lst ds), .dat (.lst ds), .un], []⟩) rfl (q_nx (s1 := ⟨[.dat (.lst ds), .dat (.lst ds), .un], []⟩) rfl (q_nx (s1 := ⟨[.dat (.lst ds), .dat (.lst ds), .un], []⟩) rfl (q_nx (s1 := ⟨[.dat (.lst ds), .dat (.lst ds), .un], []⟩) rfl (ret_of ?_)))))
  exact same_end hl rfl (fun k y hy => by
    show (atI ds (k : Int)).map Pv.d = _
    rw [ix_nat hy]
    rfl) h
theorem same_row (n : Nat) {r : List Int} (h : r.length ≤ 1000) : Same (n + 2) (rowD r) := same_tup (by rw [List.length_map]; exact h) fun y hy => by
  obtain ⟨i, _, rfl⟩ := List.mem_map.mp hy
  exact same_int n i
theorem same_two {n : Nat} {a b : D} (ha : Same n a) (hb : Same n b) : ∀ y ∈ [a, b], Same n y := fun y hy => by
  rcases List.mem_cons.mp hy with rfl | hy
  · exact ha
  · rw [List.mem_singleton.mp hy]
    exact hb
theorem same_line (n : Nat) {q : List Int × Int} (h : q.1.length ≤ 1000) : Same (n + 3) (lineD q) := same_tup (by simp) (same_two (same_row n h) (same_int (n + 1) _))
theorem same_sys (n : Nat) {d : Nat} {qs : List (List Int × Int)} (h : SysOk d qs) : Same (n + 5) (sysD d qs) := same_tup (by simp) (same_two (same_int (n + 3) _) (same_tup (by rw [List.length_map]; have := h.n; omega) fun y hy => by
  obtain ⟨q, hq, rfl⟩ := List.mem_map.mp hy
  exact same_line n (Nat.le_trans (h.q q hq).1.1 (by decide))))
theorem same_bun (n : Nat) {d : Nat} {rs : List (List Int)} (h : BunOk d rs) : Same (n + 4) (bunD d rs) := same_tup (by simp) (same_two (same_int (n + 2) _) (same_tup (by rw [List.length_map]; have := h.n; omega) fun y hy => by
  obtain ⟨q, hq, rfl⟩ := List.mem_map.mp hy
  exact same_row n (Nat.le_trans (h.q q hq).1 (by decide))))
/-! ### _law_read -/
theorem kind_t {k z x : Str} (h : (k == z) = true) : dTest (dOp2 opEq (dVar 0) (dC (.str z))) ⟨[.dat (.str k), .dat (.str x), .dat .non, .un], []⟩ = .ok true ⟨[.dat (.str k), .dat (.str x), .dat .non, .un], []⟩ := test_of ((op2_of (x := .str k) (y := .str z) (p := .d (.str k)) (q := .d (.str z)) (s1 := ⟨[.dat (.str k), .dat (.str x), .dat .non, .un], []⟩) rfl rfl rfl rfl (r := .d (.bl (k == z))) rfl).trans (by rw [h]))
theorem kind_f {k z x : Str} (h : (k == z) = false) : dTest (dOp2 opEq (dVar 0) (dC (.str z))) ⟨[.dat (.str k), .dat (.str x), .dat .non, .un], []⟩ = .ok false ⟨[.dat (.str k), .dat (.str x), .dat .non, .un], []⟩ := test_of ((op2_of (x := .str k) (y := .str z) (p := .d (.str k)) (q := .d (.str z)) (s1 := ⟨[.dat (.str k), .dat (.str x), .dat .non, .un], []⟩) rfl rfl rfl rfl (r := .d (.bl (k == z))) rfl).trans (by rw [h]))
theorem twice_ok {g : List Dn.Arg → Cr} {k x : Str} {v : D} (h : g [.dat (.str x)] = .ret (.dat v) []) : dSet 2 (dLst (dCons (dFz (dCall g (dCons (dFz (dVar 1)) dNil))) (dCons (dFz (dCallK [0] g (dCons (dFz (dVar 1)) dNil))) dNil))) ⟨[.dat (.str k), .dat (.str x), .dat .non, .un], []⟩ = .ok .nx ⟨[.dat (.str k), .dat (.str x), .own [v, v], .un], []⟩ := by
  have v1 : dVar 1 ⟨[.dat (.str k), .dat (.str x), .dat .non, .un], []⟩ = .ok (.d (.str x)) ⟨[.dat (.str k), .dat (.str x), .dat .non, .un], []⟩ := rfl
  refine set_fr (x := [v, v]) (s1 := ⟨[.dat (.str k), .dat (.str x), .dat .non, .un], []⟩) ?_ (by simp)
  rw [s_lst, s_cons, fz_d (call1 v1 rfl h), s_bind_ok, s_cons, fz_d (call1k v1 rfl h)]
  rfl
theorem twice_ex {g : List Dn.Arg → Cr} {k x : Str} {v : D} (h : g [.dat (.str x)] = .ex 0 v []) : dSet 2 (dLst (dCons (dFz (dCall g (dCons (dFz (dVar 1)) dNil))) (dCons (dFz (dCallK [0] g (dCons (dFz (dVar 1)) dNil))) dNil))) ⟨[.dat (.str k), .dat (.str x), .dat .non, .un], []⟩ = .ex 0 v ⟨[.dat (.str k), .dat (.str x), .dat .non, .un], []⟩ := by
  have v1 : dVar 1 ⟨[.dat (.str k), .dat (.str x), .dat .non, .un], []⟩ = .ok (.d (.str x)) ⟨[.dat (.str k), .dat (.str x), .dat .non, .un], []⟩ := rfl
  refine set_ex ?_
  rw [s_lst, s_cons, s_fz, call1x v1 rfl h]
  rfl
/-- the body's end makes the def's -/
theorem read_ok {k x : Str} {v : D} {bd : Sx → Res Fl} (e : bd ⟨[.dat (.str k), .dat (.str x), .dat .non, .un], []⟩ = .ok .nx ⟨[.dat (.str k), .dat (.str x), .own [v, v], .un], []⟩) : dSeq (dSet 2 (dC .non)) (dSeq (dTry 3 2 ex_Unreadable bd) (dRet (dVar 2))) ⟨[.dat (.str k), .dat (.str x), .un, .un], []⟩ = .ok (.ret (.d (.lst [v, v]))) ⟨[.dat (.str k), .dat (.str x), .dat (.lst [v, v]), .un], []⟩ := by
  refine q_nx (s1 := ⟨[.dat (.str k), .dat (.str x), .dat .non, .un], []⟩) rfl (q_nx (s1 := ⟨[.dat (.str k), .dat (.str x), .own [v, v], .un], []⟩) ?_ rfl)
  rw [s_try, e]
  rfl
theorem read_ex {k x : Str} {v : D} {bd : Sx → Res Fl} (e : bd ⟨[.dat (.str k), .dat (.str x), .dat .non, .un], []⟩ = .ex 0 v ⟨[.dat (.str k), .dat (.str x), .dat .non, .un], []⟩) : dSeq (dSet 2 (dC .non)) (dSeq (dTry 3 2 ex_Unreadable bd) (dRet (dVar 2))) ⟨[.dat (.str k), .dat (.str x), .un, .un], []⟩ = .ok (.ret (.d v)) ⟨[.dat (.str k), .dat (.str x), .dat v, .un], []⟩ := by
  refine q_nx (s1 := ⟨[.dat (.str k), .dat (.str x), .dat .non, .un], []⟩) rfl (q_nx (s1 := ⟨[.dat (.str k), .dat (.str x), .dat v, .un], []⟩) ?_ rfl)
  rw [s_try, e]
  rfl
theorem lread_system {x : Str} {v : D} : (g_p_read_system [.dat (.str x)] = .ret (.dat v) [] → g_z_law_read [.dat (.str ("system" : Str)), .dat (.str x)] = .ret (.dat (.lst [v, v])) []) ∧ (g_p_read_system [.dat (.str x)] = .ex 0 v [] → g_z_law_read [.dat (.str ("system" : Str)), .dat (.str x)] = .ret (.dat v) []) :=
  ⟨fun h => ret_data (n := 4) (bd := b_z_law_read) (read_ok (q_ift (kind_t (by decide +kernel)) (twice_ok h))) rfl, fun h => ret_data (n := 4) (bd := b_z_law_read) (read_ex (q_ift (kind_t (by decide +kernel)) (twice_ex h))) rfl⟩
theorem lread_bundle {x : Str} {v : D} : (g_p_read_bundle [.dat (.str x)] = .ret (.dat v) [] → g_z_law_read [.dat (.str ("bundle" : Str)), .dat (.str x)] = .ret (.dat (.lst [v, v])) []) ∧ (g_p_read_bundle [.dat (.str x)] = .ex 0 v [] → g_z_law_read [.dat (.str ("bundle" : Str)), .dat (.str x)] = .ret (.dat v) []) :=
  ⟨fun h => ret_data (n := 4) (bd := b_z_law_read) (read_ok (q_iff (kind_f (by decide +kernel)) (q_ift (kind_t (by decide +kernel)) (twice_ok h)))) rfl, fun h => ret_data (n := 4) (bd := b_z_law_read) (read_ex (q_iff (kind_f (by decide +kernel)) (q_ift (kind_t (by decide +kernel)) (twice_ex h)))) rfl⟩
theorem lread_book {x : Str} {v : D} : (g_p_read_book [.dat (.str x)] = .ret (.dat v) [] → g_z_law_read [.dat (.str ("book" : Str)), .dat (.str x)] = .ret (.dat (.lst [v, v])) []) ∧ (g_p_read_book [.dat (.str x)] = .ex 0 v [] → g_z_law_read [.dat (.str ("book" : Str)), .dat (.str x)] = .ret (.dat v) []) :=
  ⟨fun h => ret_data (n := 4) (bd := b_z_law_read) (read_ok (q_iff (kind_f (by decide +kernel)) (q_iff (kind_f (by decide +kernel)) (q_ift (kind_t (by decide +kernel)) (twice_ok h))))) rfl, fun h => ret_data (n := 4) (bd := b_z_law_read) (read_ex (q_iff (kind_f (by decide +kernel)) (q_iff (kind_f (by decide +kernel)) (q_ift (kind_t (by decide +kernel)) (twice_ex h))))) rfl⟩
theorem lread_whole {x : Str} {v : D} : (g_p_read_whole [.dat (.str x)] = .ret (.dat v) [] → g_z_law_read [.dat (.str ("whole" : Str)), .dat (.str x)] = .ret (.dat (.lst [v, v])) []) ∧ (g_p_read_whole [.dat (.str x)] = .ex 0 v [] → g_z_law_read [.dat (.str ("whole" : Str)), .dat (.str x)] = .ret (.dat v) []) :=
  ⟨fun h => ret_data (n := 4) (bd := b_z_law_read) (read_ok (q_iff (kind_f (by decide +kernel)) (q_iff (kind_f (by decide +kernel)) (q_iff (kind_f (by decide +kernel)) (twice_ok h))))) rfl, fun h => ret_data (n := 4) (bd := b_z_law_read) (read_ex (q_iff (kind_f (by decide +kernel)) (q_iff (kind_f (by decide +kernel)) (q_iff (kind_f (by decide +kernel)) (twice_ex h))))) rfl⟩
end Dn.Ka
end
section
set_option Elab.async false
set_option linter.all false
set_option maxRecDepth 100000
set_option maxHeartbeats 4000000
namespace Dn.Ka
open PySem PySem.Spec PyProof.Rows L2
/-! ### divisors -/
def gc (l : List Int) : Nat := l.foldl (fun c a => Nat.gcd c a.natAbs) 0
theorem gc_from (l : List Int) : ∀ c : Nat, (l.foldl (fun c a => Nat.gcd c a.natAbs) c) ∣ c ∧ ∀ a ∈ l, (l.foldl (fun c a => Nat.gcd c a.natAbs) c) ∣ a.natAbs := by
  induction l with
  | nil => intro c; exact ⟨Nat.dvd_refl _, fun a h => by cases h⟩
  | cons x l ih =>
    intro c
    obtain ⟨h1, h2⟩ := ih (Nat.gcd c x.natAbs)
    refine ⟨Nat.dvd_trans h1 (Nat.gcd_dvd_left _ _), fun a ha => ?_⟩
    rcases List.mem_cons.mp ha with rfl | ha
    · exact Nat.dvd_trans h1 (Nat.gcd_dvd_right _ _)
    · exact h2 a ha
theorem gc_dvd {l : List Int} {a : Int} (h : a ∈ l) : gc l ∣ a.natAbs := (gc_from l 0).2 a h
theorem gc_zero {l : List Int} (h : nz l = false) : gc l = 0 := by
  have z : ∀ a ∈ l, a = 0 := fun a ha => by
    have q := List.any_eq_false.mp h a ha
    simpa using q
  unfold gc
  clear h
  induction l with
  | nil => rfl
  | cons x l ih =>
    rw [List.foldl_cons, z x List.mem_cons_self]
    exact ih fun a ha => z a (List.mem_cons_of_mem _ ha)
theorem nz_some {l : List Int} (h : nz l = true) : ∃ a ∈ l, a ≠ 0 := by
  obtain ⟨a, ha, hz⟩ := List.any_eq_true.mp h
  exact ⟨a, ha, by simpa using hz⟩
theorem gc_pos {l : List Int} (h : nz l = true) : 0 < gc l := by
  obtain ⟨a, ha, hz⟩ := nz_some h
  have d := gc_dvd ha
  rcases Nat.eq_zero_or_pos (gc l) with e | e
  · rw [e] at d
    have := Nat.eq_zero_of_zero_dvd d
    omega
  · exact e
theorem gc_lt {l : List Int} {n : Nat} (h : nz l = true) (hl : ∀ a ∈ l, a.natAbs < n) : gc l < n := by
  obtain ⟨a, ha, hz⟩ := nz_some h
  exact Nat.lt_of_le_of_lt (Nat.le_of_dvd (by omega) (gc_dvd ha)) (hl a ha)
/-! the law's divisor -/
theorem euclid {s0 s1 s2 : Slot} : ∀ (n r o : Nat), r < n → whileN (dTest (dOp2 opNe (dVar 4) (dC (.int 0)))) (dPar 3 4 (dCons (dFz (dVar 4)) (dCons (dFz (dOp2 opMod (dB opInt (dCons (dFz (dVar 3)) dNil)) (dVar 4))) dNil))) n ⟨[s0, s1, s2, .dat (.int (o : Int)), .dat (.int (r : Int))], []⟩ = some (.ok .nx ⟨[s0, s1, s2, .dat (.int ((Nat.gcd o r : Nat) : Int)), .dat (.int 0)], []⟩)
  | 0, r, o, h => by omega
  | n + 1, r, o, h => by
    have t : (dTest (dOp2 opNe (dVar 4) (dC (.int 0)))) ⟨[s0, s1, s2, .dat (.int (o : Int)), .dat (.int (r : Int))], []⟩ = .ok (!((r : Int) == 0)) ⟨[s0, s1, s2, .dat (.int (o : Int)), .dat (.int (r : Int))], []⟩ := rfl
    by_cases z : r = 0
    · subst z
      unfold whileN
      rw [t]
      simp
    · have zb : ((r : Int) == 0) = false := by simpa using z
      have rp : (0 : Int) < (r : Int) := by omega
      have v3 : dVar 3 ⟨[s0, s1, s2, .dat (.int (o : Int)), .dat (.int (r : Int))], []⟩ = .ok (.d (.int (o : Int))) ⟨[s0, s1, s2, .dat (.int (o : Int)), .dat (.int (r : Int))], []⟩ := rfl
      have v4 : dVar 4 ⟨[s0, s1, s2, .dat (.int (o : Int)), .dat (.int (r : Int))], []⟩ = .ok (.d (.int (r : Int))) ⟨[s0, s1, s2, .dat (.int (o : Int)), .dat (.int (r : Int))], []⟩ := rfl
      have m := op2_of (b1_of (op := opInt) v3 rfl (r := .d (.int (o : Int))) rfl) v4 rfl rfl (mod_pos (i := (o : Int)) rp)
      have b : (dPar 3 4 (dCons (dFz (dVar 4)) (dCons (dFz (dOp2 opMod (dB opInt (dCons (dFz (dVar 3)) dNil)) (dVar 4))) dNil))) ⟨[s0, s1, s2, .dat (.int (o : Int)), .dat (.int (r : Int))], []⟩ = .ok .nx ⟨[s0, s1, s2, .dat (.int (r : Int)), .dat (.int ((o % r : Nat) : Int))], []⟩ := by
        rw [s_par, s_cons, fz_d v4, s_bind_ok, s_cons, fz_d m]
        rfl
      have ih := euclid (s0 := s0) (s1 := s1) (s2 := s2) n (o % r) r (by have := Nat.mod_lt o (Nat.pos_of_ne_zero z); omega)
      have g : Nat.gcd r (o % r) = Nat.gcd o r := by rw [Nat.gcd_comm r, ← Nat.gcd_rec, Nat.gcd_comm]
      rw [g] at ih
      unfold whileN
      rw [t, zb]
      simp only [Bool.not_false]
      rw [b]
      exact ih
theorem divisor_loop {x : D} : ∀ (l : List Int) (c : Nat) (u v w : Slot), ∃ u' v' w', forL (gN 2) (dSeq (dPar 3 4 (dCons (dFz (dB opAbs (dCons (dFz (dVar 2)) dNil))) (dCons (dFz (dVar 1)) dNil))) (dSeq (dWhile (dTest (dOp2 opNe (dVar 4) (dC (.int 0)))) (dPar 3 4 (dCons (dFz (dVar 4)) (dCons (dFz (dOp2 opMod (dB opInt (dCons (dFz (dVar 3)) dNil)) (dVar 4))) dNil)))) (dSet 1 (dVar 3)))) (l.map D.int) ⟨[.dat x, .dat (.int (c : Int)), u, v, w], []⟩ = .ok .nx ⟨[.dat x, .dat (.int ((l.foldl (fun c a => Nat.gcd c a.natAbs) c : Nat) : Int)), u', v', w'], []⟩
  | [], c, u, v, w => ⟨u, v, w, rfl⟩
  | a :: l, c, u, v, w => by
    obtain ⟨u', v', w', e⟩ := divisor_loop (x := x) l (Nat.gcd c a.natAbs) (.dat (.int a)) (.dat (.int ((Nat.gcd c a.natAbs : Nat) : Int))) (.dat (.int 0))
    refine ⟨u', v', w', ?_⟩
    have v2 : dVar 2 ⟨[.dat x, .dat (.int (c : Int)), .dat (.int a), v, w], []⟩ = .ok (.d (.int a)) ⟨[.dat x, .dat (.int (c : Int)), .dat (.int a), v, w], []⟩ := rfl
    have ab : opAbs [.int a] = some (.d (.int (a.natAbs : Int))) := by
      show some (Pv.d (D.int (if a < 0 then -a else a))) = _
      congr 3
      split <;> omega
    have p : dPar 3 4 (dCons (dFz (dB opAbs (dCons (dFz (dVar 2)) dNil))) (dCons (dFz (dVar 1)) dNil)) ⟨[.dat x, .dat (.int (c : Int)), .dat (.int a), v, w], []⟩ = .ok .nx ⟨[.dat x, .dat (.int (c : Int)), .dat (.int a), .dat (.int (a.natAbs : Int)), .dat (.int (c : Int))], []⟩ := by
      rw [s_par, s_cons, fz_d (b1_of v2 rfl ab)]
      rfl
    have wh := dWhile_eq (euclid (s0 := .dat x) (s1 := .dat (.int (c : Int))) (s2 := .dat (.int a)) (c + 1) c a.natAbs (by omega))
    rw [Nat.gcd_comm] at wh
    have b : (dSeq (dPar 3 4 (dCons (dFz (dB opAbs (dCons (dFz (dVar 2)) dNil))) (dCons (dFz (dVar 1)) dNil))) (dSeq (dWhile (dTest (dOp2 opNe (dVar 4) (dC (.int 0)))) (dPar 3 4 (dCons (dFz (dVar 4)) (dCons (dFz (dOp2 opMod (dB opInt (dCons (dFz (dVar 3)) dNil)) (dVar 4))) dNil)))) (dSet 1 (dVar 3)))) ⟨[.dat x, .dat (.int (c : Int)), .dat (.int a), v, w], []⟩ = .ok .nx ⟨[.dat x, .dat (.int ((Nat.gcd c a.natAbs : Nat) : Int)), .dat (.int a), .dat (.int ((Nat.gcd c a.natAbs : Nat) : Int)), .dat (.int 0)], []⟩ := q_nx p (q_nx wh rfl)
    rw [List.map_cons]
    unfold forL
    rw [show gN 2 (.int a) ⟨[.dat x, .dat (.int (c : Int)), u, v, w], []⟩ = some ⟨[.dat x, .dat (.int (c : Int)), .dat (.int a), v, w], []⟩ from rfl]
    simp only
    rw [b]
    exact e
theorem law_divisor_of {x : D} {l : List Int} (hx : itemsOf x = some (l.map D.int)) : g_z_law_divisor [.dat x] = .ret (.dat (.int (gc l : Int))) [] := by
  obtain ⟨u', v', w', e⟩ := divisor_loop (x := x) l 0 .un .un .un
  have i : dItems (dVar 0) ⟨[.dat x, .dat (.int 0), .un, .un, .un], []⟩ = .ok (l.map D.int) ⟨[.dat x, .dat (.int 0), .un, .un, .un], []⟩ := items_of (p := .d x) rfl rfl hx
  refine ret_data (s1 := ⟨[.dat x, .dat (.int ((gc l : Nat) : Int)), u', v', w'], []⟩) ?_ rfl
  rw [show initS 5 [.dat x] = ⟨[.dat x, .un, .un, .un, .un], []⟩ from rfl]
  unfold b_z_law_divisor
  refine q_nx (s1 := ⟨[.dat x, .dat (.int 0), .un, .un, .un], []⟩) rfl (q_nx (s1 := ⟨[.dat x, .dat (.int ((gc l : Nat) : Int)), u', v', w'], []⟩) ?_ rfl)
  rw [s_for, i, s_bind_ok]
  exact e
/-! the program's -/
theorem gcd_loop {r : List Int} : ∀ (l : List Int) (c : Nat) (u : Slot), (u = .un ∨ ∃ y, u = .dat y) → ∃ u', forL (gN 2) (dSet 1 (dB opGcd (dCons (dFz (dVar 1)) (dCons (dFz (dVar 2)) dNil)))) (l.map D.int) ⟨[.dat (rowD r), .dat (.int (c : Int)), u], []⟩ = .ok .nx ⟨[.dat (rowD r), .dat (.int ((l.foldl (fun c a => Nat.gcd c a.natAbs) c : Nat) : Int)), u'], []⟩ ∧ (u' = .un ∨ ∃ y, u' = .dat y)
  | [], c, u, h => ⟨u, rfl, h⟩
  | a :: l, c, u, h => by
    obtain ⟨u', e, h'⟩ := gcd_loop (r := r) l (Nat.gcd c a.natAbs) (.dat (.int a)) (.inr ⟨_, rfl⟩)
    refine ⟨u', ?_, h'⟩
    rw [List.map_cons]
    unfold forL
    rw [show gN 2 (.int a) ⟨[.dat (rowD r), .dat (.int (c : Int)), u], []⟩ = some ⟨[.dat (rowD r), .dat (.int (c : Int)), .dat (.int a)], []⟩ from rfl]
    simp only
    rw [show (dSet 1 (dB opGcd (dCons (dFz (dVar 1)) (dCons (dFz (dVar 2)) dNil)))) ⟨[.dat (rowD r), .dat (.int (c : Int)), .dat (.int a)], []⟩ = .ok .nx ⟨[.dat (rowD r), .dat (.int ((Nat.gcd c a.natAbs : Nat) : Int)), .dat (.int a)], []⟩ from rfl]
    exact e
theorem div_nat {a : Int} {g : Nat} (g0 : 0 < g) (g1 : g < 10 ^ 9) : opDiv (.int a) (.int (g : Int)) = some (.d (.int (a / (g : Int)))) := div_pos (by omega) (by omega)
theorem divided_of {r : List Int} (g0 : 0 < gc r) (g1 : gc r < 10 ^ 9) : g_p_divided [.dat (rowD r)] = .ret (.dat (rowD (r.map fun a => a / (gc r : Int)))) [] := by
  obtain ⟨u, e, hu⟩ := gcd_loop (r := r) r 0 .un (.inl rfl)
  have i : dItems (dVar 0) ⟨[.dat (rowD r), .dat (.int 0), .un], []⟩ = .ok (r.map D.int) ⟨[.dat (rowD r), .dat (.int 0), .un], []⟩ := rfl
  have i2 : dItems (dVar 0) ⟨[.dat (rowD r), .dat (.int (gc r : Int)), u], []⟩ = .ok (r.map D.int) ⟨[.dat (rowD r), .dat (.int (gc r : Int)), u], []⟩ := rfl
  have lc : lcL (gN 2) dTrue (dOp2 opDiv (dVar 2) (dVar 1)) [2] (r.map D.int) ⟨[.dat (rowD r), .dat (.int (gc r : Int)), .un], []⟩ = .ok ((r.map D.int).map fun x => match x with
    | .int a => .int (a / (gc r : Int))
    | _ => .non) ⟨[.dat (rowD r), .dat (.int (gc r : Int)), .un], []⟩ := lc_pure _ fun x hx => by
      obtain ⟨a, ha, rfl⟩ := List.mem_map.mp hx
      exact ⟨⟨[.dat (rowD r), .dat (.int (gc r : Int)), .dat (.int a)], []⟩, ⟨[.dat (rowD r), .dat (.int (gc r : Int)), .dat (.int a)], []⟩, rfl, op2_of (x := .int a) (y := .int (gc r : Int)) (p := .d (.int a)) (q := .d (.int (gc r : Int))) (s1 := ⟨[.dat (rowD r), .dat (.int (gc r : Int)), .dat (.int a)], []⟩) rfl rfl rfl rfl (div_nat g0 g1), rfl⟩
  rw [List.map_map, show ((fun x => match x with
    | D.int a => D.int (a / (gc r : Int))
    | _ => D.non) ∘ D.int) = D.int ∘ fun a => a / (gc r : Int) from rfl, ← List.map_map] at lc
  have ok : okW [.dat (rowD r), .dat (.int (gc r : Int)), u] [2] = true := by
    rcases hu with rfl | ⟨y, rfl⟩ <;> rfl
  have a := lc_of (s1 := ⟨[.dat (rowD r), .dat (.int (gc r : Int)), u], []⟩) (sw := ⟨[.dat (rowD r), .dat (.int (gc r : Int)), .un], []⟩) i2 ok lc
  refine ret_data (s1 := ⟨restL [.dat (rowD r), .dat (.int (gc r : Int)), u] [.dat (rowD r), .dat (.int (gc r : Int)), .un] [2], []⟩) ?_ rfl
  rw [show initS 3 [.dat (rowD r)] = ⟨[.dat (rowD r), .un, .un], []⟩ from rfl]
  unfold b_p_divided
  refine q_nx (s1 := ⟨[.dat (rowD r), .dat (.int 0), .un], []⟩) rfl (q_nx (s1 := ⟨[.dat (rowD r), .dat (.int (gc r : Int)), u], []⟩) ?_ (ret_of (b1_of a rfl rfl)))
  rw [s_for, i, s_bind_ok]
  exact e
end Dn.Ka
end
section
set_option Elab.async false
set_option linter.all false
set_option maxRecDepth 100000
set_option maxHeartbeats 4000000
namespace Dn.Ka
open PySem PySem.Spec PyProof.Rows L2
/-! ### grounds -/
def nzs (l : List Int) : List Int := l.filter fun a => a != 0
theorem first_lc {sl : List Slot} {j : Nat} (hj : j < sl.length) (hw : ∀ x, (sl.set j (.dat x)).set j .un = sl) (l : List Int) : lcL (gN j) (dTest (dOp2 opNe (dVar j) (dC (.int 0)))) (dVar j) [j] (l.map D.int) ⟨sl, []⟩ = .ok ((nzs l).map D.int) ⟨sl, []⟩ := by
  have z := lc_filter (s := ⟨sl, []⟩) (tg := gN j) (cond := dTest (dOp2 opNe (dVar j) (dC (.int 0)))) (elt := dVar j) (vs := [j]) (fun x => match x with
    | .int a => a != 0
    | _ => false) (fun x => x) (ds := l.map D.int) fun x hx => by
      obtain ⟨a, _, rfl⟩ := List.mem_map.mp hx
      have v : dVar j ⟨sl.set j (.dat (.int a)), []⟩ = .ok (.d (.int a)) ⟨sl.set j (.dat (.int a)), []⟩ := by
        rw [s_var, List.getElem?_set_self hj]
      refine ⟨⟨sl.set j (.dat (.int a)), []⟩, ⟨sl.set j (.dat (.int a)), []⟩, if_pos hj, test_of (op2_of (x := .int a) (y := .int 0) v rfl rfl rfl rfl), ?_, v, ?_⟩
      · unfold wipeS wipeL
        simp only [wipeL]
        rw [hw]
      · unfold wipeS wipeL
        simp only [wipeL]
        rw [hw]
  rw [z, List.map_id', nzs, List.filter_map]
  rfl
theorem ix_first {f : Int} {t : List Int} : opIx (.lst ((f :: t).map D.int)) (.int 0) = some (.d (.int f)) := by
  show (atI ((f :: t).map D.int) ((0 : Nat) : Int)).map Pv.d = _
  rw [ix_nat (x := .int f) rfl]
  rfl
theorem nzs_cons {l : List Int} (h : nz l = true) : ∃ f t, nzs l = f :: t ∧ f ≠ 0 ∧ f ∈ l := by
  obtain ⟨a, ha, hz⟩ := nz_some h
  have m : a ∈ nzs l := List.mem_filter.mpr ⟨ha, by simpa using hz⟩
  cases e : nzs l with
  | nil => rw [e] at m; cases m
  | cons f t =>
    have mf : f ∈ nzs l := by rw [e]; exact List.mem_cons_self
    have q := List.mem_filter.mp mf
    exact ⟨f, t, rfl, by simpa using q.2, q.1⟩
def rowOf (q : List Int × Int) : List Int := q.1 ++ [q.2]
def grd (q : List Int × Int) : List Int := if 0 < (nzs q.1).headD 0 then (rowOf q).map (fun a => a / (gc (rowOf q) : Int)) else (rowOf q).map (fun a => -(a / (gc (rowOf q) : Int)))
theorem nz_row {q : List Int × Int} (h : nz q.1 = true) : nz (rowOf q) = true := by
  obtain ⟨a, ha, hz⟩ := nz_some h
  exact List.any_eq_true.mpr ⟨a, List.mem_append_left _ ha, by simpa using hz⟩
theorem row_lt {q : List Int × Int} (h : Q9 q) : ∀ a ∈ rowOf q, a.natAbs < 10 ^ 9 := fun a ha => by
  rcases List.mem_append.mp ha with ha | ha
  · exact h.1.2 a ha
  · rw [List.mem_singleton.mp ha]
    exact h.2
theorem div_sign {a : Int} {g : Nat} (h : g ∣ a.natAbs) (g0 : 0 < g) : (a / (g : Int) ≠ 0 ↔ a ≠ 0) ∧ (0 < a / (g : Int) ↔ 0 < a) ∧ a.fdiv (-(g : Int)) = -(a / (g : Int)) := by
  have d : (g : Int) ∣ a := Int.ofNat_dvd_left.mpr h
  obtain ⟨k, rfl⟩ := d
  have gp : (0 : Int) < (g : Int) := by omega
  have gz : (g : Int) ≠ 0 := by omega
  rw [Int.mul_ediv_cancel_left k gz]
  refine ⟨⟨fun hk z => ?_, fun hk z => hk (by rw [z, Int.mul_zero])⟩, ⟨fun hk => Int.mul_pos gp hk, fun hk => Int.pos_of_mul_pos_left (by rw [Int.mul_comm]; exact hk) gp⟩, ?_⟩
  · rcases Int.mul_eq_zero.mp z with z | z
    · exact gz z
    · exact hk z
  · have e : (g : Int) * k = -(g : Int) * -k := by rw [Int.neg_mul_neg]
    rw [e, Int.mul_fdiv_cancel_left _ (by omega)]
theorem nzs_div {l : List Int} {g : Nat} (h : ∀ a ∈ l, g ∣ a.natAbs) (g0 : 0 < g) : nzs (l.map fun a => a / (g : Int)) = (nzs l).map fun a => a / (g : Int) := by
  unfold nzs
  rw [List.filter_map]
  congr 1
  refine List.filter_congr fun a ha => ?_
  show ((a / (g : Int)) != 0) = (a != 0)
  have z := (div_sign (h a ha) g0).1
  rw [Bool.eq_iff_iff, bne_iff_ne, bne_iff_ne]
  exact z
theorem row_of (q : List Int × Int) (h : q.1.length ≤ 1000) : g_p_row_of_question [.dat (lineD q)] = .ret (.dat (rowD (rowOf q))) [] := by
  have e : dOp2 opAdd (dOp2 opIx (dVar 0) (dC (.int 0))) (dTup (dCons (dFz (dOp2 opIx (dVar 0) (dC (.int 1)))) dNil)) ⟨[.dat (lineD q)], []⟩ = .ok (.d (rowD (rowOf q))) ⟨[.dat (lineD q)], []⟩ := by
    refine op2_of (x := rowD q.1) (y := .tup [.int q.2]) (p := .d (rowD q.1)) (q := .d (.tup [.int q.2])) (s1 := ⟨[.dat (lineD q)], []⟩) rfl rfl rfl rfl ?_
    unfold opAdd rowD
    simp only
    rw [if_pos (by rw [List.length_map]; unfold LIM; simp only [List.length_cons, List.length_nil]; omega)]
    unfold rowOf
    rw [List.map_append]
    rfl
  exact ret_data (n := 1) (bd := b_p_row_of_question) (s1 := ⟨[.dat (lineD q)], []⟩) (ret_of e) rfl
theorem ground_of_of {q : List Int × Int} (h : Q9 q) (hz : nz q.1 = true) : g_p_ground_of [.dat (lineD q)] = .ret (.dat (rowD (grd q))) [] := by
  have hr := nz_row hz
  have g0 := gc_pos hr
  have g1 := gc_lt hr (row_lt h)
  obtain ⟨f, t, ef, fz, fm⟩ := nzs_cons hz
  have fd := gc_dvd (show f ∈ rowOf q from List.mem_append_left _ fm)
  have nr : nzs (rowOf q) = f :: (t ++ nzs [q.2]) := by
    unfold rowOf
    unfold nzs at ef ⊢
    rw [List.filter_append, ef]
    rfl
  have nn := nzs_div (l := rowOf q) (fun a ha => gc_dvd ha) g0
  rw [nr, List.map_cons] at nn
  have v0 : dVar 0 ⟨[.dat (lineD q), .un, .un, .un], []⟩ = .ok (.d (lineD q)) ⟨[.dat (lineD q), .un, .un, .un], []⟩ := rfl
  have e1 : dSet 1 (dCall g_p_divided (dCons (dFz (dCall g_p_row_of_question (dCons (dFz (dVar 0)) dNil))) dNil)) ⟨[.dat (lineD q), .un, .un, .un], []⟩ = .ok .nx ⟨[.dat (lineD q), .dat (rowD ((rowOf q).map fun a => a / (gc (rowOf q) : Int))), .un, .un], []⟩ := set_d (call1 (call1 v0 rfl (row_of q (Nat.le_trans h.1.1.2 (by decide)))) rfl (divided_of g0 g1)) (by simp)
  have i1 : dItems (dVar 1) ⟨[.dat (lineD q), .dat (rowD ((rowOf q).map fun a => a / (gc (rowOf q) : Int))), .un, .un], []⟩ = .ok (((rowOf q).map fun a => a / (gc (rowOf q) : Int)).map D.int) ⟨[.dat (lineD q), .dat (rowD ((rowOf q).map fun a => a / (gc (rowOf q) : Int))), .un, .un], []⟩ := rfl
  have fl := first_lc (sl := [.dat (lineD q), .dat (rowD ((rowOf q).map fun a => a / (gc (rowOf q) : Int))), .un, .un]) (j := 3) (by simp) (fun _ => rfl) ((rowOf q).map fun a => a / (gc (rowOf q) : Int))
  rw [nn] at fl
  have e2 : dSet 2 (dOp2 opIx (dLc (dItems (dVar 1)) (gN 3) (dTest (dOp2 opNe (dVar 3) (dC (.int 0)))) (dVar 3) [3]) (dC (.int 0))) ⟨[.dat (lineD q), .dat (rowD ((rowOf q).map fun a => a / (gc (rowOf q) : Int))), .un, .un], []⟩ = .ok .nx ⟨[.dat (lineD q), .dat (rowD ((rowOf q).map fun a => a / (gc (rowOf q) : Int))), .dat (.int (f / (gc (rowOf q) : Int))), .un], []⟩ := set_d (op2_of (op := opIx) (lc_of i1 rfl fl) (g := dC (.int 0)) (q := .d (.int 0)) rfl rfl rfl ix_first) (by simp [restL])
  have t2 : dTest (dOp2 opGt (dVar 2) (dC (.int 0))) ⟨[.dat (lineD q), .dat (rowD ((rowOf q).map fun a => a / (gc (rowOf q) : Int))), .dat (.int (f / (gc (rowOf q) : Int))), .un], []⟩ = .ok (decide (0 < f / (gc (rowOf q) : Int))) ⟨[.dat (lineD q), .dat (rowD ((rowOf q).map fun a => a / (gc (rowOf q) : Int))), .dat (.int (f / (gc (rowOf q) : Int))), .un], []⟩ := rfl
  have i2 : dItems (dVar 1) ⟨[.dat (lineD q), .dat (rowD ((rowOf q).map fun a => a / (gc (rowOf q) : Int))), .dat (.int (f / (gc (rowOf q) : Int))), .un], []⟩ = .ok (((rowOf q).map fun a => a / (gc (rowOf q) : Int)).map D.int) ⟨[.dat (lineD q), .dat (rowD ((rowOf q).map fun a => a / (gc (rowOf q) : Int))), .dat (.int (f / (gc (rowOf q) : Int))), .un], []⟩ := rfl
  have lc : lcL (gN 3) dTrue (dOp1 opNeg (dVar 3)) [3] (((rowOf q).map fun a => a / (gc (rowOf q) : Int)).map D.int) ⟨[.dat (lineD q), .dat (rowD ((rowOf q).map fun a => a / (gc (rowOf q) : Int))), .dat (.int (f / (gc (rowOf q) : Int))), .un], []⟩ = .ok ((((rowOf q).map fun a => a / (gc (rowOf q) : Int)).map D.int).map fun x => match x with
    | .int a => .int (-a)
    | _ => .non) ⟨[.dat (lineD q), .dat (rowD ((rowOf q).map fun a => a / (gc (rowOf q) : Int))), .dat (.int (f / (gc (rowOf q) : Int))), .un], []⟩ := lc_pure _ fun x hx => by
      obtain ⟨a, ha, rfl⟩ := List.mem_map.mp hx
      exact ⟨⟨[.dat (lineD q), .dat (rowD ((rowOf q).map fun a => a / (gc (rowOf q) : Int))), .dat (.int (f / (gc (rowOf q) : Int))), .dat (.int a)], []⟩, ⟨[.dat (lineD q), .dat (rowD ((rowOf q).map fun a => a / (gc (rowOf q) : Int))), .dat (.int (f / (gc (rowOf q) : Int))), .dat (.int a)], []⟩, rfl, rfl, rfl⟩
  have en : ((((rowOf q).map fun a => a / (gc (rowOf q) : Int)).map D.int).map fun x => match x with
    | D.int a => D.int (-a)
    | _ => D.non) = ((rowOf q).map fun a => -(a / (gc (rowOf q) : Int))).map D.int := by
    rw [List.map_map, List.map_map, List.map_map]
    rfl
  rw [en] at lc
  refine ret_data (s1 := ⟨[.dat (lineD q), .dat (rowD ((rowOf q).map fun a => a / (gc (rowOf q) : Int))), .dat (.int (f / (gc (rowOf q) : Int))), .un], []⟩) ?_ rfl
  rw [show initS 4 [.dat (lineD q)] = ⟨[.dat (lineD q), .un, .un, .un], []⟩ from rfl]
  unfold b_p_ground_of
  refine q_nx e1 (q_nx e2 (ret_of ?_))
  have sg := (div_sign fd g0).2.1
  unfold grd
  rw [ef]
  by_cases c : 0 < f
  · rw [if_pos (show 0 < (f :: t).headD 0 from c)]
    exact q_ift (t2.trans (by rw [decide_eq_true (sg.mpr c)])) rfl
  · rw [if_neg (show ¬ 0 < (f :: t).headD 0 from c)]
    exact q_iff (t2.trans (by rw [decide_eq_false fun z => c (sg.mp z)])) (b1_of (lc_of (sw := ⟨[.dat (lineD q), .dat (rowD ((rowOf q).map fun a => a / (gc (rowOf q) : Int))), .dat (.int (f / (gc (rowOf q) : Int))), .un], []⟩) i2 rfl lc) rfl rfl)
theorem law_ground_of {q : List Int × Int} (h : Q9 q) (hz : nz q.1 = true) : g_z_law_ground [.dat (rowD q.1), .dat (.int q.2)] = .ret (.dat (rowD (grd q))) [] := by
  have hr := nz_row hz
  have g0 := gc_pos hr
  have g1 := gc_lt hr (row_lt h)
  obtain ⟨f, t, ef, fz, fm⟩ := nzs_cons hz
  have hl := h.1.1.2
  have rl : (rowOf q).map D.int = q.1.map D.int ++ [.int q.2] := by unfold rowOf; rw [List.map_append]; rfl
  have add : opAdd (.lst (q.1.map D.int)) (.lst [.int q.2]) = some (.fr ((rowOf q).map D.int)) := by
    rw [rl]
    exact add_lst (by rw [List.length_map]; simp only [List.length_cons, List.length_nil]; omega)
  have a0 : (dOp2 opAdd (dB opList (dCons (dFz (dVar 0)) dNil)) (dLst (dCons (dFz (dVar 1)) dNil))) ⟨[.dat (rowD q.1), .dat (.int q.2), .un, .un, .un], []⟩ = .ok (.fr ((rowOf q).map D.int)) ⟨[.dat (rowD q.1), .dat (.int q.2), .un, .un, .un], []⟩ := op2_of (p := .fr (q.1.map D.int)) (q := .fr [.int q.2]) (s1 := ⟨[.dat (rowD q.1), .dat (.int q.2), .un, .un, .un], []⟩) rfl rfl rfl rfl add
  have e1 : dSet 2 (dCall g_z_law_divisor (dCons (dFz (dOp2 opAdd (dB opList (dCons (dFz (dVar 0)) dNil)) (dLst (dCons (dFz (dVar 1)) dNil)))) dNil)) ⟨[.dat (rowD q.1), .dat (.int q.2), .un, .un, .un], []⟩ = .ok .nx ⟨[.dat (rowD q.1), .dat (.int q.2), .dat (.int (gc (rowOf q) : Int)), .un, .un], []⟩ := set_d (call1 a0 rfl (law_divisor_of rfl)) (by simp)
  have i1 : dItems (dVar 0) ⟨[.dat (rowD q.1), .dat (.int q.2), .dat (.int (gc (rowOf q) : Int)), .un, .un], []⟩ = .ok (q.1.map D.int) ⟨[.dat (rowD q.1), .dat (.int q.2), .dat (.int (gc (rowOf q) : Int)), .un, .un], []⟩ := rfl
  have fl := first_lc (sl := [.dat (rowD q.1), .dat (.int q.2), .dat (.int (gc (rowOf q) : Int)), .un, .un]) (j := 4) (by simp) (fun _ => rfl) q.1
  rw [ef] at fl
  have e2 : dSet 3 (dOp2 opIx (dLc (dItems (dVar 0)) (gN 4) (dTest (dOp2 opNe (dVar 4) (dC (.int 0)))) (dVar 4) [4]) (dC (.int 0))) ⟨[.dat (rowD q.1), .dat (.int q.2), .dat (.int (gc (rowOf q) : Int)), .un, .un], []⟩ = .ok .nx ⟨[.dat (rowD q.1), .dat (.int q.2), .dat (.int (gc (rowOf q) : Int)), .dat (.int f), .un], []⟩ := set_d (op2_of (op := opIx) (lc_of i1 rfl fl) (g := dC (.int 0)) (q := .d (.int 0)) rfl rfl rfl ix_first) (by simp [restL])
  have a2 : (dOp2 opAdd (dB opList (dCons (dFz (dVar 0)) dNil)) (dLst (dCons (dFz (dVar 1)) dNil))) ⟨[.dat (rowD q.1), .dat (.int q.2), .dat (.int (gc (rowOf q) : Int)), .dat (.int f), .un], []⟩ = .ok (.fr ((rowOf q).map D.int)) ⟨[.dat (rowD q.1), .dat (.int q.2), .dat (.int (gc (rowOf q) : Int)), .dat (.int f), .un], []⟩ := op2_of (p := .fr (q.1.map D.int)) (q := .fr [.int q.2]) (s1 := ⟨[.dat (rowD q.1), .dat (.int q.2), .dat (.int (gc (rowOf q) : Int)), .dat (.int f), .un], []⟩) rfl rfl rfl rfl add
  have i2 := items_of (x := .lst ((rowOf q).map D.int)) a2 rfl rfl
  have lc : lcL (gN 4) dTrue (dOp2 opDiv (dVar 4) (dIf (dTest (dOp2 opGt (dVar 3) (dC (.int 0)))) (dVar 2) (dOp1 opNeg (dVar 2)))) [4] ((rowOf q).map D.int) ⟨[.dat (rowD q.1), .dat (.int q.2), .dat (.int (gc (rowOf q) : Int)), .dat (.int f), .un], []⟩ = .ok ((grd q).map D.int) ⟨[.dat (rowD q.1), .dat (.int q.2), .dat (.int (gc (rowOf q) : Int)), .dat (.int f), .un], []⟩ := by
    have z := lc_pure (s := ⟨[.dat (rowD q.1), .dat (.int q.2), .dat (.int (gc (rowOf q) : Int)), .dat (.int f), .un], []⟩) (tg := gN 4) (elt := (dOp2 opDiv (dVar 4) (dIf (dTest (dOp2 opGt (dVar 3) (dC (.int 0)))) (dVar 2) (dOp1 opNeg (dVar 2))))) (vs := [4]) (fun x => match x with
      | .int a => .int (if 0 < f then a / (gc (rowOf q) : Int) else -(a / (gc (rowOf q) : Int)))
      | _ => .non) (ds := (rowOf q).map D.int) fun x hx => by
        obtain ⟨a, ha, rfl⟩ := List.mem_map.mp hx
        have ds := div_sign (gc_dvd ha) g0
        have v4 : dVar 4 ⟨[.dat (rowD q.1), .dat (.int q.2), .dat (.int (gc (rowOf q) : Int)), .dat (.int f), .dat (.int a)], []⟩ = .ok (.d (.int a)) ⟨[.dat (rowD q.1), .dat (.int q.2), .dat (.int (gc (rowOf q) : Int)), .dat (.int f), .dat (.int a)], []⟩ := rfl
        have tt : dTest (dOp2 opGt (dVar 3) (dC (.int 0))) ⟨[.dat (rowD q.1), .dat (.int q.2), .dat (.int (gc (rowOf q) : Int)), .dat (.int f), .dat (.int a)], []⟩ = .ok (decide (0 < f)) ⟨[.dat (rowD q.1), .dat (.int q.2), .dat (.int (gc (rowOf q) : Int)), .dat (.int f), .dat (.int a)], []⟩ := rfl
        refine ⟨⟨[.dat (rowD q.1), .dat (.int q.2), .dat (.int (gc (rowOf q) : Int)), .dat (.int f), .dat (.int a)], []⟩, ⟨[.dat (rowD q.1), .dat (.int q.2), .dat (.int (gc (rowOf q) : Int)), .dat (.int f), .dat (.int a)], []⟩, rfl, ?_, rfl⟩
        show (dOp2 opDiv (dVar 4) (dIf (dTest (dOp2 opGt (dVar 3) (dC (.int 0)))) (dVar 2) (dOp1 opNeg (dVar 2)))) ⟨[.dat (rowD q.1), .dat (.int q.2), .dat (.int (gc (rowOf q) : Int)), .dat (.int f), .dat (.int a)], []⟩ = .ok (.d (.int (if 0 < f then a / (gc (rowOf q) : Int) else -(a / (gc (rowOf q) : Int))))) ⟨[.dat (rowD q.1), .dat (.int q.2), .dat (.int (gc (rowOf q) : Int)), .dat (.int f), .dat (.int a)], []⟩
        by_cases c : 0 < f
        · rw [if_pos c]
          have dd : dIf (dTest (dOp2 opGt (dVar 3) (dC (.int 0)))) (dVar 2) (dOp1 opNeg (dVar 2)) ⟨[.dat (rowD q.1), .dat (.int q.2), .dat (.int (gc (rowOf q) : Int)), .dat (.int f), .dat (.int a)], []⟩ = .ok (.d (.int (gc (rowOf q) : Int))) ⟨[.dat (rowD q.1), .dat (.int q.2), .dat (.int (gc (rowOf q) : Int)), .dat (.int f), .dat (.int a)], []⟩ := q_ift (tt.trans (by rw [decide_eq_true c])) rfl
          exact op2_of v4 dd rfl rfl (div_nat g0 g1)
        · rw [if_neg c]
          have dd : dIf (dTest (dOp2 opGt (dVar 3) (dC (.int 0)))) (dVar 2) (dOp1 opNeg (dVar 2)) ⟨[.dat (rowD q.1), .dat (.int q.2), .dat (.int (gc (rowOf q) : Int)), .dat (.int f), .dat (.int a)], []⟩ = .ok (.d (.int (-(gc (rowOf q) : Int)))) ⟨[.dat (rowD q.1), .dat (.int q.2), .dat (.int (gc (rowOf q) : Int)), .dat (.int f), .dat (.int a)], []⟩ := q_iff (tt.trans (by rw [decide_eq_false c])) rfl
          refine op2_of v4 dd rfl rfl ?_
          unfold opDiv
          simp only
          rw [if_neg (fun z => by omega), if_pos ⟨by omega, by omega⟩, ds.2.2]
    rw [z]
    congr 1
    unfold grd
    rw [ef]
    by_cases c : 0 < f
    · rw [if_pos (show 0 < (f :: t).headD 0 from c), List.map_map, List.map_map]
      refine List.map_congr_left fun a _ => ?_
      show D.int (if 0 < f then _ else _) = _
      rw [if_pos c]
      rfl
    · rw [if_neg (show ¬ 0 < (f :: t).headD 0 from c), List.map_map, List.map_map]
      refine List.map_congr_left fun a _ => ?_
      show D.int (if 0 < f then _ else _) = _
      rw [if_neg c]
      rfl
  refine ret_data (s1 := ⟨[.dat (rowD q.1), .dat (.int q.2), .dat (.int (gc (rowOf q) : Int)), .dat (.int f), .un], []⟩) ?_ rfl
  rw [show initS 5 [.dat (rowD q.1), .dat (.int q.2)] = ⟨[.dat (rowD q.1), .dat (.int q.2), .un, .un, .un], []⟩ from rfl]
  unfold b_z_law_ground
  exact q_nx e1 (q_nx e2 (ret_of (b1_of (lc_of i2 rfl lc) rfl rfl)))
end Dn.Ka
end
section
set_option Elab.async false
set_option linter.all false
set_option maxRecDepth 100000
set_option maxHeartbeats 4000000
namespace Dn.Ka
open PySem PySem.Spec PyProof.Rows L2
/-! ### books -/
def isBook (qs : List (List Int × Int)) : Bool := qs.all (fun q => nz q.1) && decide ((qs.map grd).Nodup)
/-! the count of keys -/
open Classical in
theorem keys_put (kvs : List (List Key × V)) (k : List Key) : (putT kvs k).map (·.1) = if k ∈ kvs.map (·.1) then kvs.map (·.1) else kvs.map (·.1) ++ [k] := by
  unfold putT putK
  by_cases h : k ∈ kvs.map (·.1)
  · have e : (kvs.any fun kv => decide (kv.1 = k)) = true := by
      obtain ⟨kv, h1, h2⟩ := List.mem_map.mp h
      exact List.any_eq_true.mpr ⟨kv, h1, decide_eq_true h2⟩
    rw [if_pos e, if_pos h, List.map_map]
    refine List.map_congr_left fun kv _ => ?_
    show (if kv.1 = k then (kv.1, V.bl true) else kv).1 = kv.1
    split <;> rfl
  · have e : ¬ (kvs.any fun kv => decide (kv.1 = k)) = true := fun z => by
      obtain ⟨kv, h1, h2⟩ := List.any_eq_true.mp z
      exact h (List.mem_map.mpr ⟨kv, h1, of_decide_eq_true h2⟩)
    rw [if_neg e, if_neg h, List.map_append]
    rfl
open Classical in
theorem put_len (kvs : List (List Key × V)) (k : List Key) : (putT kvs k).length = if k ∈ kvs.map (·.1) then kvs.length else kvs.length + 1 := by
  have e := congrArg List.length (keys_put kvs k)
  rw [List.length_map] at e
  rw [e]
  split
  · rw [List.length_map]
  · rw [List.length_append, List.length_map]
    rfl
open Classical in
theorem cnt_nodup : ∀ (ks : List (List Key)) (acc : List (List Key × V)), (acc.map (·.1)).Nodup → ((ks.foldl putT acc).length = acc.length + ks.length ↔ (acc.map (·.1) ++ ks).Nodup)
  | [], acc, h => by simp [h]
  | k :: ks, acc, h => by
    rw [List.foldl_cons, List.length_cons]
    by_cases m : k ∈ acc.map (·.1)
    · have le := cnt_le ks (putT acc k)
      rw [put_len, if_pos m] at le
      refine ⟨fun e => by omega, fun n => ?_⟩
      exact absurd rfl ((List.nodup_append.mp n).2.2 k m k List.mem_cons_self)
    · have nd : ((putT acc k).map (·.1)).Nodup := by
        rw [keys_put, if_neg m]
        exact List.nodup_append.mpr ⟨h, List.nodup_cons.mpr ⟨by simp, List.nodup_nil⟩, fun a ha b hb e => m (by rw [← List.mem_singleton.mp hb, ← e]; exact ha)⟩
      have ih := cnt_nodup ks (putT acc k) nd
      rw [put_len, if_neg m, keys_put, if_neg m, List.append_assoc] at ih
      rw [show acc.length + (ks.length + 1) = acc.length + 1 + ks.length by omega]
      exact ih
theorem nodup_map {α β : Type} {f : α → β} (hf : ∀ a b, f a = f b → a = b) : ∀ l : List α, (l.map f).Nodup ↔ l.Nodup
  | [] => by simp
  | x :: l => by
    rw [List.map_cons, List.nodup_cons, List.nodup_cons, nodup_map hf l]
    refine and_congr_left fun _ => not_congr ⟨fun h => ?_, fun h => List.mem_map.mpr ⟨x, h, rfl⟩⟩
    obtain ⟨y, hy, e⟩ := List.mem_map.mp h
    rw [← hf y x e]
    exact hy
def ky (r : List Int) : List Key := r.map Sum.inl
theorem ky_inj : ∀ (a b : List Int), ky a = ky b → a = b
  | [], [], _ => rfl
  | [], _ :: _, h => by cases h
  | _ :: _, [], h => by cases h
  | x :: a, y :: b, h => by
    have h : Sum.inl x :: ky a = Sum.inl y :: ky b := h
    injection h with h1 h2
    injection h1 with h1
    rw [h1, ky_inj a b h2]
theorem toKeys_row : ∀ r : List Int, toKeys (r.map D.int) = some (ky r)
  | [] => rfl
  | x :: r => by
    rw [List.map_cons, toKeys, toKeys_row r]
    rfl
theorem cnt_books (gs : List (List Int)) : decide (cntK (gs.map ky) = gs.length) = decide gs.Nodup := by
  have z := cnt_nodup (gs.map ky) [] List.nodup_nil
  rw [List.length_map, List.length_nil, Nat.zero_add] at z
  have z2 : cntK (gs.map ky) = gs.length ↔ gs.Nodup := z.trans (by rw [List.map_nil, List.nil_append]; exact nodup_map ky_inj gs)
  by_cases h : gs.Nodup
  · rw [decide_eq_true h, decide_eq_true (z2.mpr h)]
  · rw [decide_eq_false h, decide_eq_false fun e => h (z2.mp e)]
/-! is_book -/
theorem is_book_of {d : Nat} {qs : List (List Int × Int)} (h : SysOk d qs) (h9 : ∀ q ∈ qs, Q9 q) : g_p_is_book [.dat (sysD d qs)] = .ret (.dat (.bl (isBook qs))) [] := by
  have a := all_of lineD (fun q => decide (q.1.length = d) && nz q.1) (xs := qs) fun q _ => is_question_of d q
  have e : (qs.all fun q => decide (q.1.length = d) && nz q.1) = qs.all fun q => nz q.1 := by
    rw [Bool.eq_iff_iff, List.all_eq_true, List.all_eq_true]
    refine ⟨fun z q hq => ?_, fun z q hq => ?_⟩
    · exact (Bool.and_eq_true_iff.mp (z q hq)).2
    · rw [decide_eq_true (h.l q hq), z q hq]
      rfl
  rw [e] at a
  refine ret_data (s1 := ⟨[.dat (sysD d qs), .un], []⟩) ?_ rfl
  rw [show initS 2 [.dat (sysD d qs)] = ⟨[.dat (sysD d qs), .un], []⟩ from rfl]
  unfold b_p_is_book
  refine q_nx (s1 := ⟨[.dat (sysD d qs), .un], []⟩) (q_iff (guard_of h.d1) rfl) ?_
  by_cases c : (qs.all fun q => nz q.1) = true
  · rw [c] at a
    refine q_nx (s1 := ⟨[.dat (sysD d qs), .un], []⟩) (q_iff (q_not (test_of a)) rfl) (ret_of ?_)
    have hz : ∀ q ∈ qs, nz q.1 = true := List.all_eq_true.mp c
    have dc : ∀ ys : List (List Int × Int), (∀ q ∈ ys, q ∈ qs) → dcL (gN 1) (dCall g_p_ground_of (dCons (dFz (dVar 1)) dNil)) [1] (ys.map lineD) ⟨[.dat (sysD d qs), .un], []⟩ = .ok ((ys.map grd).map ky) ⟨[.dat (sysD d qs), .un], []⟩ := by
      intro ys
      induction ys with
      | nil => intro _; rfl
      | cons q ys ih =>
        intro hy
        have hq := hy q List.mem_cons_self
        have v : dVar 1 ⟨[.dat (sysD d qs), .dat (lineD q)], []⟩ = .ok (.d (lineD q)) ⟨[.dat (sysD d qs), .dat (lineD q)], []⟩ := rfl
        have e := fz_d (call1 v rfl (ground_of_of (h9 q hq) (hz q hq)))
        rw [List.map_cons, dcL, show gN 1 (lineD q) ⟨[.dat (sysD d qs), .un], []⟩ = some ⟨[.dat (sysD d qs), .dat (lineD q)], []⟩ from rfl]
        simp only
        rw [e]
        simp only [s_bind_ok, Res.calm, onK, keysOf, rowD, toKeys_row]
        rw [show wipeS [1] (⟨[.dat (sysD d qs), .dat (lineD q)], []⟩ : Sx) = ⟨[.dat (sysD d qs), .un], []⟩ from rfl, ih fun z hz => hy z (List.mem_cons_of_mem _ hz)]
        rfl
    have i1 : dItems (dOp2 opIx (dVar 0) (dC (.int 1))) ⟨[.dat (sysD d qs), .un], []⟩ = .ok (qs.map lineD) ⟨[.dat (sysD d qs), .un], []⟩ := rfl
    have e1 : dLenD (dItems (dOp2 opIx (dVar 0) (dC (.int 1)))) (gN 1) (dCall g_p_ground_of (dCons (dFz (dVar 1)) dNil)) [1] ⟨[.dat (sysD d qs), .un], []⟩ = .ok (.d (.int ((cntK ((qs.map grd).map ky) : Nat) : Int))) ⟨[.dat (sysD d qs), .un], []⟩ := by
      unfold dLenD
      rw [i1, s_bind_ok, if_pos (show okW [.dat (sysD d qs), .un] [1] = true from rfl), show wipeS [1] (⟨[.dat (sysD d qs), .un], []⟩ : Sx) = ⟨[.dat (sysD d qs), .un], []⟩ from rfl, dc qs fun _ hq => hq]
      rfl
    have x1 : (dOp2 opIx (dVar 0) (dC (.int 1))) ⟨[.dat (sysD d qs), .un], []⟩ = .ok (.d (.tup (qs.map lineD))) ⟨[.dat (sysD d qs), .un], []⟩ := rfl
    have ol : opLen [.tup (qs.map lineD)] = some (.d (.int ((qs.map grd).length : Int))) := by
      show some (Pv.d (D.int ((qs.map lineD).length : Int))) = _
      rw [List.length_map, List.length_map]
    refine (op2_of (op := opEq) e1 (b1_of x1 rfl ol) rfl rfl (opEq_len _ _)).trans ?_
    unfold isBook
    rw [c, cnt_books, Bool.true_and]
  · have c' : (qs.all fun q => nz q.1) = false := by simpa using c
    rw [c'] at a
    refine (seq_ret (s1 := ⟨[.dat (sysD d qs), .un], []⟩) (p := .d (.bl false)) (q_ift (q_not (test_of a)) rfl)).trans ?_
    unfold isBook
    rw [c', Bool.false_and]
/-! _law_is_book -/
theorem eqv_row : ∀ (a b : List Int), PyData.eqvAll (pys (a.map D.int)) (pys (b.map D.int)) = decide (a = b)
  | [], [] => by simp [pys, PyData.eqvAll]
  | [], _ :: _ => by simp [pys, PyData.eqvAll]
  | _ :: _, [] => by simp [pys, PyData.eqvAll]
  | x :: a, y :: b => by
    simp only [List.map_cons, pys, D.py, PyData.eqvAll, PyData.eqv, eqv_row a b]
    rw [Bool.eq_iff_iff]
    simp
theorem lay_row : ∀ a : List Int, PyData.canLayAll0 (pys (a.map D.int)) = true
  | [] => by simp [pys, PyData.canLayAll0]
  | x :: a => by simp [pys, PyData.canLayAll0, D.py, PyData.canLay0, lay_row a]
theorem cmp_row : ∀ a : List Int, cmps (a.map D.int) = true
  | [] => rfl
  | x :: a => by simp [cmps, D.cmp, cmp_row a]
theorem depth_row : ∀ (a : List Int), PyData.depthAll (pys (a.map D.int)) ≤ 1
  | [] => by simp [pys, PyData.depthAll]
  | x :: a => by
    have := depth_row a
    simp only [List.map_cons, pys, D.py, PyData.depthAll, PyData.depth]
    omega
theorem shaped_row (a : List Int) : SeqAt.shaped (rowD a).py = true := by
  have d := depth_row a
  unfold SeqAt.shaped rowD
  simp only [D.py, PyData.canLay0, lay_row a, PyData.depth, Bool.true_and, decide_eq_true_eq]
  omega
theorem shaped_rows : ∀ gs : List (List Int), (PyData.canLayAll0 (pys (gs.map rowD)) = true ∧ PyData.depthAll (pys (gs.map rowD)) ≤ 3) ∧ cmps (gs.map rowD) = true
  | [] => by simp [pys, PyData.canLayAll0, PyData.depthAll, cmps]
  | x :: gs => by
    obtain ⟨⟨h1, h2⟩, h3⟩ := shaped_rows gs
    have d := depth_row x
    have l1 : PyData.canLay0 (rowD x).py = true := lay_row x
    have l2 : PyData.depth (rowD x).py = PyData.depthAll (pys (x.map D.int)) + 1 := by unfold rowD; simp only [D.py, PyData.depth]
    have l3 : (rowD x).cmp = true := cmp_row x
    simp only [List.map_cons, pys, PyData.canLayAll0, PyData.depthAll, cmps, l1, l2, l3, Bool.true_and]
    exact ⟨⟨h1, by omega⟩, h3⟩
theorem any_row (g : List Int) : ∀ gs : List (List Int), ((pys (gs.map rowD)).any fun z => PyData.eqv z (rowD g).py) = decide (g ∈ gs)
  | [] => by simp [pys]
  | x :: gs => by
    have ih := any_row g gs
    have e : PyData.eqv (rowD x).py (rowD g).py = decide (x = g) := by
      unfold rowD
      simp only [D.py, PyData.eqv]
      exact eqv_row x g
    simp only [List.map_cons, pys, List.any_cons, ih, e]
    rw [Bool.eq_iff_iff]
    simp only [Bool.or_eq_true, decide_eq_true_eq, List.mem_cons]
    exact ⟨fun h => h.elim (fun h => .inl h.symm) .inr, fun h => h.elim (fun h => .inl h.symm) .inr⟩
theorem in_rows (g : List Int) (gs : List (List Int)) : opIn false (rowD g) (.lst (gs.map rowD)) = some (.d (.bl (decide (g ∈ gs)))) := by
  obtain ⟨⟨h1, h2⟩, h3⟩ := shaped_rows gs
  have sh : SeqAt.shaped (.list (pys (gs.map rowD))) = true := by
    unfold SeqAt.shaped
    rw [show PyData.canLay0 (.list (pys (gs.map rowD))) = true from h1, Bool.true_and]
    refine decide_eq_true ?_
    have e : PyData.depth (.list (pys (gs.map rowD))) = PyData.depthAll (pys (gs.map rowD)) + 1 := by simp only [PyData.depth]
    omega
  have c : (rowD g).cmp = true := cmp_row g
  have e : opIn false (rowD g) (.lst (gs.map rowD)) = if (rowD g).cmp = true ∧ cmps (gs.map rowD) = true ∧ SeqAt.shaped (rowD g).py = true ∧ SeqAt.shaped (.list (pys (gs.map rowD))) = true then some (.d (.bl ((pys (gs.map rowD)).any fun z => PyData.eqv z (rowD g).py))) else none := rfl
  rw [e, if_pos ⟨c, h3, shaped_row g, sh⟩, any_row]
def lb : List (List Int) → List (List Int × Int) → Bool
  | _, [] => true
  | gs, q :: qs => if nz q.1 = true ∧ grd q ∉ gs then lb (gs ++ [grd q]) qs else false
theorem lb_book : ∀ (qs : List (List Int × Int)) (gs : List (List Int)), gs.Nodup → lb gs qs = (qs.all (fun q => nz q.1) && decide ((gs ++ qs.map grd).Nodup))
  | [], gs, h => by simp [lb, h]
  | q :: qs, gs, h => by
    unfold lb
    rw [List.all_cons, List.map_cons]
    by_cases c : nz q.1 = true
    · by_cases m : grd q ∈ gs
      · rw [if_neg (fun z => z.2 m)]
        have nn : ¬ (gs ++ grd q :: qs.map grd).Nodup := fun n => (List.nodup_append.mp n).2.2 _ m _ List.mem_cons_self rfl
        rw [decide_eq_false nn, Bool.and_false]
      · have nd : (gs ++ [grd q]).Nodup := List.nodup_append.mpr ⟨h, List.nodup_cons.mpr ⟨by simp, List.nodup_nil⟩, fun a ha b hb e => m (by rw [← List.mem_singleton.mp hb, ← e]; exact ha)⟩
        rw [if_pos ⟨c, m⟩, lb_book qs _ nd, c, Bool.true_and, List.append_assoc]
        rfl
    · rw [if_neg (fun z => c z.1), show nz q.1 = false from by simpa using c]
      simp
theorem books_loop {x : D} : ∀ (qs : List (List Int × Int)) (gs : List (List Int)) (u v : Slot), (∀ q ∈ qs, Q9 q) → gs.length + qs.length ≤ 100 →
    (lb gs qs = true → ∃ gs' u' v', forL (gT 2 (gsC (gN 2) (gsC (gN 3) gsN))) (dSeq (dIf (dOr (dTest (dOp2 opEq (dCall g_z_law_divisor (dCons (dFz (dVar 2)) dNil)) (dC (.int 0)))) (dTest (dOp2 (opIn false) (dCall g_z_law_ground (dCons (dFz (dVar 2)) (dCons (dFz (dVar 3)) dNil))) (dPl 1)))) (dRet (dC (.bl false))) dSkip) (dDrop (dApp (dPl 1) (dCall g_z_law_ground (dCons (dFz (dVar 2)) (dCons (dFz (dVar 3)) dNil)))))) (qs.map lineD) ⟨[.dat x, .own (gs.map rowD), u, v], []⟩ = .ok .nx ⟨[.dat x, .own gs', u', v'], []⟩) ∧
    (lb gs qs = false → ∃ s', forL (gT 2 (gsC (gN 2) (gsC (gN 3) gsN))) (dSeq (dIf (dOr (dTest (dOp2 opEq (dCall g_z_law_divisor (dCons (dFz (dVar 2)) dNil)) (dC (.int 0)))) (dTest (dOp2 (opIn false) (dCall g_z_law_ground (dCons (dFz (dVar 2)) (dCons (dFz (dVar 3)) dNil))) (dPl 1)))) (dRet (dC (.bl false))) dSkip) (dDrop (dApp (dPl 1) (dCall g_z_law_ground (dCons (dFz (dVar 2)) (dCons (dFz (dVar 3)) dNil)))))) (qs.map lineD) ⟨[.dat x, .own (gs.map rowD), u, v], []⟩ = .ok (.ret (.d (.bl false))) s' ∧ s'.bo = [])
  | [], gs, u, v, _, _ => ⟨fun _ => ⟨_, u, v, rfl⟩, fun z => by cases z⟩
  | q :: qs, gs, u, v, h, hl => by
    rw [List.length_cons] at hl
    have hq := h q List.mem_cons_self
    have v2 : dVar 2 ⟨[.dat x, .own (gs.map rowD), .dat (rowD q.1), .dat (.int q.2)], []⟩ = .ok (.d (rowD q.1)) ⟨[.dat x, .own (gs.map rowD), .dat (rowD q.1), .dat (.int q.2)], []⟩ := rfl
    have v3 : dVar 3 ⟨[.dat x, .own (gs.map rowD), .dat (rowD q.1), .dat (.int q.2)], []⟩ = .ok (.d (.int q.2)) ⟨[.dat x, .own (gs.map rowD), .dat (rowD q.1), .dat (.int q.2)], []⟩ := rfl
    have p1 : dPl 1 ⟨[.dat x, .own (gs.map rowD), .dat (rowD q.1), .dat (.int q.2)], []⟩ = .ok (.pl 1) ⟨[.dat x, .own (gs.map rowD), .dat (rowD q.1), .dat (.int q.2)], []⟩ := rfl
    have t1 : dTest (dOp2 opEq (dCall g_z_law_divisor (dCons (dFz (dVar 2)) dNil)) (dC (.int 0))) ⟨[.dat x, .own (gs.map rowD), .dat (rowD q.1), .dat (.int q.2)], []⟩ = .ok (decide (gc q.1 = 0)) ⟨[.dat x, .own (gs.map rowD), .dat (rowD q.1), .dat (.int q.2)], []⟩ := test_of (op2_of (op := opEq) (call1 v2 rfl (law_divisor_of (l := q.1) rfl)) (g := dC (.int 0)) (q := .d (.int ((0 : Nat) : Int))) rfl rfl rfl (opEq_len _ _))
    rw [List.map_cons]
    unfold forL
    rw [show gT 2 (gsC (gN 2) (gsC (gN 3) gsN)) (lineD q) ⟨[.dat x, .own (gs.map rowD), u, v], []⟩ = some ⟨[.dat x, .own (gs.map rowD), .dat (rowD q.1), .dat (.int q.2)], []⟩ from rfl]
    simp only
    unfold lb
    by_cases c : nz q.1 = true
    · have g0 : ¬ gc q.1 = 0 := by have := gc_pos c; omega
      have gr := call2 v2 rfl v3 rfl (law_ground_of hq c)
      have t2 : dTest (dOp2 (opIn false) (dCall g_z_law_ground (dCons (dFz (dVar 2)) (dCons (dFz (dVar 3)) dNil))) (dPl 1)) ⟨[.dat x, .own (gs.map rowD), .dat (rowD q.1), .dat (.int q.2)], []⟩ = .ok (decide (grd q ∈ gs)) ⟨[.dat x, .own (gs.map rowD), .dat (rowD q.1), .dat (.int q.2)], []⟩ := test_of (op2_of gr p1 rfl rfl (in_rows _ _))
      by_cases m : grd q ∈ gs
      · rw [if_neg (fun z => z.2 m)]
        refine ⟨fun z => (by cases z), fun _ => ⟨⟨[.dat x, .own (gs.map rowD), .dat (rowD q.1), .dat (.int q.2)], []⟩, ?_, rfl⟩⟩
        rw [show (dSeq (dIf (dOr (dTest (dOp2 opEq (dCall g_z_law_divisor (dCons (dFz (dVar 2)) dNil)) (dC (.int 0)))) (dTest (dOp2 (opIn false) (dCall g_z_law_ground (dCons (dFz (dVar 2)) (dCons (dFz (dVar 3)) dNil))) (dPl 1)))) (dRet (dC (.bl false))) dSkip) (dDrop (dApp (dPl 1) (dCall g_z_law_ground (dCons (dFz (dVar 2)) (dCons (dFz (dVar 3)) dNil)))))) ⟨[.dat x, .own (gs.map rowD), .dat (rowD q.1), .dat (.int q.2)], []⟩ = .ok (.ret (.d (.bl false))) ⟨[.dat x, .own (gs.map rowD), .dat (rowD q.1), .dat (.int q.2)], []⟩ from seq_ret (q_ift (q_orf (t1.trans (by rw [decide_eq_false g0])) (t2.trans (by rw [decide_eq_true m]))) rfl)]
        rfl
      · rw [if_pos ⟨c, m⟩]
        have ap : dDrop (dApp (dPl 1) (dCall g_z_law_ground (dCons (dFz (dVar 2)) (dCons (dFz (dVar 3)) dNil)))) ⟨[.dat x, .own (gs.map rowD), .dat (rowD q.1), .dat (.int q.2)], []⟩ = .ok .nx ⟨[.dat x, .own ((gs ++ [grd q]).map rowD), .dat (rowD q.1), .dat (.int q.2)], []⟩ := by
          refine drop_of (p := .d .non) ?_
          unfold dApp
          rw [p1, s_bind_ok]
          unfold onPl
          simp only
          rw [fz_d gr, s_bind_ok]
          unfold endApp
          simp only [s_cont, List.getElem?_cons_succ, List.getElem?_cons_zero]
          rw [if_pos (by rw [List.length_map]; unfold LIM; omega), List.map_append]
          rfl
        have b : (dSeq (dIf (dOr (dTest (dOp2 opEq (dCall g_z_law_divisor (dCons (dFz (dVar 2)) dNil)) (dC (.int 0)))) (dTest (dOp2 (opIn false) (dCall g_z_law_ground (dCons (dFz (dVar 2)) (dCons (dFz (dVar 3)) dNil))) (dPl 1)))) (dRet (dC (.bl false))) dSkip) (dDrop (dApp (dPl 1) (dCall g_z_law_ground (dCons (dFz (dVar 2)) (dCons (dFz (dVar 3)) dNil)))))) ⟨[.dat x, .own (gs.map rowD), .dat (rowD q.1), .dat (.int q.2)], []⟩ = .ok .nx ⟨[.dat x, .own ((gs ++ [grd q]).map rowD), .dat (rowD q.1), .dat (.int q.2)], []⟩ := q_nx (q_iff (q_orf (t1.trans (by rw [decide_eq_false g0])) (t2.trans (by rw [decide_eq_false m]))) rfl) ap
        rw [b]
        exact books_loop (x := x) qs (gs ++ [grd q]) (.dat (rowD q.1)) (.dat (.int q.2)) (fun z hz => h z (List.mem_cons_of_mem _ hz)) (by rw [List.length_append, List.length_cons, List.length_nil]; omega)
    · rw [if_neg (fun z => c z.1)]
      have g0 : gc q.1 = 0 := gc_zero (by simpa using c)
      refine ⟨fun z => (by cases z), fun _ => ⟨⟨[.dat x, .own (gs.map rowD), .dat (rowD q.1), .dat (.int q.2)], []⟩, ?_, rfl⟩⟩
      rw [show (dSeq (dIf (dOr (dTest (dOp2 opEq (dCall g_z_law_divisor (dCons (dFz (dVar 2)) dNil)) (dC (.int 0)))) (dTest (dOp2 (opIn false) (dCall g_z_law_ground (dCons (dFz (dVar 2)) (dCons (dFz (dVar 3)) dNil))) (dPl 1)))) (dRet (dC (.bl false))) dSkip) (dDrop (dApp (dPl 1) (dCall g_z_law_ground (dCons (dFz (dVar 2)) (dCons (dFz (dVar 3)) dNil)))))) ⟨[.dat x, .own (gs.map rowD), .dat (rowD q.1), .dat (.int q.2)], []⟩ = .ok (.ret (.d (.bl false))) ⟨[.dat x, .own (gs.map rowD), .dat (rowD q.1), .dat (.int q.2)], []⟩ from seq_ret (q_ift (or_t (t1.trans (by rw [decide_eq_true g0]))) rfl)]
      rfl
theorem law_is_book_of {d : Nat} {qs : List (List Int × Int)} (h : SysOk d qs) (h9 : ∀ q ∈ qs, Q9 q) : g_z_law_is_book [.dat (sysD d qs)] = .ret (.dat (.bl (isBook qs))) [] := by
  have i : dItems (dOp2 opIx (dVar 0) (dC (.int 1))) ⟨[.dat (sysD d qs), .own [], .un, .un], []⟩ = .ok (qs.map lineD) ⟨[.dat (sysD d qs), .own [], .un, .un], []⟩ := rfl
  have z := books_loop (x := sysD d qs) qs [] .un .un h9 (by rw [List.length_nil]; have := h.n; omega)
  have e := lb_book qs [] List.nodup_nil
  rw [List.nil_append] at e
  have e : lb [] qs = isBook qs := e
  rw [e] at z
  cases c : isBook qs with
  | true =>
    obtain ⟨gs', u', v', e2⟩ := z.1 c
    refine ret_data (s1 := ⟨[.dat (sysD d qs), .own gs', u', v'], []⟩) ?_ rfl
    rw [show initS 4 [.dat (sysD d qs)] = ⟨[.dat (sysD d qs), .un, .un, .un], []⟩ from rfl]
    unfold b_z_law_is_book
    refine q_nx (s1 := ⟨[.dat (sysD d qs), .own [], .un, .un], []⟩) rfl (q_nx (s1 := ⟨[.dat (sysD d qs), .own gs', u', v'], []⟩) ?_ rfl)
    rw [s_for, i, s_bind_ok]
    exact e2
  | false =>
    obtain ⟨s', e2, hb⟩ := z.2 c
    refine ret_data (s1 := s') ?_ hb
    rw [show initS 4 [.dat (sysD d qs)] = ⟨[.dat (sysD d qs), .un, .un, .un], []⟩ from rfl]
    unfold b_z_law_is_book
    refine q_nx (s1 := ⟨[.dat (sysD d qs), .own [], .un, .un], []⟩) rfl (seq_ret ?_)
    rw [s_for, i, s_bind_ok]
    exact e2
end Dn.Ka
end
section
set_option Elab.async false
set_option linter.all false
set_option maxRecDepth 100000
set_option maxHeartbeats 4000000
namespace Dn.Ka
open PySem PySem.Spec PyProof.Rows L2
/-! ### read_book -/
theorem unknowns_of_head {d : Nat} (hd : d ≤ 12) : g_p_unknowns_of [.dat (.str (head ("book" : Str) (d : Int)))] = .ret (.dat (.int (d : Int))) [] := by
  generalize hx : head ("book" : Str) (d : Int) = x
  have hl : x.length ≤ LIM := by rw [← hx]; exact lim0 (Nat.le_trans (head_len wd_book (numd hd)) (by decide))
  have hp : Txt.partition x (" " : Str) = (("book" : Str), (" " : Str), nt (d : Int)) := by rw [← hx]; exact part_head wd_book.2.1
  have e1 : dM1 opPart (dVar 0) (dC (.str (" " : Str))) ⟨[.dat (.str x), .un, .un, .un], []⟩ = .ok (.d (.tup [.str ("book" : Str), .str (" " : Str), .str (nt (d : Int))])) ⟨[.dat (.str x), .un, .un, .un], []⟩ := by
    rw [s_m1]
    simp only [s_var, List.getElem?_cons_succ, List.getElem?_cons_zero, s_bind_ok, s_onStr, s_c, s_get_d, s_endM, part_op (by decide +kernel) hl hp]
  have e2 : dAsg (gT 3 (gsC (gN 1) (gsC (gN 2) (gsC (gN 3) gsN)))) (dM1 opPart (dVar 0) (dC (.str (" " : Str)))) ⟨[.dat (.str x), .un, .un, .un], []⟩ = .ok .nx ⟨[.dat (.str x), .dat (.str ("book" : Str)), .dat (.str (" " : Str)), .dat (.str (nt (d : Int)))], []⟩ := by
    rw [s_asg, fz_d e1]
    rfl
  have t : dTest (dOp2 opEq (dVar 1) (dC (.str ("book" : Str)))) ⟨[.dat (.str x), .dat (.str ("book" : Str)), .dat (.str (" " : Str)), .dat (.str (nt (d : Int)))], []⟩ = .ok true ⟨[.dat (.str x), .dat (.str ("book" : Str)), .dat (.str (" " : Str)), .dat (.str (nt (d : Int)))], []⟩ := by simp [opEq, deq]
  have v3 : dVar 3 ⟨[.dat (.str x), .dat (.str ("book" : Str)), .dat (.str (" " : Str)), .dat (.str (nt (d : Int)))], []⟩ = .ok (.d (.str (nt (d : Int)))) ⟨[.dat (.str x), .dat (.str ("book" : Str)), .dat (.str (" " : Str)), .dat (.str (nt (d : Int)))], []⟩ := rfl
  refine ret_data (s1 := ⟨[.dat (.str x), .dat (.str ("book" : Str)), .dat (.str (" " : Str)), .dat (.str (nt (d : Int)))], []⟩) ?_ rfl
  rw [show initS 4 [.dat (.str x)] = ⟨[.dat (.str x), .un, .un, .un], []⟩ from rfl]
  unfold b_p_unknowns_of
  exact q_nx e2 (ret_of (q_ift t (call1 v3 rfl (integer_of_nt (numd9 hd)))))
theorem questions_loop {x h : Str} {ls : List D} {d : Nat} : ∀ (qs done : List (List Int × Int)) (j : Nat) (u v w : Slot), (∀ q ∈ qs, Q9 q) → done.length + qs.length ≤ 100 →
    ∃ u' v' w', forL (gT 2 (gsC (gN 5) (gsC (gN 6) gsN))) (dSeq (dSet 7 (dCall g_p_question_of (dCons (dFz (dVar 6)) dNil))) (dSeq (dIf (dTest (dOp2 opIsN (dVar 7) (dC .non))) (dRaise 0 (dOp2 opAdd (dVar 5) (dC (.int 2)))) dSkip) (dDrop (dApp (dPl 4) (dVar 7))))) (enumFrom j ((qs.map line).map D.str)) ⟨[.dat (.str x), .dat (.str h), .dat (.lst ls), .dat (.int (d : Int)), .own (done.map lineD), u, v, w, .un], []⟩ = .ok .nx ⟨[.dat (.str x), .dat (.str h), .dat (.lst ls), .dat (.int (d : Int)), .own ((done ++ qs).map lineD), u', v', w', .un], []⟩
  | [], done, j, u, v, w, _, _ => ⟨u, v, w, by rw [List.append_nil]; rfl⟩
  | q :: qs, done, j, u, v, w, hq, hl => by
    rw [List.length_cons] at hl
    obtain ⟨u', v', w', e⟩ := questions_loop (x := x) (h := h) (ls := ls) (d := d) qs (done ++ [q]) (j + 1) (.dat (.int (j : Int))) (.dat (.str (line q))) (.dat (lineD q)) (fun z hz => hq z (List.mem_cons_of_mem _ hz)) (by rw [List.length_append, List.length_cons, List.length_nil]; omega)
    refine ⟨u', v', w', ?_⟩
    have v6 : dVar 6 ⟨[.dat (.str x), .dat (.str h), .dat (.lst ls), .dat (.int (d : Int)), .own (done.map lineD), .dat (.int (j : Int)), .dat (.str (line q)), w, .un], []⟩ = .ok (.d (.str (line q))) ⟨[.dat (.str x), .dat (.str h), .dat (.lst ls), .dat (.int (d : Int)), .own (done.map lineD), .dat (.int (j : Int)), .dat (.str (line q)), w, .un], []⟩ := rfl
    have e1 : dSet 7 (dCall g_p_question_of (dCons (dFz (dVar 6)) dNil)) ⟨[.dat (.str x), .dat (.str h), .dat (.lst ls), .dat (.int (d : Int)), .own (done.map lineD), .dat (.int (j : Int)), .dat (.str (line q)), w, .un], []⟩ = .ok .nx ⟨[.dat (.str x), .dat (.str h), .dat (.lst ls), .dat (.int (d : Int)), .own (done.map lineD), .dat (.int (j : Int)), .dat (.str (line q)), .dat (lineD q), .un], []⟩ := set_d (call1 v6 rfl (question_of_line (hq q List.mem_cons_self))) (by simp)
    have ap : dDrop (dApp (dPl 4) (dVar 7)) ⟨[.dat (.str x), .dat (.str h), .dat (.lst ls), .dat (.int (d : Int)), .own (done.map lineD), .dat (.int (j : Int)), .dat (.str (line q)), .dat (lineD q), .un], []⟩ = .ok .nx ⟨[.dat (.str x), .dat (.str h), .dat (.lst ls), .dat (.int (d : Int)), .own ((done ++ [q]).map lineD), .dat (.int (j : Int)), .dat (.str (line q)), .dat (lineD q), .un], []⟩ := by
      refine drop_of (p := .d .non) ?_
      unfold dApp
      rw [show dPl 4 ⟨[.dat (.str x), .dat (.str h), .dat (.lst ls), .dat (.int (d : Int)), .own (done.map lineD), .dat (.int (j : Int)), .dat (.str (line q)), .dat (lineD q), .un], []⟩ = .ok (.pl 4) ⟨[.dat (.str x), .dat (.str h), .dat (.lst ls), .dat (.int (d : Int)), .own (done.map lineD), .dat (.int (j : Int)), .dat (.str (line q)), .dat (lineD q), .un], []⟩ from rfl, s_bind_ok]
      unfold onPl
      simp only
      rw [show dFz (dVar 7) ⟨[.dat (.str x), .dat (.str h), .dat (.lst ls), .dat (.int (d : Int)), .own (done.map lineD), .dat (.int (j : Int)), .dat (.str (line q)), .dat (lineD q), .un], []⟩ = .ok (.d (lineD q)) ⟨[.dat (.str x), .dat (.str h), .dat (.lst ls), .dat (.int (d : Int)), .own (done.map lineD), .dat (.int (j : Int)), .dat (.str (line q)), .dat (lineD q), .un], []⟩ from rfl, s_bind_ok]
      unfold endApp
      simp only [s_cont, List.getElem?_cons_succ, List.getElem?_cons_zero]
      rw [if_pos (by rw [List.length_map]; unfold LIM; omega), List.map_append]
      rfl
    have b : (dSeq (dSet 7 (dCall g_p_question_of (dCons (dFz (dVar 6)) dNil))) (dSeq (dIf (dTest (dOp2 opIsN (dVar 7) (dC .non))) (dRaise 0 (dOp2 opAdd (dVar 5) (dC (.int 2)))) dSkip) (dDrop (dApp (dPl 4) (dVar 7))))) ⟨[.dat (.str x), .dat (.str h), .dat (.lst ls), .dat (.int (d : Int)), .own (done.map lineD), .dat (.int (j : Int)), .dat (.str (line q)), w, .un], []⟩ = _ := q_nx e1 (q_nx (s1 := ⟨[.dat (.str x), .dat (.str h), .dat (.lst ls), .dat (.int (d : Int)), .own (done.map lineD), .dat (.int (j : Int)), .dat (.str (line q)), .dat (lineD q), .un], []⟩) (q_iff rfl rfl) ap)
    rw [List.map_cons, List.map_cons, enumFrom]
    unfold forL
    rw [show gT 2 (gsC (gN 5) (gsC (gN 6) gsN)) (.tup [.int (j : Int), .str (line q)]) ⟨[.dat (.str x), .dat (.str h), .dat (.lst ls), .dat (.int (d : Int)), .own (done.map lineD), u, v, w, .un], []⟩ = some ⟨[.dat (.str x), .dat (.str h), .dat (.lst ls), .dat (.int (d : Int)), .own (done.map lineD), .dat (.int (j : Int)), .dat (.str (line q)), w, .un], []⟩ from rfl]
    simp only
    rw [b]
    rw [List.append_assoc] at e
    exact e
theorem read_book_of {d : Nat} {qs : List (List Int × Int)} (h : SysOk d qs) (h9 : ∀ q ∈ qs, Q9 q) : g_p_read_book [.dat (.str (sysT ("book" : Str) d qs))] = if isBook qs = true then .ret (.dat (sysD d qs)) [] else .ex 0 (.int 0) [] := by
  generalize hx : sysT ("book" : Str) d qs = x
  have hl : x.length + 2 ≤ LIM := by rw [← hx]; exact lim1 (Nat.le_trans (sysT_len wd_book h) (by decide))
  have hs : Txt.split x ("\n" : Str) = (head ("book" : Str) (d : Int)) :: qs.map line := by rw [← hx]; exact sysT_split wd_book
  have e1 : dM1 opSplit (dVar 0) (dC (.str ("\n" : Str))) ⟨[.dat (.str x), .un, .un, .un, .un, .un, .un, .un, .un], []⟩ = .ok (.fr (.str (head ("book" : Str) (d : Int)) :: ((qs.map line).map D.str))) ⟨[.dat (.str x), .un, .un, .un, .un, .un, .un, .un, .un], []⟩ := by
    rw [s_m1]
    simp only [s_var, List.getElem?_cons_succ, List.getElem?_cons_zero, s_bind_ok, s_onStr, s_c, s_get_d, s_endM, split_op hl hs]
  have e2 : dStar 1 2 (dM1 opSplit (dVar 0) (dC (.str ("\n" : Str)))) ⟨[.dat (.str x), .un, .un, .un, .un, .un, .un, .un, .un], []⟩ = .ok .nx ⟨[.dat (.str x), .dat (.str (head ("book" : Str) (d : Int))), .own ((qs.map line).map D.str), .un, .un, .un, .un, .un, .un], []⟩ := by
    rw [s_star, fz_fr e1, s_bind_ok]
    unfold endStar
    simp only
    rw [if_pos ⟨by rw [List.length_map, List.length_map]; have := h.n; omega, by simp, by simp, by decide⟩]
    rfl
  have v1 : dVar 1 ⟨[.dat (.str x), .dat (.str (head ("book" : Str) (d : Int))), .own ((qs.map line).map D.str), .un, .un, .un, .un, .un, .un], []⟩ = .ok (.d (.str (head ("book" : Str) (d : Int)))) ⟨[.dat (.str x), .dat (.str (head ("book" : Str) (d : Int))), .own ((qs.map line).map D.str), .un, .un, .un, .un, .un, .un], []⟩ := rfl
  have e3 : dSet 3 (dCall g_p_unknowns_of (dCons (dFz (dVar 1)) dNil)) ⟨[.dat (.str x), .dat (.str (head ("book" : Str) (d : Int))), .own ((qs.map line).map D.str), .un, .un, .un, .un, .un, .un], []⟩ = .ok .nx ⟨[.dat (.str x), .dat (.str (head ("book" : Str) (d : Int))), .own ((qs.map line).map D.str), .dat (.int (d : Int)), .un, .un, .un, .un, .un], []⟩ := set_d (call1 v1 rfl (unknowns_of_head h.d9)) (by simp)
  have e5 : dEnum (dCons (dFz (dVar 2)) dNil) ⟨[.dat (.str x), .dat (.str (head ("book" : Str) (d : Int))), .own ((qs.map line).map D.str), .dat (.int (d : Int)), .own [], .un, .un, .un, .un], []⟩ = .ok (enumFrom 0 ((qs.map line).map D.str)) ⟨[.dat (.str x), .dat (.str (head ("book" : Str) (d : Int))), .dat (.lst ((qs.map line).map D.str)), .dat (.int (d : Int)), .own [], .un, .un, .un, .un], []⟩ := by
    unfold dEnum
    rw [s_cons, show dFz (dVar 2) ⟨[.dat (.str x), .dat (.str (head ("book" : Str) (d : Int))), .own ((qs.map line).map D.str), .dat (.int (d : Int)), .own [], .un, .un, .un, .un], []⟩ = .ok (.d (.lst ((qs.map line).map D.str))) ⟨[.dat (.str x), .dat (.str (head ("book" : Str) (d : Int))), .dat (.lst ((qs.map line).map D.str)), .dat (.int (d : Int)), .own [], .un, .un, .un, .un], []⟩ from rfl, s_bind_ok, s_nil, s_bind_ok, s_bind_ok]
    simp only
    rw [if_pos (by rw [List.length_map, List.length_map]; unfold LIM; have := h.n; omega)]
  obtain ⟨u, v, w, e6⟩ := questions_loop (x := x) (h := (head ("book" : Str) (d : Int))) (ls := ((qs.map line).map D.str)) (d := d) qs [] 0 .un .un .un h9 (by rw [List.length_nil]; have := h.n; omega)
  rw [List.nil_append] at e6
  have e7 : dFor (dEnum (dCons (dFz (dVar 2)) dNil)) (gT 2 (gsC (gN 5) (gsC (gN 6) gsN))) (dSeq (dSet 7 (dCall g_p_question_of (dCons (dFz (dVar 6)) dNil))) (dSeq (dIf (dTest (dOp2 opIsN (dVar 7) (dC .non))) (dRaise 0 (dOp2 opAdd (dVar 5) (dC (.int 2)))) dSkip) (dDrop (dApp (dPl 4) (dVar 7))))) ⟨[.dat (.str x), .dat (.str (head ("book" : Str) (d : Int))), .own ((qs.map line).map D.str), .dat (.int (d : Int)), .own [], .un, .un, .un, .un], []⟩ = .ok .nx ⟨[.dat (.str x), .dat (.str (head ("book" : Str) (d : Int))), .dat (.lst ((qs.map line).map D.str)), .dat (.int (d : Int)), .own (qs.map lineD), u, v, w, .un], []⟩ := by
    rw [s_for, e5, s_bind_ok]
    exact e6
  have v8 : dVar 8 ⟨[.dat (.str x), .dat (.str (head ("book" : Str) (d : Int))), .dat (.lst ((qs.map line).map D.str)), .dat (.int (d : Int)), .own (qs.map lineD), u, v, w, .dat (sysD d qs)], []⟩ = .ok (.d (sysD d qs)) ⟨[.dat (.str x), .dat (.str (head ("book" : Str) (d : Int))), .dat (.lst ((qs.map line).map D.str)), .dat (.int (d : Int)), .own (qs.map lineD), u, v, w, .dat (sysD d qs)], []⟩ := rfl
  have t := q_not (j := !isBook qs) (test_of (call1 v8 rfl (is_book_of h h9)))
  have pre : ∀ {r : Res Fl} {rest : Sx → Res Fl}, rest ⟨[.dat (.str x), .dat (.str (head ("book" : Str) (d : Int))), .dat (.lst ((qs.map line).map D.str)), .dat (.int (d : Int)), .own (qs.map lineD), u, v, w, .dat (sysD d qs)], []⟩ = r → dSeq (dStar 1 2 (dM1 opSplit (dVar 0) (dC (.str ("\n" : Str))))) (dSeq (dSet 3 (dCall g_p_unknowns_of (dCons (dFz (dVar 1)) dNil))) (dSeq (dIf (dTest (dOp2 opIsN (dVar 3) (dC .non))) (dRaise 0 (dC (.int 1))) dSkip) (dSeq (dSet 4 (dLst dNil)) (dSeq (dFor (dEnum (dCons (dFz (dVar 2)) dNil)) (gT 2 (gsC (gN 5) (gsC (gN 6) gsN))) (dSeq (dSet 7 (dCall g_p_question_of (dCons (dFz (dVar 6)) dNil))) (dSeq (dIf (dTest (dOp2 opIsN (dVar 7) (dC .non))) (dRaise 0 (dOp2 opAdd (dVar 5) (dC (.int 2)))) dSkip) (dDrop (dApp (dPl 4) (dVar 7)))))) (dSeq (dSet 8 (dTup (dCons (dFz (dVar 3)) (dCons (dFz (dB opTupl (dCons (dFz (dPl 4)) dNil))) dNil)))) rest))))) ⟨[.dat (.str x), .un, .un, .un, .un, .un, .un, .un, .un], []⟩ = r := fun hr =>
    q_nx e2 (q_nx e3 (q_nx (s1 := ⟨[.dat (.str x), .dat (.str (head ("book" : Str) (d : Int))), .own ((qs.map line).map D.str), .dat (.int (d : Int)), .un, .un, .un, .un, .un], []⟩) (q_iff rfl rfl) (q_nx (s1 := ⟨[.dat (.str x), .dat (.str (head ("book" : Str) (d : Int))), .own ((qs.map line).map D.str), .dat (.int (d : Int)), .own [], .un, .un, .un, .un], []⟩) rfl (q_nx e7 (q_nx (s1 := ⟨[.dat (.str x), .dat (.str (head ("book" : Str) (d : Int))), .dat (.lst ((qs.map line).map D.str)), .dat (.int (d : Int)), .own (qs.map lineD), u, v, w, .dat (sysD d qs)], []⟩) rfl hr)))))
  cases c : isBook qs with
  | true =>
    rw [c] at t
    rw [if_pos rfl]
    refine ret_data (s1 := ⟨[.dat (.str x), .dat (.str (head ("book" : Str) (d : Int))), .dat (.lst ((qs.map line).map D.str)), .dat (.int (d : Int)), .own (qs.map lineD), u, v, w, .dat (sysD d qs)], []⟩) ?_ rfl
    rw [show initS 9 [.dat (.str x)] = ⟨[.dat (.str x), .un, .un, .un, .un, .un, .un, .un, .un], []⟩ from rfl]
    unfold b_p_read_book
    exact pre (q_nx (s1 := ⟨[.dat (.str x), .dat (.str (head ("book" : Str) (d : Int))), .dat (.lst ((qs.map line).map D.str)), .dat (.int (d : Int)), .own (qs.map lineD), u, v, w, .dat (sysD d qs)], []⟩) (q_iff t rfl) rfl)
  | false =>
    rw [c] at t
    rw [if_neg (by decide)]
    refine ret_exd (s1 := ⟨[.dat (.str x), .dat (.str (head ("book" : Str) (d : Int))), .dat (.lst ((qs.map line).map D.str)), .dat (.int (d : Int)), .own (qs.map lineD), u, v, w, .dat (sysD d qs)], []⟩) ?_ rfl
    rw [show initS 9 [.dat (.str x)] = ⟨[.dat (.str x), .un, .un, .un, .un, .un, .un, .un, .un], []⟩ from rfl]
    unfold b_p_read_book
    exact pre (seq_ex (q_ift t rfl))
end Dn.Ka
end
section
set_option Elab.async false
set_option linter.all false
set_option maxRecDepth 100000
set_option maxHeartbeats 4000000
namespace Dn.Ka
open PySem PySem.Spec PyProof.Rows L2
/-! ### what is asked -/
abbrev Ask : Type := Str × Str × D
def askD (a : Ask) : D := .tup [.str a.1, .str a.2.1, a.2.2]
structure Good (a : Ask) : Prop where
  r : g_z_law_read [.dat (.str a.1), .dat (.str a.2.1)] = .ret (.dat a.2.2) []
  s7 : Same 7 a.2.2
  s8 : Same 8 a.2.2
theorem cut_last {α : Type} (A B : List α) (hb : 0 < B.length) : cutD (A ++ B) (some (-(B.length : Int))) none = B := by
  unfold cutD
  rw [HT.sIx_none]
  have e : HT.sIx (A ++ B).length 0 (some (-(B.length : Int))) = A.length := by
    unfold HT.sIx
    simp only
    rw [if_pos (by omega), List.length_append]
    omega
  rw [e, List.drop_left, List.length_append, Nat.add_sub_cancel_left, List.take_length]
theorem read_lc5 {s0 s1 s2 s3 s4 : Slot} {bo : List (List D)} : ∀ B : List Ask, (∀ a ∈ B, Good a) → lcL (gT 3 (gsC (gN 5) (gsC (gN 6) (gsC (gN 7) gsN)))) dTrue (dCall g_z_law_read (dCons (dFz (dVar 5)) (dCons (dFz (dVar 6)) dNil))) [5, 6, 7] (B.map askD) ⟨[s0, s1, s2, s3, s4, .un, .un, .un], bo⟩ = .ok (B.map (·.2.2)) ⟨[s0, s1, s2, s3, s4, .un, .un, .un], bo⟩
  | [], _ => rfl
  | a :: B, h => by
    have v5 : dVar 5 ⟨[s0, s1, s2, s3, s4, .dat (.str a.1), .dat (.str a.2.1), .dat a.2.2], bo⟩ = .ok (.d (.str a.1)) ⟨[s0, s1, s2, s3, s4, .dat (.str a.1), .dat (.str a.2.1), .dat a.2.2], bo⟩ := rfl
    have v6 : dVar 6 ⟨[s0, s1, s2, s3, s4, .dat (.str a.1), .dat (.str a.2.1), .dat a.2.2], bo⟩ = .ok (.d (.str a.2.1)) ⟨[s0, s1, s2, s3, s4, .dat (.str a.1), .dat (.str a.2.1), .dat a.2.2], bo⟩ := rfl
    have e := fz_d (call2 v5 rfl v6 rfl (h a List.mem_cons_self).r)
    rw [List.map_cons, lcL, show (gT 3 (gsC (gN 5) (gsC (gN 6) (gsC (gN 7) gsN)))) (askD a) ⟨[s0, s1, s2, s3, s4, .un, .un, .un], bo⟩ = some ⟨[s0, s1, s2, s3, s4, .dat (.str a.1), .dat (.str a.2.1), .dat a.2.2], bo⟩ from rfl]
    simp only [s_true, s_bind_ok, Res.calm]
    rw [e]
    simp only [s_bind_ok, Res.calm, onD]
    rw [show wipeS [5, 6, 7] (⟨[s0, s1, s2, s3, s4, .dat (.str a.1), .dat (.str a.2.1), .dat a.2.2], bo⟩ : Sx) = ⟨[s0, s1, s2, s3, s4, .un, .un, .un], bo⟩ from rfl, read_lc5 B fun z hz => h z (List.mem_cons_of_mem _ hz)]
    rfl
theorem due_lc5 {s0 s1 s2 s3 s4 : Slot} {bo : List (List D)} : ∀ B : List Ask, lcL (gT 3 (gsC (gN 5) (gsC (gN 6) (gsC (gN 7) gsN)))) dTrue (dVar 7) [5, 6, 7] (B.map askD) ⟨[s0, s1, s2, s3, s4, .un, .un, .un], bo⟩ = .ok (B.map (·.2.2)) ⟨[s0, s1, s2, s3, s4, .un, .un, .un], bo⟩
  | [] => rfl
  | a :: B => by
    rw [List.map_cons, lcL, show (gT 3 (gsC (gN 5) (gsC (gN 6) (gsC (gN 7) gsN)))) (askD a) ⟨[s0, s1, s2, s3, s4, .un, .un, .un], bo⟩ = some ⟨[s0, s1, s2, s3, s4, .dat (.str a.1), .dat (.str a.2.1), .dat a.2.2], bo⟩ from rfl]
    simp only [s_true, s_bind_ok, Res.calm]
    rw [show dFz (dVar 7) ⟨[s0, s1, s2, s3, s4, .dat (.str a.1), .dat (.str a.2.1), .dat a.2.2], bo⟩ = .ok (.d a.2.2) ⟨[s0, s1, s2, s3, s4, .dat (.str a.1), .dat (.str a.2.1), .dat a.2.2], bo⟩ from rfl]
    simp only [s_bind_ok, Res.calm, onD]
    rw [show wipeS [5, 6, 7] (⟨[s0, s1, s2, s3, s4, .dat (.str a.1), .dat (.str a.2.1), .dat a.2.2], bo⟩ : Sx) = ⟨[s0, s1, s2, s3, s4, .un, .un, .un], bo⟩ from rfl, due_lc5 B]
    rfl
theorem read_lc7 {s0 s1 s2 s3 s4 s5 s6 : Slot} {bo : List (List D)} : ∀ B : List Ask, (∀ a ∈ B, Good a) → lcL (gT 3 (gsC (gN 7) (gsC (gN 8) (gsC (gN 9) gsN)))) dTrue (dCall g_z_law_read (dCons (dFz (dVar 7)) (dCons (dFz (dVar 8)) dNil))) [7, 8, 9] (B.map askD) ⟨[s0, s1, s2, s3, s4, s5, s6, .un, .un, .un], bo⟩ = .ok (B.map (·.2.2)) ⟨[s0, s1, s2, s3, s4, s5, s6, .un, .un, .un], bo⟩
  | [], _ => rfl
  | a :: B, h => by
    have v5 : dVar 7 ⟨[s0, s1, s2, s3, s4, s5, s6, .dat (.str a.1), .dat (.str a.2.1), .dat a.2.2], bo⟩ = .ok (.d (.str a.1)) ⟨[s0, s1, s2, s3, s4, s5, s6, .dat (.str a.1), .dat (.str a.2.1), .dat a.2.2], bo⟩ := rfl
    have v6 : dVar 8 ⟨[s0, s1, s2, s3, s4, s5, s6, .dat (.str a.1), .dat (.str a.2.1), .dat a.2.2], bo⟩ = .ok (.d (.str a.2.1)) ⟨[s0, s1, s2, s3, s4, s5, s6, .dat (.str a.1), .dat (.str a.2.1), .dat a.2.2], bo⟩ := rfl
    have e := fz_d (call2 v5 rfl v6 rfl (h a List.mem_cons_self).r)
    rw [List.map_cons, lcL, show (gT 3 (gsC (gN 7) (gsC (gN 8) (gsC (gN 9) gsN)))) (askD a) ⟨[s0, s1, s2, s3, s4, s5, s6, .un, .un, .un], bo⟩ = some ⟨[s0, s1, s2, s3, s4, s5, s6, .dat (.str a.1), .dat (.str a.2.1), .dat a.2.2], bo⟩ from rfl]
    simp only [s_true, s_bind_ok, Res.calm]
    rw [e]
    simp only [s_bind_ok, Res.calm, onD]
    rw [show wipeS [7, 8, 9] (⟨[s0, s1, s2, s3, s4, s5, s6, .dat (.str a.1), .dat (.str a.2.1), .dat a.2.2], bo⟩ : Sx) = ⟨[s0, s1, s2, s3, s4, s5, s6, .un, .un, .un], bo⟩ from rfl, read_lc7 B fun z hz => h z (List.mem_cons_of_mem _ hz)]
    rfl
theorem due_lc7 {s0 s1 s2 s3 s4 s5 s6 : Slot} {bo : List (List D)} : ∀ B : List Ask, lcL (gT 3 (gsC (gN 7) (gsC (gN 8) (gsC (gN 9) gsN)))) dTrue (dVar 9) [7, 8, 9] (B.map askD) ⟨[s0, s1, s2, s3, s4, s5, s6, .un, .un, .un], bo⟩ = .ok (B.map (·.2.2)) ⟨[s0, s1, s2, s3, s4, s5, s6, .un, .un, .un], bo⟩
  | [] => rfl
  | a :: B => by
    rw [List.map_cons, lcL, show (gT 3 (gsC (gN 7) (gsC (gN 8) (gsC (gN 9) gsN)))) (askD a) ⟨[s0, s1, s2, s3, s4, s5, s6, .un, .un, .un], bo⟩ = some ⟨[s0, s1, s2, s3, s4, s5, s6, .dat (.str a.1), .dat (.str a.2.1), .dat a.2.2], bo⟩ from rfl]
    simp only [s_true, s_bind_ok, Res.calm]
    rw [show dFz (dVar 9) ⟨[s0, s1, s2, s3, s4, s5, s6, .dat (.str a.1), .dat (.str a.2.1), .dat a.2.2], bo⟩ = .ok (.d a.2.2) ⟨[s0, s1, s2, s3, s4, s5, s6, .dat (.str a.1), .dat (.str a.2.1), .dat a.2.2], bo⟩ from rfl]
    simp only [s_bind_ok, Res.calm, onD]
    rw [show wipeS [7, 8, 9] (⟨[s0, s1, s2, s3, s4, s5, s6, .dat (.str a.1), .dat (.str a.2.1), .dat a.2.2], bo⟩ : Sx) = ⟨[s0, s1, s2, s3, s4, s5, s6, .un, .un, .un], bo⟩ from rfl, due_lc7 B]
    rfl
/-- asked.append(..) -/
theorem app_b {sl : List Slot} {b A : List D} {f : Sx → Res Pv} {p : Pv} {x : D} (h1 : sl[1]? = some (.bor 1)) (hf : f ⟨sl, [b, A]⟩ = .ok p ⟨sl, [b, A]⟩) (hp : p.cold = .d x) (hl : A.length ≤ 1000) : dDrop (dApp (dPl 1) f) ⟨sl, [b, A]⟩ = .ok .nx ⟨sl, [b, A ++ [x]]⟩ := by
  refine drop_of (p := .d .non) ?_
  have e : dPl 1 ⟨sl, [b, A]⟩ = .ok (.pl 1) ⟨sl, [b, A]⟩ := by rw [s_pl, h1]
  unfold dApp
  rw [e, s_bind_ok]
  unfold onPl
  simp only
  rw [fz_of hf, s_bind_ok, hp]
  unfold endApp
  simp only [s_cont, h1, List.getElem?_cons_succ, List.getElem?_cons_zero]
  rw [if_pos (by unfold LIM; omega)]
  simp [putAt, h1]
theorem two_of {f g : Sx → Res Pv} {s : Sx} {x y : D} (hf : f s = .ok (.d x) s) (hg : g s = .ok (.d y) s) : dLst (dCons (dFz f) (dCons (dFz g) dNil)) s = .ok (.fr [x, y]) s := by
  rw [s_lst, s_cons, fz_d hf, s_bind_ok, s_cons, fz_d hg]
  rfl
theorem three_of {f g h : Sx → Res Pv} {s : Sx} {x y z : D} (hf : f s = .ok (.d x) s) (hg : g s = .ok (.d y) s) {p : Pv} (hh : h s = .ok p s) (hp : p.cold = .d z) : dTup (dCons (dFz f) (dCons (dFz g) (dCons (dFz h) dNil))) s = .ok (.d (.tup [x, y, z])) s := by
  rw [s_tup, s_cons, fz_d hf, s_bind_ok, s_cons, fz_d hg, s_bind_ok, s_cons, fz_of hh, hp]
  rfl
theorem sys_ok {d : Nat} {qs : List (List Int × Int)} (d1 : 1 ≤ d) (d2 : d ≤ 12) (n : qs.length ≤ 20) {g : Nat} (g3 : g ≤ 300) (h : QOk d g qs) : SysOk d qs :=
  ⟨d1, d2, n, fun q hq => ⟨⟨by rw [(h q hq).1]; exact d2, fun i hi => Nat.lt_of_lt_of_le ((h q hq).2.1 i hi) (Nat.pow_le_pow_right (by decide) g3)⟩, Nat.lt_of_lt_of_le (h q hq).2.2 (Nat.pow_le_pow_right (by decide) g3)⟩, fun q hq => (h q hq).1⟩
theorem sys_9 {d : Nat} {qs : List (List Int × Int)} (d1 : 1 ≤ d) (d2 : d ≤ 12) (h : QOk d 9 qs) : ∀ q ∈ qs, Q9 q := fun q hq =>
  ⟨⟨⟨fun e => by have := (h q hq).1; rw [e, List.length_nil] at this; omega, by rw [(h q hq).1]; exact d2⟩, (h q hq).2.1⟩, (h q hq).2.2⟩
theorem bun_ok {d : Nat} {rs : List (List Int)} (d1 : 1 ≤ d) (d2 : d ≤ 12) (n : rs.length ≤ 20) {g : Nat} (g3 : g ≤ 300) (h : RowsOk d g rs) : BunOk d rs :=
  ⟨d1, d2, n, fun r hr => ⟨by rw [(h r hr).1.1]; exact d2, fun i hi => Nat.lt_of_lt_of_le ((h r hr).2 i hi) (Nat.pow_le_pow_right (by decide) g3)⟩, fun r hr => (h r hr).1⟩
theorem bun_9 {d : Nat} {rs : List (List Int)} (d1 : 1 ≤ d) (d2 : d ≤ 12) (h : RowsOk d 9 rs) : ∀ r ∈ rs, Row9 r := fun r hr =>
  ⟨⟨fun e => by have := (h r hr).1.1; rw [e, List.length_nil] at this; omega, by rw [(h r hr).1.1]; exact d2⟩, (h r hr).2⟩
theorem same_pair {n : Nat} {x : D} (h : Same n x) : Same (n + 1) (.lst [x, x]) := same_lst (by simp) (same_two h h)
theorem good_system {d : Nat} {qs : List (List Int × Int)} (h : SysOk d qs) (h9 : ∀ q ∈ qs, Q9 q) : Good (("system" : Str), sysT ("system" : Str) d qs, .lst [sysD d qs, sysD d qs]) :=
  ⟨lread_system.1 (read_system_ok (headed_sys h h9 _ wd_system) (is_system_of h.d1 h.l)), same_pair (same_sys 1 h), same_pair (same_sys 2 h)⟩
theorem good_book {d : Nat} {qs : List (List Int × Int)} (h : SysOk d qs) (h9 : ∀ q ∈ qs, Q9 q) : ∃ v, Good (("book" : Str), sysT ("book" : Str) d qs, v) ∧ (isBook qs = true → v = .lst [sysD d qs, sysD d qs]) ∧ (isBook qs = false → v = .int 0) := by
  have z := read_book_of h h9
  by_cases c : isBook qs = true
  · rw [if_pos c] at z
    exact ⟨_, ⟨lread_book.1 z, same_pair (same_sys 1 h), same_pair (same_sys 2 h)⟩, fun _ => rfl, fun e => by rw [c] at e; cases e⟩
  · rw [if_neg c] at z
    exact ⟨_, ⟨lread_book.2 z, same_int 6 0, same_int 7 0⟩, fun e => absurd e c, fun _ => rfl⟩
theorem good_other {d : Nat} {qs : List (List Int × Int)} (h : SysOk d qs) : Good (("bundle" : Str), sysT ("system" : Str) d qs, .int 1) :=
  ⟨lread_bundle.2 (read_bundle_ex (headed_no_sys h wd_system 1 (by decide +kernel))), same_int 6 1, same_int 7 1⟩
theorem systems_right {N : Nat} {xs : List D} {A : List Ask} (h : Vb N xs) (hN : N ≤ 10 ^ 8) (hl : A.length ≤ 500) (hA : ∀ a ∈ A, Good a) :
    ∃ (xs' : List D) (A' : List Ask), g_z_law_systems_right [.mut xs, .mut (A.map askD)] = .ret (.dat (.bl true)) [xs', A'.map askD] ∧ A'.length = A.length + 3 ∧ (∀ a ∈ A', Good a) ∧ Vb (N + 200000) xs' := by
  obtain ⟨d, qs, xs1, e0, ⟨⟨d1, d2⟩, n⟩, hq, hb⟩ := system_spec (g := 9) h hN (by decide) (by decide)
  have ok := sys_ok d1 d2 n (by decide) hq
  have h9 := sys_9 d1 d2 hq
  obtain ⟨vb, gb, vb1, vb2⟩ := good_book ok h9
  have e1 : dSet 2 (dCall g_z_law_system (dCons (dFz (dPl 0)) (dCons (dFz (dC (.int 9))) dNil))) ⟨[.bor 0, .bor 1, .un, .un, .un, .un, .un, .un], [xs, A.map askD]⟩ = .ok .nx ⟨[.bor 0, .bor 1, .dat (sysD d qs), .un, .un, .un, .un, .un], [xs1, A.map askD]⟩ := set_d (callb2 (f := dC (.int 9)) (p := .d (.int 9)) (sl := [.bor 0, .bor 1, .un, .un, .un, .un, .un, .un]) rfl rfl rfl e0) (by simp)
  have v2 : dVar 2 ⟨[.bor 0, .bor 1, .dat (sysD d qs), .un, .un, .un, .un, .un], [xs1, A.map askD]⟩ = .ok (.d (sysD d qs)) ⟨[.bor 0, .bor 1, .dat (sysD d qs), .un, .un, .un, .un, .un], [xs1, A.map askD]⟩ := rfl
  have cs : ∀ w : Str, dC (.str w) ⟨[.bor 0, .bor 1, .dat (sysD d qs), .un, .un, .un, .un, .un], [xs1, A.map askD]⟩ = .ok (.d (.str w)) ⟨[.bor 0, .bor 1, .dat (sysD d qs), .un, .un, .un, .un, .un], [xs1, A.map askD]⟩ := fun _ => rfl
  have e2 : dPar 3 4 (dCons (dFz (dCall g_z_law_said_system (dCons (dFz (dC (.str ("system" : Str)))) (dCons (dFz (dVar 2)) dNil)))) (dCons (dFz (dCall g_z_law_said_system (dCons (dFz (dC (.str ("book" : Str)))) (dCons (dFz (dVar 2)) dNil)))) dNil)) ⟨[.bor 0, .bor 1, .dat (sysD d qs), .un, .un, .un, .un, .un], [xs1, A.map askD]⟩ = .ok .nx ⟨[.bor 0, .bor 1, .dat (sysD d qs), .dat (.str (sysT ("system" : Str) d qs)), .dat (.str (sysT ("book" : Str) d qs)), .un, .un, .un], [xs1, A.map askD]⟩ := by
    rw [s_par, s_cons, fz_d (call2 (cs _) rfl v2 rfl (law_said_system_of wd_system ok)), s_bind_ok, s_cons, fz_d (call2 (cs _) rfl v2 rfl (law_said_system_of wd_book ok))]
    rfl
  have w2 : ∀ bo, dVar 2 ⟨[.bor 0, .bor 1, .dat (sysD d qs), .dat (.str (sysT ("system" : Str) d qs)), .dat (.str (sysT ("book" : Str) d qs)), .un, .un, .un], bo⟩ = .ok (.d (sysD d qs)) ⟨[.bor 0, .bor 1, .dat (sysD d qs), .dat (.str (sysT ("system" : Str) d qs)), .dat (.str (sysT ("book" : Str) d qs)), .un, .un, .un], bo⟩ := fun _ => rfl
  have w3 : ∀ bo, dVar 3 ⟨[.bor 0, .bor 1, .dat (sysD d qs), .dat (.str (sysT ("system" : Str) d qs)), .dat (.str (sysT ("book" : Str) d qs)), .un, .un, .un], bo⟩ = .ok (.d (.str (sysT ("system" : Str) d qs))) ⟨[.bor 0, .bor 1, .dat (sysD d qs), .dat (.str (sysT ("system" : Str) d qs)), .dat (.str (sysT ("book" : Str) d qs)), .un, .un, .un], bo⟩ := fun _ => rfl
  have w4 : ∀ bo, dVar 4 ⟨[.bor 0, .bor 1, .dat (sysD d qs), .dat (.str (sysT ("system" : Str) d qs)), .dat (.str (sysT ("book" : Str) d qs)), .un, .un, .un], bo⟩ = .ok (.d (.str (sysT ("book" : Str) d qs))) ⟨[.bor 0, .bor 1, .dat (sysD d qs), .dat (.str (sysT ("system" : Str) d qs)), .dat (.str (sysT ("book" : Str) d qs)), .un, .un, .un], bo⟩ := fun _ => rfl
  have s3 : dCall (g_z_law_same 8) (dCons (dFz (dLst (dCons (dFz (dCall g_p_show_system (dCons (dFz (dVar 2)) dNil))) (dCons (dFz (dCallK [0] g_p_show_system (dCons (dFz (dVar 2)) dNil))) dNil)))) (dCons (dFz (dLst (dCons (dFz (dVar 3)) (dCons (dFz (dVar 3)) dNil)))) dNil)) ⟨[.bor 0, .bor 1, .dat (sysD d qs), .dat (.str (sysT ("system" : Str) d qs)), .dat (.str (sysT ("book" : Str) d qs)), .un, .un, .un], [xs1, A.map askD]⟩ = .ok (.d (.bl true)) ⟨[.bor 0, .bor 1, .dat (sysD d qs), .dat (.str (sysT ("system" : Str) d qs)), .dat (.str (sysT ("book" : Str) d qs)), .un, .un, .un], [xs1, A.map askD]⟩ :=
    call2 (two_of (call1 (w2 _) rfl (show_system_of ok)) (call1k (w2 _) rfl (show_system_of ok))) rfl (two_of (w3 _) (w3 _)) rfl (same_pair (same_str 6 _))
  have a1 : dDrop (dApp (dPl 1) (dTup (dCons (dFz (dC (.str ("system" : Str)))) (dCons (dFz (dVar 3)) (dCons (dFz (dLst (dCons (dFz (dVar 2)) (dCons (dFz (dVar 2)) dNil)))) dNil))))) ⟨[.bor 0, .bor 1, .dat (sysD d qs), .dat (.str (sysT ("system" : Str) d qs)), .dat (.str (sysT ("book" : Str) d qs)), .un, .un, .un], [xs1, A.map askD]⟩ = .ok .nx ⟨[.bor 0, .bor 1, .dat (sysD d qs), .dat (.str (sysT ("system" : Str) d qs)), .dat (.str (sysT ("book" : Str) d qs)), .un, .un, .un], [xs1, (A.map askD ++ [askD (("system" : Str), (sysT ("system" : Str) d qs), D.lst [sysD d qs, sysD d qs])])]⟩ :=
    app_b rfl (three_of (by rfl) (w3 _) (two_of (w2 _) (w2 _)) rfl) rfl (by rw [List.length_map]; omega)
  have bk : ∀ bo, dTest (dCall g_z_law_is_book (dCons (dFz (dVar 2)) dNil)) ⟨[.bor 0, .bor 1, .dat (sysD d qs), .dat (.str (sysT ("system" : Str) d qs)), .dat (.str (sysT ("book" : Str) d qs)), .un, .un, .un], bo⟩ = .ok (isBook qs) ⟨[.bor 0, .bor 1, .dat (sysD d qs), .dat (.str (sysT ("system" : Str) d qs)), .dat (.str (sysT ("book" : Str) d qs)), .un, .un, .un], bo⟩ := fun bo => test_of (call1 (w2 bo) rfl (law_is_book_of ok h9))
  have a2 : dDrop (dApp (dPl 1) (dTup (dCons (dFz (dC (.str ("book" : Str)))) (dCons (dFz (dVar 4)) (dCons (dFz (dIf (dTest (dCall g_z_law_is_book (dCons (dFz (dVar 2)) dNil))) (dLst (dCons (dFz (dVar 2)) (dCons (dFz (dVar 2)) dNil))) (dC (.int 0)))) dNil))))) ⟨[.bor 0, .bor 1, .dat (sysD d qs), .dat (.str (sysT ("system" : Str) d qs)), .dat (.str (sysT ("book" : Str) d qs)), .un, .un, .un], [xs1, (A.map askD ++ [askD (("system" : Str), (sysT ("system" : Str) d qs), D.lst [sysD d qs, sysD d qs])])]⟩ = .ok .nx ⟨[.bor 0, .bor 1, .dat (sysD d qs), .dat (.str (sysT ("system" : Str) d qs)), .dat (.str (sysT ("book" : Str) d qs)), .un, .un, .un], [xs1, ((A.map askD ++ [askD (("system" : Str), (sysT ("system" : Str) d qs), D.lst [sysD d qs, sysD d qs])]) ++ [askD (("book" : Str), (sysT ("book" : Str) d qs), vb)])]⟩ := by
    by_cases c : isBook qs = true
    · have e := vb1 c
      subst e
      exact app_b rfl (three_of (by rfl) (w4 _) (q_ift ((bk _).trans (congrArg (fun b => Res.ok b _) c)) (two_of (w2 _) (w2 _))) rfl) (by rfl) (by rw [List.length_append, List.length_map]; simp only [List.length_cons, List.length_nil]; omega)
    · have c : isBook qs = false := by simpa using c
      have e := vb2 c
      subst e
      exact app_b rfl (three_of (by rfl) (w4 _) (q_iff ((bk _).trans (congrArg (fun b => Res.ok b _) c)) (by rfl)) (p := .d (.int 0)) rfl) (by rfl) (by rw [List.length_append, List.length_map]; simp only [List.length_cons, List.length_nil]; omega)
  have a3 : dDrop (dApp (dPl 1) (dTup (dCons (dFz (dC (.str ("bundle" : Str)))) (dCons (dFz (dVar 3)) (dCons (dFz (dC (.int 1))) dNil))))) ⟨[.bor 0, .bor 1, .dat (sysD d qs), .dat (.str (sysT ("system" : Str) d qs)), .dat (.str (sysT ("book" : Str) d qs)), .un, .un, .un], [xs1, ((A.map askD ++ [askD (("system" : Str), (sysT ("system" : Str) d qs), D.lst [sysD d qs, sysD d qs])]) ++ [askD (("book" : Str), (sysT ("book" : Str) d qs), vb)])]⟩ = .ok .nx ⟨[.bor 0, .bor 1, .dat (sysD d qs), .dat (.str (sysT ("system" : Str) d qs)), .dat (.str (sysT ("book" : Str) d qs)), .un, .un, .un], [xs1, (((A.map askD ++ [askD (("system" : Str), (sysT ("system" : Str) d qs), D.lst [sysD d qs, sysD d qs])]) ++ [askD (("book" : Str), (sysT ("book" : Str) d qs), vb)]) ++ [askD (("bundle" : Str), (sysT ("system" : Str) d qs), D.int 1)])]⟩ :=
    app_b rfl (three_of (by rfl) (w3 _) (p := .d (.int 1)) (by rfl) rfl) rfl (by rw [List.length_append, List.length_append, List.length_map]; simp only [List.length_cons, List.length_nil]; omega)
  have s7 : dCall (g_z_law_same 8) (dCons (dFz (dLst (dCons (dFz (dCall g_p_show_book (dCons (dFz (dVar 2)) dNil))) (dCons (dFz (dCallK [0] g_p_show_book (dCons (dFz (dVar 2)) dNil))) dNil)))) (dCons (dFz (dLst (dCons (dFz (dVar 4)) (dCons (dFz (dVar 4)) dNil)))) dNil)) ⟨[.bor 0, .bor 1, .dat (sysD d qs), .dat (.str (sysT ("system" : Str) d qs)), .dat (.str (sysT ("book" : Str) d qs)), .un, .un, .un], [xs1, (((A.map askD ++ [askD (("system" : Str), (sysT ("system" : Str) d qs), D.lst [sysD d qs, sysD d qs])]) ++ [askD (("book" : Str), (sysT ("book" : Str) d qs), vb)]) ++ [askD (("bundle" : Str), (sysT ("system" : Str) d qs), D.int 1)])]⟩ = .ok (.d (.bl true)) ⟨[.bor 0, .bor 1, .dat (sysD d qs), .dat (.str (sysT ("system" : Str) d qs)), .dat (.str (sysT ("book" : Str) d qs)), .un, .un, .un], [xs1, (((A.map askD ++ [askD (("system" : Str), (sysT ("system" : Str) d qs), D.lst [sysD d qs, sysD d qs])]) ++ [askD (("book" : Str), (sysT ("book" : Str) d qs), vb)]) ++ [askD (("bundle" : Str), (sysT ("system" : Str) d qs), D.int 1)])]⟩ :=
    call2 (two_of (call1 (w2 _) rfl (show_book_of ok)) (call1k (w2 _) rfl (show_book_of ok))) rfl (two_of (w4 _) (w4 _)) rfl (same_pair (same_str 6 _))
  have t7 : dAnd (dTest (dCall g_z_law_is_book (dCons (dFz (dVar 2)) dNil))) (dNot (dTest (dCall (g_z_law_same 8) (dCons (dFz (dLst (dCons (dFz (dCall g_p_show_book (dCons (dFz (dVar 2)) dNil))) (dCons (dFz (dCallK [0] g_p_show_book (dCons (dFz (dVar 2)) dNil))) dNil)))) (dCons (dFz (dLst (dCons (dFz (dVar 4)) (dCons (dFz (dVar 4)) dNil)))) dNil))))) ⟨[.bor 0, .bor 1, .dat (sysD d qs), .dat (.str (sysT ("system" : Str) d qs)), .dat (.str (sysT ("book" : Str) d qs)), .un, .un, .un], [xs1, (((A.map askD ++ [askD (("system" : Str), (sysT ("system" : Str) d qs), D.lst [sysD d qs, sysD d qs])]) ++ [askD (("book" : Str), (sysT ("book" : Str) d qs), vb)]) ++ [askD (("bundle" : Str), (sysT ("system" : Str) d qs), D.int 1)])]⟩ = .ok false ⟨[.bor 0, .bor 1, .dat (sysD d qs), .dat (.str (sysT ("system" : Str) d qs)), .dat (.str (sysT ("book" : Str) d qs)), .un, .un, .un], [xs1, (((A.map askD ++ [askD (("system" : Str), (sysT ("system" : Str) d qs), D.lst [sysD d qs, sysD d qs])]) ++ [askD (("book" : Str), (sysT ("book" : Str) d qs), vb)]) ++ [askD (("bundle" : Str), (sysT ("system" : Str) d qs), D.int 1)])]⟩ := by
    by_cases c : isBook qs = true
    · exact q_andt ((bk _).trans (congrArg (fun b => Res.ok b _) c)) (q_not (test_of s7))
    · have c : isBook qs = false := by simpa using c
      exact and_f ((bk _).trans (congrArg (fun b => Res.ok b _) c))
  have eB : (((A.map askD ++ [askD (("system" : Str), (sysT ("system" : Str) d qs), D.lst [sysD d qs, sysD d qs])]) ++ [askD (("book" : Str), (sysT ("book" : Str) d qs), vb)]) ++ [askD (("bundle" : Str), (sysT ("system" : Str) d qs), D.int 1)]) = (A ++ [(("system" : Str), (sysT ("system" : Str) d qs), D.lst [sysD d qs, sysD d qs]), (("book" : Str), (sysT ("book" : Str) d qs), vb), (("bundle" : Str), (sysT ("system" : Str) d qs), D.int 1)]).map askD := by
    rw [List.map_append, List.append_assoc, List.append_assoc]
    rfl
  have gd : ∀ a ∈ [(("system" : Str), (sysT ("system" : Str) d qs), D.lst [sysD d qs, sysD d qs]), (("book" : Str), (sysT ("book" : Str) d qs), vb), (("bundle" : Str), (sysT ("system" : Str) d qs), D.int 1)], Good a := fun a ha => by
    rcases List.mem_cons.mp ha with rfl | ha
    · exact good_system ok h9
    · rcases List.mem_cons.mp ha with rfl | ha
      · exact gb
      · rw [List.mem_singleton.mp ha]
        exact good_other ok
  have it : dItems (dSl (dPl 1) (dPart (dOp1 opNeg (dC (.int 3)))) dNone) ⟨[.bor 0, .bor 1, .dat (sysD d qs), .dat (.str (sysT ("system" : Str) d qs)), .dat (.str (sysT ("book" : Str) d qs)), .un, .un, .un], [xs1, (A ++ [(("system" : Str), (sysT ("system" : Str) d qs), D.lst [sysD d qs, sysD d qs]), (("book" : Str), (sysT ("book" : Str) d qs), vb), (("bundle" : Str), (sysT ("system" : Str) d qs), D.int 1)]).map askD]⟩ = .ok ([(("system" : Str), (sysT ("system" : Str) d qs), D.lst [sysD d qs, sysD d qs]), (("book" : Str), (sysT ("book" : Str) d qs), vb), (("bundle" : Str), (sysT ("system" : Str) d qs), D.int 1)].map askD) ⟨[.bor 0, .bor 1, .dat (sysD d qs), .dat (.str (sysT ("system" : Str) d qs)), .dat (.str (sysT ("book" : Str) d qs)), .un, .un, .un], [xs1, (A ++ [(("system" : Str), (sysT ("system" : Str) d qs), D.lst [sysD d qs, sysD d qs]), (("book" : Str), (sysT ("book" : Str) d qs), vb), (("bundle" : Str), (sysT ("system" : Str) d qs), D.int 1)]).map askD]⟩ := by
    have c := cut_last (A.map askD) ([(("system" : Str), (sysT ("system" : Str) d qs), D.lst [sysD d qs, sysD d qs]), (("book" : Str), (sysT ("book" : Str) d qs), vb), (("bundle" : Str), (sysT ("system" : Str) d qs), D.int 1)].map askD) (by simp)
    rw [← List.map_append] at c
    have e : dSl (dPl 1) (dPart (dOp1 opNeg (dC (.int 3)))) dNone ⟨[.bor 0, .bor 1, .dat (sysD d qs), .dat (.str (sysT ("system" : Str) d qs)), .dat (.str (sysT ("book" : Str) d qs)), .un, .un, .un], [xs1, (A ++ [(("system" : Str), (sysT ("system" : Str) d qs), D.lst [sysD d qs, sysD d qs]), (("book" : Str), (sysT ("book" : Str) d qs), vb), (("bundle" : Str), (sysT ("system" : Str) d qs), D.int 1)]).map askD]⟩ = .ok (.fr ([(("system" : Str), (sysT ("system" : Str) d qs), D.lst [sysD d qs, sysD d qs]), (("book" : Str), (sysT ("book" : Str) d qs), vb), (("bundle" : Str), (sysT ("system" : Str) d qs), D.int 1)].map askD)) ⟨[.bor 0, .bor 1, .dat (sysD d qs), .dat (.str (sysT ("system" : Str) d qs)), .dat (.str (sysT ("book" : Str) d qs)), .un, .un, .un], [xs1, (A ++ [(("system" : Str), (sysT ("system" : Str) d qs), D.lst [sysD d qs, sysD d qs]), (("book" : Str), (sysT ("book" : Str) d qs), vb), (("bundle" : Str), (sysT ("system" : Str) d qs), D.int 1)]).map askD]⟩ := by
      rw [← c]
      rfl
    exact items_of e rfl rfl
  have r1 := lc_of it rfl (read_lc5 (s0 := .bor 0) (s1 := .bor 1) (s2 := .dat (sysD d qs)) (s3 := .dat (.str (sysT ("system" : Str) d qs))) (s4 := .dat (.str (sysT ("book" : Str) d qs))) (bo := [xs1, (A ++ [(("system" : Str), (sysT ("system" : Str) d qs), D.lst [sysD d qs, sysD d qs]), (("book" : Str), (sysT ("book" : Str) d qs), vb), (("bundle" : Str), (sysT ("system" : Str) d qs), D.int 1)]).map askD]) _ gd)
  have r2 := lc_of it rfl (due_lc5 (s0 := .bor 0) (s1 := .bor 1) (s2 := .dat (sysD d qs)) (s3 := .dat (.str (sysT ("system" : Str) d qs))) (s4 := .dat (.str (sysT ("book" : Str) d qs))) (bo := [xs1, (A ++ [(("system" : Str), (sysT ("system" : Str) d qs), D.lst [sysD d qs, sysD d qs]), (("book" : Str), (sysT ("book" : Str) d qs), vb), (("bundle" : Str), (sysT ("system" : Str) d qs), D.int 1)]).map askD]) [(("system" : Str), (sysT ("system" : Str) d qs), D.lst [sysD d qs, sysD d qs]), (("book" : Str), (sysT ("book" : Str) d qs), vb), (("bundle" : Str), (sysT ("system" : Str) d qs), D.int 1)])
  have fin := call2 r1 rfl r2 rfl (same_lst (n := 7) (by simp) fun y hy => by
    obtain ⟨a, ha, rfl⟩ := List.mem_map.mp hy
    exact (gd a ha).s7)
  refine ⟨xs1, A ++ [(("system" : Str), (sysT ("system" : Str) d qs), D.lst [sysD d qs, sysD d qs]), (("book" : Str), (sysT ("book" : Str) d qs), vb), (("bundle" : Str), (sysT ("system" : Str) d qs), D.int 1)], ?_, by rw [List.length_append]; rfl, fun a ha => ?_, hb⟩
  · refine ret_bo (s1 := ⟨[.bor 0, .bor 1, .dat (sysD d qs), .dat (.str (sysT ("system" : Str) d qs)), .dat (.str (sysT ("book" : Str) d qs)), .un, .un, .un], [xs1, (A ++ [(("system" : Str), (sysT ("system" : Str) d qs), D.lst [sysD d qs, sysD d qs]), (("book" : Str), (sysT ("book" : Str) d qs), vb), (("bundle" : Str), (sysT ("system" : Str) d qs), D.int 1)]).map askD]⟩) ?_
    rw [show initS 8 [.mut xs, .mut (A.map askD)] = ⟨[.bor 0, .bor 1, .un, .un, .un, .un, .un, .un], [xs, A.map askD]⟩ from rfl]
    unfold b_z_law_systems_right
    rw [eB] at t7 a3
    exact q_nx e1 (q_nx e2 (q_nx (q_iff (q_not (test_of s3)) rfl) (q_nx a1 (q_nx a2 (q_nx a3 (q_nx (q_iff t7 rfl) (ret_of fin)))))))
  · rcases List.mem_append.mp ha with ha | ha
    · exact hA a ha
    · exact gd a ha
end Dn.Ka
end
section
set_option Elab.async false
set_option linter.all false
set_option maxRecDepth 100000
set_option maxHeartbeats 4000000
namespace Dn.Ka
open PySem PySem.Spec PyProof.Rows L2
theorem good_bundle {d : Nat} {rs : List (List Int)} (h : BunOk d rs) (h9 : ∀ r ∈ rs, Row9 r) : Good (("bundle" : Str), bunT ("bundle" : Str) d rs, .lst [bunD d rs, bunD d rs]) :=
  ⟨lread_bundle.1 (read_bundle_ok (headed_bun h h9 _ wd_bundle) (is_bundle_of h.d1 h.l)), same_pair (same_bun 2 h), same_pair (same_bun 3 h)⟩
theorem good_whole {r : List Int} (h : Row9 r) : Good (("whole" : Str), said r, .lst [rowD r, rowD r]) :=
  ⟨lread_whole.1 (read_whole_said h), same_pair (same_row 4 (Nat.le_trans h.1.2 (by decide))), same_pair (same_row 5 (Nat.le_trans h.1.2 (by decide)))⟩
theorem good_whole_not {d : Nat} {rs : List (List Int)} (h : BunOk d rs) : Good (("whole" : Str), bunT ("bundle" : Str) d rs, .int 1) :=
  ⟨lread_whole.2 (read_whole_bun h), same_int 6 1, same_int 7 1⟩
def unitD (d : Nat) : D := .tup [.int (d : Int), .tup []]
theorem same_unit (n : Nat) (d : Nat) : Same (n + 3) (unitD d) := same_tup (by simp) (same_two (same_int (n + 1) _) (same_tup (by simp) fun y hy => by cases hy))
theorem good_mix {d : Nat} {rs : List (List Int)} (h : BunOk d rs) (h9 : ∀ r ∈ rs, Row9 r) : ∃ v, Good (("system" : Str), bunT ("system" : Str) d rs, v) ∧ (rs ≠ [] → v = .int 2) ∧ (rs = [] → v = .lst [unitD d, unitD d]) := by
  have z := headed_mix h h9 ("system" : Str) wd_system
  by_cases c : rs = []
  · rw [if_pos c] at z
    refine ⟨_, ⟨lread_system.1 (read_system_ok z ?_), same_pair (same_unit 3 d), same_pair (same_unit 4 d)⟩, fun e => absurd c e, fun _ => rfl⟩
    exact is_system_of (qs := []) h.d1 fun q hq => by cases hq
  · rw [if_neg c] at z
    exact ⟨_, ⟨lread_system.2 (read_system_ex z), same_int 6 2, same_int 7 2⟩, fun _ => rfl, fun e => absurd e c⟩
theorem ne_unit (rs : List (List Int)) : opNe (.tup (rs.map rowD)) (.tup []) = some (.d (.bl (decide (rs ≠ [])))) := by
  obtain ⟨⟨h1, h2⟩, h3⟩ := shaped_rows rs
  have sh : SeqAt.shaped (.tuple (pys (rs.map rowD))) = true := by
    unfold SeqAt.shaped
    rw [show PyData.canLay0 (.tuple (pys (rs.map rowD))) = true from h1, Bool.true_and]
    refine decide_eq_true ?_
    have e : PyData.depth (.tuple (pys (rs.map rowD))) = PyData.depthAll (pys (rs.map rowD)) + 1 := by simp only [PyData.depth]
    omega
  have e : deq (.tup (rs.map rowD)) (.tup []) = if cmps (rs.map rowD) = true ∧ cmps [] = true ∧ SeqAt.shaped (.tuple (pys (rs.map rowD))) = true ∧ SeqAt.shaped (.tuple (pys [])) = true then some (PyData.eqv (.tuple (pys (rs.map rowD))) (.tuple (pys []))) else none := rfl
  unfold opNe
  rw [e, if_pos ⟨h3, rfl, sh, by decide +kernel⟩]
  cases rs with
  | nil => simp [pys, PyData.eqv, PyData.eqvAll]
  | cons r rs => simp [pys, PyData.eqv, PyData.eqvAll]
/-- the head cut off and another put there -/
theorem cut6 {d : Nat} {rs : List (List Int)} : ("system" : Str) ++ cutS (bunT ("bundle" : Str) d rs) (some 6) none = bunT ("system" : Str) d rs := by
  have tlb : ∀ w : Str, ∃ rest : List Nat, ∀ w : Str, TL.tl (bunT w d rs) = TL.tl w ++ rest := fun _ => by
    refine ⟨match rs.map said with
      | [] => TL.tl (" " : Str) ++ TL.tl (nt (d : Int))
      | z :: zs => TL.tl (" " : Str) ++ (TL.tl (nt (d : Int)) ++ (TL.tl ("\n" : Str) ++ TL.joinL (TL.tl ("\n" : Str)) ((z :: zs).map TL.tl))), fun w => ?_⟩
    unfold bunT text
    rw [TL.join_eq, TL.tl_join, List.map_cons]
    unfold head
    rw [TL.tl_append, TL.tl_append]
    cases rs.map said with
    | nil =>
      show TL.tl w ++ TL.tl (" " : Str) ++ TL.tl (nt (d : Int)) = _
      rw [List.append_assoc]
    | cons z zs =>
      show TL.tl w ++ TL.tl (" " : Str) ++ TL.tl (nt (d : Int)) ++ (TL.tl ("\n" : Str) ++ TL.joinL (TL.tl ("\n" : Str)) ((z :: zs).map TL.tl)) = _
      simp only [List.append_assoc]
  obtain ⟨rest, hr⟩ := tlb ("bundle" : Str)
  refine TL.ext_tl ?_
  rw [TL.tl_append, hr]
  congr 1
  unfold cutS
  rw [TL.tl_mk, HT.sIx_none]
  have lb : (TL.tl ("bundle" : Str)).length = 6 := by decide +kernel
  have ll : (bunT ("bundle" : Str) d rs).length = 6 + rest.length := by rw [TL.len_tl, hr, List.length_append, lb]
  have e : HT.sIx (bunT ("bundle" : Str) d rs).length 0 (some 6) = 6 := by
    rw [show (some (6 : Int)) = some ((6 : Nat) : Int) from rfl, HT.sIx_nat, ll]
    omega
  rw [e, show (bunT ("bundle" : Str) d rs).cps.toList = TL.tl ("bundle" : Str) ++ rest from hr ("bundle" : Str), ← lb, List.drop_left, ll]
  exact List.take_of_length_le (by omega)
theorem bundles_right {N : Nat} {xs : List D} {A : List Ask} (h : Vb N xs) (hN : N ≤ 10 ^ 7) (hl : A.length ≤ 500) (hA : ∀ a ∈ A, Good a) :
    ∃ (xs' : List D) (A' : List Ask), g_z_law_bundles_right [.mut xs, .mut (A.map askD)] = .ret (.dat (.bl true)) [xs', A'.map askD] ∧ A'.length = A.length + 4 ∧ (∀ a ∈ A', Good a) ∧ Vb (N + 300000) xs' := by
  obtain ⟨d, rs, xs1, e0, ⟨⟨d1, d2⟩, n⟩, hq, hb⟩ := bundle_spec (g := 9) h (by omega) (by decide) (by decide)
  have ok := bun_ok d1 d2 n (by decide) hq
  have h9 := bun_9 d1 d2 hq
  obtain ⟨vm, gm, vm1, vm2⟩ := good_mix ok h9
  have b0 := callb2 (f := dC (.int 9)) (p := .d (.int 9)) (sl := [.bor 0, .bor 1, .un, .un, .un, .un, .un, .un, .un, .un]) (bs := [A.map askD]) (xs := xs) rfl rfl rfl e0
  obtain ⟨t, xs2, e3, a3, b3, hb2⟩ := take_at (sl := [.bor 0, .bor 1, .un, .un, .un, .un, .un, .un, .un, .un]) (bs := [A.map askD]) hb (by omega) rfl (m := 12) (by decide) (by decide)
  have e4 := op2_of (op := opAdd) (f := dC (.int 1)) (p := .d (.int 1)) (s := ⟨[.bor 0, .bor 1, .un, .un, .un, .un, .un, .un, .un, .un], [xs1, A.map askD]⟩) rfl e3 rfl rfl (r := .d (.int (1 + t))) rfl
  have r4 := rng1_of e4 (by omega) (by omega)
  obtain ⟨pt, xs3, e5, pl, plt, hb3⟩ := ints_lc (g := 9) (f := dC (.int 9)) (j := 4) (sl := [.bor 0, .bor 1, .un, .un, .un, .un, .un, .un, .un, .un]) (bs := [A.map askD]) (by decide) (by decide) (by simp) (fun _ => rfl) (fun _ _ => rfl) (fun _ => rfl) (rng 0 (1 + t).toNat) _ xs2 hb2 (by rw [rng_length]; omega)
  rw [rng_length] at pl hb3
  have p9 : Row9 pt := ⟨⟨fun e => by rw [e, List.length_nil] at pl; omega, by omega⟩, plt⟩
  have e6 := b1_of (op := opTupl) (lc_of r4 rfl e5) (x := .lst (pt.map D.int)) rfl rfl
  have e1 : dPar 2 3 (dCons (dFz (dCall g_z_law_bundle (dCons (dFz (dPl 0)) (dCons (dFz (dC (.int 9))) dNil)))) (dCons (dFz (dB opTupl (dCons (dFz (dLc (dRng1 (dCons (dFz (dOp2 opAdd (dC (.int 1)) (dCall g_z_law_take (dCons (dFz (dPl 0)) (dCons (dFz (dC (.int 12))) dNil))))) dNil)) (gN 4) dTrue (dCall g_z_law_integer (dCons (dFz (dPl 0)) (dCons (dFz (dC (.int 9))) dNil))) [4])) dNil))) dNil)) ⟨[.bor 0, .bor 1, .un, .un, .un, .un, .un, .un, .un, .un], [xs, A.map askD]⟩ = .ok .nx ⟨[.bor 0, .bor 1, .dat (bunD d rs), .dat (rowD pt), .un, .un, .un, .un, .un, .un], [xs3, A.map askD]⟩ := by
    rw [s_par, s_cons, fz_d b0, s_bind_ok, s_cons, fz_d e6]
    rfl
  have v2 : dVar 2 ⟨[.bor 0, .bor 1, .dat (bunD d rs), .dat (rowD pt), .un, .un, .un, .un, .un, .un], [xs3, A.map askD]⟩ = .ok (.d (bunD d rs)) ⟨[.bor 0, .bor 1, .dat (bunD d rs), .dat (rowD pt), .un, .un, .un, .un, .un, .un], [xs3, A.map askD]⟩ := rfl
  have v3 : dVar 3 ⟨[.bor 0, .bor 1, .dat (bunD d rs), .dat (rowD pt), .un, .un, .un, .un, .un, .un], [xs3, A.map askD]⟩ = .ok (.d (rowD pt)) ⟨[.bor 0, .bor 1, .dat (bunD d rs), .dat (rowD pt), .un, .un, .un, .un, .un, .un], [xs3, A.map askD]⟩ := rfl
  have e2 : dPar 5 6 (dCons (dFz (dCall g_z_law_said_bundle (dCons (dFz (dVar 2)) dNil))) (dCons (dFz (dCall g_z_law_said (dCons (dFz (dVar 3)) dNil))) dNil)) ⟨[.bor 0, .bor 1, .dat (bunD d rs), .dat (rowD pt), .un, .un, .un, .un, .un, .un], [xs3, A.map askD]⟩ = .ok .nx ⟨[.bor 0, .bor 1, .dat (bunD d rs), .dat (rowD pt), .un, .dat (.str (bunT ("bundle" : Str) d rs)), .dat (.str (said pt)), .un, .un, .un], [xs3, A.map askD]⟩ := by
    rw [s_par, s_cons, fz_d (call1 v2 rfl (law_said_bundle_of ok)), s_bind_ok, s_cons, fz_d (call1 v3 rfl (law_said_of p9.row))]
    rfl
  have w2 : ∀ bo, dVar 2 ⟨[.bor 0, .bor 1, .dat (bunD d rs), .dat (rowD pt), .un, .dat (.str (bunT ("bundle" : Str) d rs)), .dat (.str (said pt)), .un, .un, .un], bo⟩ = .ok (.d (bunD d rs)) ⟨[.bor 0, .bor 1, .dat (bunD d rs), .dat (rowD pt), .un, .dat (.str (bunT ("bundle" : Str) d rs)), .dat (.str (said pt)), .un, .un, .un], bo⟩ := fun _ => rfl
  have w3 : ∀ bo, dVar 3 ⟨[.bor 0, .bor 1, .dat (bunD d rs), .dat (rowD pt), .un, .dat (.str (bunT ("bundle" : Str) d rs)), .dat (.str (said pt)), .un, .un, .un], bo⟩ = .ok (.d (rowD pt)) ⟨[.bor 0, .bor 1, .dat (bunD d rs), .dat (rowD pt), .un, .dat (.str (bunT ("bundle" : Str) d rs)), .dat (.str (said pt)), .un, .un, .un], bo⟩ := fun _ => rfl
  have w5 : ∀ bo, dVar 5 ⟨[.bor 0, .bor 1, .dat (bunD d rs), .dat (rowD pt), .un, .dat (.str (bunT ("bundle" : Str) d rs)), .dat (.str (said pt)), .un, .un, .un], bo⟩ = .ok (.d (.str (bunT ("bundle" : Str) d rs))) ⟨[.bor 0, .bor 1, .dat (bunD d rs), .dat (rowD pt), .un, .dat (.str (bunT ("bundle" : Str) d rs)), .dat (.str (said pt)), .un, .un, .un], bo⟩ := fun _ => rfl
  have w6 : ∀ bo, dVar 6 ⟨[.bor 0, .bor 1, .dat (bunD d rs), .dat (rowD pt), .un, .dat (.str (bunT ("bundle" : Str) d rs)), .dat (.str (said pt)), .un, .un, .un], bo⟩ = .ok (.d (.str (said pt))) ⟨[.bor 0, .bor 1, .dat (bunD d rs), .dat (rowD pt), .un, .dat (.str (bunT ("bundle" : Str) d rs)), .dat (.str (said pt)), .un, .un, .un], bo⟩ := fun _ => rfl
  have s3 : dCall (g_z_law_same 8) (dCons (dFz (dLst (dCons (dFz (dCall g_p_show_bundle (dCons (dFz (dVar 2)) dNil))) (dCons (dFz (dCallK [0] g_p_show_bundle (dCons (dFz (dVar 2)) dNil))) dNil)))) (dCons (dFz (dLst (dCons (dFz (dVar 5)) (dCons (dFz (dVar 5)) dNil)))) dNil)) ⟨[.bor 0, .bor 1, .dat (bunD d rs), .dat (rowD pt), .un, .dat (.str (bunT ("bundle" : Str) d rs)), .dat (.str (said pt)), .un, .un, .un], [xs3, A.map askD]⟩ = .ok (.d (.bl true)) ⟨[.bor 0, .bor 1, .dat (bunD d rs), .dat (rowD pt), .un, .dat (.str (bunT ("bundle" : Str) d rs)), .dat (.str (said pt)), .un, .un, .un], [xs3, A.map askD]⟩ :=
    call2 (two_of (call1 (w2 _) rfl (show_bundle_of ok)) (call1k (w2 _) rfl (show_bundle_of ok))) rfl (two_of (w5 _) (w5 _)) rfl (same_pair (same_str 6 _))
  have s4 : dCall (g_z_law_same 8) (dCons (dFz (dLst (dCons (dFz (dCall g_p_show_whole (dCons (dFz (dVar 3)) dNil))) (dCons (dFz (dCallK [0] g_p_show_whole (dCons (dFz (dVar 3)) dNil))) dNil)))) (dCons (dFz (dLst (dCons (dFz (dVar 6)) (dCons (dFz (dVar 6)) dNil)))) dNil)) ⟨[.bor 0, .bor 1, .dat (bunD d rs), .dat (rowD pt), .un, .dat (.str (bunT ("bundle" : Str) d rs)), .dat (.str (said pt)), .un, .un, .un], [xs3, A.map askD]⟩ = .ok (.d (.bl true)) ⟨[.bor 0, .bor 1, .dat (bunD d rs), .dat (rowD pt), .un, .dat (.str (bunT ("bundle" : Str) d rs)), .dat (.str (said pt)), .un, .un, .un], [xs3, A.map askD]⟩ :=
    call2 (two_of (call1 (w3 _) rfl (show_whole_of p9.row)) (call1k (w3 _) rfl (show_whole_of p9.row))) rfl (two_of (w6 _) (w6 _)) rfl (same_pair (same_str 6 _))
  have a1 : dDrop (dApp (dPl 1) (dTup (dCons (dFz (dC (.str ("bundle" : Str)))) (dCons (dFz (dVar 5)) (dCons (dFz (dLst (dCons (dFz (dVar 2)) (dCons (dFz (dVar 2)) dNil)))) dNil))))) ⟨[.bor 0, .bor 1, .dat (bunD d rs), .dat (rowD pt), .un, .dat (.str (bunT ("bundle" : Str) d rs)), .dat (.str (said pt)), .un, .un, .un], [xs3, A.map askD]⟩ = .ok .nx ⟨[.bor 0, .bor 1, .dat (bunD d rs), .dat (rowD pt), .un, .dat (.str (bunT ("bundle" : Str) d rs)), .dat (.str (said pt)), .un, .un, .un], [xs3, (A.map askD ++ [askD (("bundle" : Str), (bunT ("bundle" : Str) d rs), D.lst [bunD d rs, bunD d rs])])]⟩ :=
    app_b rfl (three_of (by rfl) (w5 _) (two_of (w2 _) (w2 _)) rfl) rfl (by rw [List.length_map]; omega)
  have a2 : dDrop (dApp (dPl 1) (dTup (dCons (dFz (dC (.str ("whole" : Str)))) (dCons (dFz (dVar 6)) (dCons (dFz (dLst (dCons (dFz (dVar 3)) (dCons (dFz (dVar 3)) dNil)))) dNil))))) ⟨[.bor 0, .bor 1, .dat (bunD d rs), .dat (rowD pt), .un, .dat (.str (bunT ("bundle" : Str) d rs)), .dat (.str (said pt)), .un, .un, .un], [xs3, (A.map askD ++ [askD (("bundle" : Str), (bunT ("bundle" : Str) d rs), D.lst [bunD d rs, bunD d rs])])]⟩ = .ok .nx ⟨[.bor 0, .bor 1, .dat (bunD d rs), .dat (rowD pt), .un, .dat (.str (bunT ("bundle" : Str) d rs)), .dat (.str (said pt)), .un, .un, .un], [xs3, ((A.map askD ++ [askD (("bundle" : Str), (bunT ("bundle" : Str) d rs), D.lst [bunD d rs, bunD d rs])]) ++ [askD (("whole" : Str), said pt, D.lst [rowD pt, rowD pt])])]⟩ :=
    app_b rfl (three_of (by rfl) (w6 _) (two_of (w3 _) (w3 _)) rfl) rfl (by rw [List.length_append, List.length_map]; simp only [List.length_cons, List.length_nil]; omega)
  have hlT : (bunT ("bundle" : Str) d rs).length ≤ 82509 := bunT_len wd_bundle ok
  have sl6 : dSl (dVar 5) (dPart (dC (.int 6))) dNone ⟨[.bor 0, .bor 1, .dat (bunD d rs), .dat (rowD pt), .un, .dat (.str (bunT ("bundle" : Str) d rs)), .dat (.str (said pt)), .un, .un, .un], [xs3, ((A.map askD ++ [askD (("bundle" : Str), (bunT ("bundle" : Str) d rs), D.lst [bunD d rs, bunD d rs])]) ++ [askD (("whole" : Str), said pt, D.lst [rowD pt, rowD pt])])]⟩ = .ok (.d (.str (cutS (bunT ("bundle" : Str) d rs) (some 6) none))) ⟨[.bor 0, .bor 1, .dat (bunD d rs), .dat (rowD pt), .un, .dat (.str (bunT ("bundle" : Str) d rs)), .dat (.str (said pt)), .un, .un, .un], [xs3, ((A.map askD ++ [askD (("bundle" : Str), (bunT ("bundle" : Str) d rs), D.lst [bunD d rs, bunD d rs])]) ++ [askD (("whole" : Str), said pt, D.lst [rowD pt, rowD pt])])]⟩ := by
    rw [s_sl, w5, s_bind_ok, s_part, s_c, s_bind_ok, s_get_d, s_endP, s_bind_ok, s_none, s_bind_ok, s_get_d, s_endS]
    unfold opSl
    simp only
    rw [if_pos (lim0 (Nat.le_trans hlT (by decide)))]
  have ad : dOp2 opAdd (dC (.str ("system" : Str))) (dSl (dVar 5) (dPart (dC (.int 6))) dNone) ⟨[.bor 0, .bor 1, .dat (bunD d rs), .dat (rowD pt), .un, .dat (.str (bunT ("bundle" : Str) d rs)), .dat (.str (said pt)), .un, .un, .un], [xs3, ((A.map askD ++ [askD (("bundle" : Str), (bunT ("bundle" : Str) d rs), D.lst [bunD d rs, bunD d rs])]) ++ [askD (("whole" : Str), said pt, D.lst [rowD pt, rowD pt])])]⟩ = .ok (.d (.str (bunT ("system" : Str) d rs))) ⟨[.bor 0, .bor 1, .dat (bunD d rs), .dat (rowD pt), .un, .dat (.str (bunT ("bundle" : Str) d rs)), .dat (.str (said pt)), .un, .un, .un], [xs3, ((A.map askD ++ [askD (("bundle" : Str), (bunT ("bundle" : Str) d rs), D.lst [bunD d rs, bunD d rs])]) ++ [askD (("whole" : Str), said pt, D.lst [rowD pt, rowD pt])])]⟩ := by
    have l := cutS_length (bunT ("bundle" : Str) d rs) (some 6) none
    have e := op2_of (op := opAdd) (f := dC (.str ("system" : Str))) (p := .d (.str ("system" : Str))) (s := ⟨[.bor 0, .bor 1, .dat (bunD d rs), .dat (rowD pt), .un, .dat (.str (bunT ("bundle" : Str) d rs)), .dat (.str (said pt)), .un, .un, .un], [xs3, ((A.map askD ++ [askD (("bundle" : Str), (bunT ("bundle" : Str) d rs), D.lst [bunD d rs, bunD d rs])]) ++ [askD (("whole" : Str), said pt, D.lst [rowD pt, rowD pt])])]⟩) rfl sl6 rfl rfl (add_str (by have l2 : ("system" : Str).length = 6 := rfl; rw [l2]; omega))
    rw [cut6] at e
    exact e
  have x1 : dOp2 opIx (dVar 2) (dC (.int 1)) ⟨[.bor 0, .bor 1, .dat (bunD d rs), .dat (rowD pt), .un, .dat (.str (bunT ("bundle" : Str) d rs)), .dat (.str (said pt)), .un, .un, .un], [xs3, ((A.map askD ++ [askD (("bundle" : Str), (bunT ("bundle" : Str) d rs), D.lst [bunD d rs, bunD d rs])]) ++ [askD (("whole" : Str), said pt, D.lst [rowD pt, rowD pt])])]⟩ = .ok (.d (.tup (rs.map rowD))) ⟨[.bor 0, .bor 1, .dat (bunD d rs), .dat (rowD pt), .un, .dat (.str (bunT ("bundle" : Str) d rs)), .dat (.str (said pt)), .un, .un, .un], [xs3, ((A.map askD ++ [askD (("bundle" : Str), (bunT ("bundle" : Str) d rs), D.lst [bunD d rs, bunD d rs])]) ++ [askD (("whole" : Str), said pt, D.lst [rowD pt, rowD pt])])]⟩ := rfl
  have x0 : dOp2 opIx (dVar 2) (dC (.int 0)) ⟨[.bor 0, .bor 1, .dat (bunD d rs), .dat (rowD pt), .un, .dat (.str (bunT ("bundle" : Str) d rs)), .dat (.str (said pt)), .un, .un, .un], [xs3, ((A.map askD ++ [askD (("bundle" : Str), (bunT ("bundle" : Str) d rs), D.lst [bunD d rs, bunD d rs])]) ++ [askD (("whole" : Str), said pt, D.lst [rowD pt, rowD pt])])]⟩ = .ok (.d (.int (d : Int))) ⟨[.bor 0, .bor 1, .dat (bunD d rs), .dat (rowD pt), .un, .dat (.str (bunT ("bundle" : Str) d rs)), .dat (.str (said pt)), .un, .un, .un], [xs3, ((A.map askD ++ [askD (("bundle" : Str), (bunT ("bundle" : Str) d rs), D.lst [bunD d rs, bunD d rs])]) ++ [askD (("whole" : Str), said pt, D.lst [rowD pt, rowD pt])])]⟩ := rfl
  have tn : dTest (dOp2 opNe (dOp2 opIx (dVar 2) (dC (.int 1))) (dTup dNil)) ⟨[.bor 0, .bor 1, .dat (bunD d rs), .dat (rowD pt), .un, .dat (.str (bunT ("bundle" : Str) d rs)), .dat (.str (said pt)), .un, .un, .un], [xs3, ((A.map askD ++ [askD (("bundle" : Str), (bunT ("bundle" : Str) d rs), D.lst [bunD d rs, bunD d rs])]) ++ [askD (("whole" : Str), said pt, D.lst [rowD pt, rowD pt])])]⟩ = .ok (decide (rs ≠ [])) ⟨[.bor 0, .bor 1, .dat (bunD d rs), .dat (rowD pt), .un, .dat (.str (bunT ("bundle" : Str) d rs)), .dat (.str (said pt)), .un, .un, .un], [xs3, ((A.map askD ++ [askD (("bundle" : Str), (bunT ("bundle" : Str) d rs), D.lst [bunD d rs, bunD d rs])]) ++ [askD (("whole" : Str), said pt, D.lst [rowD pt, rowD pt])])]⟩ := test_of (op2_of (op := opNe) x1 (g := dTup dNil) (q := .d (.tup [])) rfl rfl rfl (ne_unit rs))
  have a3 : dDrop (dApp (dPl 1) (dTup (dCons (dFz (dC (.str ("system" : Str)))) (dCons (dFz (dOp2 opAdd (dC (.str ("system" : Str))) (dSl (dVar 5) (dPart (dC (.int 6))) dNone))) (dCons (dFz (dIf (dTest (dOp2 opNe (dOp2 opIx (dVar 2) (dC (.int 1))) (dTup dNil))) (dC (.int 2)) (dOp2 opMul (dLst (dCons (dFz (dTup (dCons (dFz (dOp2 opIx (dVar 2) (dC (.int 0)))) (dCons (dFz (dTup dNil)) dNil)))) dNil)) (dC (.int 2))))) dNil))))) ⟨[.bor 0, .bor 1, .dat (bunD d rs), .dat (rowD pt), .un, .dat (.str (bunT ("bundle" : Str) d rs)), .dat (.str (said pt)), .un, .un, .un], [xs3, ((A.map askD ++ [askD (("bundle" : Str), (bunT ("bundle" : Str) d rs), D.lst [bunD d rs, bunD d rs])]) ++ [askD (("whole" : Str), said pt, D.lst [rowD pt, rowD pt])])]⟩ = .ok .nx ⟨[.bor 0, .bor 1, .dat (bunD d rs), .dat (rowD pt), .un, .dat (.str (bunT ("bundle" : Str) d rs)), .dat (.str (said pt)), .un, .un, .un], [xs3, (((A.map askD ++ [askD (("bundle" : Str), (bunT ("bundle" : Str) d rs), D.lst [bunD d rs, bunD d rs])]) ++ [askD (("whole" : Str), said pt, D.lst [rowD pt, rowD pt])]) ++ [askD (("system" : Str), (bunT ("system" : Str) d rs), vm)])]⟩ := by
    by_cases c : rs = []
    · have e := vm2 c
      subst e
      have u : dLst (dCons (dFz (dTup (dCons (dFz (dOp2 opIx (dVar 2) (dC (.int 0)))) (dCons (dFz (dTup dNil)) dNil)))) dNil) ⟨[.bor 0, .bor 1, .dat (bunD d rs), .dat (rowD pt), .un, .dat (.str (bunT ("bundle" : Str) d rs)), .dat (.str (said pt)), .un, .un, .un], [xs3, ((A.map askD ++ [askD (("bundle" : Str), (bunT ("bundle" : Str) d rs), D.lst [bunD d rs, bunD d rs])]) ++ [askD (("whole" : Str), said pt, D.lst [rowD pt, rowD pt])])]⟩ = .ok (.fr [unitD d]) ⟨[.bor 0, .bor 1, .dat (bunD d rs), .dat (rowD pt), .un, .dat (.str (bunT ("bundle" : Str) d rs)), .dat (.str (said pt)), .un, .un, .un], [xs3, ((A.map askD ++ [askD (("bundle" : Str), (bunT ("bundle" : Str) d rs), D.lst [bunD d rs, bunD d rs])]) ++ [askD (("whole" : Str), said pt, D.lst [rowD pt, rowD pt])])]⟩ := rfl
      have m : dOp2 opMul (dLst (dCons (dFz (dTup (dCons (dFz (dOp2 opIx (dVar 2) (dC (.int 0)))) (dCons (dFz (dTup dNil)) dNil)))) dNil)) (dC (.int 2)) ⟨[.bor 0, .bor 1, .dat (bunD d rs), .dat (rowD pt), .un, .dat (.str (bunT ("bundle" : Str) d rs)), .dat (.str (said pt)), .un, .un, .un], [xs3, ((A.map askD ++ [askD (("bundle" : Str), (bunT ("bundle" : Str) d rs), D.lst [bunD d rs, bunD d rs])]) ++ [askD (("whole" : Str), said pt, D.lst [rowD pt, rowD pt])])]⟩ = .ok (.fr [unitD d, unitD d]) ⟨[.bor 0, .bor 1, .dat (bunD d rs), .dat (rowD pt), .un, .dat (.str (bunT ("bundle" : Str) d rs)), .dat (.str (said pt)), .un, .un, .un], [xs3, ((A.map askD ++ [askD (("bundle" : Str), (bunT ("bundle" : Str) d rs), D.lst [bunD d rs, bunD d rs])]) ++ [askD (("whole" : Str), said pt, D.lst [rowD pt, rowD pt])])]⟩ := op2_of (op := opMul) u (g := dC (.int 2)) (q := .d (.int 2)) rfl rfl rfl rfl
      exact app_b rfl (three_of (by rfl) ad (q_iff (tn.trans (by rw [decide_eq_false (fun z => z c)])) m) rfl) (by rfl) (by rw [List.length_append, List.length_append, List.length_map]; simp only [List.length_cons, List.length_nil]; omega)
    · have e := vm1 c
      subst e
      exact app_b rfl (three_of (by rfl) ad (q_ift (tn.trans (by rw [decide_eq_true c])) (by rfl)) (p := .d (.int 2)) rfl) (by rfl) (by rw [List.length_append, List.length_append, List.length_map]; simp only [List.length_cons, List.length_nil]; omega)
  have a4 : dDrop (dApp (dPl 1) (dTup (dCons (dFz (dC (.str ("whole" : Str)))) (dCons (dFz (dVar 5)) (dCons (dFz (dC (.int 1))) dNil))))) ⟨[.bor 0, .bor 1, .dat (bunD d rs), .dat (rowD pt), .un, .dat (.str (bunT ("bundle" : Str) d rs)), .dat (.str (said pt)), .un, .un, .un], [xs3, (((A.map askD ++ [askD (("bundle" : Str), (bunT ("bundle" : Str) d rs), D.lst [bunD d rs, bunD d rs])]) ++ [askD (("whole" : Str), said pt, D.lst [rowD pt, rowD pt])]) ++ [askD (("system" : Str), (bunT ("system" : Str) d rs), vm)])]⟩ = .ok .nx ⟨[.bor 0, .bor 1, .dat (bunD d rs), .dat (rowD pt), .un, .dat (.str (bunT ("bundle" : Str) d rs)), .dat (.str (said pt)), .un, .un, .un], [xs3, ((((A.map askD ++ [askD (("bundle" : Str), (bunT ("bundle" : Str) d rs), D.lst [bunD d rs, bunD d rs])]) ++ [askD (("whole" : Str), said pt, D.lst [rowD pt, rowD pt])]) ++ [askD (("system" : Str), (bunT ("system" : Str) d rs), vm)]) ++ [askD (("whole" : Str), (bunT ("bundle" : Str) d rs), D.int 1)])]⟩ :=
    app_b rfl (three_of (by rfl) (w5 _) (p := .d (.int 1)) (by rfl) rfl) rfl (by rw [List.length_append, List.length_append, List.length_append, List.length_map]; simp only [List.length_cons, List.length_nil]; omega)
  have eB : ((((A.map askD ++ [askD (("bundle" : Str), (bunT ("bundle" : Str) d rs), D.lst [bunD d rs, bunD d rs])]) ++ [askD (("whole" : Str), said pt, D.lst [rowD pt, rowD pt])]) ++ [askD (("system" : Str), (bunT ("system" : Str) d rs), vm)]) ++ [askD (("whole" : Str), (bunT ("bundle" : Str) d rs), D.int 1)]) = (A ++ [(("bundle" : Str), (bunT ("bundle" : Str) d rs), D.lst [bunD d rs, bunD d rs]), (("whole" : Str), said pt, D.lst [rowD pt, rowD pt]), (("system" : Str), (bunT ("system" : Str) d rs), vm), (("whole" : Str), (bunT ("bundle" : Str) d rs), D.int 1)]).map askD := by
    rw [List.map_append, List.append_assoc, List.append_assoc, List.append_assoc]
    rfl
  have gd : ∀ a ∈ [(("bundle" : Str), (bunT ("bundle" : Str) d rs), D.lst [bunD d rs, bunD d rs]), (("whole" : Str), said pt, D.lst [rowD pt, rowD pt]), (("system" : Str), (bunT ("system" : Str) d rs), vm), (("whole" : Str), (bunT ("bundle" : Str) d rs), D.int 1)], Good a := fun a ha => by
    rcases List.mem_cons.mp ha with rfl | ha
    · exact good_bundle ok h9
    · rcases List.mem_cons.mp ha with rfl | ha
      · exact good_whole p9
      · rcases List.mem_cons.mp ha with rfl | ha
        · exact gm
        · rw [List.mem_singleton.mp ha]
          exact good_whole_not ok
  have it : dItems (dSl (dPl 1) (dPart (dOp1 opNeg (dC (.int 4)))) dNone) ⟨[.bor 0, .bor 1, .dat (bunD d rs), .dat (rowD pt), .un, .dat (.str (bunT ("bundle" : Str) d rs)), .dat (.str (said pt)), .un, .un, .un], [xs3, (A ++ [(("bundle" : Str), (bunT ("bundle" : Str) d rs), D.lst [bunD d rs, bunD d rs]), (("whole" : Str), said pt, D.lst [rowD pt, rowD pt]), (("system" : Str), (bunT ("system" : Str) d rs), vm), (("whole" : Str), (bunT ("bundle" : Str) d rs), D.int 1)]).map askD]⟩ = .ok ([(("bundle" : Str), (bunT ("bundle" : Str) d rs), D.lst [bunD d rs, bunD d rs]), (("whole" : Str), said pt, D.lst [rowD pt, rowD pt]), (("system" : Str), (bunT ("system" : Str) d rs), vm), (("whole" : Str), (bunT ("bundle" : Str) d rs), D.int 1)].map askD) ⟨[.bor 0, .bor 1, .dat (bunD d rs), .dat (rowD pt), .un, .dat (.str (bunT ("bundle" : Str) d rs)), .dat (.str (said pt)), .un, .un, .un], [xs3, (A ++ [(("bundle" : Str), (bunT ("bundle" : Str) d rs), D.lst [bunD d rs, bunD d rs]), (("whole" : Str), said pt, D.lst [rowD pt, rowD pt]), (("system" : Str), (bunT ("system" : Str) d rs), vm), (("whole" : Str), (bunT ("bundle" : Str) d rs), D.int 1)]).map askD]⟩ := by
    have c := cut_last (A.map askD) ([(("bundle" : Str), (bunT ("bundle" : Str) d rs), D.lst [bunD d rs, bunD d rs]), (("whole" : Str), said pt, D.lst [rowD pt, rowD pt]), (("system" : Str), (bunT ("system" : Str) d rs), vm), (("whole" : Str), (bunT ("bundle" : Str) d rs), D.int 1)].map askD) (by simp)
    rw [← List.map_append] at c
    have e : dSl (dPl 1) (dPart (dOp1 opNeg (dC (.int 4)))) dNone ⟨[.bor 0, .bor 1, .dat (bunD d rs), .dat (rowD pt), .un, .dat (.str (bunT ("bundle" : Str) d rs)), .dat (.str (said pt)), .un, .un, .un], [xs3, (A ++ [(("bundle" : Str), (bunT ("bundle" : Str) d rs), D.lst [bunD d rs, bunD d rs]), (("whole" : Str), said pt, D.lst [rowD pt, rowD pt]), (("system" : Str), (bunT ("system" : Str) d rs), vm), (("whole" : Str), (bunT ("bundle" : Str) d rs), D.int 1)]).map askD]⟩ = .ok (.fr ([(("bundle" : Str), (bunT ("bundle" : Str) d rs), D.lst [bunD d rs, bunD d rs]), (("whole" : Str), said pt, D.lst [rowD pt, rowD pt]), (("system" : Str), (bunT ("system" : Str) d rs), vm), (("whole" : Str), (bunT ("bundle" : Str) d rs), D.int 1)].map askD)) ⟨[.bor 0, .bor 1, .dat (bunD d rs), .dat (rowD pt), .un, .dat (.str (bunT ("bundle" : Str) d rs)), .dat (.str (said pt)), .un, .un, .un], [xs3, (A ++ [(("bundle" : Str), (bunT ("bundle" : Str) d rs), D.lst [bunD d rs, bunD d rs]), (("whole" : Str), said pt, D.lst [rowD pt, rowD pt]), (("system" : Str), (bunT ("system" : Str) d rs), vm), (("whole" : Str), (bunT ("bundle" : Str) d rs), D.int 1)]).map askD]⟩ := by
      rw [← c]
      rfl
    exact items_of e rfl rfl
  have r1 := lc_of it rfl (read_lc7 (s0 := .bor 0) (s1 := .bor 1) (s2 := .dat (bunD d rs)) (s3 := .dat (rowD pt)) (s4 := .un) (s5 := .dat (.str (bunT ("bundle" : Str) d rs))) (s6 := .dat (.str (said pt))) (bo := [xs3, (A ++ [(("bundle" : Str), (bunT ("bundle" : Str) d rs), D.lst [bunD d rs, bunD d rs]), (("whole" : Str), said pt, D.lst [rowD pt, rowD pt]), (("system" : Str), (bunT ("system" : Str) d rs), vm), (("whole" : Str), (bunT ("bundle" : Str) d rs), D.int 1)]).map askD]) _ gd)
  have r2 := lc_of it rfl (due_lc7 (s0 := .bor 0) (s1 := .bor 1) (s2 := .dat (bunD d rs)) (s3 := .dat (rowD pt)) (s4 := .un) (s5 := .dat (.str (bunT ("bundle" : Str) d rs))) (s6 := .dat (.str (said pt))) (bo := [xs3, (A ++ [(("bundle" : Str), (bunT ("bundle" : Str) d rs), D.lst [bunD d rs, bunD d rs]), (("whole" : Str), said pt, D.lst [rowD pt, rowD pt]), (("system" : Str), (bunT ("system" : Str) d rs), vm), (("whole" : Str), (bunT ("bundle" : Str) d rs), D.int 1)]).map askD]) [(("bundle" : Str), (bunT ("bundle" : Str) d rs), D.lst [bunD d rs, bunD d rs]), (("whole" : Str), said pt, D.lst [rowD pt, rowD pt]), (("system" : Str), (bunT ("system" : Str) d rs), vm), (("whole" : Str), (bunT ("bundle" : Str) d rs), D.int 1)])
  have fin := call2 r1 rfl r2 rfl (same_lst (n := 7) (by simp) fun y hy => by
    obtain ⟨a, ha, rfl⟩ := List.mem_map.mp hy
    exact (gd a ha).s7)
  refine ⟨xs3, A ++ [(("bundle" : Str), (bunT ("bundle" : Str) d rs), D.lst [bunD d rs, bunD d rs]), (("whole" : Str), said pt, D.lst [rowD pt, rowD pt]), (("system" : Str), (bunT ("system" : Str) d rs), vm), (("whole" : Str), (bunT ("bundle" : Str) d rs), D.int 1)], ?_, by rw [List.length_append]; rfl, fun a ha => ?_, hb3.mono (by omega)⟩
  · refine ret_bo (s1 := ⟨[.bor 0, .bor 1, .dat (bunD d rs), .dat (rowD pt), .un, .dat (.str (bunT ("bundle" : Str) d rs)), .dat (.str (said pt)), .un, .un, .un], [xs3, (A ++ [(("bundle" : Str), (bunT ("bundle" : Str) d rs), D.lst [bunD d rs, bunD d rs]), (("whole" : Str), said pt, D.lst [rowD pt, rowD pt]), (("system" : Str), (bunT ("system" : Str) d rs), vm), (("whole" : Str), (bunT ("bundle" : Str) d rs), D.int 1)]).map askD]⟩) ?_
    rw [show initS 10 [.mut xs, .mut (A.map askD)] = ⟨[.bor 0, .bor 1, .un, .un, .un, .un, .un, .un, .un, .un], [xs, A.map askD]⟩ from rfl]
    unfold b_z_law_bundles_right
    rw [eB] at a4
    exact q_nx e1 (q_nx e2 (q_nx (q_iff (q_not (test_of s3)) rfl) (q_nx (q_iff (q_not (test_of s4)) rfl) (q_nx a1 (q_nx a2 (q_nx a3 (q_nx a4 (ret_of fin))))))))
  · rcases List.mem_append.mp ha with ha | ha
    · exact hA a ha
    · exact gd a ha
end Dn.Ka
end
section
set_option Elab.async false
set_option linter.all false
set_option maxRecDepth 100000
set_option maxHeartbeats 4000000
namespace Dn.Ka
open PySem PySem.Spec PyProof.Rows L2
/-! ### the long texts -/
def pick (rs : List (List Int)) : List Int := match rs with
  | [] => [0]
  | r :: _ => r
theorem pick_row {d : Nat} {rs : List (List Int)} (h : BunOk d rs) : Row (pick rs) := by
  cases rs with
  | nil =>
    refine ⟨by decide, fun i hi => ?_⟩
    rw [List.mem_singleton.mp hi]
    exact Nat.pow_pos (by decide)
  | cons r rs => exact h.q r List.mem_cons_self
theorem pick_of {a0 a1 a3 a4 : Slot} {bo : List (List D)} {e : Nat} {rs : List (List Int)} : (dIf (dTest (dOp2 opNe (dOp2 opIx (dVar 2) (dC (.int 1))) (dTup dNil))) (dOp2 opIx (dOp2 opIx (dVar 2) (dC (.int 1))) (dC (.int 0))) (dTup (dCons (dFz (dC (.int 0))) dNil))) ⟨[a0, a1, .dat (bunD e rs), a3, a4], bo⟩ = .ok (.d (rowD (pick rs))) ⟨[a0, a1, .dat (bunD e rs), a3, a4], bo⟩ := by
  have x1 : dOp2 opIx (dVar 2) (dC (.int 1)) ⟨[a0, a1, .dat (bunD e rs), a3, a4], bo⟩ = .ok (.d (.tup (rs.map rowD))) ⟨[a0, a1, .dat (bunD e rs), a3, a4], bo⟩ := rfl
  have tn : dTest (dOp2 opNe (dOp2 opIx (dVar 2) (dC (.int 1))) (dTup dNil)) ⟨[a0, a1, .dat (bunD e rs), a3, a4], bo⟩ = .ok (decide (rs ≠ [])) ⟨[a0, a1, .dat (bunD e rs), a3, a4], bo⟩ := test_of (op2_of (op := opNe) x1 (g := dTup dNil) (q := .d (.tup [])) rfl rfl rfl (ne_unit rs))
  cases rs with
  | nil => exact q_iff (tn.trans (by rw [decide_eq_false (fun z => z rfl)])) (by rfl)
  | cons r rs =>
    have ix : opIx (.tup ((r :: rs).map rowD)) (.int 0) = some (.d (rowD r)) := by
      show (atI ((r :: rs).map rowD) ((0 : Nat) : Int)).map Pv.d = _
      rw [ix_nat (x := rowD r) rfl]
      rfl
    exact q_ift (tn.trans (by rw [decide_eq_true (by simp)])) (op2_of (op := opIx) x1 (g := dC (.int 0)) (q := .d (.int 0)) rfl rfl rfl ix)
theorem long_right {N : Nat} {xs : List D} (h : Vb N xs) (hN : N ≤ 10 ^ 7) : ∃ xs' : List D, g_z_law_long_right [.mut xs] = .ret (.dat (.bl true)) [xs'] ∧ Vb (N + 400000) xs' := by
  obtain ⟨d, qs, xs1, e0, ⟨⟨d1, d2⟩, n⟩, hq, hb⟩ := system_spec (g := 300) h (by omega) (by decide) (by decide)
  have ok := sys_ok d1 d2 n (by decide) hq
  obtain ⟨e, rs, xs2, f0, ⟨⟨f1, f2⟩, n2⟩, hr, hb2⟩ := bundle_spec (g := 300) hb (by omega) (by decide) (by decide)
  have ok2 := bun_ok f1 f2 n2 (by decide) hr
  have c1 := callb2 (f := dC (.int 300)) (p := .d (.int 300)) (sl := [.bor 0, .un, .un, .un, .un]) (bs := []) (xs := xs) rfl rfl rfl e0
  have c2 := callb2 (f := dC (.int 300)) (p := .d (.int 300)) (sl := [.bor 0, .un, .un, .un, .un]) (bs := []) (xs := xs1) rfl rfl rfl f0
  have e1 : dPar 1 2 (dCons (dFz (dCall g_z_law_system (dCons (dFz (dPl 0)) (dCons (dFz (dC (.int 300))) dNil)))) (dCons (dFz (dCall g_z_law_bundle (dCons (dFz (dPl 0)) (dCons (dFz (dC (.int 300))) dNil)))) dNil)) ⟨[.bor 0, .un, .un, .un, .un], [xs]⟩ = .ok .nx ⟨[.bor 0, .dat (sysD d qs), .dat (bunD e rs), .un, .un], [xs2]⟩ := by
    rw [s_par, s_cons, fz_d c1, s_bind_ok, s_cons, fz_d c2]
    rfl
  have v1 : dVar 1 ⟨[.bor 0, .dat (sysD d qs), .dat (bunD e rs), .un, .un], [xs2]⟩ = .ok (.d (sysD d qs)) ⟨[.bor 0, .dat (sysD d qs), .dat (bunD e rs), .un, .un], [xs2]⟩ := rfl
  have v2 : dVar 2 ⟨[.bor 0, .dat (sysD d qs), .dat (bunD e rs), .un, .un], [xs2]⟩ = .ok (.d (bunD e rs)) ⟨[.bor 0, .dat (sysD d qs), .dat (bunD e rs), .un, .un], [xs2]⟩ := rfl
  have e2 : dSet 3 (dLst (dCons (dFz (dCall g_p_show_system (dCons (dFz (dVar 1)) dNil))) (dCons (dFz (dCall g_p_show_bundle (dCons (dFz (dVar 2)) dNil))) (dCons (dFz (dCall g_p_show_whole (dCons (dFz (dIf (dTest (dOp2 opNe (dOp2 opIx (dVar 2) (dC (.int 1))) (dTup dNil))) (dOp2 opIx (dOp2 opIx (dVar 2) (dC (.int 1))) (dC (.int 0))) (dTup (dCons (dFz (dC (.int 0))) dNil)))) dNil))) dNil)))) ⟨[.bor 0, .dat (sysD d qs), .dat (bunD e rs), .un, .un], [xs2]⟩ = .ok .nx ⟨[.bor 0, .dat (sysD d qs), .dat (bunD e rs), .own [D.str (sysT ("system" : Str) d qs), .str (bunT ("bundle" : Str) e rs), .str (said (pick rs))], .un], [xs2]⟩ := by
    refine set_fr (x := [D.str (sysT ("system" : Str) d qs), .str (bunT ("bundle" : Str) e rs), .str (said (pick rs))]) (s1 := ⟨[.bor 0, .dat (sysD d qs), .dat (bunD e rs), .un, .un], [xs2]⟩) ?_ (by simp)
    rw [s_lst, s_cons, fz_d (call1 v1 rfl (show_system_of ok)), s_bind_ok, s_cons, fz_d (call1 v2 rfl (show_bundle_of ok2)), s_bind_ok, s_cons, fz_d (call1 pick_of rfl (show_whole_of (pick_row ok2)))]
    rfl
  have w1 : dVar 1 ⟨[.bor 0, .dat (sysD d qs), .dat (bunD e rs), .own [D.str (sysT ("system" : Str) d qs), .str (bunT ("bundle" : Str) e rs), .str (said (pick rs))], .un], [xs2]⟩ = .ok (.d (sysD d qs)) ⟨[.bor 0, .dat (sysD d qs), .dat (bunD e rs), .own [D.str (sysT ("system" : Str) d qs), .str (bunT ("bundle" : Str) e rs), .str (said (pick rs))], .un], [xs2]⟩ := rfl
  have w2 : dVar 2 ⟨[.bor 0, .dat (sysD d qs), .dat (bunD e rs), .own [D.str (sysT ("system" : Str) d qs), .str (bunT ("bundle" : Str) e rs), .str (said (pick rs))], .un], [xs2]⟩ = .ok (.d (bunD e rs)) ⟨[.bor 0, .dat (sysD d qs), .dat (bunD e rs), .own [D.str (sysT ("system" : Str) d qs), .str (bunT ("bundle" : Str) e rs), .str (said (pick rs))], .un], [xs2]⟩ := rfl
  have cs : dC (.str ("system" : Str)) ⟨[.bor 0, .dat (sysD d qs), .dat (bunD e rs), .own [D.str (sysT ("system" : Str) d qs), .str (bunT ("bundle" : Str) e rs), .str (said (pick rs))], .un], [xs2]⟩ = .ok (.d (.str ("system" : Str))) ⟨[.bor 0, .dat (sysD d qs), .dat (bunD e rs), .own [D.str (sysT ("system" : Str) d qs), .str (bunT ("bundle" : Str) e rs), .str (said (pick rs))], .un], [xs2]⟩ := rfl
  have e3 : dSet 4 (dLst (dCons (dFz (dCall g_z_law_said_system (dCons (dFz (dC (.str ("system" : Str)))) (dCons (dFz (dVar 1)) dNil)))) (dCons (dFz (dCall g_z_law_said_bundle (dCons (dFz (dVar 2)) dNil))) dNil))) ⟨[.bor 0, .dat (sysD d qs), .dat (bunD e rs), .own [D.str (sysT ("system" : Str) d qs), .str (bunT ("bundle" : Str) e rs), .str (said (pick rs))], .un], [xs2]⟩ = .ok .nx ⟨[.bor 0, .dat (sysD d qs), .dat (bunD e rs), .own [D.str (sysT ("system" : Str) d qs), .str (bunT ("bundle" : Str) e rs), .str (said (pick rs))], .own [D.str (sysT ("system" : Str) d qs), .str (bunT ("bundle" : Str) e rs)]], [xs2]⟩ := set_fr (two_of (call2 cs rfl w1 rfl (law_said_system_of wd_system ok)) (call1 w2 rfl (law_said_bundle_of ok2))) (by simp)
  have e4 : dDrop (dApp (dPl 4) (dCall g_z_law_said (dCons (dFz (dIf (dTest (dOp2 opNe (dOp2 opIx (dVar 2) (dC (.int 1))) (dTup dNil))) (dOp2 opIx (dOp2 opIx (dVar 2) (dC (.int 1))) (dC (.int 0))) (dTup (dCons (dFz (dC (.int 0))) dNil)))) dNil))) ⟨[.bor 0, .dat (sysD d qs), .dat (bunD e rs), .own [D.str (sysT ("system" : Str) d qs), .str (bunT ("bundle" : Str) e rs), .str (said (pick rs))], .own [D.str (sysT ("system" : Str) d qs), .str (bunT ("bundle" : Str) e rs)]], [xs2]⟩ = .ok .nx ⟨[.bor 0, .dat (sysD d qs), .dat (bunD e rs), .own [D.str (sysT ("system" : Str) d qs), .str (bunT ("bundle" : Str) e rs), .str (said (pick rs))], .own [D.str (sysT ("system" : Str) d qs), .str (bunT ("bundle" : Str) e rs), .str (said (pick rs))]], [xs2]⟩ := by
    refine drop_of (p := .d .non) ?_
    unfold dApp
    rw [show dPl 4 ⟨[.bor 0, .dat (sysD d qs), .dat (bunD e rs), .own [D.str (sysT ("system" : Str) d qs), .str (bunT ("bundle" : Str) e rs), .str (said (pick rs))], .own [D.str (sysT ("system" : Str) d qs), .str (bunT ("bundle" : Str) e rs)]], [xs2]⟩ = .ok (.pl 4) ⟨[.bor 0, .dat (sysD d qs), .dat (bunD e rs), .own [D.str (sysT ("system" : Str) d qs), .str (bunT ("bundle" : Str) e rs), .str (said (pick rs))], .own [D.str (sysT ("system" : Str) d qs), .str (bunT ("bundle" : Str) e rs)]], [xs2]⟩ from rfl, s_bind_ok]
    unfold onPl
    simp only
    rw [fz_d (call1 pick_of rfl (law_said_of (pick_row ok2)))]
    rfl
  have p3 : dVar 3 ⟨[.bor 0, .dat (sysD d qs), .dat (bunD e rs), .own [D.str (sysT ("system" : Str) d qs), .str (bunT ("bundle" : Str) e rs), .str (said (pick rs))], .own [D.str (sysT ("system" : Str) d qs), .str (bunT ("bundle" : Str) e rs), .str (said (pick rs))]], [xs2]⟩ = .ok (.d (.lst [D.str (sysT ("system" : Str) d qs), .str (bunT ("bundle" : Str) e rs), .str (said (pick rs))])) ⟨[.bor 0, .dat (sysD d qs), .dat (bunD e rs), .dat (.lst [D.str (sysT ("system" : Str) d qs), .str (bunT ("bundle" : Str) e rs), .str (said (pick rs))]), .own [D.str (sysT ("system" : Str) d qs), .str (bunT ("bundle" : Str) e rs), .str (said (pick rs))]], [xs2]⟩ := rfl
  have p4 : dVar 4 ⟨[.bor 0, .dat (sysD d qs), .dat (bunD e rs), .dat (.lst [D.str (sysT ("system" : Str) d qs), .str (bunT ("bundle" : Str) e rs), .str (said (pick rs))]), .own [D.str (sysT ("system" : Str) d qs), .str (bunT ("bundle" : Str) e rs), .str (said (pick rs))]], [xs2]⟩ = .ok (.d (.lst [D.str (sysT ("system" : Str) d qs), .str (bunT ("bundle" : Str) e rs), .str (said (pick rs))])) ⟨[.bor 0, .dat (sysD d qs), .dat (bunD e rs), .dat (.lst [D.str (sysT ("system" : Str) d qs), .str (bunT ("bundle" : Str) e rs), .str (said (pick rs))]), .dat (.lst [D.str (sysT ("system" : Str) d qs), .str (bunT ("bundle" : Str) e rs), .str (said (pick rs))])], [xs2]⟩ := rfl
  have sm : Same 8 (.lst [D.str (sysT ("system" : Str) d qs), .str (bunT ("bundle" : Str) e rs), .str (said (pick rs))]) := same_lst (by simp) fun y hy => by
    rcases List.mem_cons.mp hy with rfl | hy
    · exact same_str 6 _
    · rcases List.mem_cons.mp hy with rfl | hy
      · exact same_str 6 _
      · rw [List.mem_singleton.mp hy]
        exact same_str 6 _
  refine ⟨xs2, ?_, hb2.mono (by omega)⟩
  refine ret_bo (s1 := ⟨[.bor 0, .dat (sysD d qs), .dat (bunD e rs), .dat (.lst [D.str (sysT ("system" : Str) d qs), .str (bunT ("bundle" : Str) e rs), .str (said (pick rs))]), .dat (.lst [D.str (sysT ("system" : Str) d qs), .str (bunT ("bundle" : Str) e rs), .str (said (pick rs))])], [xs2]⟩) ?_
  rw [show initS 5 [.mut xs] = ⟨[.bor 0, .un, .un, .un, .un], [xs]⟩ from rfl]
  unfold b_z_law_long_right
  exact q_nx e1 (q_nx e2 (q_nx e3 (q_nx e4 (ret_of (call2 p3 rfl p4 rfl sm)))))
/-! the first bag -/
theorem p18 : opPow (.int 10) (.int 18) = some (.d (.int (10 ^ 18))) := by rfl
theorem p26 : opPow (.int 10) (.int 26) = some (.d (.int (10 ^ 26))) := by rfl
theorem bag_of {ns : List Int} (hn : ns.length ≤ 63) (k : Nat) : ∃ xs : List D, g_z_law_bag [.dat (.scr ns), .dat (.int (k : Int))] = .ret (.fr xs) [] ∧ Vb 0 xs := by
  have v1 : dVar 1 ⟨[.dat (.scr ns), .dat (.int (k : Int)), .un], []⟩ = .ok (.d (.int (k : Int))) ⟨[.dat (.scr ns), .dat (.int (k : Int)), .un], []⟩ := rfl
  have v0 : dVar 0 ⟨[.dat (.scr ns), .dat (.int (k : Int)), .un], []⟩ = .ok (.d (.scr ns)) ⟨[.dat (.scr ns), .dat (.int (k : Int)), .un], []⟩ := rfl
  have ln : dB opLen (dCons (dFz (dVar 0)) dNil) ⟨[.dat (.scr ns), .dat (.int (k : Int)), .un], []⟩ = .ok (.d (.int (ns.length : Int))) ⟨[.dat (.scr ns), .dat (.int (k : Int)), .un], []⟩ := b1_of v0 rfl rfl
  have t : dTest (dOp2 opLt (dVar 1) (dB opLen (dCons (dFz (dVar 0)) dNil))) ⟨[.dat (.scr ns), .dat (.int (k : Int)), .un], []⟩ = .ok (decide ((k : Int) < (ns.length : Int))) ⟨[.dat (.scr ns), .dat (.int (k : Int)), .un], []⟩ := test_of (op2_of v1 ln rfl rfl rfl)
  have cell : ∃ c : Int, dIf (dTest (dOp2 opLt (dVar 1) (dB opLen (dCons (dFz (dVar 0)) dNil)))) (dB opInt (dCons (dFz (dOp2 opIx (dVar 0) (dVar 1))) dNil)) (dOp2 opAdd (dOp2 opMul (dVar 1) (dC (.int 9699713))) (dOp2 opMul (dB opLen (dCons (dFz (dVar 0)) dNil)) (dC (.int 32452867)))) ⟨[.dat (.scr ns), .dat (.int (k : Int)), .un], []⟩ = .ok (.d (.int c)) ⟨[.dat (.scr ns), .dat (.int (k : Int)), .un], []⟩ := by
    by_cases h : k < ns.length
    · have e : ns[k]? = some ns[k] := List.getElem?_eq_getElem h
      have ix : opIx (.scr ns) (.int (k : Int)) = some (.d (.int ns[k])) := by
        have a : atI ns (k : Int) = some ns[k] := by
          unfold atI ixN
          rw [if_pos (by omega), if_pos (by omega)]
          simpa using e
        show (atI ns (k : Int)).map _ = _
        rw [a]
        rfl
      exact ⟨ns[k], q_ift (t.trans (by rw [decide_eq_true (by omega)])) (b1_of (op2_of v0 v1 rfl rfl ix) rfl rfl)⟩
    · have m1 : dOp2 opMul (dVar 1) (dC (.int 9699713)) ⟨[.dat (.scr ns), .dat (.int (k : Int)), .un], []⟩ = .ok (.d (.int ((k : Int) * 9699713))) ⟨[.dat (.scr ns), .dat (.int (k : Int)), .un], []⟩ := op2_of v1 rfl rfl rfl (mul_small2 (by decide))
      have m2 : dOp2 opMul (dB opLen (dCons (dFz (dVar 0)) dNil)) (dC (.int 32452867)) ⟨[.dat (.scr ns), .dat (.int (k : Int)), .un], []⟩ = .ok (.d (.int ((ns.length : Int) * 32452867))) ⟨[.dat (.scr ns), .dat (.int (k : Int)), .un], []⟩ := op2_of ln rfl rfl rfl (mul_small2 (by decide))
      exact ⟨_, q_iff (t.trans (by rw [decide_eq_false (by omega)])) (op2_of m1 m2 rfl rfl rfl)⟩
  obtain ⟨c, ec⟩ := cell
  have w2 : dVar 2 ⟨[.dat (.scr ns), .dat (.int (k : Int)), .dat (.int c)], []⟩ = .ok (.d (.int c)) ⟨[.dat (.scr ns), .dat (.int (k : Int)), .dat (.int c)], []⟩ := rfl
  have w1 : dVar 1 ⟨[.dat (.scr ns), .dat (.int (k : Int)), .dat (.int c)], []⟩ = .ok (.d (.int (k : Int))) ⟨[.dat (.scr ns), .dat (.int (k : Int)), .dat (.int c)], []⟩ := rfl
  have ab := b1_of (op := opAbs) w2 rfl (r := .d (.int (if c < 0 then -c else c))) rfl
  have pw : dOp2 opPow (dC (.int 10)) (dC (.int 18)) ⟨[.dat (.scr ns), .dat (.int (k : Int)), .dat (.int c)], []⟩ = .ok (.d (.int (10 ^ 18))) ⟨[.dat (.scr ns), .dat (.int (k : Int)), .dat (.int c)], []⟩ := op2_of rfl rfl rfl rfl p18
  have sb := op2_of (op := opSub) ab pw rfl rfl (r := .d (.int ((if c < 0 then -c else c) - 10 ^ 18))) rfl
  generalize hz : (if c < 0 then -c else c) - 10 ^ 18 = z at sb
  have mx : dB opMax2 (dCons (dFz (dC (.int 0))) (dCons (dFz (dOp2 opSub (dB opAbs (dCons (dFz (dVar 2)) dNil)) (dOp2 opPow (dC (.int 10)) (dC (.int 18))))) dNil)) ⟨[.dat (.scr ns), .dat (.int (k : Int)), .dat (.int c)], []⟩ = .ok (.d (.int (if z > 0 then z else 0))) ⟨[.dat (.scr ns), .dat (.int (k : Int)), .dat (.int c)], []⟩ := by
    rw [s_b, s_cons, show dFz (dC (.int 0)) ⟨[.dat (.scr ns), .dat (.int (k : Int)), .dat (.int c)], []⟩ = .ok (.d (.int 0)) ⟨[.dat (.scr ns), .dat (.int (k : Int)), .dat (.int c)], []⟩ from rfl, s_bind_ok, s_cons, fz_d sb]
    rfl
  have m1 : dOp2 opMul (dVar 2) (dC (.int 179426549)) ⟨[.dat (.scr ns), .dat (.int (k : Int)), .dat (.int c)], []⟩ = .ok (.d (.int (c * 179426549))) ⟨[.dat (.scr ns), .dat (.int (k : Int)), .dat (.int c)], []⟩ := op2_of w2 rfl rfl rfl (mul_small2 (by decide))
  have m2 : dOp2 opMul (dVar 1) (dC (.int 122949829)) ⟨[.dat (.scr ns), .dat (.int (k : Int)), .dat (.int c)], []⟩ = .ok (.d (.int ((k : Int) * 122949829))) ⟨[.dat (.scr ns), .dat (.int (k : Int)), .dat (.int c)], []⟩ := op2_of w1 rfl rfl rfl (mul_small2 (by decide))
  have s1 := op2_of (op := opAdd) (op2_of (op := opAdd) m1 m2 rfl rfl (r := .d (.int (c * 179426549 + (k : Int) * 122949829))) rfl) (g := dC (.int 4421)) (q := .d (.int 4421)) rfl rfl rfl (r := .d (.int (c * 179426549 + (k : Int) * 122949829 + 4421))) rfl
  generalize hv : c * 179426549 + (k : Int) * 122949829 + 4421 = v at s1
  have md : dOp2 opAdd (dOp2 opPow (dC (.int 10)) (dC (.int 26))) (dC (.int 67)) ⟨[.dat (.scr ns), .dat (.int (k : Int)), .dat (.int c)], []⟩ = .ok (.d (.int (10 ^ 26 + 67))) ⟨[.dat (.scr ns), .dat (.int (k : Int)), .dat (.int c)], []⟩ := op2_of (op2_of rfl rfl rfl rfl p26) rfl rfl rfl rfl
  have mo := op2_of (op := opMod) (b1_of (op := opInt) s1 rfl (r := .d (.int v)) rfl) md rfl rfl (mod_pos (by decide))
  refine ⟨[.int (if z > 0 then z else 0), .int (v % (10 ^ 26 + 67)), .int 0], ?_, _, _, _, rfl, by split <;> omega, Int.emod_nonneg _ (by decide), by have := Int.emod_lt_of_pos v (show (0 : Int) < 10 ^ 26 + 67 by decide); omega, by decide, by decide⟩
  refine ret_frd (s1 := ⟨[.dat (.scr ns), .dat (.int (k : Int)), .dat (.int c)], []⟩) ?_ rfl
  rw [show initS 3 [.dat (.scr ns), .dat (.int (k : Int))] = ⟨[.dat (.scr ns), .dat (.int (k : Int)), .un], []⟩ from rfl]
  unfold b_z_law_bag
  refine q_nx (s1 := ⟨[.dat (.scr ns), .dat (.int (k : Int)), .dat (.int c)], []⟩) (set_d ec (by simp)) (ret_of ?_)
  rw [s_lst, s_cons, fz_d mx, s_bind_ok, s_cons, fz_d mo]
  rfl
end Dn.Ka
end
section
set_option Elab.async false
set_option linter.all false
set_option maxRecDepth 100000
set_option maxHeartbeats 4000000
namespace Dn.Ka
open PySem PySem.Spec PyProof.Rows L2
/-! ### the law -/
def askL (A : List Ask) : List D := A.map askD
theorem callo2 {k : List Dn.Arg → Cr} {s0 s2 s4 s5 s6 s7 : Slot} {A A' : List Ask} {xs xs' : List D} {y : D} (e : k [.mut xs, .mut (askL A)] = .ret (.dat y) [xs', askL A']) :
    dCall k (dCons (dFz (dPl 3)) (dCons (dFz (dPl 1)) dNil)) ⟨[s0, .own (askL A), s2, .own xs, s4, s5, s6, s7], []⟩ = .ok (.d y) ⟨[s0, .own (askL A'), s2, .own xs', s4, s5, s6, s7], []⟩ := by
  simp [callS, toArgs, places, distinct, key, e, endC, putAll, putAt]
theorem callo1 {k : List Dn.Arg → Cr} {s0 s2 s4 s5 s6 s7 : Slot} {A : List Ask} {xs xs' : List D} {y : D} (e : k [.mut xs] = .ret (.dat y) [xs']) :
    dCall k (dCons (dFz (dPl 3)) dNil) ⟨[s0, .own (askL A), s2, .own xs, s4, s5, s6, s7], []⟩ = .ok (.d y) ⟨[s0, .own (askL A), s2, .own xs', s4, s5, s6, s7], []⟩ := by
  simp [callS, toArgs, places, distinct, key, e, endC, putAll, putAt]
theorem ar1 {a d : Nat} (h : a + (7 * d + 7) ≤ 400) : a ≤ 500 := by omega
theorem ar2 {a b d : Nat} (l : b = a + 3) (h : a + (7 * d + 7) ≤ 400) : b ≤ 500 := by omega
theorem ar3 {a b c d : Nat} (l : b = a + 3) (l2 : c = b + 4) (h : a + (7 * d + 7) ≤ 400) : c + 7 * d ≤ 400 := by omega
theorem ar4 {a b c d : Nat} (l : b = a + 3) (l2 : c = b + 4) : c + 7 * d = a + (7 * d + 7) := by omega
theorem ar5 (N : Nat) : N + 200000 + 300000 ≤ N + 500000 := by
  rw [Nat.add_assoc]
  exact Nat.add_le_add_left (by decide) N
theorem ar6 (N M : Nat) : N + 500000 + M ≤ N + (M + 500000) := by
  rw [Nat.add_assoc, Nat.add_comm 500000 M]
  exact Nat.le_refl _
theorem turns {s0 s2 s5 s6 s7 : Slot} : ∀ (ds : List D) (N : Nat) (xs : List D) (A : List Ask) (s4 : Slot), Vb N xs → N + 500000 * ds.length ≤ 10 ^ 7 → A.length + 7 * ds.length ≤ 400 → (∀ a ∈ A, Good a) →
    ∃ (xs' : List D) (A' : List Ask) (u : Slot), forL (gN 4) (dIf (dOr (dNot (dTest (dCall g_z_law_systems_right (dCons (dFz (dPl 3)) (dCons (dFz (dPl 1)) dNil))))) (dNot (dTest (dCall g_z_law_bundles_right (dCons (dFz (dPl 3)) (dCons (dFz (dPl 1)) dNil)))))) (dRet (dC (.bl false))) dSkip) ds ⟨[s0, .own (askL A), s2, .own xs, s4, s5, s6, s7], []⟩ = .ok .nx ⟨[s0, .own (askL A'), s2, .own xs', u, s5, s6, s7], []⟩ ∧ A'.length = A.length + 7 * ds.length ∧ (∀ a ∈ A', Good a) ∧ Vb (N + 500000 * ds.length) xs'
  | [], N, xs, A, s4, h, _, _, hA => ⟨xs, A, s4, rfl, rfl, hA, h⟩
  | x :: ds, N, xs, A, s4, h, hN, hl, hA => by
    rw [List.length_cons] at hN hl
    rw [Nat.mul_succ] at hN hl
    generalize hM : 500000 * ds.length = M at hN
    have n0 : N ≤ 10 ^ 8 ∧ N + 200000 ≤ 10 ^ 7 ∧ N + 500000 + M ≤ 10 ^ 7 := by omega
    have n9 : N + 200000 + 300000 ≤ N + 500000 := ar5 N
    obtain ⟨xs1, A1, e1, l1, g1, b1⟩ := systems_right h n0.1 (ar1 hl) hA
    have n1 : N + 200000 ≤ 10 ^ 7 := n0.2.1
    have n2 : A1.length ≤ 500 := ar2 l1 hl
    obtain ⟨xs2, A2, e2, l2, g2, b2⟩ := bundles_right (N := N + 200000) b1 n1 n2 g1
    have b2' : Vb (N + 500000) xs2 := b2.mono n9
    have n3 : N + 500000 + 500000 * ds.length ≤ 10 ^ 7 := by rw [hM]; exact n0.2.2
    have n4 : A2.length + 7 * ds.length ≤ 400 := ar3 l1 l2 hl
    obtain ⟨xs', A', u, e3, l3, g3, b3⟩ := turns (s0 := s0) (s2 := s2) (s5 := s5) (s6 := s6) (s7 := s7) ds (N + 500000) xs2 A2 (.dat x) b2' n3 n4 g2
    refine ⟨xs', A', u, ?_, by rw [l3, List.length_cons]; exact ar4 l1 l2, g3, b3.mono (by rw [List.length_cons, Nat.mul_succ, hM]; exact ar6 N M)⟩
    have c1 := callo2 (s0 := s0) (s2 := s2) (s4 := .dat x) (s5 := s5) (s6 := s6) (s7 := s7) (A := A) (A' := A1) e1
    have c2 := callo2 (s0 := s0) (s2 := s2) (s4 := .dat x) (s5 := s5) (s6 := s6) (s7 := s7) (A := A1) (A' := A2) e2
    have b : (dIf (dOr (dNot (dTest (dCall g_z_law_systems_right (dCons (dFz (dPl 3)) (dCons (dFz (dPl 1)) dNil))))) (dNot (dTest (dCall g_z_law_bundles_right (dCons (dFz (dPl 3)) (dCons (dFz (dPl 1)) dNil)))))) (dRet (dC (.bl false))) dSkip) ⟨[s0, .own (askL A), s2, .own xs, .dat x, s5, s6, s7], []⟩ = .ok .nx ⟨[s0, .own (askL A2), s2, .own xs2, .dat x, s5, s6, s7], []⟩ := q_iff (q_orf (q_not (test_of c1)) (q_not (test_of c2))) rfl
    unfold forL
    rw [show gN 4 x ⟨[s0, .own (askL A), s2, .own xs, s4, s5, s6, s7], []⟩ = some ⟨[s0, .own (askL A), s2, .own xs, .dat x, s5, s6, s7], []⟩ from rfl]
    simp only
    rw [b]
    exact e3
theorem bags {ns : List Int} (hn : ns.length ≤ 63) : ∀ (ks : List Nat) (A : List Ask) (s2 s3 s4 : Slot), A.length + 28 * ks.length ≤ 300 → (∀ a ∈ A, Good a) →
    ∃ (A' : List Ask) (u2 u3 u4 : Slot), forL (gN 2) (dSeq (dSet 3 (dCall g_z_law_bag (dCons (dFz (dVar 0)) (dCons (dFz (dVar 2)) dNil)))) (dSeq (dFor (dRng1 (dCons (dFz (dC (.int 4))) dNil)) (gN 4) (dIf (dOr (dNot (dTest (dCall g_z_law_systems_right (dCons (dFz (dPl 3)) (dCons (dFz (dPl 1)) dNil))))) (dNot (dTest (dCall g_z_law_bundles_right (dCons (dFz (dPl 3)) (dCons (dFz (dPl 1)) dNil)))))) (dRet (dC (.bl false))) dSkip)) (dIf (dNot (dTest (dCall g_z_law_long_right (dCons (dFz (dPl 3)) dNil)))) (dRet (dC (.bl false))) dSkip))) (ks.map fun (k : Nat) => D.int (k : Int)) ⟨[.dat (.scr ns), .own (askL A), s2, s3, s4, .un, .un, .un], []⟩ = .ok .nx ⟨[.dat (.scr ns), .own (askL A'), u2, u3, u4, .un, .un, .un], []⟩ ∧ (∀ a ∈ A', Good a)
  | [], A, s2, s3, s4, _, hA => ⟨A, s2, s3, s4, rfl, hA⟩
  | k :: ks, A, s2, s3, s4, hl, hA => by
    rw [List.length_cons] at hl
    obtain ⟨xs, e1, b1⟩ := bag_of hn k
    have v0 : dVar 0 ⟨[.dat (.scr ns), .own (askL A), .dat (.int (k : Int)), s3, s4, .un, .un, .un], []⟩ = .ok (.d (.scr ns)) ⟨[.dat (.scr ns), .own (askL A), .dat (.int (k : Int)), s3, s4, .un, .un, .un], []⟩ := rfl
    have v2 : dVar 2 ⟨[.dat (.scr ns), .own (askL A), .dat (.int (k : Int)), s3, s4, .un, .un, .un], []⟩ = .ok (.d (.int (k : Int))) ⟨[.dat (.scr ns), .own (askL A), .dat (.int (k : Int)), s3, s4, .un, .un, .un], []⟩ := rfl
    have c1 : dCall g_z_law_bag (dCons (dFz (dVar 0)) (dCons (dFz (dVar 2)) dNil)) ⟨[.dat (.scr ns), .own (askL A), .dat (.int (k : Int)), s3, s4, .un, .un, .un], []⟩ = .ok (.fr xs) ⟨[.dat (.scr ns), .own (askL A), .dat (.int (k : Int)), s3, s4, .un, .un, .un], []⟩ := by
      rw [s_call, s_cons, fz_d v0, s_bind_ok, s_cons, fz_d v2, s_bind_ok, s_nil, s_bind_ok, s_bind_ok, s_bind_ok]
      simp [callS, toArgs, places, distinct, e1, endC, putAll]
    have e2 : dSet 3 (dCall g_z_law_bag (dCons (dFz (dVar 0)) (dCons (dFz (dVar 2)) dNil))) ⟨[.dat (.scr ns), .own (askL A), .dat (.int (k : Int)), s3, s4, .un, .un, .un], []⟩ = .ok .nx ⟨[.dat (.scr ns), .own (askL A), .dat (.int (k : Int)), .own xs, s4, .un, .un, .un], []⟩ := set_fr c1 (by simp)
    obtain ⟨xs2, A2, u, e3, l3, g3, b3⟩ := turns (s0 := .dat (.scr ns)) (s2 := .dat (.int (k : Int))) (s5 := .un) (s6 := .un) (s7 := .un) (rng 0 (4 : Int).toNat) 0 xs A s4 b1 (by rw [rng_length]; decide) (by rw [rng_length, show (4 : Int).toNat = 4 from rfl]; omega) hA
    rw [rng_length, show (4 : Int).toNat = 4 from rfl] at l3 b3
    have r4 : dRng1 (dCons (dFz (dC (.int 4))) dNil) ⟨[.dat (.scr ns), .own (askL A), .dat (.int (k : Int)), .own xs, s4, .un, .un, .un], []⟩ = .ok (rng 0 (4 : Int).toNat) ⟨[.dat (.scr ns), .own (askL A), .dat (.int (k : Int)), .own xs, s4, .un, .un, .un], []⟩ := rng1_of (f := dC (.int 4)) rfl (by decide) (by decide)
    have e4 : dFor (dRng1 (dCons (dFz (dC (.int 4))) dNil)) (gN 4) (dIf (dOr (dNot (dTest (dCall g_z_law_systems_right (dCons (dFz (dPl 3)) (dCons (dFz (dPl 1)) dNil))))) (dNot (dTest (dCall g_z_law_bundles_right (dCons (dFz (dPl 3)) (dCons (dFz (dPl 1)) dNil)))))) (dRet (dC (.bl false))) dSkip) ⟨[.dat (.scr ns), .own (askL A), .dat (.int (k : Int)), .own xs, s4, .un, .un, .un], []⟩ = .ok .nx ⟨[.dat (.scr ns), .own (askL A2), .dat (.int (k : Int)), .own xs2, u, .un, .un, .un], []⟩ := by
      rw [s_for, r4, s_bind_ok]
      exact e3
    obtain ⟨xs3, e5, b5⟩ := long_right b3 (by decide)
    have c5 := callo1 (s0 := .dat (.scr ns)) (s2 := .dat (.int (k : Int))) (s4 := u) (s5 := .un) (s6 := .un) (s7 := .un) (A := A2) e5
    have b : (dSeq (dSet 3 (dCall g_z_law_bag (dCons (dFz (dVar 0)) (dCons (dFz (dVar 2)) dNil)))) (dSeq (dFor (dRng1 (dCons (dFz (dC (.int 4))) dNil)) (gN 4) (dIf (dOr (dNot (dTest (dCall g_z_law_systems_right (dCons (dFz (dPl 3)) (dCons (dFz (dPl 1)) dNil))))) (dNot (dTest (dCall g_z_law_bundles_right (dCons (dFz (dPl 3)) (dCons (dFz (dPl 1)) dNil)))))) (dRet (dC (.bl false))) dSkip)) (dIf (dNot (dTest (dCall g_z_law_long_right (dCons (dFz (dPl 3)) dNil)))) (dRet (dC (.bl false))) dSkip))) ⟨[.dat (.scr ns), .own (askL A), .dat (.int (k : Int)), s3, s4, .un, .un, .un], []⟩ = .ok .nx ⟨[.dat (.scr ns), .own (askL A2), .dat (.int (k : Int)), .own xs3, u, .un, .un, .un], []⟩ := q_nx e2 (q_nx e4 (q_iff (q_not (test_of c5)) rfl))
    obtain ⟨A', u2, u3, u4, e6, g6⟩ := bags hn ks A2 (.dat (.int (k : Int))) (.own xs3) u (by omega) g3
    refine ⟨A', u2, u3, u4, ?_, g6⟩
    rw [List.map_cons]
    unfold forL
    rw [show gN 2 (.int (k : Int)) ⟨[.dat (.scr ns), .own (askL A), s2, s3, s4, .un, .un, .un], []⟩ = some ⟨[.dat (.scr ns), .own (askL A), .dat (.int (k : Int)), s3, s4, .un, .un, .un], []⟩ from rfl]
    simp only
    rw [b]
    exact e6
theorem asks {s0 s1 s2 s3 s4 : Slot} : ∀ (B : List Ask) (s5 s6 s7 : Slot), (∀ a ∈ B, Good a) → ∃ u5 u6 u7, forL (gT 3 (gsC (gN 5) (gsC (gN 6) (gsC (gN 7) gsN)))) (dIf (dNot (dTest (dCall (g_z_law_same 8) (dCons (dFz (dCall g_z_law_read (dCons (dFz (dVar 5)) (dCons (dFz (dVar 6)) dNil)))) (dCons (dFz (dVar 7)) dNil))))) (dRet (dC (.bl false))) dSkip) (B.map askD) ⟨[s0, s1, s2, s3, s4, s5, s6, s7], []⟩ = .ok .nx ⟨[s0, s1, s2, s3, s4, u5, u6, u7], []⟩
  | [], s5, s6, s7, _ => ⟨s5, s6, s7, rfl⟩
  | a :: B, s5, s6, s7, h => by
    obtain ⟨u5, u6, u7, e⟩ := asks (s0 := s0) (s1 := s1) (s2 := s2) (s3 := s3) (s4 := s4) B (.dat (.str a.1)) (.dat (.str a.2.1)) (.dat a.2.2) fun z hz => h z (List.mem_cons_of_mem _ hz)
    refine ⟨u5, u6, u7, ?_⟩
    have g := h a List.mem_cons_self
    have v5 : dVar 5 ⟨[s0, s1, s2, s3, s4, .dat (.str a.1), .dat (.str a.2.1), .dat a.2.2], []⟩ = .ok (.d (.str a.1)) ⟨[s0, s1, s2, s3, s4, .dat (.str a.1), .dat (.str a.2.1), .dat a.2.2], []⟩ := rfl
    have v6 : dVar 6 ⟨[s0, s1, s2, s3, s4, .dat (.str a.1), .dat (.str a.2.1), .dat a.2.2], []⟩ = .ok (.d (.str a.2.1)) ⟨[s0, s1, s2, s3, s4, .dat (.str a.1), .dat (.str a.2.1), .dat a.2.2], []⟩ := rfl
    have v7 : dVar 7 ⟨[s0, s1, s2, s3, s4, .dat (.str a.1), .dat (.str a.2.1), .dat a.2.2], []⟩ = .ok (.d a.2.2) ⟨[s0, s1, s2, s3, s4, .dat (.str a.1), .dat (.str a.2.1), .dat a.2.2], []⟩ := rfl
    have b : (dIf (dNot (dTest (dCall (g_z_law_same 8) (dCons (dFz (dCall g_z_law_read (dCons (dFz (dVar 5)) (dCons (dFz (dVar 6)) dNil)))) (dCons (dFz (dVar 7)) dNil))))) (dRet (dC (.bl false))) dSkip) ⟨[s0, s1, s2, s3, s4, .dat (.str a.1), .dat (.str a.2.1), .dat a.2.2], []⟩ = .ok .nx ⟨[s0, s1, s2, s3, s4, .dat (.str a.1), .dat (.str a.2.1), .dat a.2.2], []⟩ := q_iff (q_not (test_of (call2 (call2 v5 rfl v6 rfl g.r) rfl v7 rfl g.s8))) rfl
    rw [List.map_cons]
    unfold forL
    rw [show (gT 3 (gsC (gN 5) (gsC (gN 6) (gsC (gN 7) gsN)))) (askD a) ⟨[s0, s1, s2, s3, s4, s5, s6, s7], []⟩ = some ⟨[s0, s1, s2, s3, s4, .dat (.str a.1), .dat (.str a.2.1), .dat a.2.2], []⟩ from rfl]
    simp only
    rw [b]
    exact e
theorem law_holds (ns : List Int) (hn : ns.length ≤ 63) : g_p_law [.dat (.scr ns)] = .ret (.dat (.bl true)) [] := by
  have v0 : dVar 0 ⟨[.dat (.scr ns), .own [], .un, .un, .un, .un, .un, .un], []⟩ = .ok (.d (.scr ns)) ⟨[.dat (.scr ns), .own [], .un, .un, .un, .un, .un, .un], []⟩ := rfl
  have ln : dB opLen (dCons (dFz (dVar 0)) dNil) ⟨[.dat (.scr ns), .own [], .un, .un, .un, .un, .un, .un], []⟩ = .ok (.d (.int (ns.length : Int))) ⟨[.dat (.scr ns), .own [], .un, .un, .un, .un, .un, .un], []⟩ := b1_of v0 rfl rfl
  have mn : dB opMin2 (dCons (dFz (dC (.int 2))) (dCons (dFz (dB opLen (dCons (dFz (dVar 0)) dNil))) dNil)) ⟨[.dat (.scr ns), .own [], .un, .un, .un, .un, .un, .un], []⟩ = .ok (.d (.int (if (ns.length : Int) < 2 then (ns.length : Int) else 2))) ⟨[.dat (.scr ns), .own [], .un, .un, .un, .un, .un, .un], []⟩ := by
    rw [s_b, s_cons, show dFz (dC (.int 2)) ⟨[.dat (.scr ns), .own [], .un, .un, .un, .un, .un, .un], []⟩ = .ok (.d (.int 2)) ⟨[.dat (.scr ns), .own [], .un, .un, .un, .un, .un, .un], []⟩ from rfl, s_bind_ok, s_cons, fz_d ln]
    rfl
  generalize hz : (if (ns.length : Int) < 2 then (ns.length : Int) else 2) = z at mn
  have mx : dB opMax2 (dCons (dFz (dC (.int 1))) (dCons (dFz (dB opMin2 (dCons (dFz (dC (.int 2))) (dCons (dFz (dB opLen (dCons (dFz (dVar 0)) dNil))) dNil)))) dNil)) ⟨[.dat (.scr ns), .own [], .un, .un, .un, .un, .un, .un], []⟩ = .ok (.d (.int (if z > 1 then z else 1))) ⟨[.dat (.scr ns), .own [], .un, .un, .un, .un, .un, .un], []⟩ := by
    rw [s_b, s_cons, show dFz (dC (.int 1)) ⟨[.dat (.scr ns), .own [], .un, .un, .un, .un, .un, .un], []⟩ = .ok (.d (.int 1)) ⟨[.dat (.scr ns), .own [], .un, .un, .un, .un, .un, .un], []⟩ from rfl, s_bind_ok, s_cons, fz_d mn]
    rfl
  have zb : z ≤ 2 := by
    rw [← hz]
    split <;> omega
  generalize hw : (if z > 1 then z else 1) = w at mx
  have wb : 1 ≤ w ∧ w ≤ 2 := by
    rw [← hw]
    split <;> omega
  have rg := rng1_of mx (by omega) (by omega)
  have er : rng 0 w.toNat = (List.range w.toNat).map fun (k : Nat) => D.int (k : Int) := by
    unfold rng
    refine List.map_congr_left fun k _ => ?_
    rw [Int.zero_add]
  rw [er] at rg
  obtain ⟨A, u2, u3, u4, e1, g1⟩ := bags hn (List.range w.toNat) [] .un .un .un (by rw [List.length_range, List.length_nil]; omega) (fun a ha => by cases ha)
  obtain ⟨u5, u6, u7, e2⟩ := asks (s0 := .dat (.scr ns)) (s1 := .own (askL A)) (s2 := u2) (s3 := u3) (s4 := u4) A.reverse .un .un .un (fun a ha => g1 a (List.mem_reverse.mp ha))
  have it : dItems (dOp1 opRev (dPl 1)) ⟨[.dat (.scr ns), .own (askL A), u2, u3, u4, .un, .un, .un], []⟩ = .ok (A.reverse.map askD) ⟨[.dat (.scr ns), .own (askL A), u2, u3, u4, .un, .un, .un], []⟩ := by
    have e : dOp1 opRev (dPl 1) ⟨[.dat (.scr ns), .own (askL A), u2, u3, u4, .un, .un, .un], []⟩ = .ok (.fr (A.reverse.map askD)) ⟨[.dat (.scr ns), .own (askL A), u2, u3, u4, .un, .un, .un], []⟩ := by
      rw [List.map_reverse]
      rfl
    exact items_of e rfl rfl
  refine ret_data (s1 := ⟨[.dat (.scr ns), .own (askL A), u2, u3, u4, u5, u6, u7], []⟩) ?_ rfl
  rw [show initS 8 [.dat (.scr ns)] = ⟨[.dat (.scr ns), .un, .un, .un, .un, .un, .un, .un], []⟩ from rfl]
  unfold b_p_law
  refine q_nx (s1 := ⟨[.dat (.scr ns), .own [], .un, .un, .un, .un, .un, .un], []⟩) rfl (q_nx (s1 := ⟨[.dat (.scr ns), .own (askL A), u2, u3, u4, .un, .un, .un], []⟩) ?_ (q_nx (s1 := ⟨[.dat (.scr ns), .own (askL A), u2, u3, u4, u5, u6, u7], []⟩) ?_ rfl))
  · rw [s_for, rg, s_bind_ok]
    exact e1
  · rw [s_for, it, s_bind_ok]
    exact e2
end Dn.Ka
end
section
set_option Elab.async false
set_option linter.all false
set_option maxRecDepth 100000
set_option maxHeartbeats 4000000
namespace Dn.Ka
open PySem PySem.Spec PyProof.Rows L2
def top (i : Nat) : Stmt := PySem.Challenge.pw_wholesayings_k94_whole_systems_and_bundl.main.body.getD i (.Pass ⟨0, 0, 0, 0⟩)
abbrev s_p_show_sides : Stmt := top 2
abbrev s_p_show_question : Stmt := top 3
abbrev s_p_show_book : Stmt := top 4
abbrev s_p_show_system : Stmt := top 5
abbrev s_p_show_bundle : Stmt := top 6
abbrev s_p_show_whole : Stmt := top 7
abbrev s_p_is_integer : Stmt := top 12
abbrev s_p_is_pair : Stmt := top 13
abbrev s_p_are_integers : Stmt := top 14
abbrev s_p_divided : Stmt := top 15
abbrev s_p_is_question : Stmt := top 17
abbrev s_p_row_of_question : Stmt := top 18
abbrev s_p_ground_of : Stmt := top 19
abbrev s_p_is_book : Stmt := top 20
abbrev s_p_is_stick : Stmt := top 22
abbrev s_p_is_bundle_of : Stmt := top 23
abbrev s_p_is_bundle : Stmt := top 24
abbrev s_p_is_line : Stmt := top 26
abbrev s_p_is_system : Stmt := top 27
abbrev s_p_integer_of : Stmt := top 31
abbrev s_p_whole : Stmt := top 32
abbrev s_p_integers_of : Stmt := top 33
abbrev s_p_question_of : Stmt := top 34
abbrev s_p_unknowns_of : Stmt := top 35
abbrev s_p_only : Stmt := top 36
abbrev s_p_read_book : Stmt := top 37
abbrev s_p_headed : Stmt := top 38
abbrev s_p_read_system : Stmt := top 39
abbrev s_p_read_bundle : Stmt := top 40
abbrev s_p_read_whole : Stmt := top 41
abbrev s_z_law_bag : Stmt := top 43
abbrev s_z_law_take : Stmt := top 44
abbrev s_z_law_same : Stmt := top 45
abbrev s_z_law_divisor : Stmt := top 46
abbrev s_z_law_ground : Stmt := top 47
abbrev s_z_law_integer : Stmt := top 48
abbrev s_z_law_rows : Stmt := top 49
abbrev s_z_law_system : Stmt := top 50
abbrev s_z_law_bundle : Stmt := top 51
abbrev s_z_law_said : Stmt := top 52
abbrev s_z_law_said_system : Stmt := top 53
abbrev s_z_law_said_bundle : Stmt := top 54
abbrev s_z_law_is_book : Stmt := top 55
abbrev s_z_law_read : Stmt := top 56
abbrev s_z_law_systems_right : Stmt := top 57
abbrev s_z_law_bundles_right : Stmt := top 58
abbrev s_z_law_long_right : Stmt := top 59
abbrev s_p_law : Stmt := top 60
theorem sc_p_show_sides : FnScope ["sides", "side"] ["sides"] (defScope s_p_show_sides) := ⟨rfl, rfl, rfl, by decide +kernel, rfl, by decide +kernel, by decide +kernel⟩
theorem sc_p_show_question : FnScope ["question", "sides", "wall"] ["question"] (defScope s_p_show_question) := ⟨rfl, rfl, rfl, by decide +kernel, rfl, by decide +kernel, by decide +kernel⟩
theorem sc_p_show_book : FnScope ["book", "d", "questions", "question"] ["book"] (defScope s_p_show_book) := ⟨rfl, rfl, rfl, by decide +kernel, rfl, by decide +kernel, by decide +kernel⟩
theorem sc_p_show_system : FnScope ["system", "d", "rows", "row"] ["system"] (defScope s_p_show_system) := ⟨rfl, rfl, rfl, by decide +kernel, rfl, by decide +kernel, by decide +kernel⟩
theorem sc_p_show_bundle : FnScope ["bundle", "d", "sticks", "stick"] ["bundle"] (defScope s_p_show_bundle) := ⟨rfl, rfl, rfl, by decide +kernel, rfl, by decide +kernel, by decide +kernel⟩
theorem sc_p_show_whole : FnScope ["point"] ["point"] (defScope s_p_show_whole) := ⟨rfl, rfl, rfl, by decide +kernel, rfl, by decide +kernel, by decide +kernel⟩
theorem sc_p_is_integer : FnScope ["value"] ["value"] (defScope s_p_is_integer) := ⟨rfl, rfl, rfl, by decide +kernel, rfl, by decide +kernel, by decide +kernel⟩
theorem sc_p_is_pair : FnScope ["value"] ["value"] (defScope s_p_is_pair) := ⟨rfl, rfl, rfl, by decide +kernel, rfl, by decide +kernel, by decide +kernel⟩
theorem sc_p_are_integers : FnScope ["value", "a"] ["value"] (defScope s_p_are_integers) := ⟨rfl, rfl, rfl, by decide +kernel, rfl, by decide +kernel, by decide +kernel⟩
theorem sc_p_divided : FnScope ["row", "common", "a"] ["row"] (defScope s_p_divided) := ⟨rfl, rfl, rfl, by decide +kernel, rfl, by decide +kernel, by decide +kernel⟩
theorem sc_p_is_question : FnScope ["d", "told", "side"] ["d", "told"] (defScope s_p_is_question) := ⟨rfl, rfl, rfl, by decide +kernel, rfl, by decide +kernel, by decide +kernel⟩
theorem sc_p_row_of_question : FnScope ["question"] ["question"] (defScope s_p_row_of_question) := ⟨rfl, rfl, rfl, by decide +kernel, rfl, by decide +kernel, by decide +kernel⟩
theorem sc_p_ground_of : FnScope ["question", "numbers", "first", "a"] ["question"] (defScope s_p_ground_of) := ⟨rfl, rfl, rfl, by decide +kernel, rfl, by decide +kernel, by decide +kernel⟩
theorem sc_p_is_book : FnScope ["told", "question"] ["told"] (defScope s_p_is_book) := ⟨rfl, rfl, rfl, by decide +kernel, rfl, by decide +kernel, by decide +kernel⟩
theorem sc_p_is_stick : FnScope ["d", "told", "a"] ["d", "told"] (defScope s_p_is_stick) := ⟨rfl, rfl, rfl, by decide +kernel, rfl, by decide +kernel, by decide +kernel⟩
theorem sc_p_is_bundle_of : FnScope ["told", "stick"] ["told"] (defScope s_p_is_bundle_of) := ⟨rfl, rfl, rfl, by decide +kernel, rfl, by decide +kernel, by decide +kernel⟩
theorem sc_p_is_bundle : FnScope ["told"] ["told"] (defScope s_p_is_bundle) := ⟨rfl, rfl, rfl, by decide +kernel, rfl, by decide +kernel, by decide +kernel⟩
theorem sc_p_is_line : FnScope ["d", "told"] ["d", "told"] (defScope s_p_is_line) := ⟨rfl, rfl, rfl, by decide +kernel, rfl, by decide +kernel, by decide +kernel⟩
theorem sc_p_is_system : FnScope ["told", "line"] ["told"] (defScope s_p_is_system) := ⟨rfl, rfl, rfl, by decide +kernel, rfl, by decide +kernel, by decide +kernel⟩
theorem sc_p_integer_of : FnScope ["text", "digits", "sign"] ["text"] (defScope s_p_integer_of) := ⟨rfl, rfl, rfl, by decide +kernel, rfl, by decide +kernel, by decide +kernel⟩
theorem sc_p_whole : FnScope ["parts", "part"] ["parts"] (defScope s_p_whole) := ⟨rfl, rfl, rfl, by decide +kernel, rfl, by decide +kernel, by decide +kernel⟩
theorem sc_p_integers_of : FnScope ["text", "word"] ["text"] (defScope s_p_integers_of) := ⟨rfl, rfl, rfl, by decide +kernel, rfl, by decide +kernel, by decide +kernel⟩
theorem sc_p_question_of : FnScope ["line", "sides", "colon", "wall"] ["line"] (defScope s_p_question_of) := ⟨rfl, rfl, rfl, by decide +kernel, rfl, by decide +kernel, by decide +kernel⟩
theorem sc_p_unknowns_of : FnScope ["line", "word", "gap", "number"] ["line"] (defScope s_p_unknowns_of) := ⟨rfl, rfl, rfl, by decide +kernel, rfl, by decide +kernel, by decide +kernel⟩
theorem sc_p_only : FnScope ["told", "text", "line", "gap", "rest", "found"] ["told", "text"] (defScope s_p_only) := ⟨rfl, rfl, rfl, by decide +kernel, rfl, by decide +kernel, by decide +kernel⟩
theorem sc_p_read_book : FnScope ["text", "first", "lines", "d", "questions", "at", "line", "question", "book"] ["text"] (defScope s_p_read_book) := ⟨rfl, rfl, rfl, by decide +kernel, rfl, by decide +kernel, by decide +kernel⟩
theorem sc_p_headed : FnScope ["word", "told", "text", "first", "lines", "head", "gap", "number", "d", "found", "line", "at", "part"] ["word", "told", "text"] (defScope s_p_headed) := ⟨rfl, rfl, rfl, by decide +kernel, rfl, by decide +kernel, by decide +kernel⟩
theorem sc_p_read_system : FnScope ["text", "system"] ["text"] (defScope s_p_read_system) := ⟨rfl, rfl, rfl, by decide +kernel, rfl, by decide +kernel, by decide +kernel⟩
theorem sc_p_read_bundle : FnScope ["text", "bundle"] ["text"] (defScope s_p_read_bundle) := ⟨rfl, rfl, rfl, by decide +kernel, rfl, by decide +kernel, by decide +kernel⟩
theorem sc_p_read_whole : FnScope ["text"] ["text"] (defScope s_p_read_whole) := ⟨rfl, rfl, rfl, by decide +kernel, rfl, by decide +kernel, by decide +kernel⟩
theorem sc_z_law_bag : FnScope ["script", "k", "cell"] ["script", "k"] (defScope s_z_law_bag) := ⟨rfl, rfl, rfl, by decide +kernel, rfl, by decide +kernel, by decide +kernel⟩
theorem sc_z_law_take : FnScope ["bag", "many", "found", "mixed"] ["bag", "many"] (defScope s_z_law_take) := ⟨rfl, rfl, rfl, by decide +kernel, rfl, by decide +kernel, by decide +kernel⟩
theorem sc_z_law_same : FnScope ["told", "due", "k"] ["told", "due"] (defScope s_z_law_same) := ⟨rfl, rfl, rfl, by decide +kernel, rfl, by decide +kernel, by decide +kernel⟩
theorem sc_z_law_divisor : FnScope ["numbers", "common", "number", "one", "rest"] ["numbers"] (defScope s_z_law_divisor) := ⟨rfl, rfl, rfl, by decide +kernel, rfl, by decide +kernel, by decide +kernel⟩
theorem sc_z_law_ground : FnScope ["sides", "wall", "common", "first", "side"] ["sides", "wall"] (defScope s_z_law_ground) := ⟨rfl, rfl, rfl, by decide +kernel, rfl, by decide +kernel, by decide +kernel⟩
theorem sc_z_law_integer : FnScope ["bag", "digits", "found", "turn"] ["bag", "digits"] (defScope s_z_law_integer) := ⟨rfl, rfl, rfl, by decide +kernel, rfl, by decide +kernel, by decide +kernel⟩
theorem sc_z_law_rows : FnScope ["bag", "d", "many", "digits", "rows_now", "row", "sides", "place"] ["bag", "d", "many", "digits"] (defScope s_z_law_rows) := ⟨rfl, rfl, rfl, by decide +kernel, rfl, by decide +kernel, by decide +kernel⟩
theorem sc_z_law_system : FnScope ["bag", "digits", "d", "many", "rows_now", "row"] ["bag", "digits"] (defScope s_z_law_system) := ⟨rfl, rfl, rfl, by decide +kernel, rfl, by decide +kernel, by decide +kernel⟩
theorem sc_z_law_bundle : FnScope ["bag", "digits", "d", "many"] ["bag", "digits"] (defScope s_z_law_bundle) := ⟨rfl, rfl, rfl, by decide +kernel, rfl, by decide +kernel, by decide +kernel⟩
theorem sc_z_law_said : FnScope ["row", "a"] ["row"] (defScope s_z_law_said) := ⟨rfl, rfl, rfl, by decide +kernel, rfl, by decide +kernel, by decide +kernel⟩
theorem sc_z_law_said_system : FnScope ["word", "system", "lines", "sides", "wall"] ["word", "system"] (defScope s_z_law_said_system) := ⟨rfl, rfl, rfl, by decide +kernel, rfl, by decide +kernel, by decide +kernel⟩
theorem sc_z_law_said_bundle : FnScope ["bundle", "stick"] ["bundle"] (defScope s_z_law_said_bundle) := ⟨rfl, rfl, rfl, by decide +kernel, rfl, by decide +kernel, by decide +kernel⟩
theorem sc_z_law_is_book : FnScope ["system", "grounds", "sides", "wall"] ["system"] (defScope s_z_law_is_book) := ⟨rfl, rfl, rfl, by decide +kernel, rfl, by decide +kernel, by decide +kernel⟩
theorem sc_z_law_read : FnScope ["kind", "text", "found", "error"] ["kind", "text"] (defScope s_z_law_read) := ⟨rfl, rfl, rfl, by decide +kernel, rfl, by decide +kernel, by decide +kernel⟩
theorem sc_z_law_systems_right : FnScope ["bag", "asked", "system", "text", "other", "kind", "said", "due"] ["bag", "asked"] (defScope s_z_law_systems_right) := ⟨rfl, rfl, rfl, by decide +kernel, rfl, by decide +kernel, by decide +kernel⟩
theorem sc_z_law_bundles_right : FnScope ["bag", "asked", "bundle", "point", "place", "text", "line", "kind", "said", "due"] ["bag", "asked"] (defScope s_z_law_bundles_right) := ⟨rfl, rfl, rfl, by decide +kernel, rfl, by decide +kernel, by decide +kernel⟩
theorem sc_z_law_long_right : FnScope ["bag", "system", "bundle", "told", "due"] ["bag"] (defScope s_z_law_long_right) := ⟨rfl, rfl, rfl, by decide +kernel, rfl, by decide +kernel, by decide +kernel⟩
theorem sc_p_law : FnScope ["script", "asked", "k", "bag", "turn", "kind", "text", "due"] ["script"] (defScope s_p_law) := ⟨rfl, rfl, rfl, by decide +kernel, rfl, by decide +kernel, by decide +kernel⟩
structure Glob (mg : Str → Option Value) (C : Cf) : Prop where
  z_abs : mg ("abs" : Str) = none
  z_all : mg ("all" : Str) = none
  z_any : mg ("any" : Str) = none
  z_bool : mg ("bool" : Str) = none
  z_enumerate : mg ("enumerate" : Str) = none
  z_int : mg ("int" : Str) = none
  z_isinstance : mg ("isinstance" : Str) = none
  z_len : mg ("len" : Str) = none
  z_list : mg ("list" : Str) = none
  z_max : mg ("max" : Str) = none
  z_min : mg ("min" : Str) = none
  z_range : mg ("range" : Str) = none
  z_str : mg ("str" : Str) = none
  z_tuple : mg ("tuple" : Str) = none
  z_ValueError : mg ("ValueError" : Str) = none
  i_gcd : mg ("gcd" : Str) = some (.builtin "math.gcd")
  c_DIGITS : ∃ t, mg ("DIGITS" : Str) = some (.str ("0123456789" : Str) t)
  c_MOST_DIGITS : ∃ t, mg ("MOST_DIGITS" : Str) = some (.int 9 t)
  f_question_of : mg ("question_of" : Str) = some (.ref (C.fa 0))
  f_integers_of : mg ("integers_of" : Str) = some (.ref (C.fa 1))
section
variable {P : Program} {w : World} {K : PySem.W.Frag} {mg : Str → Option Value} {base : Heap} {C : Cf} {a : Addr} {fd : FuncData}
theorem ok_p_show_sides (G : Glob mg C) (hC : K = C.K) (F : FnP K "show_sides" "show_sides" s_p_show_sides a fd)  : FnOk P w K mg base (L2.CX P w) 1 a fd ["sides"] (Pr C 1 g_p_show_sides) :=
  def_okD F sc_p_show_sides hC fun _ _ _ _ _ _ _ K po =>
  (sb_one (ss_ret (se_join K se_str (se_lc [1] K (si_items K (se_var 0) _) (blkOk_by (own := [(("side" : Str), 1)]) (by with_unfolding_all rfl)) (fun _ _ _ _ _ => (sgc_name (K.blk _ _ _ _ _).nd 1)) (gown_name 1) (fun _ _ _ _ _ => sc_nil) (fun _ _ _ _ _ => (se_tostr (sa_cons (se_var 1) sa_nil) G.z_str))))))
theorem ok_p_is_integer (G : Glob mg C) (hC : K = C.K) (F : FnP K "is_integer" "is_integer" s_p_is_integer a fd)  : FnOk P w K mg base (L2.CX P w) 1 a fd ["value"] (Pr C 1 g_p_is_integer) :=
  def_okD F sc_p_is_integer hC fun _ _ _ _ _ _ _ K po =>
  (sb_one (ss_ret (se_and (se_isi K (sa_cons (se_var 0) (sa_cons (se_ty (T := "int") G.z_int (by decide +kernel)) sa_nil)) G.z_isinstance) (se_one (se_not (se_isi K (sa_cons (se_var 0) (sa_cons (se_ty (T := "bool") G.z_bool (by decide +kernel)) sa_nil)) G.z_isinstance))))))
theorem ok_p_is_pair (G : Glob mg C) (hC : K = C.K) (F : FnP K "is_pair" "is_pair" s_p_is_pair a fd)  : FnOk P w K mg base (L2.CX P w) 1 a fd ["value"] (Pr C 1 g_p_is_pair) :=
  def_okD F sc_p_is_pair hC fun _ _ _ _ _ _ _ K po =>
  (sb_one (ss_ret (se_and (se_isi K (sa_cons (se_var 0) (sa_cons (se_ty (T := "tuple") G.z_tuple (by decide +kernel)) sa_nil)) G.z_isinstance) (se_one (se_eq K (se_len K (sa_cons (se_var 0) sa_nil) G.z_len) se_int)))))
theorem ok_p_divided (G : Glob mg C) (hC : K = C.K) (F : FnP K "divided" "divided" s_p_divided a fd)  : FnOk P w K mg base (L2.CX P w) 1 a fd ["row"] (Pr C 1 g_p_divided) :=
  def_okD F sc_p_divided hC fun _ _ _ _ _ _ _ K po =>
  (sb_cons (ss_set K 1 se_int)
  (sb_cons (ss_for K po (si_items K (se_var 0) _) (sg_name K.nd 2) (sb_one (ss_set K 1 (se_gcd (sa_cons (se_var 1) (sa_cons (se_var 2) sa_nil)) G.i_gcd))))
  (sb_one (ss_ret (se_totup K (sa_cons (se_lc [2] K (si_items K (se_var 0) _) (blkOk_by (own := [(("a" : Str), 2)]) (by with_unfolding_all rfl)) (fun _ _ _ _ _ => (sgc_name (K.blk _ _ _ _ _).nd 2)) (gown_name 2) (fun _ _ _ _ _ => sc_nil) (fun _ _ _ _ _ => (se_div (se_var 2) (se_var 1)))) sa_nil) G.z_tuple)))))
theorem ok_p_row_of_question (G : Glob mg C) (hC : K = C.K) (F : FnP K "row_of_question" "row_of_question" s_p_row_of_question a fd)  : FnOk P w K mg base (L2.CX P w) 1 a fd ["question"] (Pr C 1 g_p_row_of_question) :=
  def_okD F sc_p_row_of_question hC fun _ _ _ _ _ _ _ K po =>
  (sb_one (ss_ret (se_add K (se_ix K (se_var 0) se_int) (se_tup (sa_cons (se_ix K (se_var 0) se_int) sa_nil)))))
theorem ok_p_integer_of (G : Glob mg C) (hC : K = C.K) (F : FnP K "integer_of" "integer_of" s_p_integer_of a fd)  : FnOk P w K mg base (L2.CX P w) 1 a fd ["text"] (Pr C 1 g_p_integer_of) :=
  def_okD F sc_p_integer_of hC fun _ _ _ _ _ _ _ K po =>
  (sb_cons (ss_set K 1 (se_if (st_val (se_starts (se_var 0) se_str)) (se_sl K (se_var 0) (so_some se_int) so_none) (se_var 0)))
  (sb_cons (ss_if (sw_t (sw_or (st_not (st_ltle se_int (se_len K (sa_cons (se_var 1) sa_nil) G.z_len) (se_gint G.c_MOST_DIGITS))) (sw_or1 (st_not (st_val (se_all K (sa_cons (se_lc [2] K (si_items K (se_var 1) _) (blkOk_by (own := [(("sign" : Str), 2)]) (by with_unfolding_all rfl)) (fun _ _ _ _ _ => (sgc_name (K.blk _ _ _ _ _).nd 2)) (gown_name 2) (fun _ _ _ _ _ => sc_nil) (fun _ _ _ _ _ => (se_in (K.blk _ _ _ _ _) (se_var 2) (se_gstr G.c_DIGITS)))) sa_nil) G.z_all)))))) (sb_one (ss_ret se_non)) sb_nil)
  (sb_one (ss_ret (se_if (st_eq K (se_tostr (sa_cons (se_toint (sa_cons (se_var 0) sa_nil) G.z_int) sa_nil) G.z_str) (se_var 0)) (se_toint (sa_cons (se_var 0) sa_nil) G.z_int) se_non)))))
theorem ok_p_whole (G : Glob mg C) (hC : K = C.K) (F : FnP K "whole" "whole" s_p_whole a fd)  : FnOk P w K mg base (L2.CX P w) 1 a fd ["parts"] (Pr C 1 g_p_whole) :=
  def_okD F sc_p_whole hC fun _ _ _ _ _ _ _ K po =>
  (sb_one (ss_ret (se_if (st_val (se_any K (sa_cons (se_lc [1] K (si_items K (se_var 0) _) (blkOk_by (own := [(("part" : Str), 1)]) (by with_unfolding_all rfl)) (fun _ _ _ _ _ => (sgc_name (K.blk _ _ _ _ _).nd 1)) (gown_name 1) (fun _ _ _ _ _ => sc_nil) (fun _ _ _ _ _ => (se_isN (se_var 1) se_non))) sa_nil) G.z_any)) se_non (se_totup K (sa_cons (se_var 0) sa_nil) G.z_tuple))))
theorem ok_z_law_bag (G : Glob mg C) (hC : K = C.K) (F : FnP K "_law_bag" "_law_bag" s_z_law_bag a fd)  : FnOk P w K mg base (L2.CX P w) 1 a fd ["script", "k"] (Pr C 2 g_z_law_bag) :=
  def_okD F sc_z_law_bag hC fun _ _ _ _ _ _ _ K po =>
  (sb_cons (ss_set K 2 (se_if (st_lt (se_var 1) (se_len K (sa_cons (se_var 0) sa_nil) G.z_len)) (se_toint (sa_cons (se_ix K (se_var 0) (se_var 1)) sa_nil) G.z_int) (se_add K (se_mul K (se_var 1) se_int) (se_mul K (se_len K (sa_cons (se_var 0) sa_nil) G.z_len) se_int))))
  (sb_one (ss_ret (se_lst (sa_cons (se_max2 K (sa_cons se_int (sa_cons (se_sub (se_abs (sa_cons (se_var 2) sa_nil) G.z_abs) (se_pow se_int se_int)) sa_nil)) G.z_max) (sa_cons (se_mod (se_toint (sa_cons (se_add K (se_add K (se_mul K (se_var 2) se_int) (se_mul K (se_var 1) se_int)) se_int) sa_nil) G.z_int) (se_add K (se_pow se_int se_int) se_int)) (sa_cons se_int sa_nil)))))))
theorem ok_z_law_take (G : Glob mg C) (hC : K = C.K) (F : FnP K "_law_take" "_law_take" s_z_law_take a fd)  : FnOk P w K mg base (L2.CX P w) 1 a fd ["bag", "many"] (Pr C 2 g_z_law_take) :=
  def_okD F sc_z_law_take hC fun _ _ _ _ _ _ _ K po =>
  (sb_cons (ss_if (st_gt (se_ix K (se_pl 0) se_int) se_int) (sb_cons (ss_set K 2 (se_mod (se_toint (sa_cons (se_ix K (se_pl 0) se_int) sa_nil) G.z_int) (se_var 1)))
   (sb_cons (ss_setix (se_pl 0) se_int (se_div (se_ix K (se_pl 0) se_int) (se_var 1)))
   (sb_one (ss_ret (se_var 2))))) sb_nil)
  (sb_cons (ss_setix (se_pl 0) se_int (se_add K (se_ix K (se_pl 0) se_int) se_int))
  (sb_cons (ss_set K 3 (se_mod (se_toint (sa_cons (se_pow (se_add K (se_ix K (se_pl 0) se_int) (se_mul K se_int (se_ix K (se_pl 0) se_int))) se_int) sa_nil) G.z_int) (se_add K (se_pow se_int se_int) se_int)))
  (sb_cons (ss_set K 3 (se_mod (se_toint (sa_cons (se_pow (se_add K (se_var 3) se_int) se_int) sa_nil) G.z_int) (se_add K (se_pow se_int se_int) se_int)))
  (sb_one (ss_ret (se_mod (se_toint (sa_cons (se_div (se_var 3) (se_pow se_int se_int)) sa_nil) G.z_int) (se_var 1))))))))
theorem ok_z_law_divisor (G : Glob mg C) (hC : K = C.K) (F : FnP K "_law_divisor" "_law_divisor" s_z_law_divisor a fd)  : FnOk P w K mg base (L2.CX P w) 1 a fd ["numbers"] (Pr C 1 g_z_law_divisor) :=
  def_okD F sc_z_law_divisor hC fun _ _ _ _ _ _ _ K po =>
  (sb_cons (ss_set K 1 se_int)
  (sb_cons (ss_for K po (si_items K (se_var 0) _) (sg_name K.nd 2) (sb_cons (ss_par K 3 4 (sa_cons (se_abs (sa_cons (se_var 2) sa_nil) G.z_abs) (sa_cons (se_var 1) sa_nil)))
   (sb_cons (ss_while po (st_ne K (se_var 4) se_int) (sb_one (ss_par K 3 4 (sa_cons (se_var 4) (sa_cons (se_mod (se_toint (sa_cons (se_var 3) sa_nil) G.z_int) (se_var 4)) sa_nil)))))
   (sb_one (ss_set K 1 (se_var 3))))))
  (sb_one (ss_ret (se_var 1)))))
theorem ok_z_law_said (G : Glob mg C) (hC : K = C.K) (F : FnP K "_law_said" "_law_said" s_z_law_said a fd)  : FnOk P w K mg base (L2.CX P w) 1 a fd ["row"] (Pr C 1 g_z_law_said) :=
  def_okD F sc_z_law_said hC fun _ _ _ _ _ _ _ K po =>
  (sb_one (ss_ret (se_join K se_str (se_lc [1] K (si_items K (se_var 0) _) (blkOk_by (own := [(("a" : Str), 1)]) (by with_unfolding_all rfl)) (fun _ _ _ _ _ => (sgc_name (K.blk _ _ _ _ _).nd 1)) (gown_name 1) (fun _ _ _ _ _ => sc_nil) (fun _ _ _ _ _ => (se_tostr (sa_cons (se_var 1) sa_nil) G.z_str))))))
theorem ok_p_show_question (G : Glob mg C) (hC : K = C.K) (F : FnP K "show_question" "show_question" s_p_show_question a fd) (D_show_sides : DefE P w K mg base C 1 "show_sides" ["sides"] g_p_show_sides) : FnOk P w K mg base (L2.CX P w) 2 a fd ["question"] (Pr C 1 g_p_show_question) :=
  def_okD F sc_p_show_question hC fun _ _ _ _ _ _ _ K po =>
  (sb_cons (ss_asg (se_var 0) (sg_tup 2 K.K K.calm (sgs_cons (sg_name K.nd 1) (sgs_cons (sg_name K.nd 2) sgs_nil))))
  (sb_one (ss_ret (se_add K (se_add K (se_call K D_show_sides (sa_cons (se_var 1) sa_nil)) se_str) (se_tostr (sa_cons (se_var 2) sa_nil) G.z_str)))))
theorem ok_p_show_bundle (G : Glob mg C) (hC : K = C.K) (F : FnP K "show_bundle" "show_bundle" s_p_show_bundle a fd) (D_show_sides : DefE P w K mg base C 1 "show_sides" ["sides"] g_p_show_sides) : FnOk P w K mg base (L2.CX P w) 2 a fd ["bundle"] (Pr C 1 g_p_show_bundle) :=
  def_okD F sc_p_show_bundle hC fun _ _ _ _ _ _ _ K po =>
  (sb_cons (ss_asg (se_var 0) (sg_tup 2 K.K K.calm (sgs_cons (sg_name K.nd 1) (sgs_cons (sg_name K.nd 2) sgs_nil))))
  (sb_one (ss_ret (se_join K se_str (se_add K (se_lst (sa_cons (se_add K se_str (se_tostr (sa_cons (se_var 1) sa_nil) G.z_str)) sa_nil)) (se_lc [3] K (si_items K (se_var 2) _) (blkOk_by (own := [(("stick" : Str), 3)]) (by with_unfolding_all rfl)) (fun _ _ _ _ _ => (sgc_name (K.blk _ _ _ _ _).nd 3)) (gown_name 3) (fun _ _ _ _ _ => sc_nil) (fun _ _ _ _ _ => (se_call (K.blk _ _ _ _ _) D_show_sides (sa_cons (se_var 3) sa_nil)))))))))
theorem ok_p_show_whole (G : Glob mg C) (hC : K = C.K) (F : FnP K "show_whole" "show_whole" s_p_show_whole a fd) (D_show_sides : DefE P w K mg base C 1 "show_sides" ["sides"] g_p_show_sides) : FnOk P w K mg base (L2.CX P w) 2 a fd ["point"] (Pr C 1 g_p_show_whole) :=
  def_okD F sc_p_show_whole hC fun _ _ _ _ _ _ _ K po =>
  (sb_one (ss_ret (se_call K D_show_sides (sa_cons (se_var 0) sa_nil))))
theorem ok_p_are_integers (G : Glob mg C) (hC : K = C.K) (F : FnP K "are_integers" "are_integers" s_p_are_integers a fd) (D_is_integer : DefE P w K mg base C 1 "is_integer" ["value"] g_p_is_integer) : FnOk P w K mg base (L2.CX P w) 2 a fd ["value"] (Pr C 1 g_p_are_integers) :=
  def_okD F sc_p_are_integers hC fun _ _ _ _ _ _ _ K po =>
  (sb_one (ss_ret (se_and (se_isi K (sa_cons (se_var 0) (sa_cons (se_ty (T := "tuple") G.z_tuple (by decide +kernel)) sa_nil)) G.z_isinstance) (se_one (se_all K (sa_cons (se_lc [1] K (si_items K (se_var 0) _) (blkOk_by (own := [(("a" : Str), 1)]) (by with_unfolding_all rfl)) (fun _ _ _ _ _ => (sgc_name (K.blk _ _ _ _ _).nd 1)) (gown_name 1) (fun _ _ _ _ _ => sc_nil) (fun _ _ _ _ _ => (se_call (K.blk _ _ _ _ _) D_is_integer (sa_cons (se_var 1) sa_nil)))) sa_nil) G.z_all)))))
theorem ok_p_ground_of (G : Glob mg C) (hC : K = C.K) (F : FnP K "ground_of" "ground_of" s_p_ground_of a fd) (D_row_of_question : DefE P w K mg base C 1 "row_of_question" ["question"] g_p_row_of_question) (D_divided : DefE P w K mg base C 1 "divided" ["row"] g_p_divided) : FnOk P w K mg base (L2.CX P w) 2 a fd ["question"] (Pr C 1 g_p_ground_of) :=
  def_okD F sc_p_ground_of hC fun _ _ _ _ _ _ _ K po =>
  (sb_cons (ss_set K 1 (se_call K D_divided (sa_cons (se_call K D_row_of_question (sa_cons (se_var 0) sa_nil)) sa_nil)))
  (sb_cons (ss_set K 2 (se_ix K (se_lc [3] K (si_items K (se_var 1) _) (blkOk_by (own := [(("a" : Str), 3)]) (by with_unfolding_all rfl)) (fun _ _ _ _ _ => (sgc_name (K.blk _ _ _ _ _).nd 3)) (gown_name 3) (fun _ _ _ _ _ => (sc_one (st_ne (K.blk _ _ _ _ _) (se_var 3) se_int))) (fun _ _ _ _ _ => (se_var 3))) se_int))
  (sb_one (ss_ret (se_if (st_gt (se_var 2) se_int) (se_var 1) (se_totup K (sa_cons (se_lc [3] K (si_items K (se_var 1) _) (blkOk_by (own := [(("a" : Str), 3)]) (by with_unfolding_all rfl)) (fun _ _ _ _ _ => (sgc_name (K.blk _ _ _ _ _).nd 3)) (gown_name 3) (fun _ _ _ _ _ => sc_nil) (fun _ _ _ _ _ => (se_neg (se_var 3)))) sa_nil) G.z_tuple))))))
theorem ok_p_integers_of (G : Glob mg C) (hC : K = C.K) (F : FnP K "integers_of" "integers_of" s_p_integers_of a fd) (D_integer_of : DefE P w K mg base C 1 "integer_of" ["text"] g_p_integer_of) (D_whole : DefE P w K mg base C 1 "whole" ["parts"] g_p_whole) : FnOk P w K mg base (L2.CX P w) 2 a fd ["text"] (Pr C 1 g_p_integers_of) :=
  def_okD F sc_p_integers_of hC fun _ _ _ _ _ _ _ K po =>
  (sb_one (ss_ret (se_call K D_whole (sa_cons (se_lc [1] K (si_items K (se_split (se_var 0) se_str) _) (blkOk_by (own := [(("word" : Str), 1)]) (by with_unfolding_all rfl)) (fun _ _ _ _ _ => (sgc_name (K.blk _ _ _ _ _).nd 1)) (gown_name 1) (fun _ _ _ _ _ => sc_nil) (fun _ _ _ _ _ => (se_call (K.blk _ _ _ _ _) D_integer_of (sa_cons (se_var 1) sa_nil)))) sa_nil))))
theorem ok_p_unknowns_of (G : Glob mg C) (hC : K = C.K) (F : FnP K "unknowns_of" "unknowns_of" s_p_unknowns_of a fd) (D_integer_of : DefE P w K mg base C 1 "integer_of" ["text"] g_p_integer_of) : FnOk P w K mg base (L2.CX P w) 2 a fd ["line"] (Pr C 1 g_p_unknowns_of) :=
  def_okD F sc_p_unknowns_of hC fun _ _ _ _ _ _ _ K po =>
  (sb_cons (ss_asg (se_part (se_var 0) se_str) (sg_tup 3 K.K K.calm (sgs_cons (sg_name K.nd 1) (sgs_cons (sg_name K.nd 2) (sgs_cons (sg_name K.nd 3) sgs_nil)))))
  (sb_one (ss_ret (se_if (st_eq K (se_var 1) se_str) (se_call K D_integer_of (sa_cons (se_var 3) sa_nil)) se_non))))
theorem ok_z_law_ground (G : Glob mg C) (hC : K = C.K) (F : FnP K "_law_ground" "_law_ground" s_z_law_ground a fd) (D__law_divisor : DefE P w K mg base C 1 "_law_divisor" ["numbers"] g_z_law_divisor) : FnOk P w K mg base (L2.CX P w) 2 a fd ["sides", "wall"] (Pr C 2 g_z_law_ground) :=
  def_okD F sc_z_law_ground hC fun _ _ _ _ _ _ _ K po =>
  (sb_cons (ss_set K 2 (se_call K D__law_divisor (sa_cons (se_add K (se_tolist K (sa_cons (se_var 0) sa_nil) G.z_list) (se_lst (sa_cons (se_var 1) sa_nil))) sa_nil)))
  (sb_cons (ss_set K 3 (se_ix K (se_lc [4] K (si_items K (se_var 0) _) (blkOk_by (own := [(("side" : Str), 4)]) (by with_unfolding_all rfl)) (fun _ _ _ _ _ => (sgc_name (K.blk _ _ _ _ _).nd 4)) (gown_name 4) (fun _ _ _ _ _ => (sc_one (st_ne (K.blk _ _ _ _ _) (se_var 4) se_int))) (fun _ _ _ _ _ => (se_var 4))) se_int))
  (sb_one (ss_ret (se_totup K (sa_cons (se_lc [4] K (si_items K (se_add K (se_tolist K (sa_cons (se_var 0) sa_nil) G.z_list) (se_lst (sa_cons (se_var 1) sa_nil))) _) (blkOk_by (own := [(("side" : Str), 4)]) (by with_unfolding_all rfl)) (fun _ _ _ _ _ => (sgc_name (K.blk _ _ _ _ _).nd 4)) (gown_name 4) (fun _ _ _ _ _ => sc_nil) (fun _ _ _ _ _ => (se_div (se_var 4) (se_if (st_gt (se_var 3) se_int) (se_var 2) (se_neg (se_var 2)))))) sa_nil) G.z_tuple)))))
theorem ok_z_law_integer (G : Glob mg C) (hC : K = C.K) (F : FnP K "_law_integer" "_law_integer" s_z_law_integer a fd) (D__law_take : DefE P w K mg base C 1 "_law_take" ["bag", "many"] g_z_law_take) : FnOk P w K mg base (L2.CX P w) 2 a fd ["bag", "digits"] (Pr C 2 g_z_law_integer) :=
  def_okD F sc_z_law_integer hC fun _ _ _ _ _ _ _ K po =>
  (sb_cons (ss_set K 2 se_int)
  (sb_cons (ss_for K po (si_rng1 _ (sa_cons (se_add K se_int (se_call K D__law_take (sa_cons (se_pl 0) (sa_cons (se_ix K (se_lst (sa_cons se_int (sa_cons se_int (sa_cons (se_var 1) sa_nil)))) (se_call K D__law_take (sa_cons (se_pl 0) (sa_cons se_int sa_nil)))) sa_nil)))) sa_nil) G.z_range) (sg_name K.nd 3) (sb_one (ss_set K 2 (se_add K (se_mul K se_int (se_var 2)) (se_call K D__law_take (sa_cons (se_pl 0) (sa_cons se_int sa_nil)))))))
  (sb_one (ss_ret (se_if (st_eq K (se_call K D__law_take (sa_cons (se_pl 0) (sa_cons se_int sa_nil))) se_int) (se_neg (se_var 2)) (se_var 2))))))
theorem ok_z_law_said_system (G : Glob mg C) (hC : K = C.K) (F : FnP K "_law_said_system" "_law_said_system" s_z_law_said_system a fd) (D__law_said : DefE P w K mg base C 1 "_law_said" ["row"] g_z_law_said) : FnOk P w K mg base (L2.CX P w) 2 a fd ["word", "system"] (Pr C 2 g_z_law_said_system) :=
  def_okD F sc_z_law_said_system hC fun _ _ _ _ _ _ _ K po =>
  (sb_cons (ss_setlc 2 [3, 4] K (si_items K (se_ix K (se_var 1) se_int) _) (blkOk_by (own := [(("sides" : Str), 3), (("wall" : Str), 4)]) (by with_unfolding_all rfl)) (fun _ _ _ _ _ => (sgc_tup 2 (K.blk _ _ _ _ _).K (K.blk _ _ _ _ _).calm (sgsc_cons (sgc_name (K.blk _ _ _ _ _).nd 3) (sgsc_cons (sgc_name (K.blk _ _ _ _ _).nd 4) sgsc_nil)))) (gown_tup (gsown_cons (gown_name 3) (gsown_cons (gown_name 4) gsown_nil))) (fun _ _ _ _ _ => sc_nil) (fun _ _ _ _ _ => (se_add (K.blk _ _ _ _ _) (se_add (K.blk _ _ _ _ _) (se_call (K.blk _ _ _ _ _) D__law_said (sa_cons (se_var 3) sa_nil)) se_str) (se_tostr (sa_cons (se_var 4) sa_nil) G.z_str))))
  (sb_one (ss_ret (se_join K se_str (se_add K (se_lst (sa_cons (se_add K (se_add K (se_var 0) se_str) (se_tostr (sa_cons (se_ix K (se_var 1) se_int) sa_nil) G.z_str)) sa_nil)) (se_var 2))))))
theorem ok_z_law_said_bundle (G : Glob mg C) (hC : K = C.K) (F : FnP K "_law_said_bundle" "_law_said_bundle" s_z_law_said_bundle a fd) (D__law_said : DefE P w K mg base C 1 "_law_said" ["row"] g_z_law_said) : FnOk P w K mg base (L2.CX P w) 2 a fd ["bundle"] (Pr C 1 g_z_law_said_bundle) :=
  def_okD F sc_z_law_said_bundle hC fun _ _ _ _ _ _ _ K po =>
  (sb_one (ss_ret (se_join K se_str (se_add K (se_lst (sa_cons (se_add K se_str (se_tostr (sa_cons (se_ix K (se_var 0) se_int) sa_nil) G.z_str)) sa_nil)) (se_lc [1] K (si_items K (se_ix K (se_var 0) se_int) _) (blkOk_by (own := [(("stick" : Str), 1)]) (by with_unfolding_all rfl)) (fun _ _ _ _ _ => (sgc_name (K.blk _ _ _ _ _).nd 1)) (gown_name 1) (fun _ _ _ _ _ => sc_nil) (fun _ _ _ _ _ => (se_call (K.blk _ _ _ _ _) D__law_said (sa_cons (se_var 1) sa_nil))))))))
theorem ok_p_show_book (G : Glob mg C) (hC : K = C.K) (F : FnP K "show_book" "show_book" s_p_show_book a fd) (D_show_question : DefE P w K mg base C 2 "show_question" ["question"] g_p_show_question) : FnOk P w K mg base (L2.CX P w) 3 a fd ["book"] (Pr C 1 g_p_show_book) :=
  def_okD F sc_p_show_book hC fun _ _ _ _ _ _ _ K po =>
  (sb_cons (ss_asg (se_var 0) (sg_tup 2 K.K K.calm (sgs_cons (sg_name K.nd 1) (sgs_cons (sg_name K.nd 2) sgs_nil))))
  (sb_one (ss_ret (se_join K se_str (se_add K (se_lst (sa_cons (se_add K se_str (se_tostr (sa_cons (se_var 1) sa_nil) G.z_str)) sa_nil)) (se_lc [3] K (si_items K (se_var 2) _) (blkOk_by (own := [(("question" : Str), 3)]) (by with_unfolding_all rfl)) (fun _ _ _ _ _ => (sgc_name (K.blk _ _ _ _ _).nd 3)) (gown_name 3) (fun _ _ _ _ _ => sc_nil) (fun _ _ _ _ _ => (se_call (K.blk _ _ _ _ _) D_show_question (sa_cons (se_var 3) sa_nil)))))))))
theorem ok_p_show_system (G : Glob mg C) (hC : K = C.K) (F : FnP K "show_system" "show_system" s_p_show_system a fd) (D_show_question : DefE P w K mg base C 2 "show_question" ["question"] g_p_show_question) : FnOk P w K mg base (L2.CX P w) 3 a fd ["system"] (Pr C 1 g_p_show_system) :=
  def_okD F sc_p_show_system hC fun _ _ _ _ _ _ _ K po =>
  (sb_cons (ss_asg (se_var 0) (sg_tup 2 K.K K.calm (sgs_cons (sg_name K.nd 1) (sgs_cons (sg_name K.nd 2) sgs_nil))))
  (sb_one (ss_ret (se_join K se_str (se_add K (se_lst (sa_cons (se_add K se_str (se_tostr (sa_cons (se_var 1) sa_nil) G.z_str)) sa_nil)) (se_lc [3] K (si_items K (se_var 2) _) (blkOk_by (own := [(("row" : Str), 3)]) (by with_unfolding_all rfl)) (fun _ _ _ _ _ => (sgc_name (K.blk _ _ _ _ _).nd 3)) (gown_name 3) (fun _ _ _ _ _ => sc_nil) (fun _ _ _ _ _ => (se_call (K.blk _ _ _ _ _) D_show_question (sa_cons (se_var 3) sa_nil)))))))))
theorem ok_p_is_question (G : Glob mg C) (hC : K = C.K) (F : FnP K "is_question" "is_question" s_p_is_question a fd) (D_is_pair : DefE P w K mg base C 2 "is_pair" ["value"] g_p_is_pair) (D_are_integers : DefE P w K mg base C 2 "are_integers" ["value"] g_p_are_integers) (D_is_integer : DefE P w K mg base C 2 "is_integer" ["value"] g_p_is_integer) : FnOk P w K mg base (L2.CX P w) 3 a fd ["d", "told"] (Pr C 2 g_p_is_question) :=
  def_okD F sc_p_is_question hC fun _ _ _ _ _ _ _ K po =>
  (sb_cons (ss_if (sw_t (sw_or (st_not (st_val (se_call K D_is_pair (sa_cons (se_var 1) sa_nil)))) (sw_or (st_not (st_val (se_call K D_are_integers (sa_cons (se_ix K (se_var 1) se_int) sa_nil)))) (sw_or1 (st_not (st_val (se_call K D_is_integer (sa_cons (se_ix K (se_var 1) se_int) sa_nil)))))))) (sb_one (ss_ret se_bl)) sb_nil)
  (sb_one (ss_ret (se_and (se_eq K (se_len K (sa_cons (se_ix K (se_var 1) se_int) sa_nil) G.z_len) (se_var 0)) (se_one (se_any K (sa_cons (se_lc [2] K (si_items K (se_ix K (se_var 1) se_int) _) (blkOk_by (own := [(("side" : Str), 2)]) (by with_unfolding_all rfl)) (fun _ _ _ _ _ => (sgc_name (K.blk _ _ _ _ _).nd 2)) (gown_name 2) (fun _ _ _ _ _ => sc_nil) (fun _ _ _ _ _ => (se_ne (K.blk _ _ _ _ _) (se_var 2) se_int))) sa_nil) G.z_any))))))
theorem ok_p_is_stick (G : Glob mg C) (hC : K = C.K) (F : FnP K "is_stick" "is_stick" s_p_is_stick a fd) (D_are_integers : DefE P w K mg base C 2 "are_integers" ["value"] g_p_are_integers) : FnOk P w K mg base (L2.CX P w) 3 a fd ["d", "told"] (Pr C 2 g_p_is_stick) :=
  def_okD F sc_p_is_stick hC fun _ _ _ _ _ _ _ K po =>
  (sb_one (ss_ret (se_and (se_call K D_are_integers (sa_cons (se_var 1) sa_nil)) (se_and (se_eq K (se_len K (sa_cons (se_var 1) sa_nil) G.z_len) (se_var 0)) (se_one (se_any K (sa_cons (se_lc [2] K (si_items K (se_var 1) _) (blkOk_by (own := [(("a" : Str), 2)]) (by with_unfolding_all rfl)) (fun _ _ _ _ _ => (sgc_name (K.blk _ _ _ _ _).nd 2)) (gown_name 2) (fun _ _ _ _ _ => sc_nil) (fun _ _ _ _ _ => (se_ne (K.blk _ _ _ _ _) (se_var 2) se_int))) sa_nil) G.z_any))))))
theorem ok_p_is_line (G : Glob mg C) (hC : K = C.K) (F : FnP K "is_line" "is_line" s_p_is_line a fd) (D_is_pair : DefE P w K mg base C 2 "is_pair" ["value"] g_p_is_pair) (D_are_integers : DefE P w K mg base C 2 "are_integers" ["value"] g_p_are_integers) (D_is_integer : DefE P w K mg base C 2 "is_integer" ["value"] g_p_is_integer) : FnOk P w K mg base (L2.CX P w) 3 a fd ["d", "told"] (Pr C 2 g_p_is_line) :=
  def_okD F sc_p_is_line hC fun _ _ _ _ _ _ _ K po =>
  (sb_one (ss_ret (se_and (se_call K D_is_pair (sa_cons (se_var 1) sa_nil)) (se_and (se_call K D_are_integers (sa_cons (se_ix K (se_var 1) se_int) sa_nil)) (se_and (se_eq K (se_len K (sa_cons (se_ix K (se_var 1) se_int) sa_nil) G.z_len) (se_var 0)) (se_one (se_call K D_is_integer (sa_cons (se_ix K (se_var 1) se_int) sa_nil))))))))
theorem ok_p_question_of (G : Glob mg C) (hC : K = C.K) (F : FnP K "question_of" "question_of" s_p_question_of a fd) (D_integer_of : DefE P w K mg base C 2 "integer_of" ["text"] g_p_integer_of) (D_integers_of : DefE P w K mg base C 2 "integers_of" ["text"] g_p_integers_of) (D_whole : DefE P w K mg base C 2 "whole" ["parts"] g_p_whole) : FnOk P w K mg base (L2.CX P w) 3 a fd ["line"] (Pr C 1 g_p_question_of) :=
  def_okD F sc_p_question_of hC fun _ _ _ _ _ _ _ K po =>
  (sb_cons (ss_asg (se_part (se_var 0) se_str) (sg_tup 3 K.K K.calm (sgs_cons (sg_name K.nd 1) (sgs_cons (sg_name K.nd 2) (sgs_cons (sg_name K.nd 3) sgs_nil)))))
  (sb_one (ss_ret (se_if (st_ne K (se_var 2) se_str) (se_call K D_whole (sa_cons (se_lst (sa_cons (se_call K D_integers_of (sa_cons (se_var 1) sa_nil)) (sa_cons (se_call K D_integer_of (sa_cons (se_var 3) sa_nil)) sa_nil))) sa_nil)) se_non))))
theorem ok_z_law_rows (G : Glob mg C) (hC : K = C.K) (F : FnP K "_law_rows" "_law_rows" s_z_law_rows a fd) (D__law_integer : DefE P w K mg base C 2 "_law_integer" ["bag", "digits"] g_z_law_integer) (D__law_take : DefE P w K mg base C 2 "_law_take" ["bag", "many"] g_z_law_take) : FnOk P w K mg base (L2.CX P w) 3 a fd ["bag", "d", "many", "digits"] (Pr C 4 g_z_law_rows) :=
  def_okD F sc_z_law_rows hC fun _ _ _ _ _ _ _ K po =>
  (sb_cons (ss_set K 4 (se_lst sa_nil))
  (sb_cons (ss_for K po (si_rng1 _ (sa_cons (se_var 2) sa_nil) G.z_range) (sg_name K.nd 5) (sb_cons (ss_setlc 6 [7] K (si_rng1 _ (sa_cons (se_var 1) sa_nil) G.z_range) (blkOk_by (own := [(("place" : Str), 7)]) (by with_unfolding_all rfl)) (fun _ _ _ _ _ => (sgc_name (K.blk _ _ _ _ _).nd 7)) (gown_name 7) (fun _ _ _ _ _ => sc_nil) (fun _ _ _ _ _ => (se_call (K.blk _ _ _ _ _) D__law_integer (sa_cons (se_pl 0) (sa_cons (se_var 3) sa_nil)))))
   (sb_cons (ss_setix (se_pl 6) (se_call K D__law_take (sa_cons (se_pl 0) (sa_cons (se_var 1) sa_nil))) (se_add K se_int (se_call K D__law_take (sa_cons (se_pl 0) (sa_cons se_int sa_nil)))))
   (sb_one (ss_expr (se_app 4 (se_pl 4) (se_totup K (sa_cons (se_pl 6) sa_nil) G.z_tuple)))))))
  (sb_one (ss_ret (se_var 4)))))
theorem ok_z_law_is_book (G : Glob mg C) (hC : K = C.K) (F : FnP K "_law_is_book" "_law_is_book" s_z_law_is_book a fd) (D__law_divisor : DefE P w K mg base C 2 "_law_divisor" ["numbers"] g_z_law_divisor) (D__law_ground : DefE P w K mg base C 2 "_law_ground" ["sides", "wall"] g_z_law_ground) : FnOk P w K mg base (L2.CX P w) 3 a fd ["system"] (Pr C 1 g_z_law_is_book) :=
  def_okD F sc_z_law_is_book hC fun _ _ _ _ _ _ _ K po =>
  (sb_cons (ss_set K 1 (se_lst sa_nil))
  (sb_cons (ss_for K po (si_items K (se_ix K (se_var 0) se_int) _) (sg_tup 2 K.K K.calm (sgs_cons (sg_name K.nd 2) (sgs_cons (sg_name K.nd 3) sgs_nil))) (sb_cons (ss_if (sw_t (sw_or (st_eq K (se_call K D__law_divisor (sa_cons (se_var 2) sa_nil)) se_int) (sw_or1 (st_in K (se_call K D__law_ground (sa_cons (se_var 2) (sa_cons (se_var 3) sa_nil))) (se_pl 1))))) (sb_one (ss_ret se_bl)) sb_nil)
   (sb_one (ss_expr (se_app 1 (se_pl 1) (se_call K D__law_ground (sa_cons (se_var 2) (sa_cons (se_var 3) sa_nil))))))))
  (sb_one (ss_ret se_bl))))
theorem ok_p_is_book (G : Glob mg C) (hC : K = C.K) (F : FnP K "is_book" "is_book" s_p_is_book a fd) (D_is_pair : DefE P w K mg base C 3 "is_pair" ["value"] g_p_is_pair) (D_is_integer : DefE P w K mg base C 3 "is_integer" ["value"] g_p_is_integer) (D_is_question : DefE P w K mg base C 3 "is_question" ["d", "told"] g_p_is_question) (D_ground_of : DefE P w K mg base C 3 "ground_of" ["question"] g_p_ground_of) : FnOk P w K mg base (L2.CX P w) 4 a fd ["told"] (Pr C 1 g_p_is_book) :=
  def_okD F sc_p_is_book hC fun _ _ _ _ _ _ _ K po =>
  (sb_cons (ss_if (sw_t (sw_or (st_not (st_val (se_call K D_is_pair (sa_cons (se_var 0) sa_nil)))) (sw_or (st_not (st_val (se_call K D_is_integer (sa_cons (se_ix K (se_var 0) se_int) sa_nil)))) (sw_or (st_lt (se_ix K (se_var 0) se_int) se_int) (sw_or1 (st_not (st_val (se_isi K (sa_cons (se_ix K (se_var 0) se_int) (sa_cons (se_ty (T := "tuple") G.z_tuple (by decide +kernel)) sa_nil)) G.z_isinstance)))))))) (sb_one (ss_ret se_bl)) sb_nil)
  (sb_cons (ss_if (st_not (st_val (se_all K (sa_cons (se_lc [1] K (si_items K (se_ix K (se_var 0) se_int) _) (blkOk_by (own := [(("question" : Str), 1)]) (by with_unfolding_all rfl)) (fun _ _ _ _ _ => (sgc_name (K.blk _ _ _ _ _).nd 1)) (gown_name 1) (fun _ _ _ _ _ => sc_nil) (fun _ _ _ _ _ => (se_call (K.blk _ _ _ _ _) D_is_question (sa_cons (se_ix (K.blk _ _ _ _ _) (se_var 0) se_int) (sa_cons (se_var 1) sa_nil))))) sa_nil) G.z_all))) (sb_one (ss_ret se_bl)) sb_nil)
  (sb_one (ss_ret (se_eq K (se_lenD [1] K G.z_len (si_items K (se_ix K (se_var 0) se_int) _) (blkOk_by (own := [(("question" : Str), 1)]) (by with_unfolding_all rfl)) (fun _ _ _ _ _ => (sgc_name (K.blk _ _ _ _ _).nd 1)) (gown_name 1) (fun _ _ _ _ _ => (se_call (K.blk _ _ _ _ _) D_ground_of (sa_cons (se_var 1) sa_nil)))) (se_len K (sa_cons (se_ix K (se_var 0) se_int) sa_nil) G.z_len))))))
theorem ok_p_is_bundle_of (G : Glob mg C) (hC : K = C.K) (F : FnP K "is_bundle_of" "is_bundle_of" s_p_is_bundle_of a fd) (D_is_pair : DefE P w K mg base C 3 "is_pair" ["value"] g_p_is_pair) (D_is_integer : DefE P w K mg base C 3 "is_integer" ["value"] g_p_is_integer) (D_is_stick : DefE P w K mg base C 3 "is_stick" ["d", "told"] g_p_is_stick) : FnOk P w K mg base (L2.CX P w) 4 a fd ["told"] (Pr C 1 g_p_is_bundle_of) :=
  def_okD F sc_p_is_bundle_of hC fun _ _ _ _ _ _ _ K po =>
  (sb_cons (ss_if (sw_t (sw_or (st_not (st_val (se_call K D_is_pair (sa_cons (se_var 0) sa_nil)))) (sw_or (st_not (st_val (se_call K D_is_integer (sa_cons (se_ix K (se_var 0) se_int) sa_nil)))) (sw_or (st_lt (se_ix K (se_var 0) se_int) se_int) (sw_or1 (st_not (st_val (se_isi K (sa_cons (se_ix K (se_var 0) se_int) (sa_cons (se_ty (T := "tuple") G.z_tuple (by decide +kernel)) sa_nil)) G.z_isinstance)))))))) (sb_one (ss_ret se_bl)) sb_nil)
  (sb_one (ss_ret (se_all K (sa_cons (se_lc [1] K (si_items K (se_ix K (se_var 0) se_int) _) (blkOk_by (own := [(("stick" : Str), 1)]) (by with_unfolding_all rfl)) (fun _ _ _ _ _ => (sgc_name (K.blk _ _ _ _ _).nd 1)) (gown_name 1) (fun _ _ _ _ _ => sc_nil) (fun _ _ _ _ _ => (se_call (K.blk _ _ _ _ _) D_is_stick (sa_cons (se_ix (K.blk _ _ _ _ _) (se_var 0) se_int) (sa_cons (se_var 1) sa_nil))))) sa_nil) G.z_all))))
theorem ok_p_is_system (G : Glob mg C) (hC : K = C.K) (F : FnP K "is_system" "is_system" s_p_is_system a fd) (D_is_pair : DefE P w K mg base C 3 "is_pair" ["value"] g_p_is_pair) (D_is_integer : DefE P w K mg base C 3 "is_integer" ["value"] g_p_is_integer) (D_is_line : DefE P w K mg base C 3 "is_line" ["d", "told"] g_p_is_line) : FnOk P w K mg base (L2.CX P w) 4 a fd ["told"] (Pr C 1 g_p_is_system) :=
  def_okD F sc_p_is_system hC fun _ _ _ _ _ _ _ K po =>
  (sb_cons (ss_if (sw_t (sw_or (st_not (st_val (se_call K D_is_pair (sa_cons (se_var 0) sa_nil)))) (sw_or (st_not (st_val (se_call K D_is_integer (sa_cons (se_ix K (se_var 0) se_int) sa_nil)))) (sw_or (st_lt (se_ix K (se_var 0) se_int) se_int) (sw_or1 (st_not (st_val (se_isi K (sa_cons (se_ix K (se_var 0) se_int) (sa_cons (se_ty (T := "tuple") G.z_tuple (by decide +kernel)) sa_nil)) G.z_isinstance)))))))) (sb_one (ss_ret se_bl)) sb_nil)
  (sb_one (ss_ret (se_all K (sa_cons (se_lc [1] K (si_items K (se_ix K (se_var 0) se_int) _) (blkOk_by (own := [(("line" : Str), 1)]) (by with_unfolding_all rfl)) (fun _ _ _ _ _ => (sgc_name (K.blk _ _ _ _ _).nd 1)) (gown_name 1) (fun _ _ _ _ _ => sc_nil) (fun _ _ _ _ _ => (se_call (K.blk _ _ _ _ _) D_is_line (sa_cons (se_ix (K.blk _ _ _ _ _) (se_var 0) se_int) (sa_cons (se_var 1) sa_nil))))) sa_nil) G.z_all))))
theorem ok_p_only (G : Glob mg C) (hC : K = C.K) (F : FnP K "only" "only" s_p_only a fd) (L_told : ∀ k g, gs_only k = some g → HeldE P w K mg base 3 (C.fa k) 1 (Pr C 1 g)) (X_Unreadable : ExcE P w K mg base C 1 "Unreadable" 0) : FnOk P w K mg base (L2.CX P w) 4 a fd ["told", "text"] (Pr C 2 g_p_only) :=
  def_okD F sc_p_only hC fun _ _ _ _ _ _ _ K po =>
  (sb_cons (ss_asg (se_part (se_var 1) se_str) (sg_tup 3 K.K K.calm (sgs_cons (sg_name K.nd 2) (sgs_cons (sg_name K.nd 3) (sgs_cons (sg_name K.nd 4) sgs_nil)))))
  (sb_cons (ss_set K 5 (se_calll 0 K ⟨L_told⟩ (sa_cons (se_var 2) sa_nil)))
  (sb_cons (ss_if (st_isN (se_var 5) se_non) (sb_one (ss_raise K X_Unreadable se_int)) sb_nil)
  (sb_cons (ss_if (st_ne K (se_var 3) se_str) (sb_one (ss_raise K X_Unreadable se_int)) sb_nil)
  (sb_one (ss_ret (se_var 5)))))))
theorem ok_p_headed (G : Glob mg C) (hC : K = C.K) (F : FnP K "headed" "headed" s_p_headed a fd) (D_integer_of : DefE P w K mg base C 3 "integer_of" ["text"] g_p_integer_of) (L_told : ∀ k g, gs_headed k = some g → HeldE P w K mg base 3 (C.fa k) 1 (Pr C 1 g)) (X_Unreadable : ExcE P w K mg base C 1 "Unreadable" 0) : FnOk P w K mg base (L2.CX P w) 4 a fd ["word", "told", "text"] (Pr C 3 g_p_headed) :=
  def_okD F sc_p_headed hC fun _ _ _ _ _ _ _ K po =>
  (sb_cons (ss_star K 3 4 (se_split (se_var 2) se_str))
  (sb_cons (ss_asg (se_part (se_var 3) se_str) (sg_tup 3 K.K K.calm (sgs_cons (sg_name K.nd 5) (sgs_cons (sg_name K.nd 6) (sgs_cons (sg_name K.nd 7) sgs_nil)))))
  (sb_cons (ss_set K 8 (se_if (st_eq K (se_var 5) (se_var 0)) (se_call K D_integer_of (sa_cons (se_var 7) sa_nil)) se_non))
  (sb_cons (ss_if (st_isN (se_var 8) se_non) (sb_one (ss_raise K X_Unreadable se_int)) sb_nil)
  (sb_cons (ss_setlc 9 [10] K (si_items K (se_var 4) _) (blkOk_by (own := [(("line" : Str), 10)]) (by with_unfolding_all rfl)) (fun _ _ _ _ _ => (sgc_name (K.blk _ _ _ _ _).nd 10)) (gown_name 10) (fun _ _ _ _ _ => sc_nil) (fun _ _ _ _ _ => (se_calll 1 (K.blk _ _ _ _ _) ⟨L_told⟩ (sa_cons (se_var 10) sa_nil))))
  (sb_cons (ss_for K po (si_enum (sa_cons (se_var 9) sa_nil) G.z_enumerate) (sg_tup 2 K.K K.calm (sgs_cons (sg_name K.nd 11) (sgs_cons (sg_name K.nd 12) sgs_nil))) (sb_one (ss_if (st_isN (se_var 12) se_non) (sb_one (ss_raise K X_Unreadable (se_add K (se_var 11) se_int))) sb_nil)))
  (sb_one (ss_ret (se_tup (sa_cons (se_var 8) (sa_cons (se_totup K (sa_cons (se_var 9) sa_nil) G.z_tuple) sa_nil)))))))))))
theorem ok_z_law_system (G : Glob mg C) (hC : K = C.K) (F : FnP K "_law_system" "_law_system" s_z_law_system a fd) (D__law_take : DefE P w K mg base C 3 "_law_take" ["bag", "many"] g_z_law_take) (D__law_rows : DefE P w K mg base C 3 "_law_rows" ["bag", "d", "many", "digits"] g_z_law_rows) (D__law_integer : DefE P w K mg base C 3 "_law_integer" ["bag", "digits"] g_z_law_integer) : FnOk P w K mg base (L2.CX P w) 4 a fd ["bag", "digits"] (Pr C 2 g_z_law_system) :=
  def_okD F sc_z_law_system hC fun _ _ _ _ _ _ _ K po =>
  (sb_cons (ss_asg (se_tup (sa_cons (se_add K se_int (se_call K D__law_take (sa_cons (se_pl 0) (sa_cons (se_ix K (se_lst (sa_cons se_int (sa_cons se_int sa_nil))) (se_call K D__law_take (sa_cons (se_pl 0) (sa_cons se_int sa_nil)))) sa_nil)))) (sa_cons (se_call K D__law_take (sa_cons (se_pl 0) (sa_cons (se_ix K (se_lst (sa_cons se_int (sa_cons se_int sa_nil))) (se_call K D__law_take (sa_cons (se_pl 0) (sa_cons se_int sa_nil)))) sa_nil))) sa_nil))) (sg_tup 2 K.K K.calm (sgs_cons (sg_name K.nd 2) (sgs_cons (sg_name K.nd 3) sgs_nil))))
  (sb_cons (ss_setlc 4 [5] K (si_items K (se_call K D__law_rows (sa_cons (se_pl 0) (sa_cons (se_var 2) (sa_cons (se_var 3) (sa_cons (se_var 1) sa_nil))))) _) (blkOk_by (own := [(("row" : Str), 5)]) (by with_unfolding_all rfl)) (fun _ _ _ _ _ => (sgc_name (K.blk _ _ _ _ _).nd 5)) (gown_name 5) (fun _ _ _ _ _ => sc_nil) (fun _ _ _ _ _ => (se_if (st_gt (se_call (K.blk _ _ _ _ _) D__law_take (sa_cons (se_pl 0) (sa_cons se_int sa_nil))) se_int) (se_var 5) (se_mul (K.blk _ _ _ _ _) (se_tup (sa_cons se_int sa_nil)) (se_var 2)))))
  (sb_one (ss_ret (se_tup (sa_cons (se_var 2) (sa_cons (se_totup K (sa_cons (se_lc [5] K (si_items K (se_var 4) _) (blkOk_by (own := [(("row" : Str), 5)]) (by with_unfolding_all rfl)) (fun _ _ _ _ _ => (sgc_name (K.blk _ _ _ _ _).nd 5)) (gown_name 5) (fun _ _ _ _ _ => sc_nil) (fun _ _ _ _ _ => (se_tup (sa_cons (se_var 5) (sa_cons (se_call (K.blk _ _ _ _ _) D__law_integer (sa_cons (se_pl 0) (sa_cons (se_var 1) sa_nil))) sa_nil))))) sa_nil) G.z_tuple) sa_nil)))))))
theorem ok_z_law_bundle (G : Glob mg C) (hC : K = C.K) (F : FnP K "_law_bundle" "_law_bundle" s_z_law_bundle a fd) (D__law_take : DefE P w K mg base C 3 "_law_take" ["bag", "many"] g_z_law_take) (D__law_rows : DefE P w K mg base C 3 "_law_rows" ["bag", "d", "many", "digits"] g_z_law_rows) : FnOk P w K mg base (L2.CX P w) 4 a fd ["bag", "digits"] (Pr C 2 g_z_law_bundle) :=
  def_okD F sc_z_law_bundle hC fun _ _ _ _ _ _ _ K po =>
  (sb_cons (ss_par K 2 3 (sa_cons (se_add K se_int (se_call K D__law_take (sa_cons (se_pl 0) (sa_cons (se_ix K (se_lst (sa_cons se_int (sa_cons se_int sa_nil))) (se_call K D__law_take (sa_cons (se_pl 0) (sa_cons se_int sa_nil)))) sa_nil)))) (sa_cons (se_call K D__law_take (sa_cons (se_pl 0) (sa_cons (se_ix K (se_lst (sa_cons se_int (sa_cons se_int sa_nil))) (se_call K D__law_take (sa_cons (se_pl 0) (sa_cons se_int sa_nil)))) sa_nil))) sa_nil)))
  (sb_one (ss_ret (se_tup (sa_cons (se_var 2) (sa_cons (se_totup K (sa_cons (se_call K D__law_rows (sa_cons (se_pl 0) (sa_cons (se_var 2) (sa_cons (se_var 3) (sa_cons (se_var 1) sa_nil))))) sa_nil) G.z_tuple) sa_nil))))))
theorem ok_p_is_bundle (G : Glob mg C) (hC : K = C.K) (F : FnP K "is_bundle" "is_bundle" s_p_is_bundle a fd) (D_is_bundle_of : DefE P w K mg base C 4 "is_bundle_of" ["told"] g_p_is_bundle_of) : FnOk P w K mg base (L2.CX P w) 5 a fd ["told"] (Pr C 1 g_p_is_bundle) :=
  def_okD F sc_p_is_bundle hC fun _ _ _ _ _ _ _ K po =>
  (sb_one (ss_ret (se_call K D_is_bundle_of (sa_cons (se_var 0) sa_nil))))
theorem ok_p_read_book (G : Glob mg C) (hC : K = C.K) (F : FnP K "read_book" "read_book" s_p_read_book a fd) (D_unknowns_of : DefE P w K mg base C 4 "unknowns_of" ["line"] g_p_unknowns_of) (D_question_of : DefE P w K mg base C 4 "question_of" ["line"] g_p_question_of) (D_is_book : DefE P w K mg base C 4 "is_book" ["told"] g_p_is_book) (X_Unreadable : ExcE P w K mg base C 1 "Unreadable" 0) : FnOk P w K mg base (L2.CX P w) 5 a fd ["text"] (Pr C 1 g_p_read_book) :=
  def_okD F sc_p_read_book hC fun _ _ _ _ _ _ _ K po =>
  (sb_cons (ss_star K 1 2 (se_split (se_var 0) se_str))
  (sb_cons (ss_set K 3 (se_call K D_unknowns_of (sa_cons (se_var 1) sa_nil)))
  (sb_cons (ss_if (st_isN (se_var 3) se_non) (sb_one (ss_raise K X_Unreadable se_int)) sb_nil)
  (sb_cons (ss_set K 4 (se_lst sa_nil))
  (sb_cons (ss_for K po (si_enum (sa_cons (se_var 2) sa_nil) G.z_enumerate) (sg_tup 2 K.K K.calm (sgs_cons (sg_name K.nd 5) (sgs_cons (sg_name K.nd 6) sgs_nil))) (sb_cons (ss_set K 7 (se_call K D_question_of (sa_cons (se_var 6) sa_nil)))
   (sb_cons (ss_if (st_isN (se_var 7) se_non) (sb_one (ss_raise K X_Unreadable (se_add K (se_var 5) se_int))) sb_nil)
   (sb_one (ss_expr (se_app 4 (se_pl 4) (se_var 7)))))))
  (sb_cons (ss_set K 8 (se_tup (sa_cons (se_var 3) (sa_cons (se_totup K (sa_cons (se_pl 4) sa_nil) G.z_tuple) sa_nil))))
  (sb_cons (ss_if (st_not (st_val (se_call K D_is_book (sa_cons (se_var 8) sa_nil)))) (sb_one (ss_raise K X_Unreadable se_int)) sb_nil)
  (sb_one (ss_ret (se_var 8))))))))))
theorem ok_p_read_system (G : Glob mg C) (hC : K = C.K) (F : FnP K "read_system" "read_system" s_p_read_system a fd) (D_headed : DefE P w K mg base C 4 "headed" ["word", "told", "text"] g_p_headed) (D_is_system : DefE P w K mg base C 4 "is_system" ["told"] g_p_is_system) (X_Unreadable : ExcE P w K mg base C 1 "Unreadable" 0) : FnOk P w K mg base (L2.CX P w) 5 a fd ["text"] (Pr C 1 g_p_read_system) :=
  def_okD F sc_p_read_system hC fun _ _ _ _ _ _ _ K po =>
  (sb_cons (ss_set K 1 (se_call K D_headed (sa_cons se_str (sa_cons (se_gfn G.f_question_of) (sa_cons (se_var 0) sa_nil)))))
  (sb_cons (ss_if (st_not (st_val (se_call K D_is_system (sa_cons (se_var 1) sa_nil)))) (sb_one (ss_raise K X_Unreadable se_int)) sb_nil)
  (sb_one (ss_ret (se_var 1)))))
theorem ok_p_read_whole (G : Glob mg C) (hC : K = C.K) (F : FnP K "read_whole" "read_whole" s_p_read_whole a fd) (D_only : DefE P w K mg base C 4 "only" ["told", "text"] g_p_only) : FnOk P w K mg base (L2.CX P w) 5 a fd ["text"] (Pr C 1 g_p_read_whole) :=
  def_okD F sc_p_read_whole hC fun _ _ _ _ _ _ _ K po =>
  (sb_one (ss_ret (se_call K D_only (sa_cons (se_gfn G.f_integers_of) (sa_cons (se_var 0) sa_nil)))))
theorem ok_p_read_bundle (G : Glob mg C) (hC : K = C.K) (F : FnP K "read_bundle" "read_bundle" s_p_read_bundle a fd) (D_headed : DefE P w K mg base C 5 "headed" ["word", "told", "text"] g_p_headed) (D_is_bundle : DefE P w K mg base C 5 "is_bundle" ["told"] g_p_is_bundle) (X_Unreadable : ExcE P w K mg base C 1 "Unreadable" 0) : FnOk P w K mg base (L2.CX P w) 6 a fd ["text"] (Pr C 1 g_p_read_bundle) :=
  def_okD F sc_p_read_bundle hC fun _ _ _ _ _ _ _ K po =>
  (sb_cons (ss_set K 1 (se_call K D_headed (sa_cons se_str (sa_cons (se_gfn G.f_integers_of) (sa_cons (se_var 0) sa_nil)))))
  (sb_cons (ss_if (st_not (st_val (se_call K D_is_bundle (sa_cons (se_var 1) sa_nil)))) (sb_one (ss_raise K X_Unreadable se_int)) sb_nil)
  (sb_one (ss_ret (se_var 1)))))
theorem ok_z_law_read (G : Glob mg C) (hC : K = C.K) (F : FnP K "_law_read" "_law_read" s_z_law_read a fd) (D_read_system : DefE P w K mg base C 6 "read_system" ["text"] g_p_read_system) (D_read_bundle : DefE P w K mg base C 6 "read_bundle" ["text"] g_p_read_bundle) (D_read_book : DefE P w K mg base C 6 "read_book" ["text"] g_p_read_book) (D_read_whole : DefE P w K mg base C 6 "read_whole" ["text"] g_p_read_whole) (k0_read_system : DefKE P w K mg base C 6 "read_system" ["text"] ["text"] [0] g_p_read_system) (k0_read_bundle : DefKE P w K mg base C 6 "read_bundle" ["text"] ["text"] [0] g_p_read_bundle) (k0_read_book : DefKE P w K mg base C 6 "read_book" ["text"] ["text"] [0] g_p_read_book) (k0_read_whole : DefKE P w K mg base C 6 "read_whole" ["text"] ["text"] [0] g_p_read_whole) (C_Unreadable : ∀ k b, ex_Unreadable k = some b → PySem.W.exmOne K (.ref (C.ca k)) (.ref (C.ca 0)) = some b) (Y_Unreadable : ∀ k, ex_Unreadable k = some true → XfC K (C.ca k) ∧ PySem.W.findIn K (.ref (C.ca k)) "value" = some none) (m_Unreadable : mg "Unreadable" = some (.ref (C.ca 0))) : FnOk P w K mg base (L2.CX P w) 7 a fd ["kind", "text"] (Pr C 2 g_z_law_read) :=
  def_okD F sc_z_law_read hC fun _ _ _ _ _ _ _ K po =>
  (sb_cons (ss_set K 2 se_non)
  (sb_cons (ss_try K ⟨C_Unreadable, Y_Unreadable⟩ ⟨by rfl, by decide, .inl m_Unreadable⟩ 3 2 (fun _ _ _ K po =>
   (sb_one (ss_if (st_eq K (se_var 0) se_str) (sb_one (ss_set K 2 (se_lst (sa_cons (se_call K D_read_system (sa_cons (se_var 1) sa_nil)) (sa_cons (se_callk K k0_read_system (sk_cons (se_var 1) sk_nil)) sa_nil))))) (sb_one (ss_if (st_eq K (se_var 0) se_str) (sb_one (ss_set K 2 (se_lst (sa_cons (se_call K D_read_bundle (sa_cons (se_var 1) sa_nil)) (sa_cons (se_callk K k0_read_bundle (sk_cons (se_var 1) sk_nil)) sa_nil))))) (sb_one (ss_if (st_eq K (se_var 0) se_str) (sb_one (ss_set K 2 (se_lst (sa_cons (se_call K D_read_book (sa_cons (se_var 1) sa_nil)) (sa_cons (se_callk K k0_read_book (sk_cons (se_var 1) sk_nil)) sa_nil))))) (sb_one (ss_set K 2 (se_lst (sa_cons (se_call K D_read_whole (sa_cons (se_var 1) sa_nil)) (sa_cons (se_callk K k0_read_whole (sk_cons (se_var 1) sk_nil)) sa_nil)))))))))))))
  (sb_one (ss_ret (se_var 2)))))
theorem ok_z_law_same {n : Nat} {g : List Arg → Cr} (G : Glob mg C) (hC : K = C.K) (F : FnP K "_law_same" "_law_same" s_z_law_same a fd) (D__law_same : DefE P w K mg base C n "_law_same" ["told", "due"] g) : FnOk P w K mg base (L2.CX P w) (n + 1) a fd ["told", "due"] (Pr C 2 (runDef 3 (b_z_law_same g))) :=
  def_okD F sc_z_law_same hC fun _ _ _ _ _ _ _ K po =>
  (sb_cons (ss_if (st_isN (se_var 1) se_non) (sb_one (ss_ret (se_isN (se_var 0) se_non))) sb_nil)
  (sb_cons (ss_if (st_val (se_isi K (sa_cons (se_var 1) (sa_cons (se_ty (T := "bool") G.z_bool (by decide +kernel)) sa_nil)) G.z_isinstance)) (sb_one (ss_ret (se_and (se_isi K (sa_cons (se_var 0) (sa_cons (se_ty (T := "bool") G.z_bool (by decide +kernel)) sa_nil)) G.z_isinstance) (se_one (se_eq K (se_var 0) (se_var 1)))))) sb_nil)
  (sb_cons (ss_if (st_val (se_isi K (sa_cons (se_var 1) (sa_cons (se_ty (T := "int") G.z_int (by decide +kernel)) sa_nil)) G.z_isinstance)) (sb_one (ss_ret (se_and (se_isi K (sa_cons (se_var 0) (sa_cons (se_ty (T := "int") G.z_int (by decide +kernel)) sa_nil)) G.z_isinstance) (se_and (se_not (se_isi K (sa_cons (se_var 0) (sa_cons (se_ty (T := "bool") G.z_bool (by decide +kernel)) sa_nil)) G.z_isinstance)) (se_one (se_eq K (se_var 0) (se_var 1))))))) sb_nil)
  (sb_cons (ss_if (st_val (se_isi K (sa_cons (se_var 1) (sa_cons (se_ty (T := "str") G.z_str (by decide +kernel)) sa_nil)) G.z_isinstance)) (sb_one (ss_ret (se_and (se_isi K (sa_cons (se_var 0) (sa_cons (se_ty (T := "str") G.z_str (by decide +kernel)) sa_nil)) G.z_isinstance) (se_one (se_eq K (se_var 0) (se_var 1)))))) sb_nil)
  (sb_cons (ss_if (sw_t (sw_or (st_ne K (se_isi K (sa_cons (se_var 1) (sa_cons (se_ty (T := "tuple") G.z_tuple (by decide +kernel)) sa_nil)) G.z_isinstance) (se_isi K (sa_cons (se_var 0) (sa_cons (se_ty (T := "tuple") G.z_tuple (by decide +kernel)) sa_nil)) G.z_isinstance)) (sw_or1 (st_ne K (se_isi K (sa_cons (se_var 1) (sa_cons (se_ty (T := "list") G.z_list (by decide +kernel)) sa_nil)) G.z_isinstance) (se_isi K (sa_cons (se_var 0) (sa_cons (se_ty (T := "list") G.z_list (by decide +kernel)) sa_nil)) G.z_isinstance))))) (sb_one (ss_ret se_bl)) sb_nil)
  (sb_one (ss_ret (se_and (se_eq K (se_len K (sa_cons (se_var 0) sa_nil) G.z_len) (se_len K (sa_cons (se_var 1) sa_nil) G.z_len)) (se_one (se_all K (sa_cons (se_lc [2] K (si_rng1 _ (sa_cons (se_len K (sa_cons (se_var 1) sa_nil) G.z_len) sa_nil) G.z_range) (blkOk_by (own := [(("k" : Str), 2)]) (by with_unfolding_all rfl)) (fun _ _ _ _ _ => (sgc_name (K.blk _ _ _ _ _).nd 2)) (gown_name 2) (fun _ _ _ _ _ => sc_nil) (fun _ _ _ _ _ => (se_call (K.blk _ _ _ _ _) D__law_same (sa_cons (se_ix (K.blk _ _ _ _ _) (se_var 0) (se_var 2)) (sa_cons (se_ix (K.blk _ _ _ _ _) (se_var 1) (se_var 2)) sa_nil))))) sa_nil) G.z_all))))))))))
theorem ok_z_law_systems_right (G : Glob mg C) (hC : K = C.K) (F : FnP K "_law_systems_right" "_law_systems_right" s_z_law_systems_right a fd) (D__law_system : DefE P w K mg base C 9 "_law_system" ["bag", "digits"] g_z_law_system) (D__law_said_system : DefE P w K mg base C 9 "_law_said_system" ["word", "system"] g_z_law_said_system) (D_show_system : DefE P w K mg base C 9 "show_system" ["system"] g_p_show_system) (D__law_same : DefE P w K mg base C 9 "_law_same" ["told", "due"] (g_z_law_same 8)) (D__law_is_book : DefE P w K mg base C 9 "_law_is_book" ["system"] g_z_law_is_book) (D_show_book : DefE P w K mg base C 9 "show_book" ["book"] g_p_show_book) (D__law_read : DefE P w K mg base C 9 "_law_read" ["kind", "text"] g_z_law_read) (k0_show_system : DefKE P w K mg base C 9 "show_system" ["system"] ["system"] [0] g_p_show_system) (k0_show_book : DefKE P w K mg base C 9 "show_book" ["book"] ["book"] [0] g_p_show_book) : FnOk P w K mg base (L2.CX P w) 10 a fd ["bag", "asked"] (Pr C 2 g_z_law_systems_right) :=
  def_okD F sc_z_law_systems_right hC fun _ _ _ _ _ _ _ K po =>
  (sb_cons (ss_set K 2 (se_call K D__law_system (sa_cons (se_pl 0) (sa_cons se_int sa_nil))))
  (sb_cons (ss_par K 3 4 (sa_cons (se_call K D__law_said_system (sa_cons se_str (sa_cons (se_var 2) sa_nil))) (sa_cons (se_call K D__law_said_system (sa_cons se_str (sa_cons (se_var 2) sa_nil))) sa_nil)))
  (sb_cons (ss_if (st_not (st_val (se_call K D__law_same (sa_cons (se_lst (sa_cons (se_call K D_show_system (sa_cons (se_var 2) sa_nil)) (sa_cons (se_callk K k0_show_system (sk_cons (se_var 2) sk_nil)) sa_nil))) (sa_cons (se_lst (sa_cons (se_var 3) (sa_cons (se_var 3) sa_nil))) sa_nil))))) (sb_one (ss_ret se_bl)) sb_nil)
  (sb_cons (ss_expr (se_app 1 (se_pl 1) (se_tup (sa_cons se_str (sa_cons (se_var 3) (sa_cons (se_lst (sa_cons (se_var 2) (sa_cons (se_var 2) sa_nil))) sa_nil))))))
  (sb_cons (ss_expr (se_app 1 (se_pl 1) (se_tup (sa_cons se_str (sa_cons (se_var 4) (sa_cons (se_if (st_val (se_call K D__law_is_book (sa_cons (se_var 2) sa_nil))) (se_lst (sa_cons (se_var 2) (sa_cons (se_var 2) sa_nil))) se_int) sa_nil))))))
  (sb_cons (ss_expr (se_app 1 (se_pl 1) (se_tup (sa_cons se_str (sa_cons (se_var 3) (sa_cons se_int sa_nil))))))
  (sb_cons (ss_if (sw_t (sw_and (st_val (se_call K D__law_is_book (sa_cons (se_var 2) sa_nil))) (sw_and1 (st_not (st_val (se_call K D__law_same (sa_cons (se_lst (sa_cons (se_call K D_show_book (sa_cons (se_var 2) sa_nil)) (sa_cons (se_callk K k0_show_book (sk_cons (se_var 2) sk_nil)) sa_nil))) (sa_cons (se_lst (sa_cons (se_var 4) (sa_cons (se_var 4) sa_nil))) sa_nil)))))))) (sb_one (ss_ret se_bl)) sb_nil)
  (sb_one (ss_ret (se_call K D__law_same (sa_cons (se_lc [5, 6, 7] K (si_items K (se_sl K (se_pl 1) (so_some (se_neg se_int)) so_none) _) (blkOk_by (own := [(("kind" : Str), 5), (("said" : Str), 6), (("due" : Str), 7)]) (by with_unfolding_all rfl)) (fun _ _ _ _ _ => (sgc_tup 3 (K.blk _ _ _ _ _).K (K.blk _ _ _ _ _).calm (sgsc_cons (sgc_name (K.blk _ _ _ _ _).nd 5) (sgsc_cons (sgc_name (K.blk _ _ _ _ _).nd 6) (sgsc_cons (sgc_name (K.blk _ _ _ _ _).nd 7) sgsc_nil))))) (gown_tup (gsown_cons (gown_name 5) (gsown_cons (gown_name 6) (gsown_cons (gown_name 7) gsown_nil)))) (fun _ _ _ _ _ => sc_nil) (fun _ _ _ _ _ => (se_call (K.blk _ _ _ _ _) D__law_read (sa_cons (se_var 5) (sa_cons (se_var 6) sa_nil))))) (sa_cons (se_lc [5, 6, 7] K (si_items K (se_sl K (se_pl 1) (so_some (se_neg se_int)) so_none) _) (blkOk_by (own := [(("kind" : Str), 5), (("said" : Str), 6), (("due" : Str), 7)]) (by with_unfolding_all rfl)) (fun _ _ _ _ _ => (sgc_tup 3 (K.blk _ _ _ _ _).K (K.blk _ _ _ _ _).calm (sgsc_cons (sgc_name (K.blk _ _ _ _ _).nd 5) (sgsc_cons (sgc_name (K.blk _ _ _ _ _).nd 6) (sgsc_cons (sgc_name (K.blk _ _ _ _ _).nd 7) sgsc_nil))))) (gown_tup (gsown_cons (gown_name 5) (gsown_cons (gown_name 6) (gsown_cons (gown_name 7) gsown_nil)))) (fun _ _ _ _ _ => sc_nil) (fun _ _ _ _ _ => (se_var 7))) sa_nil))))))))))))
theorem ok_z_law_bundles_right (G : Glob mg C) (hC : K = C.K) (F : FnP K "_law_bundles_right" "_law_bundles_right" s_z_law_bundles_right a fd) (D__law_take : DefE P w K mg base C 9 "_law_take" ["bag", "many"] g_z_law_take) (D__law_integer : DefE P w K mg base C 9 "_law_integer" ["bag", "digits"] g_z_law_integer) (D__law_bundle : DefE P w K mg base C 9 "_law_bundle" ["bag", "digits"] g_z_law_bundle) (D__law_said : DefE P w K mg base C 9 "_law_said" ["row"] g_z_law_said) (D__law_said_bundle : DefE P w K mg base C 9 "_law_said_bundle" ["bundle"] g_z_law_said_bundle) (D_show_bundle : DefE P w K mg base C 9 "show_bundle" ["bundle"] g_p_show_bundle) (D__law_same : DefE P w K mg base C 9 "_law_same" ["told", "due"] (g_z_law_same 8)) (D_show_whole : DefE P w K mg base C 9 "show_whole" ["point"] g_p_show_whole) (D__law_read : DefE P w K mg base C 9 "_law_read" ["kind", "text"] g_z_law_read) (k0_show_bundle : DefKE P w K mg base C 9 "show_bundle" ["bundle"] ["bundle"] [0] g_p_show_bundle) (k0_show_whole : DefKE P w K mg base C 9 "show_whole" ["point"] ["point"] [0] g_p_show_whole) : FnOk P w K mg base (L2.CX P w) 10 a fd ["bag", "asked"] (Pr C 2 g_z_law_bundles_right) :=
  def_okD F sc_z_law_bundles_right hC fun _ _ _ _ _ _ _ K po =>
  (sb_cons (ss_par K 2 3 (sa_cons (se_call K D__law_bundle (sa_cons (se_pl 0) (sa_cons se_int sa_nil))) (sa_cons (se_totup K (sa_cons (se_lc [4] K (si_rng1 _ (sa_cons (se_add K se_int (se_call K D__law_take (sa_cons (se_pl 0) (sa_cons se_int sa_nil)))) sa_nil) G.z_range) (blkOk_by (own := [(("place" : Str), 4)]) (by with_unfolding_all rfl)) (fun _ _ _ _ _ => (sgc_name (K.blk _ _ _ _ _).nd 4)) (gown_name 4) (fun _ _ _ _ _ => sc_nil) (fun _ _ _ _ _ => (se_call (K.blk _ _ _ _ _) D__law_integer (sa_cons (se_pl 0) (sa_cons se_int sa_nil))))) sa_nil) G.z_tuple) sa_nil)))
  (sb_cons (ss_par K 5 6 (sa_cons (se_call K D__law_said_bundle (sa_cons (se_var 2) sa_nil)) (sa_cons (se_call K D__law_said (sa_cons (se_var 3) sa_nil)) sa_nil)))
  (sb_cons (ss_if (st_not (st_val (se_call K D__law_same (sa_cons (se_lst (sa_cons (se_call K D_show_bundle (sa_cons (se_var 2) sa_nil)) (sa_cons (se_callk K k0_show_bundle (sk_cons (se_var 2) sk_nil)) sa_nil))) (sa_cons (se_lst (sa_cons (se_var 5) (sa_cons (se_var 5) sa_nil))) sa_nil))))) (sb_one (ss_ret se_bl)) sb_nil)
  (sb_cons (ss_if (st_not (st_val (se_call K D__law_same (sa_cons (se_lst (sa_cons (se_call K D_show_whole (sa_cons (se_var 3) sa_nil)) (sa_cons (se_callk K k0_show_whole (sk_cons (se_var 3) sk_nil)) sa_nil))) (sa_cons (se_lst (sa_cons (se_var 6) (sa_cons (se_var 6) sa_nil))) sa_nil))))) (sb_one (ss_ret se_bl)) sb_nil)
  (sb_cons (ss_expr (se_app 1 (se_pl 1) (se_tup (sa_cons se_str (sa_cons (se_var 5) (sa_cons (se_lst (sa_cons (se_var 2) (sa_cons (se_var 2) sa_nil))) sa_nil))))))
  (sb_cons (ss_expr (se_app 1 (se_pl 1) (se_tup (sa_cons se_str (sa_cons (se_var 6) (sa_cons (se_lst (sa_cons (se_var 3) (sa_cons (se_var 3) sa_nil))) sa_nil))))))
  (sb_cons (ss_expr (se_app 1 (se_pl 1) (se_tup (sa_cons se_str (sa_cons (se_add K se_str (se_sl K (se_var 5) (so_some se_int) so_none)) (sa_cons (se_if (st_ne K (se_ix K (se_var 2) se_int) (se_tup sa_nil)) se_int (se_mul K (se_lst (sa_cons (se_tup (sa_cons (se_ix K (se_var 2) se_int) (sa_cons (se_tup sa_nil) sa_nil))) sa_nil)) se_int)) sa_nil))))))
  (sb_cons (ss_expr (se_app 1 (se_pl 1) (se_tup (sa_cons se_str (sa_cons (se_var 5) (sa_cons se_int sa_nil))))))
  (sb_one (ss_ret (se_call K D__law_same (sa_cons (se_lc [7, 8, 9] K (si_items K (se_sl K (se_pl 1) (so_some (se_neg se_int)) so_none) _) (blkOk_by (own := [(("kind" : Str), 7), (("said" : Str), 8), (("due" : Str), 9)]) (by with_unfolding_all rfl)) (fun _ _ _ _ _ => (sgc_tup 3 (K.blk _ _ _ _ _).K (K.blk _ _ _ _ _).calm (sgsc_cons (sgc_name (K.blk _ _ _ _ _).nd 7) (sgsc_cons (sgc_name (K.blk _ _ _ _ _).nd 8) (sgsc_cons (sgc_name (K.blk _ _ _ _ _).nd 9) sgsc_nil))))) (gown_tup (gsown_cons (gown_name 7) (gsown_cons (gown_name 8) (gsown_cons (gown_name 9) gsown_nil)))) (fun _ _ _ _ _ => sc_nil) (fun _ _ _ _ _ => (se_call (K.blk _ _ _ _ _) D__law_read (sa_cons (se_var 7) (sa_cons (se_var 8) sa_nil))))) (sa_cons (se_lc [7, 8, 9] K (si_items K (se_sl K (se_pl 1) (so_some (se_neg se_int)) so_none) _) (blkOk_by (own := [(("kind" : Str), 7), (("said" : Str), 8), (("due" : Str), 9)]) (by with_unfolding_all rfl)) (fun _ _ _ _ _ => (sgc_tup 3 (K.blk _ _ _ _ _).K (K.blk _ _ _ _ _).calm (sgsc_cons (sgc_name (K.blk _ _ _ _ _).nd 7) (sgsc_cons (sgc_name (K.blk _ _ _ _ _).nd 8) (sgsc_cons (sgc_name (K.blk _ _ _ _ _).nd 9) sgsc_nil))))) (gown_tup (gsown_cons (gown_name 7) (gsown_cons (gown_name 8) (gsown_cons (gown_name 9) gsown_nil)))) (fun _ _ _ _ _ => sc_nil) (fun _ _ _ _ _ => (se_var 9))) sa_nil)))))))))))))
theorem ok_z_law_long_right (G : Glob mg C) (hC : K = C.K) (F : FnP K "_law_long_right" "_law_long_right" s_z_law_long_right a fd) (D__law_bundle : DefE P w K mg base C 9 "_law_bundle" ["bag", "digits"] g_z_law_bundle) (D__law_system : DefE P w K mg base C 9 "_law_system" ["bag", "digits"] g_z_law_system) (D_show_whole : DefE P w K mg base C 9 "show_whole" ["point"] g_p_show_whole) (D_show_bundle : DefE P w K mg base C 9 "show_bundle" ["bundle"] g_p_show_bundle) (D_show_system : DefE P w K mg base C 9 "show_system" ["system"] g_p_show_system) (D__law_said_bundle : DefE P w K mg base C 9 "_law_said_bundle" ["bundle"] g_z_law_said_bundle) (D__law_said_system : DefE P w K mg base C 9 "_law_said_system" ["word", "system"] g_z_law_said_system) (D__law_said : DefE P w K mg base C 9 "_law_said" ["row"] g_z_law_said) (D__law_same : DefE P w K mg base C 9 "_law_same" ["told", "due"] (g_z_law_same 8)) : FnOk P w K mg base (L2.CX P w) 10 a fd ["bag"] (Pr C 1 g_z_law_long_right) :=
  def_okD F sc_z_law_long_right hC fun _ _ _ _ _ _ _ K po =>
  (sb_cons (ss_par K 1 2 (sa_cons (se_call K D__law_system (sa_cons (se_pl 0) (sa_cons se_int sa_nil))) (sa_cons (se_call K D__law_bundle (sa_cons (se_pl 0) (sa_cons se_int sa_nil))) sa_nil)))
  (sb_cons (ss_set K 3 (se_lst (sa_cons (se_call K D_show_system (sa_cons (se_var 1) sa_nil)) (sa_cons (se_call K D_show_bundle (sa_cons (se_var 2) sa_nil)) (sa_cons (se_call K D_show_whole (sa_cons (se_if (st_ne K (se_ix K (se_var 2) se_int) (se_tup sa_nil)) (se_ix K (se_ix K (se_var 2) se_int) se_int) (se_tup (sa_cons se_int sa_nil))) sa_nil)) sa_nil)))))
  (sb_cons (ss_set K 4 (se_lst (sa_cons (se_call K D__law_said_system (sa_cons se_str (sa_cons (se_var 1) sa_nil))) (sa_cons (se_call K D__law_said_bundle (sa_cons (se_var 2) sa_nil)) sa_nil))))
  (sb_cons (ss_expr (se_app 4 (se_pl 4) (se_call K D__law_said (sa_cons (se_if (st_ne K (se_ix K (se_var 2) se_int) (se_tup sa_nil)) (se_ix K (se_ix K (se_var 2) se_int) se_int) (se_tup (sa_cons se_int sa_nil))) sa_nil))))
  (sb_one (ss_ret (se_call K D__law_same (sa_cons (se_var 3) (sa_cons (se_var 4) sa_nil)))))))))
theorem ok_p_law (G : Glob mg C) (hC : K = C.K) (F : FnP K "law" "law" s_p_law a fd) (D__law_bag : DefE P w K mg base C 10 "_law_bag" ["script", "k"] g_z_law_bag) (D__law_systems_right : DefE P w K mg base C 10 "_law_systems_right" ["bag", "asked"] g_z_law_systems_right) (D__law_bundles_right : DefE P w K mg base C 10 "_law_bundles_right" ["bag", "asked"] g_z_law_bundles_right) (D__law_long_right : DefE P w K mg base C 10 "_law_long_right" ["bag"] g_z_law_long_right) (D__law_read : DefE P w K mg base C 10 "_law_read" ["kind", "text"] g_z_law_read) (D__law_same : DefE P w K mg base C 10 "_law_same" ["told", "due"] (g_z_law_same 8)) : FnOk P w K mg base (L2.CX P w) 11 a fd ["script"] (Pr C 1 g_p_law) :=
  def_okD F sc_p_law hC fun _ _ _ _ _ _ _ K po =>
  (sb_cons (ss_set K 1 (se_lst sa_nil))
  (sb_cons (ss_for K po (si_rng1 _ (sa_cons (se_max2 K (sa_cons se_int (sa_cons (se_min2 K (sa_cons se_int (sa_cons (se_len K (sa_cons (se_var 0) sa_nil) G.z_len) sa_nil)) G.z_min) sa_nil)) G.z_max) sa_nil) G.z_range) (sg_name K.nd 2) (sb_cons (ss_set K 3 (se_call K D__law_bag (sa_cons (se_var 0) (sa_cons (se_var 2) sa_nil))))
   (sb_cons (ss_for K po (si_rng1 _ (sa_cons se_int sa_nil) G.z_range) (sg_name K.nd 4) (sb_one (ss_if (sw_t (sw_or (st_not (st_val (se_call K D__law_systems_right (sa_cons (se_pl 3) (sa_cons (se_pl 1) sa_nil))))) (sw_or1 (st_not (st_val (se_call K D__law_bundles_right (sa_cons (se_pl 3) (sa_cons (se_pl 1) sa_nil)))))))) (sb_one (ss_ret se_bl)) sb_nil)))
   (sb_one (ss_if (st_not (st_val (se_call K D__law_long_right (sa_cons (se_pl 3) sa_nil)))) (sb_one (ss_ret se_bl)) sb_nil)))))
  (sb_cons (ss_for K po (si_items K (se_rev K (se_pl 1)) _) (sg_tup 3 K.K K.calm (sgs_cons (sg_name K.nd 5) (sgs_cons (sg_name K.nd 6) (sgs_cons (sg_name K.nd 7) sgs_nil)))) (sb_one (ss_if (st_not (st_val (se_call K D__law_same (sa_cons (se_call K D__law_read (sa_cons (se_var 5) (sa_cons (se_var 6) sa_nil))) (sa_cons (se_var 7) sa_nil))))) (sb_one (ss_ret se_bl)) sb_nil)))
  (sb_one (ss_ret se_bl)))))
end
end Dn.Ka
end
section
set_option Elab.async false
set_option linter.all false
set_option maxRecDepth 100000
set_option maxHeartbeats 4000000
namespace Dn.Ka
open PySem PySem.Spec PyProof.Rows L2
def d_p_show_sides : He.DefD := ⟨("show_sides", none), "show_sides", "show_sides", defArgs s_p_show_sides, defBody s_p_show_sides, defScope s_p_show_sides, [], []⟩
def d_p_show_question : He.DefD := ⟨("show_question", none), "show_question", "show_question", defArgs s_p_show_question, defBody s_p_show_question, defScope s_p_show_question, [], []⟩
def d_p_show_book : He.DefD := ⟨("show_book", none), "show_book", "show_book", defArgs s_p_show_book, defBody s_p_show_book, defScope s_p_show_book, [], []⟩
def d_p_show_system : He.DefD := ⟨("show_system", none), "show_system", "show_system", defArgs s_p_show_system, defBody s_p_show_system, defScope s_p_show_system, [], []⟩
def d_p_show_bundle : He.DefD := ⟨("show_bundle", none), "show_bundle", "show_bundle", defArgs s_p_show_bundle, defBody s_p_show_bundle, defScope s_p_show_bundle, [], []⟩
def d_p_show_whole : He.DefD := ⟨("show_whole", none), "show_whole", "show_whole", defArgs s_p_show_whole, defBody s_p_show_whole, defScope s_p_show_whole, [], []⟩
def d_p_is_integer : He.DefD := ⟨("is_integer", none), "is_integer", "is_integer", defArgs s_p_is_integer, defBody s_p_is_integer, defScope s_p_is_integer, [], []⟩
def d_p_is_pair : He.DefD := ⟨("is_pair", none), "is_pair", "is_pair", defArgs s_p_is_pair, defBody s_p_is_pair, defScope s_p_is_pair, [], []⟩
def d_p_are_integers : He.DefD := ⟨("are_integers", none), "are_integers", "are_integers", defArgs s_p_are_integers, defBody s_p_are_integers, defScope s_p_are_integers, [], []⟩
def d_p_divided : He.DefD := ⟨("divided", none), "divided", "divided", defArgs s_p_divided, defBody s_p_divided, defScope s_p_divided, [], []⟩
def d_p_is_question : He.DefD := ⟨("is_question", none), "is_question", "is_question", defArgs s_p_is_question, defBody s_p_is_question, defScope s_p_is_question, [], []⟩
def d_p_row_of_question : He.DefD := ⟨("row_of_question", none), "row_of_question", "row_of_question", defArgs s_p_row_of_question, defBody s_p_row_of_question, defScope s_p_row_of_question, [], []⟩
def d_p_ground_of : He.DefD := ⟨("ground_of", none), "ground_of", "ground_of", defArgs s_p_ground_of, defBody s_p_ground_of, defScope s_p_ground_of, [], []⟩
def d_p_is_book : He.DefD := ⟨("is_book", none), "is_book", "is_book", defArgs s_p_is_book, defBody s_p_is_book, defScope s_p_is_book, [], []⟩
def d_p_is_stick : He.DefD := ⟨("is_stick", none), "is_stick", "is_stick", defArgs s_p_is_stick, defBody s_p_is_stick, defScope s_p_is_stick, [], []⟩
def d_p_is_bundle_of : He.DefD := ⟨("is_bundle_of", none), "is_bundle_of", "is_bundle_of", defArgs s_p_is_bundle_of, defBody s_p_is_bundle_of, defScope s_p_is_bundle_of, [], []⟩
def d_p_is_bundle : He.DefD := ⟨("is_bundle", none), "is_bundle", "is_bundle", defArgs s_p_is_bundle, defBody s_p_is_bundle, defScope s_p_is_bundle, [], []⟩
def d_p_is_line : He.DefD := ⟨("is_line", none), "is_line", "is_line", defArgs s_p_is_line, defBody s_p_is_line, defScope s_p_is_line, [], []⟩
def d_p_is_system : He.DefD := ⟨("is_system", none), "is_system", "is_system", defArgs s_p_is_system, defBody s_p_is_system, defScope s_p_is_system, [], []⟩
def d_p_integer_of : He.DefD := ⟨("integer_of", none), "integer_of", "integer_of", defArgs s_p_integer_of, defBody s_p_integer_of, defScope s_p_integer_of, [], []⟩
def d_p_whole : He.DefD := ⟨("whole", none), "whole", "whole", defArgs s_p_whole, defBody s_p_whole, defScope s_p_whole, [], []⟩
def d_p_integers_of : He.DefD := ⟨("integers_of", none), "integers_of", "integers_of", defArgs s_p_integers_of, defBody s_p_integers_of, defScope s_p_integers_of, [], []⟩
def d_p_question_of : He.DefD := ⟨("question_of", none), "question_of", "question_of", defArgs s_p_question_of, defBody s_p_question_of, defScope s_p_question_of, [], []⟩
def d_p_unknowns_of : He.DefD := ⟨("unknowns_of", none), "unknowns_of", "unknowns_of", defArgs s_p_unknowns_of, defBody s_p_unknowns_of, defScope s_p_unknowns_of, [], []⟩
def d_p_only : He.DefD := ⟨("only", none), "only", "only", defArgs s_p_only, defBody s_p_only, defScope s_p_only, [], []⟩
def d_p_read_book : He.DefD := ⟨("read_book", none), "read_book", "read_book", defArgs s_p_read_book, defBody s_p_read_book, defScope s_p_read_book, [], []⟩
def d_p_headed : He.DefD := ⟨("headed", none), "headed", "headed", defArgs s_p_headed, defBody s_p_headed, defScope s_p_headed, [], []⟩
def d_p_read_system : He.DefD := ⟨("read_system", none), "read_system", "read_system", defArgs s_p_read_system, defBody s_p_read_system, defScope s_p_read_system, [], []⟩
def d_p_read_bundle : He.DefD := ⟨("read_bundle", none), "read_bundle", "read_bundle", defArgs s_p_read_bundle, defBody s_p_read_bundle, defScope s_p_read_bundle, [], []⟩
def d_p_read_whole : He.DefD := ⟨("read_whole", none), "read_whole", "read_whole", defArgs s_p_read_whole, defBody s_p_read_whole, defScope s_p_read_whole, [], []⟩
def d_z_law_bag : He.DefD := ⟨("_law_bag", none), "_law_bag", "_law_bag", defArgs s_z_law_bag, defBody s_z_law_bag, defScope s_z_law_bag, [], []⟩
def d_z_law_take : He.DefD := ⟨("_law_take", none), "_law_take", "_law_take", defArgs s_z_law_take, defBody s_z_law_take, defScope s_z_law_take, [], []⟩
def d_z_law_same : He.DefD := ⟨("_law_same", none), "_law_same", "_law_same", defArgs s_z_law_same, defBody s_z_law_same, defScope s_z_law_same, [], []⟩
def d_z_law_divisor : He.DefD := ⟨("_law_divisor", none), "_law_divisor", "_law_divisor", defArgs s_z_law_divisor, defBody s_z_law_divisor, defScope s_z_law_divisor, [], []⟩
def d_z_law_ground : He.DefD := ⟨("_law_ground", none), "_law_ground", "_law_ground", defArgs s_z_law_ground, defBody s_z_law_ground, defScope s_z_law_ground, [], []⟩
def d_z_law_integer : He.DefD := ⟨("_law_integer", none), "_law_integer", "_law_integer", defArgs s_z_law_integer, defBody s_z_law_integer, defScope s_z_law_integer, [], []⟩
def d_z_law_rows : He.DefD := ⟨("_law_rows", none), "_law_rows", "_law_rows", defArgs s_z_law_rows, defBody s_z_law_rows, defScope s_z_law_rows, [], []⟩
def d_z_law_system : He.DefD := ⟨("_law_system", none), "_law_system", "_law_system", defArgs s_z_law_system, defBody s_z_law_system, defScope s_z_law_system, [], []⟩
def d_z_law_bundle : He.DefD := ⟨("_law_bundle", none), "_law_bundle", "_law_bundle", defArgs s_z_law_bundle, defBody s_z_law_bundle, defScope s_z_law_bundle, [], []⟩
def d_z_law_said : He.DefD := ⟨("_law_said", none), "_law_said", "_law_said", defArgs s_z_law_said, defBody s_z_law_said, defScope s_z_law_said, [], []⟩
def d_z_law_said_system : He.DefD := ⟨("_law_said_system", none), "_law_said_system", "_law_said_system", defArgs s_z_law_said_system, defBody s_z_law_said_system, defScope s_z_law_said_system, [], []⟩
def d_z_law_said_bundle : He.DefD := ⟨("_law_said_bundle", none), "_law_said_bundle", "_law_said_bundle", defArgs s_z_law_said_bundle, defBody s_z_law_said_bundle, defScope s_z_law_said_bundle, [], []⟩
def d_z_law_is_book : He.DefD := ⟨("_law_is_book", none), "_law_is_book", "_law_is_book", defArgs s_z_law_is_book, defBody s_z_law_is_book, defScope s_z_law_is_book, [], []⟩
def d_z_law_read : He.DefD := ⟨("_law_read", none), "_law_read", "_law_read", defArgs s_z_law_read, defBody s_z_law_read, defScope s_z_law_read, [], []⟩
def d_z_law_systems_right : He.DefD := ⟨("_law_systems_right", none), "_law_systems_right", "_law_systems_right", defArgs s_z_law_systems_right, defBody s_z_law_systems_right, defScope s_z_law_systems_right, [], []⟩
def d_z_law_bundles_right : He.DefD := ⟨("_law_bundles_right", none), "_law_bundles_right", "_law_bundles_right", defArgs s_z_law_bundles_right, defBody s_z_law_bundles_right, defScope s_z_law_bundles_right, [], []⟩
def d_z_law_long_right : He.DefD := ⟨("_law_long_right", none), "_law_long_right", "_law_long_right", defArgs s_z_law_long_right, defBody s_z_law_long_right, defScope s_z_law_long_right, [], []⟩
def d_p_law : He.DefD := ⟨("law", none), "law", "law", defArgs s_p_law, defBody s_p_law, defScope s_p_law, [], []⟩
abbrev si_BookError : Stmt := (clsBody (top 9)).getD 0 (.Pass ⟨0, 0, 0, 0⟩)
def di_Unreadable : He.DefD := ⟨("Unreadable", some "__init__"), "__init__", "BookError.__init__", defArgs si_BookError, defBody si_BookError, defScope si_BookError, [], []⟩
def fn0 : List He.DefD := [d_p_show_sides, d_p_show_question, d_p_show_book, d_p_show_system, d_p_show_bundle, d_p_show_whole, d_p_is_integer, d_p_is_pair, d_p_are_integers, d_p_divided, d_p_is_question, d_p_row_of_question, d_p_ground_of, d_p_is_book, d_p_is_stick, d_p_is_bundle_of, d_p_is_bundle, d_p_is_line, d_p_is_system, d_p_integer_of, d_p_whole, d_p_integers_of, d_p_question_of, d_p_unknowns_of, d_p_only, d_p_read_book, d_p_headed, d_p_read_system, d_p_read_bundle, d_p_read_whole]
def fn1 : List He.DefD := [d_z_law_bag, d_z_law_take, d_z_law_same, d_z_law_divisor, d_z_law_ground, d_z_law_integer, d_z_law_rows, d_z_law_system, d_z_law_bundle, d_z_law_said, d_z_law_said_system, d_z_law_said_bundle, d_z_law_is_book, d_z_law_read, d_z_law_systems_right, d_z_law_bundles_right, d_z_law_long_right, d_p_law, di_Unreadable]
def fn : List He.DefD := fn0 ++ fn1
def fa0 : List He.Fa := [.glo "show_sides", .glo "show_question", .glo "show_book", .glo "show_system", .glo "show_bundle", .glo "show_whole", .glo "is_integer", .glo "is_pair", .glo "are_integers", .glo "divided", .glo "is_question", .glo "row_of_question", .glo "ground_of", .glo "is_book", .glo "is_stick", .glo "is_bundle_of", .glo "is_bundle", .glo "is_line", .glo "is_system", .glo "integer_of", .glo "whole", .glo "integers_of", .glo "question_of", .glo "unknowns_of", .glo "only", .glo "read_book", .glo "headed", .glo "read_system", .glo "read_bundle", .glo "read_whole"]
def fa1 : List He.Fa := [.glo "_law_bag", .glo "_law_take", .glo "_law_same", .glo "_law_divisor", .glo "_law_ground", .glo "_law_integer", .glo "_law_rows", .glo "_law_system", .glo "_law_bundle", .glo "_law_said", .glo "_law_said_system", .glo "_law_said_bundle", .glo "_law_is_book", .glo "_law_read", .glo "_law_systems_right", .glo "_law_bundles_right", .glo "_law_long_right", .glo "law", .free "abs", .free "all", .free "any", .free "bool", .free "enumerate", .free "int", .free "isinstance", .free "len", .free "list", .free "max", .free "min", .free "range"]
def fa2 : List He.Fa := [.free "str", .free "tuple", .free "ValueError", .str "DIGITS" "0123456789", .int "MOST_DIGITS" 9]
def fa : List He.Fa := fa0 ++ fa1 ++ fa2
def nm0 : List Str := ["show_sides", "show_question", "show_book", "show_system", "show_bundle", "show_whole", "BookError", "Unreadable", "is_integer", "is_pair", "are_integers", "divided", "is_question", "row_of_question", "ground_of", "is_book", "is_stick", "is_bundle_of", "is_bundle", "is_line", "is_system", "DIGITS", "MOST_DIGITS", "integer_of", "whole", "integers_of", "question_of", "unknowns_of", "only", "read_book"]
def nm1 : List Str := ["headed", "read_system", "read_bundle", "read_whole", "_law_bag", "_law_take", "_law_same", "_law_divisor", "_law_ground", "_law_integer", "_law_rows", "_law_system", "_law_bundle", "_law_said", "_law_said_system", "_law_said_bundle", "_law_is_book", "_law_read", "_law_systems_right", "_law_bundles_right", "_law_long_right"]
def nm : List Str := nm0 ++ nm1
def exB (K : PySem.W.Frag) : Bool := clsB K "Unreadable" && (He.eqO (PySem.W.nsIn K mainGlobals "gcd") (some (some (.builtin "math.gcd"))) && (decide (PySem.W.exmOne K (.ref (He.ga K "Unreadable")) (.ref (He.ga K "Unreadable")) = ex_Unreadable 0)))
abbrev R : PySem.W.OpenRow := PySem.W.OpenLaw.row PySem.Challenge.rw_wholesayings_k94_whole_systems_and_bundl
abbrev hk : PySem.W.Hook := He.hookX 5 fa fn [] [] exB
def ob (s : PySem.W.SharedT) : He.AlX := He.obsX 5 fa fn [] [] exB (HandSHeadRun.getT s)
theorem ob_eq (s : PySem.W.SharedT) : ob s = hk.obs s.abs := He.obsX_eq (HandSHeadRun.getT_eq s)
theorem run (w : World) : HandSHeadRun.RunEqI R (PySem.W.view R.prog [0, 60]) hk ob 4060 nm w := by
  unfold HandSHeadRun.RunEqI
  kernel_rfl
end Dn.Ka
end
section
set_option Elab.async false
set_option linter.all false
set_option maxRecDepth 100000
set_option maxHeartbeats 4000000
namespace Dn.Ka
open PySem PySem.Spec PyProof.Rows L2
theorem sci_BookError : FnScope ["self", "value"] ["self", "value"] (defScope si_BookError) := ⟨rfl, rfl, rfl, by decide +kernel, rfl, by decide +kernel, by decide +kernel⟩
theorem oki_BookError {P : Program} {w : World} {K : PySem.W.Frag} {mg : Str → Option Value} {base : Heap} {f : Addr} {fd : FuncData} (hm : mg "ValueError" = none) (F : FnP K "__init__" "BookError.__init__" si_BookError f fd) : FnOk P w K mg base (L2.CX P w) 1 f fd ["self", "value"] (InitP K) :=
  init_core F sci_BookError fun _ _ _ _ _ _ => pss_cons (ps_expr (pe_veinit (by rfl) hm ve_init (pa_cons (pe_var (i := 0) rfl (.inl rfl)) (pa_cons (pe_var (i := 1) rfl (.inl rfl)) pa_nil)))) (pss_one (ps_ost (pe_var (i := 0) rfl (.inl rfl)) (pe_var (i := 1) rfl (.inl rfl))))
def cf (K : PySem.W.Frag) : Cf := ⟨K, fun k => He.ga K ((["question_of", "integers_of"] : List Str).getD k ""), fun k => He.ga K ((["Unreadable"] : List Str).getD k "")⟩
theorem facts {P : Program} {w : World} {K : PySem.W.Frag} {h : Heap} {mg : Str → Option Value} {f : Addr} (X : K.In h) (G : h.Ns mainGlobals mg) (hfa : mg ("law" : Str) = some (.ref f)) (c : He.SaysX fa fn [] [] exB w h K) :
    ∃ fd : FuncData, (∀ (s : Shared) (v : Value), BindsTo s fd ⟨[v], []⟩ [("script", v)]) ∧ ∀ base : Heap, FnOk P w K mg base (L2.CX P w) 11 f fd ["script"] (Pr (cf K) 1 g_p_law) := by
  have cD : He.SaysD fa fn K := congrArg (fun z : He.AlT => z.1) c.t
  obtain ⟨e0, r0⟩ := He.ba (show (clsB K "Unreadable" && (He.eqO (PySem.W.nsIn K mainGlobals "gcd") (some (some (.builtin "math.gcd"))) && (decide (PySem.W.exmOne K (.ref (He.ga K "Unreadable")) (.ref (He.ga K "Unreadable")) = ex_Unreadable 0)))) = true from c.more)
  obtain ⟨e1, r1⟩ := He.ba (show (He.eqO (PySem.W.nsIn K mainGlobals "gcd") (some (some (.builtin "math.gcd"))) && decide (PySem.W.exmOne K (.ref (He.ga K "Unreadable")) (.ref (He.ga K "Unreadable")) = ex_Unreadable 0)) = true from r0)
  have e2 : (decide (PySem.W.exmOne K (.ref (He.ga K "Unreadable")) (.ref (He.ga K "Unreadable")) = ex_Unreadable 0)) = true := r1
  have B_Unreadable := clsB_ok e0
  obtain ⟨fdi_Unreadable, Fi_Unreadable⟩ := cD.def_ 48 (d := di_Unreadable) rfl
  have Fi_Unreadable : FnP K "__init__" "BookError.__init__" si_BookError (He.fAd K ("Unreadable", some "__init__")) fdi_Unreadable := Fi_Unreadable
  obtain ⟨fd_p_show_sides, F_p_show_sides⟩ := cD.def_ 0 (d := d_p_show_sides) rfl
  have F_p_show_sides : FnP K "show_sides" "show_sides" s_p_show_sides (He.ga K "show_sides") fd_p_show_sides := F_p_show_sides
  have m_p_show_sides := He.glo_ok X G (cD.fact 0 (f := .glo "show_sides") rfl)
  obtain ⟨fd_p_show_question, F_p_show_question⟩ := cD.def_ 1 (d := d_p_show_question) rfl
  have F_p_show_question : FnP K "show_question" "show_question" s_p_show_question (He.ga K "show_question") fd_p_show_question := F_p_show_question
  have m_p_show_question := He.glo_ok X G (cD.fact 1 (f := .glo "show_question") rfl)
  obtain ⟨fd_p_show_book, F_p_show_book⟩ := cD.def_ 2 (d := d_p_show_book) rfl
  have F_p_show_book : FnP K "show_book" "show_book" s_p_show_book (He.ga K "show_book") fd_p_show_book := F_p_show_book
  have m_p_show_book := He.glo_ok X G (cD.fact 2 (f := .glo "show_book") rfl)
  obtain ⟨fd_p_show_system, F_p_show_system⟩ := cD.def_ 3 (d := d_p_show_system) rfl
  have F_p_show_system : FnP K "show_system" "show_system" s_p_show_system (He.ga K "show_system") fd_p_show_system := F_p_show_system
  have m_p_show_system := He.glo_ok X G (cD.fact 3 (f := .glo "show_system") rfl)
  obtain ⟨fd_p_show_bundle, F_p_show_bundle⟩ := cD.def_ 4 (d := d_p_show_bundle) rfl
  have F_p_show_bundle : FnP K "show_bundle" "show_bundle" s_p_show_bundle (He.ga K "show_bundle") fd_p_show_bundle := F_p_show_bundle
  have m_p_show_bundle := He.glo_ok X G (cD.fact 4 (f := .glo "show_bundle") rfl)
  obtain ⟨fd_p_show_whole, F_p_show_whole⟩ := cD.def_ 5 (d := d_p_show_whole) rfl
  have F_p_show_whole : FnP K "show_whole" "show_whole" s_p_show_whole (He.ga K "show_whole") fd_p_show_whole := F_p_show_whole
  have m_p_show_whole := He.glo_ok X G (cD.fact 5 (f := .glo "show_whole") rfl)
  obtain ⟨fd_p_is_integer, F_p_is_integer⟩ := cD.def_ 6 (d := d_p_is_integer) rfl
  have F_p_is_integer : FnP K "is_integer" "is_integer" s_p_is_integer (He.ga K "is_integer") fd_p_is_integer := F_p_is_integer
  have m_p_is_integer := He.glo_ok X G (cD.fact 6 (f := .glo "is_integer") rfl)
  obtain ⟨fd_p_is_pair, F_p_is_pair⟩ := cD.def_ 7 (d := d_p_is_pair) rfl
  have F_p_is_pair : FnP K "is_pair" "is_pair" s_p_is_pair (He.ga K "is_pair") fd_p_is_pair := F_p_is_pair
  have m_p_is_pair := He.glo_ok X G (cD.fact 7 (f := .glo "is_pair") rfl)
  obtain ⟨fd_p_are_integers, F_p_are_integers⟩ := cD.def_ 8 (d := d_p_are_integers) rfl
  have F_p_are_integers : FnP K "are_integers" "are_integers" s_p_are_integers (He.ga K "are_integers") fd_p_are_integers := F_p_are_integers
  have m_p_are_integers := He.glo_ok X G (cD.fact 8 (f := .glo "are_integers") rfl)
  obtain ⟨fd_p_divided, F_p_divided⟩ := cD.def_ 9 (d := d_p_divided) rfl
  have F_p_divided : FnP K "divided" "divided" s_p_divided (He.ga K "divided") fd_p_divided := F_p_divided
  have m_p_divided := He.glo_ok X G (cD.fact 9 (f := .glo "divided") rfl)
  obtain ⟨fd_p_is_question, F_p_is_question⟩ := cD.def_ 10 (d := d_p_is_question) rfl
  have F_p_is_question : FnP K "is_question" "is_question" s_p_is_question (He.ga K "is_question") fd_p_is_question := F_p_is_question
  have m_p_is_question := He.glo_ok X G (cD.fact 10 (f := .glo "is_question") rfl)
  obtain ⟨fd_p_row_of_question, F_p_row_of_question⟩ := cD.def_ 11 (d := d_p_row_of_question) rfl
  have F_p_row_of_question : FnP K "row_of_question" "row_of_question" s_p_row_of_question (He.ga K "row_of_question") fd_p_row_of_question := F_p_row_of_question
  have m_p_row_of_question := He.glo_ok X G (cD.fact 11 (f := .glo "row_of_question") rfl)
  obtain ⟨fd_p_ground_of, F_p_ground_of⟩ := cD.def_ 12 (d := d_p_ground_of) rfl
  have F_p_ground_of : FnP K "ground_of" "ground_of" s_p_ground_of (He.ga K "ground_of") fd_p_ground_of := F_p_ground_of
  have m_p_ground_of := He.glo_ok X G (cD.fact 12 (f := .glo "ground_of") rfl)
  obtain ⟨fd_p_is_book, F_p_is_book⟩ := cD.def_ 13 (d := d_p_is_book) rfl
  have F_p_is_book : FnP K "is_book" "is_book" s_p_is_book (He.ga K "is_book") fd_p_is_book := F_p_is_book
  have m_p_is_book := He.glo_ok X G (cD.fact 13 (f := .glo "is_book") rfl)
  obtain ⟨fd_p_is_stick, F_p_is_stick⟩ := cD.def_ 14 (d := d_p_is_stick) rfl
  have F_p_is_stick : FnP K "is_stick" "is_stick" s_p_is_stick (He.ga K "is_stick") fd_p_is_stick := F_p_is_stick
  have m_p_is_stick := He.glo_ok X G (cD.fact 14 (f := .glo "is_stick") rfl)
  obtain ⟨fd_p_is_bundle_of, F_p_is_bundle_of⟩ := cD.def_ 15 (d := d_p_is_bundle_of) rfl
  have F_p_is_bundle_of : FnP K "is_bundle_of" "is_bundle_of" s_p_is_bundle_of (He.ga K "is_bundle_of") fd_p_is_bundle_of := F_p_is_bundle_of
  have m_p_is_bundle_of := He.glo_ok X G (cD.fact 15 (f := .glo "is_bundle_of") rfl)
  obtain ⟨fd_p_is_bundle, F_p_is_bundle⟩ := cD.def_ 16 (d := d_p_is_bundle) rfl
  have F_p_is_bundle : FnP K "is_bundle" "is_bundle" s_p_is_bundle (He.ga K "is_bundle") fd_p_is_bundle := F_p_is_bundle
  have m_p_is_bundle := He.glo_ok X G (cD.fact 16 (f := .glo "is_bundle") rfl)
  obtain ⟨fd_p_is_line, F_p_is_line⟩ := cD.def_ 17 (d := d_p_is_line) rfl
  have F_p_is_line : FnP K "is_line" "is_line" s_p_is_line (He.ga K "is_line") fd_p_is_line := F_p_is_line
  have m_p_is_line := He.glo_ok X G (cD.fact 17 (f := .glo "is_line") rfl)
  obtain ⟨fd_p_is_system, F_p_is_system⟩ := cD.def_ 18 (d := d_p_is_system) rfl
  have F_p_is_system : FnP K "is_system" "is_system" s_p_is_system (He.ga K "is_system") fd_p_is_system := F_p_is_system
  have m_p_is_system := He.glo_ok X G (cD.fact 18 (f := .glo "is_system") rfl)
  obtain ⟨fd_p_integer_of, F_p_integer_of⟩ := cD.def_ 19 (d := d_p_integer_of) rfl
  have F_p_integer_of : FnP K "integer_of" "integer_of" s_p_integer_of (He.ga K "integer_of") fd_p_integer_of := F_p_integer_of
  have m_p_integer_of := He.glo_ok X G (cD.fact 19 (f := .glo "integer_of") rfl)
  obtain ⟨fd_p_whole, F_p_whole⟩ := cD.def_ 20 (d := d_p_whole) rfl
  have F_p_whole : FnP K "whole" "whole" s_p_whole (He.ga K "whole") fd_p_whole := F_p_whole
  have m_p_whole := He.glo_ok X G (cD.fact 20 (f := .glo "whole") rfl)
  obtain ⟨fd_p_integers_of, F_p_integers_of⟩ := cD.def_ 21 (d := d_p_integers_of) rfl
  have F_p_integers_of : FnP K "integers_of" "integers_of" s_p_integers_of (He.ga K "integers_of") fd_p_integers_of := F_p_integers_of
  have m_p_integers_of := He.glo_ok X G (cD.fact 21 (f := .glo "integers_of") rfl)
  obtain ⟨fd_p_question_of, F_p_question_of⟩ := cD.def_ 22 (d := d_p_question_of) rfl
  have F_p_question_of : FnP K "question_of" "question_of" s_p_question_of (He.ga K "question_of") fd_p_question_of := F_p_question_of
  have m_p_question_of := He.glo_ok X G (cD.fact 22 (f := .glo "question_of") rfl)
  obtain ⟨fd_p_unknowns_of, F_p_unknowns_of⟩ := cD.def_ 23 (d := d_p_unknowns_of) rfl
  have F_p_unknowns_of : FnP K "unknowns_of" "unknowns_of" s_p_unknowns_of (He.ga K "unknowns_of") fd_p_unknowns_of := F_p_unknowns_of
  have m_p_unknowns_of := He.glo_ok X G (cD.fact 23 (f := .glo "unknowns_of") rfl)
  obtain ⟨fd_p_only, F_p_only⟩ := cD.def_ 24 (d := d_p_only) rfl
  have F_p_only : FnP K "only" "only" s_p_only (He.ga K "only") fd_p_only := F_p_only
  have m_p_only := He.glo_ok X G (cD.fact 24 (f := .glo "only") rfl)
  obtain ⟨fd_p_read_book, F_p_read_book⟩ := cD.def_ 25 (d := d_p_read_book) rfl
  have F_p_read_book : FnP K "read_book" "read_book" s_p_read_book (He.ga K "read_book") fd_p_read_book := F_p_read_book
  have m_p_read_book := He.glo_ok X G (cD.fact 25 (f := .glo "read_book") rfl)
  obtain ⟨fd_p_headed, F_p_headed⟩ := cD.def_ 26 (d := d_p_headed) rfl
  have F_p_headed : FnP K "headed" "headed" s_p_headed (He.ga K "headed") fd_p_headed := F_p_headed
  have m_p_headed := He.glo_ok X G (cD.fact 26 (f := .glo "headed") rfl)
  obtain ⟨fd_p_read_system, F_p_read_system⟩ := cD.def_ 27 (d := d_p_read_system) rfl
  have F_p_read_system : FnP K "read_system" "read_system" s_p_read_system (He.ga K "read_system") fd_p_read_system := F_p_read_system
  have m_p_read_system := He.glo_ok X G (cD.fact 27 (f := .glo "read_system") rfl)
  obtain ⟨fd_p_read_bundle, F_p_read_bundle⟩ := cD.def_ 28 (d := d_p_read_bundle) rfl
  have F_p_read_bundle : FnP K "read_bundle" "read_bundle" s_p_read_bundle (He.ga K "read_bundle") fd_p_read_bundle := F_p_read_bundle
  have m_p_read_bundle := He.glo_ok X G (cD.fact 28 (f := .glo "read_bundle") rfl)
  obtain ⟨fd_p_read_whole, F_p_read_whole⟩ := cD.def_ 29 (d := d_p_read_whole) rfl
  have F_p_read_whole : FnP K "read_whole" "read_whole" s_p_read_whole (He.ga K "read_whole") fd_p_read_whole := F_p_read_whole
  have m_p_read_whole := He.glo_ok X G (cD.fact 29 (f := .glo "read_whole") rfl)
  obtain ⟨fd_z_law_bag, F_z_law_bag⟩ := cD.def_ 30 (d := d_z_law_bag) rfl
  have F_z_law_bag : FnP K "_law_bag" "_law_bag" s_z_law_bag (He.ga K "_law_bag") fd_z_law_bag := F_z_law_bag
  have m_z_law_bag := He.glo_ok X G (cD.fact 30 (f := .glo "_law_bag") rfl)
  obtain ⟨fd_z_law_take, F_z_law_take⟩ := cD.def_ 31 (d := d_z_law_take) rfl
  have F_z_law_take : FnP K "_law_take" "_law_take" s_z_law_take (He.ga K "_law_take") fd_z_law_take := F_z_law_take
  have m_z_law_take := He.glo_ok X G (cD.fact 31 (f := .glo "_law_take") rfl)
  obtain ⟨fd_z_law_same, F_z_law_same⟩ := cD.def_ 32 (d := d_z_law_same) rfl
  have F_z_law_same : FnP K "_law_same" "_law_same" s_z_law_same (He.ga K "_law_same") fd_z_law_same := F_z_law_same
  have m_z_law_same := He.glo_ok X G (cD.fact 32 (f := .glo "_law_same") rfl)
  obtain ⟨fd_z_law_divisor, F_z_law_divisor⟩ := cD.def_ 33 (d := d_z_law_divisor) rfl
  have F_z_law_divisor : FnP K "_law_divisor" "_law_divisor" s_z_law_divisor (He.ga K "_law_divisor") fd_z_law_divisor := F_z_law_divisor
  have m_z_law_divisor := He.glo_ok X G (cD.fact 33 (f := .glo "_law_divisor") rfl)
  obtain ⟨fd_z_law_ground, F_z_law_ground⟩ := cD.def_ 34 (d := d_z_law_ground) rfl
  have F_z_law_ground : FnP K "_law_ground" "_law_ground" s_z_law_ground (He.ga K "_law_ground") fd_z_law_ground := F_z_law_ground
  have m_z_law_ground := He.glo_ok X G (cD.fact 34 (f := .glo "_law_ground") rfl)
  obtain ⟨fd_z_law_integer, F_z_law_integer⟩ := cD.def_ 35 (d := d_z_law_integer) rfl
  have F_z_law_integer : FnP K "_law_integer" "_law_integer" s_z_law_integer (He.ga K "_law_integer") fd_z_law_integer := F_z_law_integer
  have m_z_law_integer := He.glo_ok X G (cD.fact 35 (f := .glo "_law_integer") rfl)
  obtain ⟨fd_z_law_rows, F_z_law_rows⟩ := cD.def_ 36 (d := d_z_law_rows) rfl
  have F_z_law_rows : FnP K "_law_rows" "_law_rows" s_z_law_rows (He.ga K "_law_rows") fd_z_law_rows := F_z_law_rows
  have m_z_law_rows := He.glo_ok X G (cD.fact 36 (f := .glo "_law_rows") rfl)
  obtain ⟨fd_z_law_system, F_z_law_system⟩ := cD.def_ 37 (d := d_z_law_system) rfl
  have F_z_law_system : FnP K "_law_system" "_law_system" s_z_law_system (He.ga K "_law_system") fd_z_law_system := F_z_law_system
  have m_z_law_system := He.glo_ok X G (cD.fact 37 (f := .glo "_law_system") rfl)
  obtain ⟨fd_z_law_bundle, F_z_law_bundle⟩ := cD.def_ 38 (d := d_z_law_bundle) rfl
  have F_z_law_bundle : FnP K "_law_bundle" "_law_bundle" s_z_law_bundle (He.ga K "_law_bundle") fd_z_law_bundle := F_z_law_bundle
  have m_z_law_bundle := He.glo_ok X G (cD.fact 38 (f := .glo "_law_bundle") rfl)
  obtain ⟨fd_z_law_said, F_z_law_said⟩ := cD.def_ 39 (d := d_z_law_said) rfl
  have F_z_law_said : FnP K "_law_said" "_law_said" s_z_law_said (He.ga K "_law_said") fd_z_law_said := F_z_law_said
  have m_z_law_said := He.glo_ok X G (cD.fact 39 (f := .glo "_law_said") rfl)
  obtain ⟨fd_z_law_said_system, F_z_law_said_system⟩ := cD.def_ 40 (d := d_z_law_said_system) rfl
  have F_z_law_said_system : FnP K "_law_said_system" "_law_said_system" s_z_law_said_system (He.ga K "_law_said_system") fd_z_law_said_system := F_z_law_said_system
  have m_z_law_said_system := He.glo_ok X G (cD.fact 40 (f := .glo "_law_said_system") rfl)
  obtain ⟨fd_z_law_said_bundle, F_z_law_said_bundle⟩ := cD.def_ 41 (d := d_z_law_said_bundle) rfl
  have F_z_law_said_bundle : FnP K "_law_said_bundle" "_law_said_bundle" s_z_law_said_bundle (He.ga K "_law_said_bundle") fd_z_law_said_bundle := F_z_law_said_bundle
  have m_z_law_said_bundle := He.glo_ok X G (cD.fact 41 (f := .glo "_law_said_bundle") rfl)
  obtain ⟨fd_z_law_is_book, F_z_law_is_book⟩ := cD.def_ 42 (d := d_z_law_is_book) rfl
  have F_z_law_is_book : FnP K "_law_is_book" "_law_is_book" s_z_law_is_book (He.ga K "_law_is_book") fd_z_law_is_book := F_z_law_is_book
  have m_z_law_is_book := He.glo_ok X G (cD.fact 42 (f := .glo "_law_is_book") rfl)
  obtain ⟨fd_z_law_read, F_z_law_read⟩ := cD.def_ 43 (d := d_z_law_read) rfl
  have F_z_law_read : FnP K "_law_read" "_law_read" s_z_law_read (He.ga K "_law_read") fd_z_law_read := F_z_law_read
  have m_z_law_read := He.glo_ok X G (cD.fact 43 (f := .glo "_law_read") rfl)
  obtain ⟨fd_z_law_systems_right, F_z_law_systems_right⟩ := cD.def_ 44 (d := d_z_law_systems_right) rfl
  have F_z_law_systems_right : FnP K "_law_systems_right" "_law_systems_right" s_z_law_systems_right (He.ga K "_law_systems_right") fd_z_law_systems_right := F_z_law_systems_right
  have m_z_law_systems_right := He.glo_ok X G (cD.fact 44 (f := .glo "_law_systems_right") rfl)
  obtain ⟨fd_z_law_bundles_right, F_z_law_bundles_right⟩ := cD.def_ 45 (d := d_z_law_bundles_right) rfl
  have F_z_law_bundles_right : FnP K "_law_bundles_right" "_law_bundles_right" s_z_law_bundles_right (He.ga K "_law_bundles_right") fd_z_law_bundles_right := F_z_law_bundles_right
  have m_z_law_bundles_right := He.glo_ok X G (cD.fact 45 (f := .glo "_law_bundles_right") rfl)
  obtain ⟨fd_z_law_long_right, F_z_law_long_right⟩ := cD.def_ 46 (d := d_z_law_long_right) rfl
  have F_z_law_long_right : FnP K "_law_long_right" "_law_long_right" s_z_law_long_right (He.ga K "_law_long_right") fd_z_law_long_right := F_z_law_long_right
  have m_z_law_long_right := He.glo_ok X G (cD.fact 46 (f := .glo "_law_long_right") rfl)
  obtain ⟨fd_p_law, F_p_law⟩ := cD.def_ 47 (d := d_p_law) rfl
  have F_p_law : FnP K "law" "law" s_p_law (He.ga K "law") fd_p_law := F_p_law
  have m_p_law := He.glo_ok X G (cD.fact 47 (f := .glo "law") rfl)
  have Gl : Glob mg (cf K) := {
    z_abs := He.free_ok X G (cD.fact 48 (f := .free "abs") rfl)
    z_all := He.free_ok X G (cD.fact 49 (f := .free "all") rfl)
    z_any := He.free_ok X G (cD.fact 50 (f := .free "any") rfl)
    z_bool := He.free_ok X G (cD.fact 51 (f := .free "bool") rfl)
    z_enumerate := He.free_ok X G (cD.fact 52 (f := .free "enumerate") rfl)
    z_int := He.free_ok X G (cD.fact 53 (f := .free "int") rfl)
    z_isinstance := He.free_ok X G (cD.fact 54 (f := .free "isinstance") rfl)
    z_len := He.free_ok X G (cD.fact 55 (f := .free "len") rfl)
    z_list := He.free_ok X G (cD.fact 56 (f := .free "list") rfl)
    z_max := He.free_ok X G (cD.fact 57 (f := .free "max") rfl)
    z_min := He.free_ok X G (cD.fact 58 (f := .free "min") rfl)
    z_range := He.free_ok X G (cD.fact 59 (f := .free "range") rfl)
    z_str := He.free_ok X G (cD.fact 60 (f := .free "str") rfl)
    z_tuple := He.free_ok X G (cD.fact 61 (f := .free "tuple") rfl)
    z_ValueError := He.free_ok X G (cD.fact 62 (f := .free "ValueError") rfl)
    i_gcd := PySem.W.mg_of X G (He.eqO_ok e1)
    c_DIGITS := He.str_ok X G (cD.fact 63 (f := .str "DIGITS" "0123456789") rfl)
    c_MOST_DIGITS := He.int_ok X G (cD.fact 64 (f := .int "MOST_DIGITS" 9) rfl)
    f_question_of := m_p_question_of
    f_integers_of := m_p_integers_of }
  have e := hfa.symm.trans m_p_law
  cases e
  refine ⟨fd_p_law, fun s v => FunD.bindsA (ps := ["script"]) F_p_law (fun _ _ _ _ _ _ us hl => match us, hl with | [_], _ => rfl) s [v] rfl, fun base => ?_⟩
  have X_Unreadable : ExcE P w K mg base (cf K) 1 "Unreadable" 0 := excE_of X G B_Unreadable Fi_Unreadable (oki_BookError Gl.z_ValueError Fi_Unreadable) rfl (fun _ _ _ _ _ _ us hl => match us, hl with | [_, _], _ => rfl)
  have O_p_show_sides : FnOk P w K mg base (L2.CX P w) 1 (He.ga K "show_sides") fd_p_show_sides ["sides"] (Pr (cf K) 1 g_p_show_sides) := ok_p_show_sides (C := cf K) Gl rfl F_p_show_sides
  have D_p_show_sides := defE_of F_p_show_sides m_p_show_sides O_p_show_sides (fun _ _ _ _ _ _ us hl => match us, hl with | [_], _ => rfl)
  have O_p_is_integer : FnOk P w K mg base (L2.CX P w) 1 (He.ga K "is_integer") fd_p_is_integer ["value"] (Pr (cf K) 1 g_p_is_integer) := ok_p_is_integer (C := cf K) Gl rfl F_p_is_integer
  have D_p_is_integer := defE_of F_p_is_integer m_p_is_integer O_p_is_integer (fun _ _ _ _ _ _ us hl => match us, hl with | [_], _ => rfl)
  have O_p_is_pair : FnOk P w K mg base (L2.CX P w) 1 (He.ga K "is_pair") fd_p_is_pair ["value"] (Pr (cf K) 1 g_p_is_pair) := ok_p_is_pair (C := cf K) Gl rfl F_p_is_pair
  have D_p_is_pair := defE_of F_p_is_pair m_p_is_pair O_p_is_pair (fun _ _ _ _ _ _ us hl => match us, hl with | [_], _ => rfl)
  have O_p_divided : FnOk P w K mg base (L2.CX P w) 1 (He.ga K "divided") fd_p_divided ["row"] (Pr (cf K) 1 g_p_divided) := ok_p_divided (C := cf K) Gl rfl F_p_divided
  have D_p_divided := defE_of F_p_divided m_p_divided O_p_divided (fun _ _ _ _ _ _ us hl => match us, hl with | [_], _ => rfl)
  have O_p_row_of_question : FnOk P w K mg base (L2.CX P w) 1 (He.ga K "row_of_question") fd_p_row_of_question ["question"] (Pr (cf K) 1 g_p_row_of_question) := ok_p_row_of_question (C := cf K) Gl rfl F_p_row_of_question
  have D_p_row_of_question := defE_of F_p_row_of_question m_p_row_of_question O_p_row_of_question (fun _ _ _ _ _ _ us hl => match us, hl with | [_], _ => rfl)
  have O_p_integer_of : FnOk P w K mg base (L2.CX P w) 1 (He.ga K "integer_of") fd_p_integer_of ["text"] (Pr (cf K) 1 g_p_integer_of) := ok_p_integer_of (C := cf K) Gl rfl F_p_integer_of
  have D_p_integer_of := defE_of F_p_integer_of m_p_integer_of O_p_integer_of (fun _ _ _ _ _ _ us hl => match us, hl with | [_], _ => rfl)
  have O_p_whole : FnOk P w K mg base (L2.CX P w) 1 (He.ga K "whole") fd_p_whole ["parts"] (Pr (cf K) 1 g_p_whole) := ok_p_whole (C := cf K) Gl rfl F_p_whole
  have D_p_whole := defE_of F_p_whole m_p_whole O_p_whole (fun _ _ _ _ _ _ us hl => match us, hl with | [_], _ => rfl)
  have O_z_law_bag : FnOk P w K mg base (L2.CX P w) 1 (He.ga K "_law_bag") fd_z_law_bag ["script", "k"] (Pr (cf K) 2 g_z_law_bag) := ok_z_law_bag (C := cf K) Gl rfl F_z_law_bag
  have D_z_law_bag := defE_of F_z_law_bag m_z_law_bag O_z_law_bag (fun _ _ _ _ _ _ us hl => match us, hl with | [_, _], _ => rfl)
  have O_z_law_take : FnOk P w K mg base (L2.CX P w) 1 (He.ga K "_law_take") fd_z_law_take ["bag", "many"] (Pr (cf K) 2 g_z_law_take) := ok_z_law_take (C := cf K) Gl rfl F_z_law_take
  have D_z_law_take := defE_of F_z_law_take m_z_law_take O_z_law_take (fun _ _ _ _ _ _ us hl => match us, hl with | [_, _], _ => rfl)
  have O_z_law_divisor : FnOk P w K mg base (L2.CX P w) 1 (He.ga K "_law_divisor") fd_z_law_divisor ["numbers"] (Pr (cf K) 1 g_z_law_divisor) := ok_z_law_divisor (C := cf K) Gl rfl F_z_law_divisor
  have D_z_law_divisor := defE_of F_z_law_divisor m_z_law_divisor O_z_law_divisor (fun _ _ _ _ _ _ us hl => match us, hl with | [_], _ => rfl)
  have O_z_law_said : FnOk P w K mg base (L2.CX P w) 1 (He.ga K "_law_said") fd_z_law_said ["row"] (Pr (cf K) 1 g_z_law_said) := ok_z_law_said (C := cf K) Gl rfl F_z_law_said
  have D_z_law_said := defE_of F_z_law_said m_z_law_said O_z_law_said (fun _ _ _ _ _ _ us hl => match us, hl with | [_], _ => rfl)
  have O_p_show_question : FnOk P w K mg base (L2.CX P w) 2 (He.ga K "show_question") fd_p_show_question ["question"] (Pr (cf K) 1 g_p_show_question) := ok_p_show_question (C := cf K) Gl rfl F_p_show_question D_p_show_sides.mono
  have D_p_show_question := defE_of F_p_show_question m_p_show_question O_p_show_question (fun _ _ _ _ _ _ us hl => match us, hl with | [_], _ => rfl)
  have O_p_show_bundle : FnOk P w K mg base (L2.CX P w) 2 (He.ga K "show_bundle") fd_p_show_bundle ["bundle"] (Pr (cf K) 1 g_p_show_bundle) := ok_p_show_bundle (C := cf K) Gl rfl F_p_show_bundle D_p_show_sides.mono
  have D_p_show_bundle := defE_of F_p_show_bundle m_p_show_bundle O_p_show_bundle (fun _ _ _ _ _ _ us hl => match us, hl with | [_], _ => rfl)
  have k0_show_bundle := defKE_of (ks := ["bundle"]) (js := [0]) F_p_show_bundle m_p_show_bundle O_p_show_bundle (fun _ _ _ _ _ _ ws hl => match ws, hl with | [_], _ => rfl)
  have O_p_show_whole : FnOk P w K mg base (L2.CX P w) 2 (He.ga K "show_whole") fd_p_show_whole ["point"] (Pr (cf K) 1 g_p_show_whole) := ok_p_show_whole (C := cf K) Gl rfl F_p_show_whole D_p_show_sides.mono
  have D_p_show_whole := defE_of F_p_show_whole m_p_show_whole O_p_show_whole (fun _ _ _ _ _ _ us hl => match us, hl with | [_], _ => rfl)
  have k0_show_whole := defKE_of (ks := ["point"]) (js := [0]) F_p_show_whole m_p_show_whole O_p_show_whole (fun _ _ _ _ _ _ ws hl => match ws, hl with | [_], _ => rfl)
  have O_p_are_integers : FnOk P w K mg base (L2.CX P w) 2 (He.ga K "are_integers") fd_p_are_integers ["value"] (Pr (cf K) 1 g_p_are_integers) := ok_p_are_integers (C := cf K) Gl rfl F_p_are_integers D_p_is_integer.mono
  have D_p_are_integers := defE_of F_p_are_integers m_p_are_integers O_p_are_integers (fun _ _ _ _ _ _ us hl => match us, hl with | [_], _ => rfl)
  have O_p_ground_of : FnOk P w K mg base (L2.CX P w) 2 (He.ga K "ground_of") fd_p_ground_of ["question"] (Pr (cf K) 1 g_p_ground_of) := ok_p_ground_of (C := cf K) Gl rfl F_p_ground_of D_p_row_of_question.mono D_p_divided.mono
  have D_p_ground_of := defE_of F_p_ground_of m_p_ground_of O_p_ground_of (fun _ _ _ _ _ _ us hl => match us, hl with | [_], _ => rfl)
  have O_p_integers_of : FnOk P w K mg base (L2.CX P w) 2 (He.ga K "integers_of") fd_p_integers_of ["text"] (Pr (cf K) 1 g_p_integers_of) := ok_p_integers_of (C := cf K) Gl rfl F_p_integers_of D_p_integer_of.mono D_p_whole.mono
  have D_p_integers_of := defE_of F_p_integers_of m_p_integers_of O_p_integers_of (fun _ _ _ _ _ _ us hl => match us, hl with | [_], _ => rfl)
  have O_p_unknowns_of : FnOk P w K mg base (L2.CX P w) 2 (He.ga K "unknowns_of") fd_p_unknowns_of ["line"] (Pr (cf K) 1 g_p_unknowns_of) := ok_p_unknowns_of (C := cf K) Gl rfl F_p_unknowns_of D_p_integer_of.mono
  have D_p_unknowns_of := defE_of F_p_unknowns_of m_p_unknowns_of O_p_unknowns_of (fun _ _ _ _ _ _ us hl => match us, hl with | [_], _ => rfl)
  have O_z_law_ground : FnOk P w K mg base (L2.CX P w) 2 (He.ga K "_law_ground") fd_z_law_ground ["sides", "wall"] (Pr (cf K) 2 g_z_law_ground) := ok_z_law_ground (C := cf K) Gl rfl F_z_law_ground D_z_law_divisor.mono
  have D_z_law_ground := defE_of F_z_law_ground m_z_law_ground O_z_law_ground (fun _ _ _ _ _ _ us hl => match us, hl with | [_, _], _ => rfl)
  have O_z_law_integer : FnOk P w K mg base (L2.CX P w) 2 (He.ga K "_law_integer") fd_z_law_integer ["bag", "digits"] (Pr (cf K) 2 g_z_law_integer) := ok_z_law_integer (C := cf K) Gl rfl F_z_law_integer D_z_law_take.mono
  have D_z_law_integer := defE_of F_z_law_integer m_z_law_integer O_z_law_integer (fun _ _ _ _ _ _ us hl => match us, hl with | [_, _], _ => rfl)
  have O_z_law_said_system : FnOk P w K mg base (L2.CX P w) 2 (He.ga K "_law_said_system") fd_z_law_said_system ["word", "system"] (Pr (cf K) 2 g_z_law_said_system) := ok_z_law_said_system (C := cf K) Gl rfl F_z_law_said_system D_z_law_said.mono
  have D_z_law_said_system := defE_of F_z_law_said_system m_z_law_said_system O_z_law_said_system (fun _ _ _ _ _ _ us hl => match us, hl with | [_, _], _ => rfl)
  have O_z_law_said_bundle : FnOk P w K mg base (L2.CX P w) 2 (He.ga K "_law_said_bundle") fd_z_law_said_bundle ["bundle"] (Pr (cf K) 1 g_z_law_said_bundle) := ok_z_law_said_bundle (C := cf K) Gl rfl F_z_law_said_bundle D_z_law_said.mono
  have D_z_law_said_bundle := defE_of F_z_law_said_bundle m_z_law_said_bundle O_z_law_said_bundle (fun _ _ _ _ _ _ us hl => match us, hl with | [_], _ => rfl)
  have O_p_show_book : FnOk P w K mg base (L2.CX P w) 3 (He.ga K "show_book") fd_p_show_book ["book"] (Pr (cf K) 1 g_p_show_book) := ok_p_show_book (C := cf K) Gl rfl F_p_show_book D_p_show_question.mono
  have D_p_show_book := defE_of F_p_show_book m_p_show_book O_p_show_book (fun _ _ _ _ _ _ us hl => match us, hl with | [_], _ => rfl)
  have k0_show_book := defKE_of (ks := ["book"]) (js := [0]) F_p_show_book m_p_show_book O_p_show_book (fun _ _ _ _ _ _ ws hl => match ws, hl with | [_], _ => rfl)
  have O_p_show_system : FnOk P w K mg base (L2.CX P w) 3 (He.ga K "show_system") fd_p_show_system ["system"] (Pr (cf K) 1 g_p_show_system) := ok_p_show_system (C := cf K) Gl rfl F_p_show_system D_p_show_question.mono
  have D_p_show_system := defE_of F_p_show_system m_p_show_system O_p_show_system (fun _ _ _ _ _ _ us hl => match us, hl with | [_], _ => rfl)
  have k0_show_system := defKE_of (ks := ["system"]) (js := [0]) F_p_show_system m_p_show_system O_p_show_system (fun _ _ _ _ _ _ ws hl => match ws, hl with | [_], _ => rfl)
  have O_p_is_question : FnOk P w K mg base (L2.CX P w) 3 (He.ga K "is_question") fd_p_is_question ["d", "told"] (Pr (cf K) 2 g_p_is_question) := ok_p_is_question (C := cf K) Gl rfl F_p_is_question D_p_is_pair.mono D_p_are_integers.mono D_p_is_integer.mono
  have D_p_is_question := defE_of F_p_is_question m_p_is_question O_p_is_question (fun _ _ _ _ _ _ us hl => match us, hl with | [_, _], _ => rfl)
  have O_p_is_stick : FnOk P w K mg base (L2.CX P w) 3 (He.ga K "is_stick") fd_p_is_stick ["d", "told"] (Pr (cf K) 2 g_p_is_stick) := ok_p_is_stick (C := cf K) Gl rfl F_p_is_stick D_p_are_integers.mono
  have D_p_is_stick := defE_of F_p_is_stick m_p_is_stick O_p_is_stick (fun _ _ _ _ _ _ us hl => match us, hl with | [_, _], _ => rfl)
  have O_p_is_line : FnOk P w K mg base (L2.CX P w) 3 (He.ga K "is_line") fd_p_is_line ["d", "told"] (Pr (cf K) 2 g_p_is_line) := ok_p_is_line (C := cf K) Gl rfl F_p_is_line D_p_is_pair.mono D_p_are_integers.mono D_p_is_integer.mono
  have D_p_is_line := defE_of F_p_is_line m_p_is_line O_p_is_line (fun _ _ _ _ _ _ us hl => match us, hl with | [_, _], _ => rfl)
  have O_p_question_of : FnOk P w K mg base (L2.CX P w) 3 (He.ga K "question_of") fd_p_question_of ["line"] (Pr (cf K) 1 g_p_question_of) := ok_p_question_of (C := cf K) Gl rfl F_p_question_of D_p_integer_of.mono D_p_integers_of.mono D_p_whole.mono
  have D_p_question_of := defE_of F_p_question_of m_p_question_of O_p_question_of (fun _ _ _ _ _ _ us hl => match us, hl with | [_], _ => rfl)
  have O_z_law_rows : FnOk P w K mg base (L2.CX P w) 3 (He.ga K "_law_rows") fd_z_law_rows ["bag", "d", "many", "digits"] (Pr (cf K) 4 g_z_law_rows) := ok_z_law_rows (C := cf K) Gl rfl F_z_law_rows D_z_law_integer.mono D_z_law_take.mono
  have D_z_law_rows := defE_of F_z_law_rows m_z_law_rows O_z_law_rows (fun _ _ _ _ _ _ us hl => match us, hl with | [_, _, _, _], _ => rfl)
  have O_z_law_is_book : FnOk P w K mg base (L2.CX P w) 3 (He.ga K "_law_is_book") fd_z_law_is_book ["system"] (Pr (cf K) 1 g_z_law_is_book) := ok_z_law_is_book (C := cf K) Gl rfl F_z_law_is_book D_z_law_divisor.mono D_z_law_ground.mono
  have D_z_law_is_book := defE_of F_z_law_is_book m_z_law_is_book O_z_law_is_book (fun _ _ _ _ _ _ us hl => match us, hl with | [_], _ => rfl)
  have O_p_is_book : FnOk P w K mg base (L2.CX P w) 4 (He.ga K "is_book") fd_p_is_book ["told"] (Pr (cf K) 1 g_p_is_book) := ok_p_is_book (C := cf K) Gl rfl F_p_is_book D_p_is_pair.mono D_p_is_integer.mono D_p_is_question.mono D_p_ground_of.mono
  have D_p_is_book := defE_of F_p_is_book m_p_is_book O_p_is_book (fun _ _ _ _ _ _ us hl => match us, hl with | [_], _ => rfl)
  have O_p_is_bundle_of : FnOk P w K mg base (L2.CX P w) 4 (He.ga K "is_bundle_of") fd_p_is_bundle_of ["told"] (Pr (cf K) 1 g_p_is_bundle_of) := ok_p_is_bundle_of (C := cf K) Gl rfl F_p_is_bundle_of D_p_is_pair.mono D_p_is_integer.mono D_p_is_stick.mono
  have D_p_is_bundle_of := defE_of F_p_is_bundle_of m_p_is_bundle_of O_p_is_bundle_of (fun _ _ _ _ _ _ us hl => match us, hl with | [_], _ => rfl)
  have O_p_is_system : FnOk P w K mg base (L2.CX P w) 4 (He.ga K "is_system") fd_p_is_system ["told"] (Pr (cf K) 1 g_p_is_system) := ok_p_is_system (C := cf K) Gl rfl F_p_is_system D_p_is_pair.mono D_p_is_integer.mono D_p_is_line.mono
  have D_p_is_system := defE_of F_p_is_system m_p_is_system O_p_is_system (fun _ _ _ _ _ _ us hl => match us, hl with | [_], _ => rfl)
  have O_p_only : FnOk P w K mg base (L2.CX P w) 4 (He.ga K "only") fd_p_only ["told", "text"] (Pr (cf K) 2 g_p_only) := ok_p_only (C := cf K) Gl rfl F_p_only (fun k g e => match k, e with | 0, e => by cases e; exact (heldE_of F_p_question_of O_p_question_of (fun _ _ _ _ _ _ us hl => match us, hl with | [_], _ => rfl)).mono | 1, e => by cases e; exact (heldE_of F_p_integers_of O_p_integers_of (fun _ _ _ _ _ _ us hl => match us, hl with | [_], _ => rfl)).mono | k + 2, e => by cases e) X_Unreadable
  have D_p_only := defE_of F_p_only m_p_only O_p_only (fun _ _ _ _ _ _ us hl => match us, hl with | [_, _], _ => rfl)
  have O_p_headed : FnOk P w K mg base (L2.CX P w) 4 (He.ga K "headed") fd_p_headed ["word", "told", "text"] (Pr (cf K) 3 g_p_headed) := ok_p_headed (C := cf K) Gl rfl F_p_headed D_p_integer_of.mono (fun k g e => match k, e with | 0, e => by cases e; exact (heldE_of F_p_question_of O_p_question_of (fun _ _ _ _ _ _ us hl => match us, hl with | [_], _ => rfl)).mono | 1, e => by cases e; exact (heldE_of F_p_integers_of O_p_integers_of (fun _ _ _ _ _ _ us hl => match us, hl with | [_], _ => rfl)).mono | k + 2, e => by cases e) X_Unreadable
  have D_p_headed := defE_of F_p_headed m_p_headed O_p_headed (fun _ _ _ _ _ _ us hl => match us, hl with | [_, _, _], _ => rfl)
  have O_z_law_system : FnOk P w K mg base (L2.CX P w) 4 (He.ga K "_law_system") fd_z_law_system ["bag", "digits"] (Pr (cf K) 2 g_z_law_system) := ok_z_law_system (C := cf K) Gl rfl F_z_law_system D_z_law_take.mono D_z_law_rows.mono D_z_law_integer.mono
  have D_z_law_system := defE_of F_z_law_system m_z_law_system O_z_law_system (fun _ _ _ _ _ _ us hl => match us, hl with | [_, _], _ => rfl)
  have O_z_law_bundle : FnOk P w K mg base (L2.CX P w) 4 (He.ga K "_law_bundle") fd_z_law_bundle ["bag", "digits"] (Pr (cf K) 2 g_z_law_bundle) := ok_z_law_bundle (C := cf K) Gl rfl F_z_law_bundle D_z_law_take.mono D_z_law_rows.mono
  have D_z_law_bundle := defE_of F_z_law_bundle m_z_law_bundle O_z_law_bundle (fun _ _ _ _ _ _ us hl => match us, hl with | [_, _], _ => rfl)
  have O_p_is_bundle : FnOk P w K mg base (L2.CX P w) 5 (He.ga K "is_bundle") fd_p_is_bundle ["told"] (Pr (cf K) 1 g_p_is_bundle) := ok_p_is_bundle (C := cf K) Gl rfl F_p_is_bundle D_p_is_bundle_of.mono
  have D_p_is_bundle := defE_of F_p_is_bundle m_p_is_bundle O_p_is_bundle (fun _ _ _ _ _ _ us hl => match us, hl with | [_], _ => rfl)
  have O_p_read_book : FnOk P w K mg base (L2.CX P w) 5 (He.ga K "read_book") fd_p_read_book ["text"] (Pr (cf K) 1 g_p_read_book) := ok_p_read_book (C := cf K) Gl rfl F_p_read_book D_p_unknowns_of.mono D_p_question_of.mono D_p_is_book.mono X_Unreadable
  have D_p_read_book := defE_of F_p_read_book m_p_read_book O_p_read_book (fun _ _ _ _ _ _ us hl => match us, hl with | [_], _ => rfl)
  have k0_read_book := defKE_of (ks := ["text"]) (js := [0]) F_p_read_book m_p_read_book O_p_read_book (fun _ _ _ _ _ _ ws hl => match ws, hl with | [_], _ => rfl)
  have O_p_read_system : FnOk P w K mg base (L2.CX P w) 5 (He.ga K "read_system") fd_p_read_system ["text"] (Pr (cf K) 1 g_p_read_system) := ok_p_read_system (C := cf K) Gl rfl F_p_read_system D_p_headed.mono D_p_is_system.mono X_Unreadable
  have D_p_read_system := defE_of F_p_read_system m_p_read_system O_p_read_system (fun _ _ _ _ _ _ us hl => match us, hl with | [_], _ => rfl)
  have k0_read_system := defKE_of (ks := ["text"]) (js := [0]) F_p_read_system m_p_read_system O_p_read_system (fun _ _ _ _ _ _ ws hl => match ws, hl with | [_], _ => rfl)
  have O_p_read_whole : FnOk P w K mg base (L2.CX P w) 5 (He.ga K "read_whole") fd_p_read_whole ["text"] (Pr (cf K) 1 g_p_read_whole) := ok_p_read_whole (C := cf K) Gl rfl F_p_read_whole D_p_only.mono
  have D_p_read_whole := defE_of F_p_read_whole m_p_read_whole O_p_read_whole (fun _ _ _ _ _ _ us hl => match us, hl with | [_], _ => rfl)
  have k0_read_whole := defKE_of (ks := ["text"]) (js := [0]) F_p_read_whole m_p_read_whole O_p_read_whole (fun _ _ _ _ _ _ ws hl => match ws, hl with | [_], _ => rfl)
  have O_p_read_bundle : FnOk P w K mg base (L2.CX P w) 6 (He.ga K "read_bundle") fd_p_read_bundle ["text"] (Pr (cf K) 1 g_p_read_bundle) := ok_p_read_bundle (C := cf K) Gl rfl F_p_read_bundle D_p_headed.mono D_p_is_bundle.mono X_Unreadable
  have D_p_read_bundle := defE_of F_p_read_bundle m_p_read_bundle O_p_read_bundle (fun _ _ _ _ _ _ us hl => match us, hl with | [_], _ => rfl)
  have k0_read_bundle := defKE_of (ks := ["text"]) (js := [0]) F_p_read_bundle m_p_read_bundle O_p_read_bundle (fun _ _ _ _ _ _ ws hl => match ws, hl with | [_], _ => rfl)
  have O_z_law_read : FnOk P w K mg base (L2.CX P w) 7 (He.ga K "_law_read") fd_z_law_read ["kind", "text"] (Pr (cf K) 2 g_z_law_read) := ok_z_law_read (C := cf K) Gl rfl F_z_law_read D_p_read_system.mono D_p_read_bundle.mono D_p_read_book.mono D_p_read_whole.mono k0_read_system.mono k0_read_bundle.mono k0_read_book.mono k0_read_whole.mono (fun k b e => match k, b, e with | 0, b, e => (of_decide_eq_true e2).trans e | k + 1, _, e => by cases e) (fun k e => match k, e with | 0, _ => ⟨B_Unreadable.xf, B_Unreadable.no⟩ | k + 1, e => by cases e) (PySem.W.mg_of X G B_Unreadable.g)
  have D_z_law_read := defE_of F_z_law_read m_z_law_read O_z_law_read (fun _ _ _ _ _ _ us hl => match us, hl with | [_, _], _ => rfl)
  have O_z_law_same : ∀ n : Nat, FnOk P w K mg base (L2.CX P w) (0 + n) (He.ga K "_law_same") fd_z_law_same ["told", "due"] (Pr (cf K) 2 (g_z_law_same n)) := by
    intro n
    induction n with
    | zero => exact fnOk_bad.mono (Nat.zero_le _)
    | succ n ih => exact ok_z_law_same (K := K) (C := cf K) (n := 0 + n) Gl rfl F_z_law_same (defE_of F_z_law_same m_z_law_same ih (fun _ _ _ _ _ _ us hl => match us, hl with | [_, _], _ => rfl))
  have O_z_law_same := O_z_law_same 8
  have D_z_law_same := defE_of F_z_law_same m_z_law_same O_z_law_same (fun _ _ _ _ _ _ us hl => match us, hl with | [_, _], _ => rfl)
  have O_z_law_systems_right : FnOk P w K mg base (L2.CX P w) 10 (He.ga K "_law_systems_right") fd_z_law_systems_right ["bag", "asked"] (Pr (cf K) 2 g_z_law_systems_right) := ok_z_law_systems_right (C := cf K) Gl rfl F_z_law_systems_right D_z_law_system.mono D_z_law_said_system.mono D_p_show_system.mono D_z_law_same.mono D_z_law_is_book.mono D_p_show_book.mono D_z_law_read.mono k0_show_system.mono k0_show_book.mono
  have D_z_law_systems_right := defE_of F_z_law_systems_right m_z_law_systems_right O_z_law_systems_right (fun _ _ _ _ _ _ us hl => match us, hl with | [_, _], _ => rfl)
  have O_z_law_bundles_right : FnOk P w K mg base (L2.CX P w) 10 (He.ga K "_law_bundles_right") fd_z_law_bundles_right ["bag", "asked"] (Pr (cf K) 2 g_z_law_bundles_right) := ok_z_law_bundles_right (C := cf K) Gl rfl F_z_law_bundles_right D_z_law_take.mono D_z_law_integer.mono D_z_law_bundle.mono D_z_law_said.mono D_z_law_said_bundle.mono D_p_show_bundle.mono D_z_law_same.mono D_p_show_whole.mono D_z_law_read.mono k0_show_bundle.mono k0_show_whole.mono
  have D_z_law_bundles_right := defE_of F_z_law_bundles_right m_z_law_bundles_right O_z_law_bundles_right (fun _ _ _ _ _ _ us hl => match us, hl with | [_, _], _ => rfl)
  have O_z_law_long_right : FnOk P w K mg base (L2.CX P w) 10 (He.ga K "_law_long_right") fd_z_law_long_right ["bag"] (Pr (cf K) 1 g_z_law_long_right) := ok_z_law_long_right (C := cf K) Gl rfl F_z_law_long_right D_z_law_bundle.mono D_z_law_system.mono D_p_show_whole.mono D_p_show_bundle.mono D_p_show_system.mono D_z_law_said_bundle.mono D_z_law_said_system.mono D_z_law_said.mono D_z_law_same.mono
  have D_z_law_long_right := defE_of F_z_law_long_right m_z_law_long_right O_z_law_long_right (fun _ _ _ _ _ _ us hl => match us, hl with | [_], _ => rfl)
  have O_p_law : FnOk P w K mg base (L2.CX P w) 11 (He.ga K "law") fd_p_law ["script"] (Pr (cf K) 1 g_p_law) := ok_p_law (C := cf K) Gl rfl F_p_law D_z_law_bag.mono D_z_law_systems_right.mono D_z_law_bundles_right.mono D_z_law_long_right.mono D_z_law_read.mono D_z_law_same.mono
  exact O_p_law
end Dn.Ka
open PySem PySem.W PySem.Calls PyProof.Rows
theorem Ka_of (hp : ∀ ns : List Int, ns.length ≤ 63 → Dn.Ka.g_p_law [.dat (.scr ns)] = .ret (.dat (.bl true)) []) : PySem.Challenge.rw_wholesayings_k94_whole_systems_and_bundl.Holds := by
  w_on; o_law
  refine HandSHeadRun.head_imp (r := OpenLaw.row PySem.Challenge.rw_wholesayings_k94_whole_systems_and_bundl) (q := view (OpenLaw.row PySem.Challenge.rw_wholesayings_k94_whole_systems_and_bundl).prog [0, 60]) (H := Dn.Ka.hk) (ob := Dn.Ka.ob) (M := 4060) (loose := Dn.Ka.nm) (d := HandSHeadRun.topDef (OpenLaw.row PySem.Challenge.rw_wholesayings_k94_whole_systems_and_bundl).prog 60) (kwd := []) Dn.Ka.ob_eq
    Dn.Ka.run (by kernel_rfl) (by kernel_rfl) (by kernel_rfl) (by rfl) (by first | assumption | decide +kernel) (by decide +kernel) ⟨rfl, rfl, rfl, rfl, rfl, by decide +kernel⟩ ?hw ?hc
  case hw => w_witness2
  case hc =>
    refine L2.walk_ofE (l := PySem.Challenge.rw_wholesayings_k94_whole_systems_and_bundl) (n := 63) (k := 11) (x := "script") (CX := L2.CX0) rfl (by decide) (by kernel_rfl) ⟨rfl, by decide, by decide⟩ ?F (fun _ _ _ _ z => z)
    intro w mg fa h Y G hmg0
    obtain ⟨K, KX, c⟩ := Y
    have hmg : mg ("law" : PySem.Str) = some (.ref fa) := by
      have e : (HandSHeadRun.topDef (OpenLaw.row PySem.Challenge.rw_wholesayings_k94_whole_systems_and_bundl).prog 60).name = ("law" : PySem.Str) := by kernel_rfl
      rw [← e]
      exact hmg0
    obtain ⟨fd, hb, hF⟩ := Dn.Ka.facts (P := (PySem.Challenge.rw_wholesayings_k94_whole_systems_and_bundl).prog) (w := w) KX G hmg c
    exact ⟨K, fd, (fun vs H Q _ => Dn.Pr (Dn.Ka.cf K) 1 Dn.Ka.g_p_law vs H Q fun _ _ _ => False), KX, hb, fun H a ns hl _ hS => Dn.law_end hS (hp ns hl), fun base _ _ => Dn.fnOk_calm (hF base)⟩
end
open PySem PySem.W PyProof.Rows
theorem PySem.Challenge.cw_wholesayings_k94_whole_systems_and_bundl_holds : PySem.Challenge.rw_wholesayings_k94_whole_systems_and_bundl.Holds := by
  exact Ka_of Dn.Ka.law_holds
