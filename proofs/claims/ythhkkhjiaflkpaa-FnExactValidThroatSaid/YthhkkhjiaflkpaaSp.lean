/- What the functions compute, in plain words, and the plain laws on floats. -/
import Derived.Test.YthhkkhjiaflkpaaVx
namespace Go.Vx

/-! ### What the functions compute, told in plain words -/
def fin (x : Nat) : Bool := fcmp .eql .f32 (fsub .f32 x x) 0
def btw (x lo hi : Nat) : Bool := fcmp .geq .f32 x lo && fcmp .leq .f32 x hi
def iin (n lo hi : Int) : Bool := decide (n ≥ lo) && decide (n ≤ hi)
def phase (x : Nat) : Bool := fcmp .geq .f32 x 0 && fcmp .lss .f32 x 1065353216
def above (x : Nat) : Bool := fin x && fcmp .gtr .f32 x 0
def least (x : Nat) : Bool := fin x && fcmp .geq .f32 x 0
def throatI (p o c b s : Nat) : Bool :=
  (((((btw p 1073741824 1148846080 && fcmp .gtr .f32 o 0) && fcmp .gtr .f32 c 0) && fcmp .leq .f32 (fadd .f32 o c) 1065353216) && fin b) && fcmp .geq .f32 b 0) && btw s 0 1056964608
def throatS (p o c b s : Nat) : Bool :=
  ((((((fcmp .geq .f32 p 1073741824 && fcmp .leq .f32 p 1148846080) && above o) && above c) && fcmp .leq .f32 (fadd .f32 o c) 1065353216) && least b) && fcmp .geq .f32 s 0) && fcmp .leq .f32 s 1056964608
def voiceV (p n : Nat) (s : Int) : Bool := ((phase p && fin n) && fcmp .geq .f32 n 1065353216) && iin s 0 2147483647
def bitsOf (x : Nat) : Int := if fcmp .neq .f32 x x = true then 2143289344 else IntKind.i64.wrap (x : Int)
def sameS (a b : Nat) : Bool := bitsOf a == bitsOf b
def signb (x : Nat) : Bool := decide (IntKind.i64.wrap (x : Int) < 0)
def sameN (a b : Nat) : Bool :=
  if (fcmp .neq .f32 a a || fcmp .neq .f32 b b) = true then fcmp .neq .f32 a a && fcmp .neq .f32 b b
  else fcmp .eql .f32 a b && (signb (conv .f32 .f64 a) == signb (conv .f32 .f64 b))
def sameF (a b : Nat) : Bool :=
  if (fcmp .neq .f64 a a || fcmp .neq .f64 b b) = true then fcmp .neq .f64 a a && fcmp .neq .f64 b b
  else if (fcmp .eql .f64 a 0 && fcmp .eql .f64 b 0) = true then fcmp .gtr .f64 (fdiv .f64 4607182418800017408 a) 0 == fcmp .gtr .f64 (fdiv .f64 4607182418800017408 b) 0
  else fcmp .eql .f64 a b
def F (x : Nat) : Value := .float .f32 x
def throatC (p o c b s : Nat) : List Value := [.float .f32 p, .float .f32 o, .float .f32 c, .float .f32 b, .float .f32 s]
def voiceC (p n : Nat) (s : Int) : List Value := [.float .f32 p, .float .f32 n, .int .i64 s]
end Go.Vx

namespace Go.Vx

/-- The datum of a 32-bit number. -/
abbrev rd (x : Nat) : Ieee.Datum := FloatKind.f32.format.read x

theorem nan_iff (k : FloatKind) (x : Nat) : isN k x = true ↔ ∃ s f, k.format.read x = .nan s f := by
  constructor
  · exact read_nan k x
  · rintro ⟨s, f, h⟩
    by_cases hn : isN k x = true
    · exact hn
    · have := read_num k x (by simpa using hn)
      rw [h] at this
      cases this

theorem order_qnan_l (k : FloatKind) (y : Nat) : k.format.order (qnan k) y = none := order_nan_l (isN_qnan k)
theorem order_qnan_r (k : FloatKind) (y : Nat) : k.format.order y (qnan k) = none := order_nan_r (isN_qnan k)

theorem sum_opp (s : Bool) (m : Nat) (e : Int) : (Ieee.Datum.number s m e).sum (Ieee.Datum.number s m e).opposite = some (.number false 0 e) := by
  simp only [Ieee.Datum.opposite, Ieee.Datum.sum, Int.min_self, Int.sub_self, Int.toNat_zero]
  cases s
  · have h : (m : Int) + -(m : Int) = 0 := by omega
    simp [Ieee.signed, h]
  · have h : -(m : Int) + (m : Int) = 0 := by omega
    simp [Ieee.signed, h]

theorem fin_num {x : Nat} {s : Bool} {m : Nat} {e : Int} (h : rd x = .number s m e) : fin x = true := by
  have h0 : fsub .f32 x x = 0 := by
    unfold fsub Ieee.Format.sub
    rw [show FloatKind.f32.format.read x = _ from h, sum_opp]
    rfl
  unfold fin
  rw [h0]
  rfl
theorem fin_inf {x : Nat} {s : Bool} (h : rd x = .infinity s) : fin x = false := by
  have h0 : fsub .f32 x x = qnan .f32 := by
    unfold fsub Ieee.Format.sub
    rw [show FloatKind.f32.format.read x = _ from h]
    cases s <;> rfl
  unfold fin fcmp
  rw [h0, order_qnan_l]
  rfl
theorem fin_nan {x : Nat} (h : isN .f32 x = true) : fin x = false := by
  have h0 : fsub .f32 x x = qnan .f32 := by
    unfold fsub
    rw [sub_nan_l h, oc_none]
  unfold fin fcmp
  rw [h0, order_qnan_l]
  rfl
theorem fin_iff (x : Nat) : fin x = true ↔ ∃ s m e, rd x = .number s m e := by
  constructor
  · intro h
    cases hr : rd x with
    | number s m e => exact ⟨s, m, e, rfl⟩
    | infinity s => rw [fin_inf hr] at h; cases h
    | nan s f => rw [fin_nan ((nan_iff .f32 x).2 ⟨s, f, hr⟩)] at h; cases h
  · rintro ⟨s, m, e, h⟩
    exact fin_num h

/-- A number greater than 0 is a finite one, or infinity. -/
theorem gt0_cases {x : Nat} (h : fcmp .gtr .f32 x 0 = true) : (∃ m e, rd x = .number false m e) ∨ rd x = .infinity false := by
  unfold fcmp at h
  simp only [Ieee.Format.order] at h
  have h0 : FloatKind.f32.format.read 0 = .number false 0 (-149) := rfl
  rw [h0] at h
  cases hr : rd x with
  | number s m e =>
    left
    rw [show FloatKind.f32.format.read x = _ from hr] at h
    cases s with
    | false => exact ⟨m, e, rfl⟩
    | true =>
      exfalso
      simp only [Ieee.Datum.order, Ieee.signed, beq_iff_eq, Option.some.injEq] at h
      rw [Int.compare_eq_gt] at h
      simp only [Nat.zero_shiftLeft, if_true, Bool.false_eq_true, if_false] at h
      generalize m <<< (e - min e (-149)).toNat = q at h
      omega
  | infinity s =>
    right
    rw [show FloatKind.f32.format.read x = _ from hr] at h
    cases s with
    | false => rfl
    | true => exfalso; simp [Ieee.Datum.order] at h
  | nan s f =>
    exfalso
    rw [show FloatKind.f32.format.read x = _ from hr] at h
    simp [Ieee.Datum.order] at h

theorem inf_not_leq (y : Nat) (h : fcmp .leq .f32 (oc .f32 (some (FloatKind.f32.format.write (.infinity false)))) y = true) (hy : ∃ s m e, rd y = .number s m e) : False := by
  obtain ⟨s, m, e, hy⟩ := hy
  have e1 : oc .f32 (some (FloatKind.f32.format.write (.infinity false))) = 2139095040 := rfl
  rw [e1] at h
  unfold fcmp Ieee.Format.order at h
  rw [show FloatKind.f32.format.read y = _ from hy, show FloatKind.f32.format.read 2139095040 = .infinity false from rfl] at h
  simp [Ieee.Datum.order] at h

theorem throat_same (p o c b s : Nat) : throatI p o c b s = throatS p o c b s := by
  have key : fcmp .gtr .f32 o 0 = true → fcmp .gtr .f32 c 0 = true → fcmp .leq .f32 (fadd .f32 o c) 1065353216 = true → fin o = true ∧ fin c = true := by
    intro ho hc hs
    have h1 : ∃ s m e, rd 1065353216 = .number s m e := ⟨_, _, _, rfl⟩
    have hadd : fadd .f32 o c = oc .f32 (((rd o).sum (rd c)).map FloatKind.f32.format.write) := rfl
    rcases gt0_cases ho with ⟨m, e, ro⟩ | ro <;> rcases gt0_cases hc with ⟨m', e', rc⟩ | rc
    · exact ⟨fin_num ro, fin_num rc⟩
    · exfalso; rw [hadd, ro, rc] at hs; exact inf_not_leq _ hs h1
    · exfalso; rw [hadd, ro, rc] at hs; exact inf_not_leq _ hs h1
    · exfalso; rw [hadd, ro, rc] at hs; exact inf_not_leq _ hs h1
  unfold throatI throatS above least btw
  generalize fcmp .geq .f32 p 1073741824 = a1
  generalize fcmp .leq .f32 p 1148846080 = a2
  generalize fcmp .gtr .f32 o 0 = a3 at *
  generalize fcmp .gtr .f32 c 0 = a4 at *
  generalize fcmp .leq .f32 (fadd .f32 o c) 1065353216 = a5 at *
  generalize fin o = a6 at *
  generalize fin c = a7 at *
  generalize fin b = a8
  generalize fcmp .geq .f32 b 0 = a9
  generalize fcmp .geq .f32 s 0 = a10
  generalize fcmp .leq .f32 s 1056964608 = a11
  revert key
  cases a1 <;> cases a2 <;> cases a3 <;> cases a4 <;> cases a5 <;> simp <;> (intro h1 h2; subst h1 h2; simp [Bool.and_assoc])
end Go.Vx
