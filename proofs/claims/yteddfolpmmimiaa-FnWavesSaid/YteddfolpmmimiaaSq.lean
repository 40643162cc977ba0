/- More of what the functions compute, and more laws on floats: bounds, whole numbers, sines, powers, voices. -/
import Derived.Test.YteddfolpmmimiaaSp
import Derived.LoopN
import Derived.Lib.AppendZerosOnto
namespace Go.Vx
open Ieee

/-! ### Peaks that are told -/
/-! ### Tubes that are pinched -/
end Go.Vx

namespace Go.Vx
open Go.RowKit
section
variable {P : Program} {ops : Array Oper} {o : Oper} {rest : List Oper} {F : Frm} {w0 w : World} {old : Nat → Prop} {H : List HFact} {n : Nat} {c : Bool} {Q : Exit → Act → World → Prop}

/-! ### Loops of a told number of rounds, round by round -/
theorem j_condF {t : Nat} {b : Bool} {x y : Code} (hc : Frm.get F t = some (true, .bool b)) (hb : b = false) (ky : J P n w0 old y F H Q) : J P n w0 old (.cond (.tmp t) x y) F H Q :=
  j_cond hc (fun h => by rw [hb] at h; cases h) (fun _ => ky)

/-! ### Room -/
theorem subA_zero {A : Option Addr} {cap : Nat} : subA A 0 cap = A := by
  unfold subA
  split
  · rfl
  · cases A with
    | none => rfl
    | some a => simp [Addr.add_zero']
theorem v_sliceHi0 {T e : TypeId} {x y : Operand} {A : Option Addr} {N cap h : Nat} {k : IntKind} {I : Int} (ho : o.op = .slice T x none (some y) none) (hT : P.underlying T = some (.slice e)) (he : (P.info? e).map (·.size) = some 1)
    (hx : ev F x = some (true, .slice A N cap)) (hy : ev F y = some (true, .int k I)) (hi : I = h ∧ h ≤ cap) : VOp P ops w0 old o F H true (.slice A h cap) :=
  (v_sliceHi ho hT he hx hy hi).cast (by rw [subA_zero])
end

/-! ### Two lists, one behind the other -/
section
variable {P : Program} {F : Frm} {w0 w : World} {old : Nat → Prop} {H : List HFact} {n : Nat} {Q : Exit → Act → World → Prop}
end
end Go.Vx

namespace Go.Vx
open Ieee Go.RowKit

/-! ### A number cut to a whole one -/
section
variable {P : Program} {ops : Array Oper} {o : Oper} {F : Frm} {w0 : World} {old : Nat → Prop} {H : List HFact} {n : Nat} {c : Bool}
end
/-- How many digits a double has behind the point. -/
def W : Nat := 1074
theorem least_W : FloatKind.f64.format.leastPlace = -(W : Int) := rfl
theorem sval_nn {k : FloatKind} {r : Nat} (h : r < k.format.infRung) : Fn k r ∧ sval k r = (mg k.format.binade r : Nat) := by
  have hS := inf_lt_sign k
  have e1 : sg k r = false := by unfold sg; rw [Nat.div_eq_of_lt (by omega)]; rfl
  have e2 : rg k r = r := Nat.mod_eq_of_lt (by omega)
  constructor
  · unfold Fn; rw [e2]; exact h
  · unfold sval; rw [e1, e2]; rfl
/-! ### Bounds by powers of 2 -/
/-- No greater than 2 to the power 'e', either way. -/
def Bd (e : Nat) (x : Nat) : Prop := Fn .f64 x ∧ -((2 ^ (e + W) : Nat) : Int) ≤ sval .f64 x ∧ sval .f64 x ≤ ((2 ^ (e + W) : Nat) : Int)
theorem pow_mg {e : Nat} (h : e ≤ 1023) : (e + 1023) * 2 ^ 52 < FloatKind.f64.format.infRung ∧ mg FloatKind.f64.format.binade ((e + 1023) * 2 ^ 52) = 2 ^ (e + W) := by
  have hB : FloatKind.f64.format.binade = 2 ^ 52 := rfl
  have hI : FloatKind.f64.format.infRung = 2047 * 2 ^ 52 := rfl
  constructor
  · rw [hI]
    exact Nat.mul_lt_mul_of_pos_right (by omega) (Nat.two_pow_pos 52)
  · rw [hB]
    have := mg_unit (B := 2 ^ 52) (a := e + 1022) (x := 2 ^ 52) (Nat.two_pow_pos 52) (by omega) (.inr (Nat.le_refl _))
    rw [show (e + 1023) * 2 ^ 52 = (e + 1022) * 2 ^ 52 + 2 ^ 52 by rw [← Nat.succ_mul]]
    have hW : W = 1074 := rfl
    rw [this, ← Nat.pow_add, show 52 + (e + 1022) = e + W by omega]
theorem pow_hi {e : Nat} (h : e ≤ 1023) : ∃ r, Fn .f64 r ∧ sval .f64 r = ((2 ^ (e + W) : Nat) : Int) := by
  obtain ⟨h1, h2⟩ := pow_mg h
  obtain ⟨f, v⟩ := sval_nn h1
  exact ⟨_, f, by rw [v, h2]⟩
theorem pow_lo {e : Nat} (h : e ≤ 1023) : ∃ r, Fn .f64 r ∧ sval .f64 r = -((2 ^ (e + W) : Nat) : Int) := by
  obtain ⟨h1, h2⟩ := pow_mg h
  have hS := inf_lt_sign .f64
  refine ⟨FloatKind.f64.format.word true ((e + 1023) * 2 ^ 52), ?_, ?_⟩
  · unfold Fn; rw [rg_word (by omega)]; exact h1
  · rw [sval_word (by omega), h2, if_pos rfl]
theorem Bd.mono {a b x : Nat} (h : Bd a x) (hab : a ≤ b) : Bd b x := by
  have : 2 ^ (a + W) ≤ 2 ^ (b + W) := Nat.pow_le_pow_right (by omega) (by omega)
  obtain ⟨h1, h2, h3⟩ := h
  exact ⟨h1, by omega, by omega⟩
theorem Bd.add {a b x y : Nat} (c : Nat) (hx : Bd a x) (hy : Bd b y) (h1 : a < c) (h2 : b < c) (hc : c ≤ 1023) : Bd c (farith .add .f64 x y) := by
  obtain ⟨hi, f1, v1⟩ := pow_hi hc
  obtain ⟨lo, f2, v2⟩ := pow_lo hc
  have ha : 2 ^ (a + W) ≤ 2 ^ (c - 1 + W) := Nat.pow_le_pow_right (by omega) (by omega)
  have hb : 2 ^ (b + W) ≤ 2 ^ (c - 1 + W) := Nat.pow_le_pow_right (by omega) (by omega)
  have he : 2 ^ (c + W) = 2 * 2 ^ (c - 1 + W) := by rw [← Nat.pow_succ']; congr 1; omega
  obtain ⟨x1, x2, x3⟩ := hx
  obtain ⟨y1, y2, y3⟩ := hy
  obtain ⟨g1, g2, g3⟩ := add_bd x1 y1 f2 f1 (by rw [v2]; omega) (by rw [v1]; omega)
  exact ⟨g1, by rw [v2] at g2; exact g2, by rw [v1] at g3; exact g3⟩
theorem Bd.sub {a b x y : Nat} (c : Nat) (hx : Bd a x) (hy : Bd b y) (h1 : a < c) (h2 : b < c) (hc : c ≤ 1023) : Bd c (farith .sub .f64 x y) := by
  obtain ⟨hi, f1, v1⟩ := pow_hi hc
  obtain ⟨lo, f2, v2⟩ := pow_lo hc
  have ha : 2 ^ (a + W) ≤ 2 ^ (c - 1 + W) := Nat.pow_le_pow_right (by omega) (by omega)
  have hb : 2 ^ (b + W) ≤ 2 ^ (c - 1 + W) := Nat.pow_le_pow_right (by omega) (by omega)
  have he : 2 ^ (c + W) = 2 * 2 ^ (c - 1 + W) := by rw [← Nat.pow_succ']; congr 1; omega
  obtain ⟨x1, x2, x3⟩ := hx
  obtain ⟨y1, y2, y3⟩ := hy
  obtain ⟨g1, g2, g3⟩ := sub_bd x1 y1 f2 f1 (by rw [v2]; omega) (by rw [v1]; omega)
  exact ⟨g1, by rw [v2] at g2; exact g2, by rw [v1] at g3; exact g3⟩
theorem prod_bd {x y X Y : Int} (hx1 : -X ≤ x) (hx2 : x ≤ X) (hy1 : -Y ≤ y) (hy2 : y ≤ Y) : -(X * Y) ≤ x * y ∧ x * y ≤ X * Y := by
  have hX : 0 ≤ X := by omega
  have hY : 0 ≤ Y := by omega
  have ax : (x.natAbs : Int) ≤ X := by omega
  have ay : (y.natAbs : Int) ≤ Y := by omega
  have h : ((x * y).natAbs : Int) ≤ X * Y := by
    rw [Int.natAbs_mul, Int.natCast_mul]
    exact Int.mul_le_mul ax ay (Int.natCast_nonneg _) hX
  omega
theorem one_64 : one_ .f64 = ((2 ^ W : Nat) : Int) := by unfold one_; rw [least_W]; congr 2
theorem Bd.mul {a b x y : Nat} (c : Nat) (hx : Bd a x) (hy : Bd b y) (h : a + b ≤ c) (hc : c ≤ 1023) : Bd c (farith .mul .f64 x y) := by
  obtain ⟨hi, f1, v1⟩ := pow_hi hc
  obtain ⟨lo, f2, v2⟩ := pow_lo hc
  obtain ⟨x1, x2, x3⟩ := hx
  obtain ⟨y1, y2, y3⟩ := hy
  obtain ⟨p1, p2⟩ := prod_bd x2 x3 y2 y3
  have he : ((2 ^ (a + W) : Nat) : Int) * ((2 ^ (b + W) : Nat) : Int) ≤ ((2 ^ (c + W) : Nat) : Int) * ((2 ^ W : Nat) : Int) := by
    rw [← Int.natCast_mul, ← Int.natCast_mul, ← Nat.pow_add, ← Nat.pow_add]
    have : 2 ^ (a + W + (b + W)) ≤ 2 ^ (c + W + W) := Nat.pow_le_pow_right (by omega) (by omega)
    omega
  obtain ⟨g1, g2, g3⟩ := mul_bd x1 y1 f2 f1 (by rw [v2, one_64, Int.neg_mul]; omega) (by rw [v1, one_64]; omega)
  exact ⟨g1, by rw [v2] at g2; exact g2, by rw [v1] at g3; exact g3⟩
theorem Bd.quo {a m x y : Nat} (c : Nat) (hx : Bd a x) (hy : Fn .f64 y) (hm : ((2 ^ (m + W) : Nat) : Int) ≤ sval .f64 y) (h : a ≤ c + m) (hc : c ≤ 1023) : Bd c (farith .quo .f64 x y) := by
  obtain ⟨hi, f1, v1⟩ := pow_hi hc
  obtain ⟨lo, f2, v2⟩ := pow_lo hc
  obtain ⟨x1, x2, x3⟩ := hx
  have hp : 0 < 2 ^ (m + W) := Nat.two_pow_pos _
  have he : ((2 ^ (a + W) : Nat) : Int) * ((2 ^ W : Nat) : Int) ≤ ((2 ^ (c + W) : Nat) : Int) * ((2 ^ (m + W) : Nat) : Int) := by
    rw [← Int.natCast_mul, ← Int.natCast_mul, ← Nat.pow_add, ← Nat.pow_add]
    have : 2 ^ (a + W + W) ≤ 2 ^ (c + W + (m + W)) := Nat.pow_le_pow_right (by omega) (by omega)
    omega
  have h2 : ((2 ^ (c + W) : Nat) : Int) * ((2 ^ (m + W) : Nat) : Int) ≤ ((2 ^ (c + W) : Nat) : Int) * sval .f64 y := Int.mul_le_mul_of_nonneg_left hm (Int.natCast_nonneg _)
  have u1 : sval .f64 x * ((2 ^ W : Nat) : Int) ≤ ((2 ^ (a + W) : Nat) : Int) * ((2 ^ W : Nat) : Int) := Int.mul_le_mul_of_nonneg_right x3 (Int.natCast_nonneg _)
  have u2 : -((2 ^ (a + W) : Nat) : Int) * ((2 ^ W : Nat) : Int) ≤ sval .f64 x * ((2 ^ W : Nat) : Int) := Int.mul_le_mul_of_nonneg_right x2 (Int.natCast_nonneg _)
  rw [Int.neg_mul] at u2
  obtain ⟨g1, g2, g3⟩ := div_bd x1 hy (by omega) f2 f1 (by rw [v2, one_64, Int.neg_mul]; omega) (by rw [v1, one_64]; omega)
  exact ⟨g1, by rw [v2] at g2; exact g2, by rw [v1] at g3; exact g3⟩
theorem rg_neg (k : FloatKind) (x : Nat) : rg k (Op.negFloat k x) = rg k x := by
  unfold Op.negFloat rg
  cases k
  · show (x ^^^ 2 ^ 31) % 2 ^ 31 = x % 2 ^ 31
    rw [Nat.xor_mod_two_pow, Nat.mod_self, Nat.xor_zero]
  · show (x ^^^ 2 ^ 63) % 2 ^ 63 = x % 2 ^ 63
    rw [Nat.xor_mod_two_pow, Nat.mod_self, Nat.xor_zero]
theorem sval_abs {k : FloatKind} {x y : Nat} (h : rg k x = rg k y) : sval k x = sval k y ∨ sval k x = -sval k y := by
  unfold sval
  rw [h]
  cases sg k x <;> cases sg k y <;> simp
theorem Bd.neg {a x : Nat} (h : Bd a x) : Bd a (fneg .f64 x) := by
  obtain ⟨h1, h2, h3⟩ := h
  have hr := rg_neg .f64 x
  have hn : isN .f64 (Op.negFloat .f64 x) = false := by
    rw [notN_rg, hr]
    unfold Fn at h1
    simp only [decide_eq_false_iff_not]
    omega
  unfold fneg
  rw [read_cn hn]
  refine ⟨by unfold Fn; rw [hr]; exact h1, ?_⟩
  rcases sval_abs hr with e | e <;> rw [e] <;> omega
theorem top_hi : sval .f32 2130706432 * wid = ((2 ^ (127 + W) : Nat) : Int) := by decide +kernel
theorem top_lo : sval .f32 4278190080 * wid = -((2 ^ (127 + W) : Nat) : Int) := by decide +kernel
/-- Such a number is narrowed to a number. -/
theorem Bd.fits {a x : Nat} (h : Bd a x) (ha : a ≤ 127) : fits .f64 .f32 x = true := by
  obtain ⟨h1, h2, h3⟩ := h.mono ha
  exact (narrow_bd (lo := 4278190080) (hi := 2130706432) h1 (by decide) (by decide) (by rw [top_lo]; exact h2) (by rw [top_hi]; exact h3)).1
theorem Bd.conv {a x : Nat} (h : Bd a x) (ha : a ≤ 127) : Fn .f32 (Vx.conv .f64 .f32 x) := by
  obtain ⟨h1, h2, h3⟩ := h.mono ha
  exact (narrow_bd (lo := 4278190080) (hi := 2130706432) h1 (by decide) (by decide) (by rw [top_lo]; exact h2) (by rw [top_hi]; exact h3)).2.1

/-! ### Sines of turns -/
theorem wid_pos : 0 < wid := by decide +kernel
theorem Bd.one : Bd 0 4607182418800017408 := ⟨by decide, by decide +kernel, by decide +kernel⟩
theorem Bd.half : Bd 0 4602678819172646912 := ⟨by decide, by decide +kernel, by decide +kernel⟩
section
variable {P : Program}
end
end Go.Vx

namespace Go.Vx
open Ieee Go.RowKit

/-! ### Pulses -/
section
variable {P : Program} {ops : Array Oper} {o : Oper} {F : Frm} {w0 : World} {old : Nat → Prop} {H : List HFact}
end

/-! ### Powers of e -/
theorem cmp_le {k : FloatKind} {x y : Nat} (hx : Fn k x) (hy : Fn k y) (h : fcmp .leq k x y = true) : sval k x ≤ sval k y := by
  unfold fcmp at h
  rw [order_sval hx hy] at h
  rcases Int.lt_trichotomy (sval k x) (sval k y) with g | g | g
  · omega
  · omega
  · rw [Int.compare_eq_gt.2 g] at h; cases h
theorem cmp_ge {k : FloatKind} {x y : Nat} (hx : Fn k x) (hy : Fn k y) (h : fcmp .geq k x y = true) : sval k y ≤ sval k x := by
  unfold fcmp at h
  rw [order_sval hx hy] at h
  rcases Int.lt_trichotomy (sval k x) (sval k y) with g | g | g
  · rw [Int.compare_eq_lt.2 g] at h; cases h
  · omega
  · omega
/-- What lies between two numbers is a number. -/
theorem fn_between {k : FloatKind} {x lo hi : Nat} (hlo : Fn k lo) (hhi : Fn k hi) (h1 : fcmp .geq k x lo = true) (h2 : fcmp .leq k x hi = true) : Fn k x := by
  refine Classical.byContradiction fun hn => ?_
  by_cases hN : isN k x = true
  · unfold fcmp at h1
    rw [order_nan_l hN] at h1
    cases h1
  · have hi' : rg k x = k.format.infRung := by
      unfold Fn at hn
      rw [notN_rg] at hN
      simp only [decide_eq_true_eq] at hN
      omega
    obtain ⟨m, e, r1, _⟩ := read_fin hlo
    obtain ⟨m', e', r2, _⟩ := read_fin hhi
    unfold fcmp Format.order at h1 h2
    rw [read_inf hi', r1] at h1
    rw [read_inf hi', r2] at h2
    cases hs : sg k x <;> rw [hs] at h1 h2
    · cases h2
    · cases h1
theorem cmp_gt_not {k : FloatKind} {x y : Nat} (hx : Fn k x) (hy : Fn k y) (h : sval k x ≤ sval k y) : fcmp .gtr k x y = false := by
  unfold fcmp
  rw [order_sval hx hy]
  rcases Int.lt_trichotomy (sval k x) (sval k y) with g | g | g
  · rw [Int.compare_eq_lt.2 g]; rfl
  · rw [Int.compare_eq_eq.2 g]; rfl
  · omega
theorem nb {a : Bool} (h : (!a) = false) : a = true := (Bool.not_eq_false' _).mp h
end Go.Vx

namespace Go.Vx
open Ieee Go.RowKit

/-! ### Numbers that tremble -/
/-! ### The flow of a throat -/
section
variable {P : Program} {F : Frm} {w0 w : World} {old : Nat → Prop} {H : List HFact} {n : Nat} {Q : Exit → Act → World → Prop}
theorem j_condCT {x y : Code} (k : J P n w0 old x F H Q) : J P n w0 old (.cond (.const (.bool true)) x y) F H Q := fun a w hF hH => wp_cond_split (show a.eval (.const (.bool true)) = .bool true from rfl) (fun _ => k a w hF hH) (fun h => by cases h)
theorem j_condCF {x y : Code} (k : J P n w0 old y F H Q) : J P n w0 old (.cond (.const (.bool false)) x y) F H Q := fun a w hF hH => wp_cond_split (show a.eval (.const (.bool false)) = .bool false from rfl) (fun h => by cases h) (fun _ => k a w hF hH)
end
section
variable {b d t : Nat} {m : Int} {A : Bool}
end
end Go.Vx

namespace Go.Vx
open Ieee Go.RowKit

/-! ### Voices, tick by tick -/
/-! ### Bounds in 32 bits -/
def Jv (lo hi x : Nat) : Prop := Fn .f32 x ∧ sval .f32 lo ≤ sval .f32 x ∧ sval .f32 x ≤ sval .f32 hi
theorem Jv.add {a b c d x y lo hi : Nat} (hx : Jv a b x) (hy : Jv c d y) (hlo : Fn .f32 lo) (hhi : Fn .f32 hi) (h1 : sval .f32 lo ≤ sval .f32 a + sval .f32 c) (h2 : sval .f32 b + sval .f32 d ≤ sval .f32 hi) : Jv lo hi (farith .add .f32 x y) :=
  add_bd hx.1 hy.1 hlo hhi (by have := hx.2.1; have := hy.2.1; omega) (by have := hx.2.2; have := hy.2.2; omega)
theorem Jv.sub {a b c d x y lo hi : Nat} (hx : Jv a b x) (hy : Jv c d y) (hlo : Fn .f32 lo) (hhi : Fn .f32 hi) (h1 : sval .f32 lo ≤ sval .f32 a - sval .f32 d) (h2 : sval .f32 b - sval .f32 c ≤ sval .f32 hi) : Jv lo hi (farith .sub .f32 x y) :=
  sub_bd hx.1 hy.1 hlo hhi (by have := hx.2.1; have := hy.2.2; omega) (by have := hx.2.2; have := hy.2.1; omega)
/-- Products of numbers that are bounded either way. -/
theorem Jv.mul {a b x y hi : Nat} {lo na nb : Nat} (hx : Jv na a x) (hy : Jv nb b y) (ea : sval .f32 na = -sval .f32 a) (eb : sval .f32 nb = -sval .f32 b) (el : sval .f32 lo = -sval .f32 hi) (hlo : Fn .f32 lo) (hhi : Fn .f32 hi) (h : sval .f32 a * sval .f32 b ≤ sval .f32 hi * one_ .f32) : Jv lo hi (farith .mul .f32 x y) := by
  obtain ⟨x1, x2, x3⟩ := hx
  obtain ⟨y1, y2, y3⟩ := hy
  obtain ⟨p1, p2⟩ := prod_bd (x := sval .f32 x) (y := sval .f32 y) (X := sval .f32 a) (Y := sval .f32 b) (by omega) x3 (by omega) y3
  exact mul_bd x1 y1 hlo hhi (by rw [el, Int.neg_mul]; omega) (by omega)
theorem Jv.fin {lo hi x : Nat} (h : Jv lo hi x) : fin x = true := fn_fin.1 h.1
theorem Jv.mono {lo hi x lo' hi' : Nat} (h : Jv lo hi x) (h1 : sval .f32 lo' ≤ sval .f32 lo) (h2 : sval .f32 hi ≤ sval .f32 hi') : Jv lo' hi' x := ⟨h.1, Int.le_trans h1 h.2.1, Int.le_trans h.2.2 h2⟩
theorem Jv.of {lo hi x : Nat} (hlo : Fn .f32 lo) (hhi : Fn .f32 hi) (h1 : fcmp .geq .f32 x lo = true) (h2 : fcmp .leq .f32 x hi = true) : Jv lo hi x := by
  have f := fn_between hlo hhi h1 h2
  exact ⟨f, cmp_ge f hlo h1, cmp_le f hhi h2⟩
/-! ### What a tick gives -/
section
variable {p o c b h q n : Nat} {s : Int}
end
end Go.Vx

namespace Go.Vx
open Ieee Go.RowKit

/-! ### Runs of voices -/
section
variable {p o c b h q n : Nat} {s m : Int}
end
section
variable {P : Program} {F' : Frm} {w0 w : World} {H : List HFact} {n : Nat}
end
end Go.Vx

namespace Go.Vx
open Ieee Go.RowKit

/-! ### A part of a list that is read only -/
section
variable {P : Program} {F' : Frm} {w0 w : World} {old : Nat → Prop} {H : List HFact} {n : Nat} {Q : Exit → Act → World → Prop}
theorem HInv.addSub {i N l m cap : Nat} {A : Option Addr} {g : Nat → Nat} (h : HInv w0 old H w) (hi : H[i]? = some (.ro A (tab N g))) (hc : N ≤ cap) (hm : l + m ≤ N) : HInv w0 old (.ro (subA A l cap) (tab m (fun j => g (l + j))) :: H) w := by
  have hmem := List.mem_of_getElem? hi
  refine h.addRo (sub_tab (h.facts _ hmem) hc hm) fun f hf hown k hk hk' => ?_
  -- the part's block is the list's
  have hk2 : (HFact.ro A (tab N g)).foot = some k := by
    show (if tab N g = [] then none else A.map (·.block)) = some k
    have hk : (if tab m (fun j => g (l + j)) = [] then none else (subA A l cap).map (·.block)) = some k := hk
    by_cases h0 : m = 0
    · subst h0; simp [tab] at hk
    · have hN : tab N g ≠ [] := by
        intro e
        have := congrArg List.length e
        rw [tab_length] at this
        simp at this
        omega
      rw [if_neg hN]
      split at hk
      · cases hk
      · unfold subA at hk
        split at hk
        · exact hk
        · rw [Option.map_map] at hk
          cases A with
          | none => cases hk
          | some a => simpa [block_add] using hk
  have hmf : f.isOwn = true := by simpa [HFact.isOwn] using hown
  obtain ⟨j, hj⟩ := List.getElem?_of_mem hf
  have hne : i ≠ j := by
    intro e
    subst e
    rw [hi] at hj
    injection hj with hj
    subst hj
    cases hmf
  exact h.offAt hi hj hne (by simp [hmf]) k hk2 hk'
end

section
variable {P : Program} {ops : Array Oper} {F' : Frm} {w0 w : World} {old : Nat → Prop} {H : List HFact} {n : Nat} {Q : Exit → Act → World → Prop}
theorem HInv.addSub1 {i N cap : Nat} {A : Option Addr} {g : Nat → Nat} (h : HInv w0 old H w) (hi : H[i]? = some (.ro A (tab N g))) (hc : N ≤ cap) (h1 : 1 ≤ N) : HInv w0 old (.ro (subA A 1 cap) (tab (N - 1) (fun j => g (j + 1))) :: H) w := by
  have e : (fun j => g (j + 1)) = fun j => g (1 + j) := by funext j; rw [Nat.add_comm]
  rw [e]
  exact h.addSub hi hc (by omega)
theorem jl_weak {H' : List HFact} {l : List Oper} (h : ∀ w, HInv w0 old H w → HInv w0 old H' w) (k : JL P n w0 old ops l F' H' Q) : JL P n w0 old ops l F' H Q := fun a w hF hH => k a w hF (h w hH)
end

/-! ### Waves: what they are behind a tick -/
def reflG (g : Nat → Nat) : Nat → Nat := fun i => farith .quo .f32 (farith .sub .f32 (g i) (g (i + 1))) (farith .add .f32 (g i) (g (i + 1)))
def lossG (l : Nat) (r : Nat → Nat) : Nat → Nat := fun j => farith .mul .f32 l (r j)
def stepD (g r q : Nat → Nat) (k : Nat) : Nat := farith .mul .f32 (reflG g k) (farith .sub .f32 (r k) (q (k + 1)))
/-- The inner right ones, and the inner left ones; r, q: behind the loss. -/
def inR (g r q : Nat → Nat) (k : Nat) : Nat := farith .add .f32 (r k) (stepD g r q k)
def inL (g r q : Nat → Nat) (k : Nat) : Nat := farith .add .f32 (q (k + 1)) (stepD g r q k)
def rowR (g r q : Nat → Nat) (i : Nat) : Nat → Nat := fun j => if 1 ≤ j ∧ j ≤ i then inR g r q (j - 1) else 0
def rowL (g r q : Nat → Nat) (i : Nat) : Nat → Nat := fun j => if j < i then inL g r q j else 0
def outR (g r q : Nat → Nat) (t x : Nat) : Nat → Nat := fun j => if j = 0 then farith .add .f32 x (farith .mul .f32 t (q 0)) else inR g r q (j - 1)
def outL (N : Nat) (g r q : Nat → Nat) (p : Nat) : Nat → Nat := fun j => if j = N - 1 then farith .mul .f32 p (r (N - 1)) else inL g r q j
def outS (N : Nat) (r : Nat → Nat) (p : Nat) : Nat := farith .mul .f32 (farith .add .f32 1065353216 p) (r (N - 1))
theorem tab_set1 {N k v : Nat} {g : Nat → Nat} : (tab N g).set k (F v) = tab N (fun j => if j = k then v else g j) := by
  apply List.ext_getElem?
  intro j
  by_cases hj : j < N
  · rw [tab_get hj, List.getElem?_set]
    by_cases e : k = j
    · subst e; simp [tab_length, hj]
    · rw [if_neg e, tab_get hj, if_neg (fun h => e h.symm)]
  · rw [List.getElem?_eq_none (by rw [List.length_set, tab_length]; omega), List.getElem?_eq_none (by rw [tab_length]; omega)]
section
variable {g r q : Nat → Nat} {N i k t x p : Nat}
theorem rowR_zero : tab N (fun _ => 0) = tab N (rowR g r q 0) := tab_congr fun j _ => by unfold rowR; rw [if_neg (by omega)]
theorem rowL_zero : tab N (fun _ => 0) = tab N (rowL g r q 0) := tab_congr fun j _ => by unfold rowL; rw [if_neg (by omega)]
theorem rowR_set (hk : k = i + 1) : (tab N (rowR g r q i)).set k (F (inR g r q i)) = tab N (rowR g r q (i + 1)) := by
  subst hk
  rw [tab_set1]
  refine tab_congr fun j _ => ?_
  unfold rowR
  by_cases e : j = i + 1
  · subst e; rw [if_pos rfl, if_pos (by omega)]; rfl
  · rw [if_neg e]
    by_cases h : 1 ≤ j ∧ j ≤ i
    · rw [if_pos h, if_pos (by omega)]
    · rw [if_neg h, if_neg (by omega)]
theorem rowL_set (hk : k = i) : (tab N (rowL g r q i)).set k (F (inL g r q i)) = tab N (rowL g r q (i + 1)) := by
  subst hk
  rw [tab_set1]
  refine tab_congr fun j _ => ?_
  unfold rowL
  by_cases e : j = k
  · subst e; rw [if_pos rfl, if_pos (by omega)]
  · rw [if_neg e]
    by_cases h : j < k
    · rw [if_pos h, if_pos (by omega)]
    · rw [if_neg h, if_neg (by omega)]
theorem outR_set (hk : k = 0) (hi : i + 1 = N) : (tab N (rowR g r q i)).set k (F (farith .add .f32 x (farith .mul .f32 t (q 0)))) = tab N (outR g r q t x) := by
  subst hk
  rw [tab_set1]
  refine tab_congr fun j hj => ?_
  unfold rowR outR
  by_cases e : j = 0
  · rw [if_pos e, if_pos e]
  · rw [if_neg e, if_neg e, if_pos (by omega)]
theorem outL_set (hk : k = N - 1) (hi : i + 1 = N) : (tab N (rowL g r q i)).set k (F (farith .mul .f32 p (r (N - 1)))) = tab N (outL N g r q p) := by
  subst hk
  rw [tab_set1]
  refine tab_congr fun j hj => ?_
  unfold rowL outL
  by_cases e : j = N - 1
  · rw [if_pos e, if_pos e]
  · rw [if_neg e, if_neg e, if_pos (by omega)]
end
/-- Three results: waves, a number, and whether there are any. -/
def stepWV (b b2 : Bool) (N y : Nat) : (Option Addr × Nat) × (Option Addr × Nat) → Value := fun s => .tuple #[.agg #[.slice s.1.1 (bif b then N else 0) s.1.2, .slice s.2.1 (bif b then N else 0) s.2.2], F (bif b then y else 0), .bool b2]
def stepWK (E : TypeId) (b : Bool) (N : Nat) (g h : Nat → Nat) : (Option Addr × Nat) × (Option Addr × Nat) → List HFact := fun s => [.vec E s.1.1 s.1.2 (tab (bif b then N else 0) g), .vec E s.2.1 s.2.2 (tab (bif b then N else 0) h)]
section
variable {P : Program} {F' : Frm} {w0 w : World} {H : List HFact} {n : Nat}
theorem ret3_no (i : Nat) {fn : Func} {p t u : Tmp} {T T' : TypeId} {d : TypeDesc} {b : Nat} {E : TypeId} {B : Bool} {N y : Nat} {g h : Nat → Nat} (hr : fn.results = #[.cell p T, .tmp t, .tmp u]) (hp : Frm.get F' p = some (true, .pointer (some ⟨b, 0, none⟩)))
    (hi : H[i]? = some (.box b T' [.slice none 0 0, .slice none 0 0])) (ht : Frm.get F' t = some (true, F 0)) (hu : Frm.get F' u = some (true, .bool false)) (hT : P.underlying T = some d) (hd : aggT d = true) (hs : (P.info? T).map (·.size) = some 2) (hB : B = false) :
    JQ n w0 (fun _ => False) .ret F' H (bodyPost P fn (EndsM (stepWV B B N y) (stepWK E B N g h) w0)) := by
  subst hB
  exact jq_retMM ((none, 0), (none, 0)) (.inl rfl) hr (ret_cell hp hi hT hd hs (ret_tmp ht rfl (ret_tmp hu rfl ret_nil))) rfl rfl (fun w h => fresh_nilrows)
theorem ret3_yes (i j1 j2 : Nat) {fn : Func} {p t u : Tmp} {T T' : TypeId} {d : TypeDesc} {b : Nat} {E : TypeId} {A1 A2 : Option Addr} {c1 c2 : Nat} {B B2 b2 : Bool} {N y : Nat} {g h : Nat → Nat} (hr : fn.results = #[.cell p T, .tmp t, .tmp u]) (hp : Frm.get F' p = some (true, .pointer (some ⟨b, 0, none⟩)))
    (hi : H[i]? = some (.box b T' [.slice A1 N c1, .slice A2 N c2])) (ht : Frm.get F' t = some (true, F y)) (hu : Frm.get F' u = some (true, .bool b2)) (hT : P.underlying T = some d) (hd : aggT d = true) (hs : (P.info? T).map (·.size) = some 2)
    (h1 : H[j1]? = some (.vec E A1 c1 (tab N g))) (h2 : H[j2]? = some (.vec E A2 c2 (tab N h))) (hj : Nat.beq j1 j2 = false) (hB : B = true) (hB2 : B2 = b2) :
    JQ n w0 (fun _ => False) .ret F' H (bodyPost P fn (EndsM (stepWV B B2 N y) (stepWK E B N g h) w0)) := by
  subst hB hB2
  exact jq_retMM ((A1, c1), (A2, c2)) (.inl rfl) hr (ret_cell hp hi hT hd hs (ret_tmp ht rfl (ret_tmp hu rfl ret_nil))) rfl rfl (fun w hI => fresh_two j1 j2 h1 h2 hj rfl rfl hI)
theorem ret3_pass (i j1 j2 : Nat) {fn : Func} {p t u : Tmp} {T T' : TypeId} {d : TypeDesc} {b : Nat} {E : TypeId} {s : (Option Addr × Nat) × (Option Addr × Nat)} {B bb : Bool} {N y : Nat} {g h : Nat → Nat} (hr : fn.results = #[.cell p T, .tmp t, .tmp u]) (hp : Frm.get F' p = some (true, .pointer (some ⟨b, 0, none⟩)))
    (hi : H[i]? = some (.box b T' [.slice s.1.1 (bif bb then N else 0) s.1.2, .slice s.2.1 (bif bb then N else 0) s.2.2])) (ht : Frm.get F' t = some (true, F (bif bb then y else 0))) (hu : Frm.get F' u = some (true, .bool bb)) (hT : P.underlying T = some d) (hd : aggT d = true) (hs : (P.info? T).map (·.size) = some 2)
    (h1 : H[j1]? = some (.vec E s.1.1 s.1.2 (tab (bif bb then N else 0) g))) (h2 : H[j2]? = some (.vec E s.2.1 s.2.2 (tab (bif bb then N else 0) h))) (hj : Nat.beq j1 j2 = false) (hB : B = bb) :
    JQ n w0 (fun _ => False) .ret F' H (bodyPost P fn (EndsM (stepWV B B N y) (stepWK E B N g h) w0)) := by
  subst hB
  exact jq_retMM s (.inl rfl) hr (ret_cell hp hi hT hd hs (ret_tmp ht rfl (ret_tmp hu rfl ret_nil))) rfl rfl (fun w hI => fresh_two j1 j2 h1 h2 hj rfl rfl hI)
end
theorem or3_no {a b c : Bool} (h : ((!a || !b) || !c) = true) : ((a && b) && c) = false := by cases a <;> cases b <;> cases c <;> simp at h ⊢
theorem or3_yes {a b c : Bool} (h : ((!a || !b) || !c) = false) : ((a && b) && c) = true := by cases a <;> cases b <;> cases c <;> simp at h ⊢
end Go.Vx

namespace Go.Vx
open Go.RowKit

/-! ### Regions that draw their order, of which one step writes a row that no other step before the last ones looks at -/
section
variable {P : Program} {ops : Array Oper} {n : Nat} {Cc C0 C1 : World → Prop}
def RP.Const (R : RP) : Prop := ∀ w w' v, R w v → R w' v
def RF.Const (F : RF) : Prop := ∀ t, (F t).Const
structure SSt (l : List Oper) (n m1 : Nat) (C0 C1 : World → Prop) (F : RF) (Rs : Nat → RP) (S : Array Bool) (a : Act) (w : World) : Prop where
  defers : a.defers = []
  size : a.tmps.size = n
  c : if S.getD m1 false = true then C1 w else C0 w
  done : ∀ t, t < n → ∀ (i : Nat) (o : Oper), l[i]? = some o → o.dst = some t → S.getD i false = true → Rs i w (a.tmps.getD t undef)
  rest : ∀ t, t < n → (∀ (i : Nat) (o : Oper), l[i]? = some o → o.dst = some t → S.getD i false = false) → F t w (a.tmps.getD t undef)
/-- What is asked of a step that writes nothing. -/
def AOpS (P : Program) (ops : Array Oper) (Cc : World → Prop) (o : Oper) (F : RF) (R : RP) : Prop :=
  R.Const ∧ ∀ a w, Cc w → (∀ t ∈ o.looksAt ops, F t w (a.tmps.getD t undef)) →
    if Region.wanted o (yielded ops a.tmps) then OpV P o a w (fun v w' => Below w.heap.size w w' ∧ R w' v) else R w undef
/-- What is asked of the step that writes. -/
def StoreS (P : Program) (ops : Array Oper) (C0 C1 : World → Prop) (o : Oper) (F : RF) : Prop :=
  o.dst = none ∧ o.guard = none ∧ ∀ a w, C0 w → (∀ t ∈ o.looksAt ops, F t w (a.tmps.getD t undef)) → OpV P o a w (fun _ w' => C1 w')
def AS (P : Program) (ops : Array Oper) (Cc C0 C1 : World → Prop) (m1 : Nat) (Q : RF → Prop) : Nat → List Oper → RF → Prop
  | _, [], F => Q F
  | k, o :: l, F => if k = m1 then StoreS P ops C0 C1 o F ∧ AS P ops Cc C0 C1 m1 Q (k + 1) l F else ∃ R, AOpS P ops Cc o F R ∧ AS P ops Cc C0 C1 m1 Q (k + 1) l (F.put o.dst R)
theorem as_data {m1 : Nat} {Q : RF → Prop} : ∀ {l : List Oper} {k : Nat} {F : RF}, AS P ops Cc C0 C1 m1 Q k l F → ∃ Rs : Nat → RP,
    (∀ i o, l[i]? = some o → if k + i = m1 then StoreS P ops C0 C1 o (Fup F Rs (l.take i)) else AOpS P ops Cc o (Fup F Rs (l.take i)) (Rs i)) ∧ Q (Fup F Rs l)
  | [], _, F, h => ⟨fun _ _ _ => True, fun i o hi => by simp at hi, h⟩
  | o :: l, k, F, h => by
    unfold AS at h
    by_cases hk : k = m1
    · rw [if_pos hk] at h
      obtain ⟨h1, h2⟩ := h
      obtain ⟨Rs, h4, h5⟩ := as_data h2
      have hd : o.dst = none := h1.1
      refine ⟨fun i => match i with | 0 => fun _ _ => True | i + 1 => Rs i, fun i o' hi => ?_, ?_⟩
      · cases i with
        | zero =>
          simp only [List.getElem?_cons_zero, Option.some.injEq] at hi
          subst hi
          rw [if_pos (by omega)]
          exact h1
        | succ i =>
          simp only [List.getElem?_cons_succ] at hi
          have := h4 i o' hi
          rw [show k + 1 + i = k + (i + 1) by omega] at this
          simp only [List.take_succ_cons, Fup, hd, RF.put]
          exact this
      · simp only [Fup, hd, RF.put]
        exact h5
    · rw [if_neg hk] at h
      obtain ⟨R, h1, h2⟩ := h
      obtain ⟨Rs, h4, h5⟩ := as_data h2
      refine ⟨fun i => match i with | 0 => R | i + 1 => Rs i, fun i o' hi => ?_, h5⟩
      cases i with
      | zero =>
        simp only [List.getElem?_cons_zero, Option.some.injEq] at hi
        subst hi
        rw [if_neg (by omega)]
        exact h1
      | succ i =>
        simp only [List.getElem?_cons_succ] at hi
        have := h4 i o' hi
        rw [show k + 1 + i = k + (i + 1) by omega] at this
        exact this
def sOK (p : List Oper) (n : Nat) : Bool := onceB p && waitsB .any p && (p.all fun o => match o.dst with | some d => Nat.blt d n | none => true) && looksB p.toArray n
theorem wpAny_S {Q : Exit → Act → World → Prop} {p t : List Oper} {F : RF} {QF : RF → Prop} {a : Act} {w : World} {m1 : Nat} (hB : tailB .any (p ++ t).toArray 0 p.length = true) (hg : guardsB (p ++ t).toArray p.length = true) (ht : t ≠ []) (hm : m1 < p.length)
    (hz : sOK p n = true) (hF : F.Const) (hfr : FrR n F a w) (hC : C0 w) (g0 : ∀ w w', C0 w → Below w.heap.size w w' → C0 w') (g1 : ∀ w w', C1 w → Below w.heap.size w w' → C1 w') (i0 : ∀ w, C0 w → Cc w) (i1 : ∀ w, C1 w → Cc w)
    (hQ : ∀ F' a w, FrR n F' a w → C1 w → QF F' → wpList P (p ++ t).toArray Q t a w) (h : AS P p.toArray Cc C0 C1 m1 QF 0 p F) :
    wpAny P .any (p ++ t).toArray Q (p.length + t.length) (Array.replicate p.length false ++ Array.replicate t.length false) a w := by
  simp only [sOK, Bool.and_eq_true] at hz
  obtain ⟨⟨⟨z1, z3⟩, z4⟩, z5⟩ := hz
  obtain ⟨Rs, hobl, hend⟩ := as_data h
  simp only [Nat.zero_add] at hobl
  have hb : backB .any (p ++ t).toArray = true := by
    simp only [tailB, Bool.and_eq_true] at hB
    exact hB.1.1
  have hdn : ∀ {i : Nat} {o : Oper}, p[i]? = some o → ∀ d, o.dst = some d → d < n := fun {i o} hi d hd => by
    have := List.all_eq_true.1 z4 o (List.mem_of_getElem? hi)
    simp only [hd] at this
    simpa [Nat.blt_eq] using this
  have hconst : ∀ {i : Nat} {o : Oper}, p[i]? = some o → i ≠ m1 → (Rs i).Const := fun {i o} hi hne => by
    have := hobl i o hi
    rw [if_neg hne] at this
    exact this.1
  have hdm : ∀ {o : Oper}, p[m1]? = some o → o.dst = none := fun {o} hi => by
    have := hobl m1 o hi
    rw [if_pos rfl] at this
    exact this.1
  refine wpAny_St (St := SSt p n m1 C0 C1 F Rs) hB hg ht (fun listed a w hs hall hst => ?_) (fun listed a w i K hs hst hi hK => ?_) p.length _ a w (by simp) (by simp) (fun j o hj => by
    exfalso
    by_cases hjm : j < p.length <;> simp [hjm] at hj) ?_
  · have hfup : ∀ t, t < n → Fup F Rs p t w (a.tmps.getD t undef) := fun t ht => by
      by_cases hex : ∃ (i : Nat) (o : Oper), p[i]? = some o ∧ o.dst = some t
      · obtain ⟨i, o, hi, hd⟩ := hex
        rw [(fup_at (F := F) z1).1 i o hi hd]
        exact hst.done t ht i o hi hd (hall i (List.getElem?_eq_some_iff.1 hi).1)
      · have hno : ∀ (i : Nat) (o : Oper), p[i]? = some o → o.dst ≠ some t := fun i o hi hd => hex ⟨i, o, hi, hd⟩
        rw [(fup_at (F := F) z1).2 hno]
        exact hst.rest t ht fun i o hi hd => absurd hd (hno i o hi)
    have hc := hst.c
    rw [if_pos (hall m1 hm)] at hc
    exact hQ _ a w ⟨hst.defers, hst.size, hfup⟩ hc hend
  · obtain ⟨hu, o, ho, hr⟩ := mem_ready.1 hi
    have ho' : p[i]? = some o := by simpa using ho
    have hil : i < p.length := (List.getElem?_eq_some_iff.1 ho').1
    have hu' : listed.getD i false = false := by rwa [getD_ft (by rw [hs]; exact hil)] at hu
    have hlk : ∀ u ∈ o.looksAt p.toArray, Fup F Rs (p.take i) u w (a.tmps.getD u undef) := fun u htl => by
      have htn : u < n := looksB_spec z5 ho u htl
      by_cases hex : ∃ (j : Nat) (o' : Oper), p[j]? = some o' ∧ o'.dst = some u
      · obtain ⟨j, o', hj, hd⟩ := hex
        have hed := waitsB_spec z3 ho' hj hd htl
        have hlt : j < i := by
          simp only [edgeB, ho, List.any_eq_true, Bool.and_eq_true, beq_iff_eq, Array.mem_toList_iff] at hed
          obtain ⟨e, he, hbe, hon⟩ := hed
          have : (p ++ t).toArray[i]? = some o := by
            rw [List.getElem?_toArray, List.getElem?_append_left hil]; exact ho'
          have := backB_spec hb this e he hbe
          omega
        rw [(fup_at (F := F) (onceB_take i z1)).1 j o' (by rw [List.getElem?_take, if_pos hlt]; exact hj) hd]
        exact hst.done u htn j o' hj hd (edgeB_listed hed ho' hr)
      · have hno : ∀ (j : Nat) (o' : Oper), p[j]? = some o' → o'.dst ≠ some u := fun j o' hj hd => hex ⟨j, o', hj, hd⟩
        rw [(fup_at (F := F) (onceB_take i z1)).2 fun j o' hj => hno j o' (by rw [List.getElem?_take] at hj; split at hj; exact hj; cases hj)]
        exact hst.rest u htn fun j o' hj hd => absurd hd (hno j o' hj)
    have who : ∀ {t : Tmp} {j : Nat} {o' : Oper}, p[j]? = some o' → o'.dst = some t → o.dst = some t → j = i := fun {t j o'} hj hd hd' => onceB_inj z1 hj ho' hd hd'
    have hset : ∀ {j : Nat}, (listed.setIfInBounds i true).getD j false = true → j ≠ i → listed.getD j false = true := fun {j} hj hne => by
      rwa [getD_set_ne false (fun e => hne e.symm)] at hj
    have hseti : (listed.setIfInBounds i true).getD i false = true := by
      have : i < listed.size := by rw [hs]; exact hil
      simp [this]
    have hob := hobl i o ho'
    unfold wpOp
    simp only [ho]
    by_cases him : i = m1
    · -- the step that writes
      subst him
      rw [if_pos rfl] at hob
      obtain ⟨hd0, hgn, hrun⟩ := hob
      have hw : Region.wanted o (yielded p.toArray a.tmps) = true := by simp [Region.wanted, hgn]
      rw [if_pos hw]
      have hc := hst.c
      rw [if_neg (by rw [hu']; exact Bool.false_ne_true)] at hc
      refine .inl ((hrun a w hc hlk).wp fun v w' h1 => hK _ _ ?_)
      rw [hd0]
      refine ⟨hst.defers, hst.size, by rw [if_pos hseti]; exact h1, fun t ht j o' hj hd hl => ?_, fun t ht hno => ?_⟩
      · have hji : j ≠ i := fun e => by subst e; rw [ho'] at hj; injection hj with hj; subst hj; rw [hd0] at hd; cases hd
        exact hconst hj hji _ _ _ (hst.done t ht j o' hj hd (hset hl hji))
      · refine hF t _ _ _ (hst.rest t ht fun j o' hj hd => ?_)
        have hji : j ≠ i := fun e => by subst e; rw [ho'] at hj; injection hj with hj; subst hj; rw [hd0] at hd; cases hd
        have := hno j o' hj hd
        rwa [getD_set_ne false (fun e => hji e.symm)] at this
    · rw [if_neg him] at hob
      have hcm : ∀ {w' : World}, Below w.heap.size w w' → (if (listed.setIfInBounds i true).getD m1 false = true then C1 w' else C0 w') := fun {w'} hbw => by
        rw [getD_set_ne false him]
        have hc := hst.c
        by_cases hl : listed.getD m1 false = true
        · rw [if_pos hl] at hc ⊢; exact g1 _ _ hc hbw
        · rw [if_neg hl] at hc ⊢; exact g0 _ _ hc hbw
      have hcc : Cc w := by
        have hc := hst.c
        by_cases hl : listed.getD m1 false = true
        · rw [if_pos hl] at hc; exact i1 _ hc
        · rw [if_neg hl] at hc; exact i0 _ hc
      have hstep : ∀ {w' : World} {v : Value}, Below w.heap.size w w' → Rs i w' v → SSt p n m1 C0 C1 F Rs (listed.setIfInBounds i true) (a.put o.dst v) w' := fun {w' v} hbw hv => by
        refine ⟨?_, ?_, hcm hbw, fun t ht j o' hj hd hl => ?_, fun t ht hno => ?_⟩
        · cases o.dst <;> exact hst.defers
        · cases hd : o.dst with
          | none => exact hst.size
          | some d => simp [Act.put, hst.size]
        · by_cases e : o.dst = some t
          · have hji := who hj hd e
            subst hji
            rw [e, put_self (by rw [hst.size]; exact ht)]
            exact hv
          · rw [put_at e]
            have hji : j ≠ i := fun e' => e (by subst e'; rw [ho'] at hj; injection hj with hj; rw [hj]; exact hd)
            have hjm : j ≠ m1 := fun e' => by subst e'; rw [hdm hj] at hd; cases hd
            exact hconst hj hjm _ _ _ (hst.done t ht j o' hj hd (hset hl hji))
        · have e : o.dst ≠ some t := fun e => by have := hno i o ho' e; rw [hseti] at this; cases this
          rw [put_at e]
          refine hF t _ _ _ (hst.rest t ht fun j o' hj hd => ?_)
          have hji : j ≠ i := fun e' => e (by subst e'; rw [ho'] at hj; injection hj with hj; rw [hj]; exact hd)
          have := hno j o' hj hd
          rwa [getD_set_ne false (fun e => hji e.symm)] at this
      have hob2 := hob.2 a w hcc hlk
      split
      · rename_i hw
        rw [if_pos hw] at hob2
        exact .inl (hob2.wp fun v w' ⟨h1, h2⟩ => hK _ _ (hstep h1 h2))
      · rename_i hw
        rw [if_neg hw] at hob2
        exact hK _ _ (hstep (Below.refl _ _) hob2)
  · refine ⟨hfr.1, hfr.2.1, ?_, fun t _ i o _ _ hl => ?_, fun t ht _ => hfr.2.2 t ht⟩
    · rw [if_neg (by
        intro hl
        by_cases hjm : m1 < p.length <;> simp [hjm] at hl)]
      exact hC
    · exfalso
      by_cases hjm : i < p.length <;> simp [hjm] at hl
end

section
variable {P : Program} {ops : Array Oper} {o : Oper} {rest : List Oper} {F : Frm} {w0 : World} {old : Nat → Prop} {H H0 H1 Hc : List HFact} {n : Nat} {c : Bool} {Q : Exit → Act → World → Prop} {m1 k : Nat}
/-- The walk of such a region. -/
def JS (P : Program) (n : Nat) (w0 : World) (old : Nat → Prop) (ops : Array Oper) (Hc H0 H1 : List HFact) (m1 k : Nat) (l : List Oper) (F : Frm) (Q : Exit → Act → World → Prop) : Prop :=
  AS P ops (HInv w0 old Hc) (HInv w0 old H0) (HInv w0 old H1) m1 (fun F' => ∀ a' w', FrR n F' a' w' → HInv w0 old H1 w' → Q .normal a' w') k l (lift F)
theorem lift_const (F : Frm) : (lift F).Const := by
  intro t w w' v h
  unfold lift at *
  cases hg : Frm.get F t with
  | none => trivial
  | some e => rw [hg] at h; exact h
theorem js_op {d : Nat} {V : Value} (hk : Nat.beq k m1 = false) (hd : o.dst = some d) (hg : GOp F ops o c) (hv : VOp P ops w0 old o F Hc c V)
    (kk : JS P n w0 old ops Hc H0 H1 m1 (k + 1) rest ((d, c, V) :: F) Q) : JS P n w0 old ops Hc H0 H1 m1 k (o :: rest) F Q := by
  have hk' : k ≠ m1 := fun e => by subst e; simp at hk
  unfold JS AS
  rw [if_neg hk']
  refine ⟨fun _ v => En v (c, V), ⟨fun _ _ _ h => h, fun a w hC ha => ?_⟩, ?_⟩
  · have hl : Looks ops o F a := fun t ht e he => by
      have := ha t ht
      simp only [lift, he] at this
      exact this
    have hw := hg.wanted hl
    cases c with
    | true =>
      rw [if_pos hw]
      exact (hv a w hl hC rfl).mono fun v w' ⟨h1, h2⟩ => ⟨h1, ⟨fun _ => h2, fun h => (by cases h)⟩⟩
    | false =>
      rw [if_neg (by rw [hw]; exact Bool.false_ne_true)]
      exact ⟨fun h => (by cases h), fun _ => rfl⟩
  · rw [hd, ← lift_cons]
    exact kk
/-- The step that writes. -/
theorem js_storeVec {T e : TypeId} {x y : Operand} {A : Option Addr} {cap j i : Nat} {cs : List Value} {V : Value} (hk : k = m1) (ho : o.op = .store T x y) (hd : o.dst = none) (hg : o.guard = none) (hT : (P.info? T).map (·.size) = some 1)
    (hx : ev F x = some (true, pat A j)) (hy : ev F y = some (true, V)) (hV : V.oneCell' = true) (hH : H0[i]? = some (.vec e A cap cs)) (hj : j < cs.length) (h1 : H1 = H0.set i (.vec e A cap (cs.set j V)))
    (kk : JS P n w0 old ops Hc H0 H1 m1 (k + 1) rest F Q) : JS P n w0 old ops Hc H0 H1 m1 k (o :: rest) F Q := by
  unfold JS AS
  rw [if_pos hk]
  refine ⟨⟨hd, hg, fun a w hI ha => ?_⟩, kk⟩
  have hl : Looks ops o F a := fun t ht e he => by
    have := ha t ht
    simp only [lift, he] at this
    exact this
  have e1 : a.eval x = pat A j := ev_ab (ops := ops) (o := o) (a := a) hl (by simp [ho, Op.operands]) hx rfl
  have e2 := ab_flat (ev_ab (ops := ops) (o := o) (a := a) hl (by simp [ho, Op.operands]) hy rfl) hV
  obtain ⟨ad, u, rfl, h3, _⟩ := hI.readVec (List.mem_of_getElem? hH) (List.getElem?_eq_getElem hj)
  have hfr : w.frozen? (ad.add j) = false := by
    obtain ⟨xs, ho', _⟩ := hI.facts _ (List.mem_of_getElem? hH)
    rcases ho'.2 with ⟨h0, _⟩ | ⟨g, cap', cur, h0, _, hh, _⟩
    · cases h0
    · injection h0 with h0; injection h0 with h0; subst h0
      rw [Addr.add_lit]; simp [World.frozen?, hh]
  simp only [pat, Option.map_some] at e1
  simp only [OpV, execOp, ho, e1, Sem.run_bind, run_storeAt1 hT e2 h3 hfr, Sem.run_pure, Result.andThen_ok, yieldsUpon]
  rw [h1]
  exact hI.setVec hH e2
theorem js_nil {ops' : Array Oper} {l' : List Oper} (hb : bnd n F = true) (kk : JL P n w0 old ops' l' F H1 Q) : JS P n w0 old ops Hc H0 H1 m1 k [] F (fun _ a w => wpList P ops' Q l' a w) := by
  intro a' w' hF hH
  refine kk a' w' ⟨hF.1, hF.2.1, fun t e he => ?_⟩ hH
  have ht := bnd_spec hb he
  have := hF.2.2 t ht
  simp only [lift, he] at this
  exact ⟨ht, this⟩
theorem j_drawS {id m m1 : Nat} {l : List Oper} (idx : Nat) (f : HFact) (hm : P.follows .mixedOrders = true) (hB : (tailB .any l.toArray 0 m && guardsB l.toArray m && Nat.blt m l.length && Nat.blt m1 m && sOK (l.take m) n) = true)
    (k : JS P n w0 old (l.take m).toArray (H.eraseIdx idx) H (H.set idx f) m1 0 (l.take m) F (fun _ a w => wpList P l.toArray Q (l.drop m) a w)) : J P n w0 old (.region id l.toArray true) F H Q := by
  intro a w hF hH
  simp only [Bool.and_eq_true] at hB
  obtain ⟨⟨⟨⟨h1, h2⟩, h3⟩, h4⟩, h5⟩ := hB
  have hml : m < l.length := by simpa [Nat.blt_eq] using h3
  have hm1 : m1 < m := by simpa [Nat.blt_eq] using h4
  have hlen : (l.take m).length = m := by simp; omega
  have hsplit : l.take m ++ l.drop m = l := List.take_append_drop m l
  have hsub : ∀ (H : List HFact) (i : Nat) (g : HFact), ((H.set i g).eraseIdx i) = H.eraseIdx i := fun H i g => by
    rw [List.eraseIdx_set_eq]
  refine wp_region_any hm ?_
  have := wpAny_S (P := P) (Q := Q) (n := n) (Cc := HInv w0 old (H.eraseIdx idx)) (C0 := HInv w0 old H) (C1 := HInv w0 old (H.set idx f)) (p := l.take m) (t := l.drop m) (F := lift F) (a := a) (w := { w with drawn := w.drawn + 1 }) (m1 := m1)
    (QF := fun F' => ∀ a' w', FrR n F' a' w' → HInv w0 old (H.set idx f) w' → wpList P l.toArray Q (l.drop m) a' w')
    (by rw [hsplit, hlen]; exact h1) (by rw [hsplit, hlen]; exact h2) (by intro h0; have := congrArg List.length h0; simp at this; omega) (by rw [hlen]; exact hm1) h5 (lift_const F) hF.lift (hH.grow ⟨rfl, rfl, rfl, Nat.le_refl _, fun _ _ => rfl⟩)
    (fun _ _ h hb => h.grow hb) (fun _ _ h hb => h.grow hb) (fun _ h => h.sub (List.eraseIdx_sublist ..)) (fun _ h => by have := h.sub (List.eraseIdx_sublist (H.set idx f) idx); rwa [hsub] at this)
    (fun F' a' w' hfr hC hq => by rw [hsplit]; exact hq a' w' hfr hC) k
  rw [hsplit, hlen] at this
  have e1 : m + (l.drop m).length = l.toArray.size := by simp; omega
  have e2 : Array.replicate m false ++ Array.replicate (l.drop m).length false = Array.replicate l.toArray.size false := by
    rw [Array.replicate_append_replicate, e1]
  rw [e1, e2] at this
  exact this
end

theorem sw_no {a b c : Bool} (h : (!a || !b) = true) : ((a && b) && c) = false := by cases a <;> cases b <;> simp at h ⊢
theorem sw_yes {a b c : Bool} (h : (!a || !b) = false) : ((a && b) && c) = c := by cases a <;> cases b <;> simp at h ⊢
theorem sw_fst {a b : Bool} (h : (!a || b) = false) : (!a) = false := by cases a <;> simp at h ⊢
end Go.Vx

namespace Go.Vx
open Go.RowKit

/-! ### Regions that draw their order and take a tuple apart: the parts are those of the tuple -/
def extVal (a : Act) (x : Operand) (k : Nat) : Option Value := match a.eval x with | .tuple vs => vs[k]? | _ => none
structure PRs (p : List Oper) (S : Array Bool) (a : Act) : Prop where
  closed : ∀ (j : Nat) (o : Oper), p[j]? = some o → S.getD j false = true → ∀ e ∈ o.after, Region.binds .any e = true → S.getD e.on false = true
  ext : ∀ (j : Nat) (o : Oper) (x : Operand) (k : Nat) (d : Tmp), p[j]? = some o → S.getD j false = true → o.op = .extract x k → o.guard = none → o.dst = some d → extVal a x k = some (a.tmps.getD d undef)
def PRa (p : List Oper) (a : Act) : Prop := ∀ (j : Nat) (o : Oper) (x : Operand) (k : Nat) (d : Tmp), p[j]? = some o → o.op = .extract x k → o.guard = none → o.dst = some d → extVal a x k = some (a.tmps.getD d undef)
theorem extVal_put {a : Act} {d : Option Tmp} {v : Value} {x : Operand} {k : Nat} (h : ∀ t, x = .tmp t → d ≠ some t) : extVal (a.put d v) x k = extVal a x k := by
  have : (a.put d v).eval x = a.eval x := by
    cases x with
    | tmp t => exact put_at (h t rfl)
    | _ => cases d <;> rfl
  unfold extVal
  rw [this]
theorem looks_ext {o : Oper} {ops : Array Oper} {t k : Nat} (h : o.op = .extract (.tmp t) k) : t ∈ o.looksAt ops :=
  List.mem_append_left _ (List.mem_filterMap.2 ⟨.tmp t, by simp [h, Op.operands], rfl⟩)
theorem PRs.step {p : List Oper} {S : Array Bool} {a : Act} {i : Nat} {o : Oper} {v : Value} (h : PRs p S a) (hone : onceB p = true) (hw : waitsB .any p = true) (hi : p[i]? = some o) (hdn : ∀ d, o.dst = some d → d < a.tmps.size) (hS : i < S.size)
    (hr : ∀ e ∈ o.after, Region.binds .any e = true → S.getD e.on false = true) (hu : S.getD i false = false) (hv : ∀ x k, o.guard = none → o.op = .extract x k → extVal a x k = some v) : PRs p (S.setIfInBounds i true) (a.put o.dst v) := by
  have hset : ∀ {j : Nat}, (S.setIfInBounds i true).getD j false = true → j ≠ i → S.getD j false = true := fun {j} hj hne => by
    rwa [getD_set_ne false (fun e => hne e.symm)] at hj
  have hkeep : ∀ {j : Nat}, S.getD j false = true → (S.setIfInBounds i true).getD j false = true := fun {j} hj => by
    by_cases e : j = i
    · subst e; rw [hu] at hj; cases hj
    · rwa [getD_set_ne false (fun e' => e e'.symm)]
  have hedge : ∀ {j : Nat} {o' : Oper}, p[j]? = some o' → (S.setIfInBounds i true).getD j false = true → ∀ e ∈ o'.after, Region.binds .any e = true → S.getD e.on false = true := fun {j o'} hj hl => by
    by_cases e : j = i
    · subst e; rw [hi] at hj; injection hj with hj; subst hj; exact hr
    · exact h.closed j o' hj (hset hl e)
  refine ⟨fun j o' hj hl e he hb => hkeep (hedge hj hl e he hb), fun j o' x k d hj hl ho hg hd => ?_⟩
  have hx : ∀ t, x = .tmp t → o.dst ≠ some t := fun t e hd' => by
    subst e
    have h1 := edgeB_listed (S := S) (waitsB_spec hw hj hi hd' (looks_ext ho)) hj (hedge hj hl)
    rw [hu] at h1
    cases h1
  rw [extVal_put hx]
  by_cases e : j = i
  · subst e
    rw [hi] at hj
    injection hj with hj
    subst hj
    rw [hd, put_self (hdn d hd)]
    exact hv x k hg ho
  · have hne : o.dst ≠ some d := fun hd' => e (onceB_inj hone hj hi hd hd')
    rw [put_at hne]
    exact h.ext j o' x k d hj (hset hl e) ho hg hd
section
variable {P : Program} {L : Origins} {C : World → Prop} {n : Nat}
theorem opV_ext {o : Oper} {a : Act} {w : World} {R : Value → World → Prop} (h : OpV P o a w R) : OpV P o a w (fun v w' => R v w' ∧ ∀ x k, o.op = .extract x k → extVal a x k = some v) := by
  by_cases he : ∃ x k, o.op = .extract x k
  · obtain ⟨x, i, hop⟩ := he
    unfold OpV at h ⊢
    simp only [execOp, hop, Instr.extract] at h ⊢
    cases hx : a.eval x with
    | tuple vs =>
      rw [hx] at h
      simp only at h ⊢
      cases hv : vs[i]? with
      | none => simp [hv, yieldsUpon] at h
      | some v =>
        simp [hv, yieldsUpon] at h ⊢
        refine ⟨h, ?_⟩
        unfold extVal
        rw [hx]
        exact hv
    | _ => rw [hx] at h; simp [yieldsUpon] at h
  · exact h.mono fun v w' hR => ⟨hR, fun x k e => absurd ⟨x, k, e⟩ he⟩
theorem wpAny_ZP {Q : Exit → Act → World → Prop} {p t : List Oper} {fl : List Nat} {kds : List ZK} {F : RF} {QF : RF → Prop} {a : Act} {w : World} (hB : floatB .any (p ++ t).toArray fl p.length = true) (hpure : pureFl fl p = true) (hpan : ∀ c a d v w, Q (.panic c) (a.put d v) w → Q (.panic c) a w) (hg : guardsB (p ++ t).toArray p.length = true) (ht : 1 < t.length)
    (hz : zOK L kds p n = true) (hF : F.Mono) (hfr : FrR n F a w) (hC : C w)
    (hQ : ∀ F' a w, FrR n F' a w → C w → GA L (fun _ => True) a → PRa p a → QF F' → wpList P (p ++ t).toArray Q t a w) (h : AZ P p.toArray C L QF p kds F) :
    wpAny P .any (p ++ t).toArray Q (p.length + t.length) (Array.replicate p.length false ++ Array.replicate t.length false) a w := by
  simp only [zOK, Bool.and_eq_true] at hz
  obtain ⟨⟨⟨⟨z1, z2⟩, z3⟩, z4⟩, z5⟩ := hz
  obtain ⟨hlen, Rs, hobl, hend⟩ := az_data h
  have hb : backB .any (p ++ t).toArray = true := (floatB_spec hB).1
  have hdn : ∀ {i : Nat} {o : Oper}, p[i]? = some o → ∀ d, o.dst = some d → d < n := fun {i o} hi d hd => by
    have := List.all_eq_true.1 z4 o (List.mem_of_getElem? hi)
    simp only [hd] at this
    simpa [Nat.blt_eq] using this
  obtain ⟨or1, _⟩ := originsB_spec z2
  have hmono : ∀ i, (Rs i).Mono ∨ p[i]? = none := fun i => by
    cases hi : p[i]? with
    | none => exact .inr rfl
    | some o => exact .inl (hobl i o hi).1
  refine wpAny_StF (St := fun S a w => ZSt p L C n F Rs S a w ∧ PRs p S a) hB hg ht (fun listed a w hs hall hst' => ?_) (fun listed a w i K hs hst' hi hK => ?_) (fun listed a w i o hs hst' hi hif ho' => ?_) hpan p.length _ a w (by simp) (by simp) (fun j o hj => by
    exfalso
    by_cases hjm : j < p.length <;> simp [hjm] at hj) ?_
  · obtain ⟨hst, hpr⟩ := hst'
    have hfup : ∀ t, t < n → Fup F Rs p t w (a.tmps.getD t undef) := fun t ht => by
      by_cases hex : ∃ (i : Nat) (o : Oper), p[i]? = some o ∧ o.dst = some t
      · obtain ⟨i, o, hi, hd⟩ := hex
        rw [(fup_at (F := F) z1).1 i o hi hd]
        exact hst.done t ht i o hi hd (hall i (List.getElem?_eq_some_iff.1 hi).1)
      · have hno : ∀ (i : Nat) (o : Oper), p[i]? = some o → o.dst ≠ some t := fun i o hi hd => hex ⟨i, o, hi, hd⟩
        rw [(fup_at (F := F) z1).2 hno]
        exact hst.rest t ht fun i o hi hd => absurd hd (hno i o hi)
    refine hQ _ a w ⟨hst.defers, hst.size, hfup⟩ hst.c (fun t1 t2 _ _ hh => ?_) (fun j o x k d hj => hpr.ext j o x k d hj (hall j (List.getElem?_eq_some_iff.1 hj).1)) hend
    obtain ⟨l1, l2, a1, a2, _⟩ := Origins.apart_spec hh
    obtain ⟨_, j1, o1, q1, q2, _⟩ := or1 t1 l1 a1
    obtain ⟨_, j2, o2, r1, r2, _⟩ := or1 t2 l2 a2
    exact hst.apart t1 t2 ⟨j1, o1, q1, q2, hall j1 (List.getElem?_eq_some_iff.1 q1).1⟩ ⟨j2, o2, r1, r2, hall j2 (List.getElem?_eq_some_iff.1 r1).1⟩ hh
  · obtain ⟨hst, hpr⟩ := hst'
    obtain ⟨hu, o, ho, hr⟩ := mem_ready.1 hi
    have ho' : p[i]? = some o := by simpa using ho
    have hil : i < p.length := (List.getElem?_eq_some_iff.1 ho').1
    have hu' : listed.getD i false = false := by rwa [getD_ft (by rw [hs]; exact hil)] at hu
    -- what the operation looks at
    have hlk : ∀ u ∈ o.looksAt p.toArray, Fup F Rs (p.take i) u w (a.tmps.getD u undef) := fun u htl => by
      have htn : u < n := looksB_spec z5 ho u htl
      by_cases hex : ∃ (j : Nat) (o' : Oper), p[j]? = some o' ∧ o'.dst = some u
      · obtain ⟨j, o', hj, hd⟩ := hex
        have hed := waitsB_spec z3 ho' hj hd htl
        have hlt : j < i := by
          simp only [edgeB, ho, List.any_eq_true, Bool.and_eq_true, beq_iff_eq, Array.mem_toList_iff] at hed
          obtain ⟨e, he, hbe, hon⟩ := hed
          have : (p ++ t).toArray[i]? = some o := by
            rw [List.getElem?_toArray, List.getElem?_append_left hil]; exact ho'
          have := backB_spec hb this e he hbe
          omega
        rw [(fup_at (F := F) (onceB_take i z1)).1 j o' (by rw [List.getElem?_take, if_pos hlt]; exact hj) hd]
        exact hst.done u htn j o' hj hd (edgeB_listed hed ho' hr)
      · have hno : ∀ (j : Nat) (o' : Oper), p[j]? = some o' → o'.dst ≠ some u := fun j o' hj hd => hex ⟨j, o', hj, hd⟩
        rw [(fup_at (F := F) (onceB_take i z1)).2 fun j o' hj => hno j o' (by rw [List.getElem?_take] at hj; split at hj; exact hj; cases hj)]
        exact hst.rest u htn fun j o' hj hd => absurd hd (hno j o' hj)
    have hga : GA L (· ∈ o.looksAt p.toArray) a := fun t1 t2 m1 m2 hh => by
      obtain ⟨l1, l2, a1, a2, _⟩ := Origins.apart_spec hh
      obtain ⟨_, j1, o1, q1, q2, _⟩ := or1 t1 l1 a1
      obtain ⟨_, j2, o2, r1, r2, _⟩ := or1 t2 l2 a2
      exact hst.apart t1 t2 ⟨j1, o1, q1, q2, edgeB_listed (waitsB_spec z3 ho' q1 q2 m1) ho' hr⟩ ⟨j2, o2, r1, r2, edgeB_listed (waitsB_spec z3 ho' r1 r2 m2) ho' hr⟩ hh
    have hob := (hobl i o ho').2 a w hst.c hlk hga
    have hstep := fun {w' : World} {v : Value} => ZSt.step (w' := w') (v := v) hst z1 z2 z3 hF hmono ho' (hdn ho') (by rw [hs]; exact hil) hr hu'
    have hps := fun {v : Value} (hv : ∀ x k, o.guard = none → o.op = .extract x k → extVal a x k = some v) => hpr.step z1 z3 ho' (fun d hd => by rw [hst.size]; exact hdn ho' d hd) (by rw [hs]; exact hil) hr hu' hv
    unfold wpOp
    simp only [ho]
    split
    · rename_i hw
      rw [if_pos hw] at hob
      exact .inl ((opV_ext hob).wp fun v w' ⟨⟨h1, h2, h3, h4⟩, h5⟩ => hK _ _ ⟨hstep h1 h2 h3 h4, hps fun x k _ => h5 x k⟩)
    · rename_i hw
      rw [if_neg hw] at hob
      refine hK _ _ ⟨hstep hst.c (Below.refl _ _) hob.2 (by rw [hob.1]; trivial), hps fun x k hg0 => ?_⟩
      exact absurd (by simp [Region.wanted, hg0]) hw
  · obtain ⟨hst, hpr⟩ := hst'
    obtain ⟨hu, o1, ho, hr⟩ := mem_ready.1 hi
    have ho1 : p[i]? = some o1 := by simpa using ho
    rw [ho'] at ho1
    injection ho1 with ho1
    subst ho1
    have hil : i < p.length := (List.getElem?_eq_some_iff.1 ho').1
    have hu' : listed.getD i false = false := by rwa [getD_ft (by rw [hs]; exact hil)] at hu
    -- what the operation looks at
    have hlk : ∀ u ∈ o.looksAt p.toArray, Fup F Rs (p.take i) u w (a.tmps.getD u undef) := fun u htl => by
      have htn : u < n := looksB_spec z5 ho u htl
      by_cases hex : ∃ (j : Nat) (o' : Oper), p[j]? = some o' ∧ o'.dst = some u
      · obtain ⟨j, o', hj, hd⟩ := hex
        have hed := waitsB_spec z3 ho' hj hd htl
        have hlt : j < i := by
          simp only [edgeB, ho, List.any_eq_true, Bool.and_eq_true, beq_iff_eq, Array.mem_toList_iff] at hed
          obtain ⟨e, he, hbe, hon⟩ := hed
          have : (p ++ t).toArray[i]? = some o := by
            rw [List.getElem?_toArray, List.getElem?_append_left hil]; exact ho'
          have := backB_spec hb this e he hbe
          omega
        rw [(fup_at (F := F) (onceB_take i z1)).1 j o' (by rw [List.getElem?_take, if_pos hlt]; exact hj) hd]
        exact hst.done u htn j o' hj hd (edgeB_listed hed ho' hr)
      · have hno : ∀ (j : Nat) (o' : Oper), p[j]? = some o' → o'.dst ≠ some u := fun j o' hj hd => hex ⟨j, o', hj, hd⟩
        rw [(fup_at (F := F) (onceB_take i z1)).2 fun j o' hj => hno j o' (by rw [List.getElem?_take] at hj; split at hj; exact hj; cases hj)]
        exact hst.rest u htn fun j o' hj hd => absurd hd (hno j o' hj)
    have hga : GA L (· ∈ o.looksAt p.toArray) a := fun t1 t2 m1 m2 hh => by
      obtain ⟨l1, l2, a1, a2, _⟩ := Origins.apart_spec hh
      obtain ⟨_, j1, o1, q1, q2, _⟩ := or1 t1 l1 a1
      obtain ⟨_, j2, o2, r1, r2, _⟩ := or1 t2 l2 a2
      exact hst.apart t1 t2 ⟨j1, o1, q1, q2, edgeB_listed (waitsB_spec z3 ho' q1 q2 m1) ho' hr⟩ ⟨j2, o2, r1, r2, edgeB_listed (waitsB_spec z3 ho' r1 r2 m2) ho' hr⟩ hh
    have hob := (hobl i o ho').2 a w hst.c hlk hga
    have hstep := fun {w' : World} {v : Value} => ZSt.step (w' := w') (v := v) hst z1 z2 z3 hF hmono ho' (hdn ho') (by rw [hs]; exact hil) hr hu'
    have hps := fun {v : Value} (hv : ∀ x k, o.guard = none → o.op = .extract x k → extVal a x k = some v) => hpr.step z1 z3 ho' (fun d hd => by rw [hst.size]; exact hdn ho' d hd) (by rw [hs]; exact hil) hr hu' hv
    obtain ⟨hg0, hpu⟩ := pureFl_spec hpure hif ho'
    have hw : Region.wanted o (yielded p.toArray a.tmps) = true := by simp [Region.wanted, hg0]
    rw [if_pos hw] at hob
    obtain ⟨v, hv, ⟨h1, h2, h3, h4⟩, h5⟩ := pure_yields hpu (opV_ext hob)
    exact ⟨v, ⟨hg0, hv⟩, hstep h1 h2 h3 h4, hps fun x k _ => h5 x k⟩
  · refine ⟨⟨hfr.1, hfr.2.1, hC, fun t _ i o _ _ hl => ?_, fun t ht _ => hfr.2.2 t ht, fun t1 t2 d1 => ?_, fun t i o _ _ hl => ?_⟩, fun j o _ hl => ?_, fun j o x k d _ hl => ?_⟩
    · exfalso
      by_cases hjm : i < p.length <;> simp [hjm] at hl
    · exfalso
      obtain ⟨j, o, _, _, hl⟩ := d1
      by_cases hjm : j < p.length <;> simp [hjm] at hl
    · exfalso
      by_cases hjm : i < p.length <;> simp [hjm] at hl
    · exfalso
      by_cases hjm : j < p.length <;> simp [hjm] at hl
    · exfalso
      by_cases hjm : j < p.length <;> simp [hjm] at hl
end

section
variable {P : Program} {w0 : World} {old : Nat → Prop} {F : Frm} {H : List HFact} {n : Nat} {Q : Exit → Act → World → Prop}
theorem j_drawZP {id m : Nat} {l : List Oper} (fl : List Nat) (L : Origins) (kds : List ZK) (hm : P.follows .mixedOrders = true) (hB : (floatB .any l.toArray fl m && guardsB l.toArray m && Nat.blt (m + 1) l.length && zOK L kds (l.take m) n && pureFl fl (l.take m)) = true)
    (hpan : PanOK Q)
    (k : ∀ B, w0.heap.size ≤ B → JZ P n w0 old B (l.take m).toArray L (l.take m) kds F [] H (fun _ a w => PRa (l.take m) a → wpList P l.toArray Q (l.drop m) a w)) : J P n w0 old (.region id l.toArray true) F H Q := by
  intro a w hF hH
  simp only [Bool.and_eq_true] at hB
  obtain ⟨⟨⟨⟨h1, h2⟩, h3⟩, h4⟩, h5⟩ := hB
  have hml : m + 1 < l.length := by simpa [Nat.blt_eq] using h3
  have hlen : (l.take m).length = m := by simp; omega
  have hsplit : l.take m ++ l.drop m = l := List.take_append_drop m l
  have k' := k w.heap.size hH.size
  have hC : CX w0 old w.heap.size H { w with drawn := w.drawn + 1 } := ⟨hH.grow ⟨rfl, rfl, rfl, Nat.le_refl _, fun _ _ => rfl⟩, Nat.le_refl _, hH.feet⟩
  refine wp_region_any hm ?_
  have := wpAny_ZP (P := P) (Q := Q) (n := n) (L := L) (fl := fl) (C := CX w0 old w.heap.size H) (p := l.take m) (t := l.drop m) (kds := kds) (F := liftX w.heap.size [] F) (a := a) (w := { w with drawn := w.drawn + 1 })
    (QF := fun F' => ∀ a' w', FrR n F' a' w' → CX w0 old w.heap.size H w' → GA L (fun _ => True) a' → PRa (l.take m) a' → wpList P l.toArray Q (l.drop m) a' w')
    (by rw [hsplit, hlen]; exact h1) h5 hpan (by rw [hsplit, hlen]; exact h2) (by simp; omega) h4 (liftX_mono _ _ _) (by rw [liftX_nil]; exact hF.lift) hC
    (fun F' a' w' hfr hC hga hpr hq => by rw [hsplit]; exact hq a' w' hfr hC hga hpr) k'
  rw [hsplit, hlen] at this
  have e1 : m + (l.drop m).length = l.toArray.size := by simp; omega
  have e2 : Array.replicate m false ++ Array.replicate (l.drop m).length false = Array.replicate l.toArray.size false := by
    rw [Array.replicate_append_replicate, e1]
  rw [e1, e2] at this
  exact this
end

/-- The last steps, where the parts of tuples are still to be told. -/
def JLP (p : List Oper) (P : Program) (n : Nat) (w0 : World) (old : Nat → Prop) (ops : Array Oper) (l : List Oper) (F : Frm) (H : List HFact) (Q : Exit → Act → World → Prop) : Prop :=
  ∀ a w, Fr n F a → HInv w0 old H w → PRa p a → wpList P ops Q l a w
section
variable {P : Program} {ops : Array Oper} {L : Origins} {F : Frm} {X : XF} {w0 : World} {old : Nat → Prop} {H : List HFact} {n B : Nat} {Q : Exit → Act → World → Prop}
theorem jz_nil2P {ops' : Array Oper} {l' : List Oper} {d1 d2 : Nat} {σ1 σ2 : Type} {V1 : σ1 → Value} {K1 : σ1 → List HFact} {V2 : σ2 → Value} {K2 : σ2 → List HFact} (hb : bnd n ((d1, true, .bool true) :: (d2, true, .bool true) :: F) = true) (hB : w0.heap.size ≤ B) (hX1 : XF.get X d1 = some ⟨σ1, V1, K1⟩) (hX2 : XF.get X d2 = some ⟨σ2, V2, K2⟩) (hF1 : Frm.get F d1 = none) (hF2 : Frm.get F d2 = none) (hap : L.apart d1 d2 = true)
    (i1 : ∀ s, ∀ f ∈ K1 s, ∀ k, f.foot = some k → inV k (V1 s)) (i2 : ∀ s, ∀ f ∈ K2 s, ∀ k, f.foot = some k → inV k (V2 s))
    {p : List Oper} (k : ∀ s1 s2, JLP p P n w0 old ops' l' ((d1, true, V1 s1) :: (d2, true, V2 s2) :: F) ((K1 s1 ++ K2 s2) ++ H) Q) : JZ P n w0 old B ops L [] [] F X H (fun _ a w => PRa p a → wpList P ops' Q l' a w) := by
  intro a' w' hF hC hga hpr
  simp only [bnd, Bool.and_eq_true] at hb
  have hd1 : d1 < n := by simpa [Nat.blt_eq] using hb.1
  have hd2 : d2 < n := by simpa [Nat.blt_eq] using hb.2.1
  have h0 := hF.2.2 d1 hd1
  have g0 := hF.2.2 d2 hd2
  simp only [liftX, hF1, hX1] at h0
  simp only [liftX, hF2, hX2] at g0
  obtain ⟨s1, h1, h2⟩ := h0
  obtain ⟨s2, g1, g2⟩ := g0
  have hfr := FreshB.app h2 g2 h1 g1 (i1 s1) (i2 s2) (hga d1 d2 trivial trivial hap)
  refine k s1 s2 a' w' ⟨hF.1, hF.2.1, fun t e he => ?_⟩ (hC.join hB hfr) hpr
  simp only [Frm.get] at he
  split at he
  · rename_i hq
    have := Nat.eq_of_beq_eq_true hq
    subst this
    injection he with he
    subst he
    exact ⟨hd1, ⟨fun _ => h1, fun h => (by cases h)⟩⟩
  · split at he
    · rename_i hq
      have := Nat.eq_of_beq_eq_true hq
      subst this
      injection he with he
      subst he
      exact ⟨hd2, ⟨fun _ => g1, fun h => (by cases h)⟩⟩
    · have ht := bnd_spec hb.2.2 he
      have := hF.2.2 t ht
      simp only [liftX, he] at this
      exact ⟨ht, this⟩
theorem jlp_done {p l : List Oper} (k : JL P n w0 old ops l F H Q) : JLP p P n w0 old ops l F H Q := fun a w hF hH _ => k a w hF hH
theorem jlp_ext (j : Nat) {p l : List Oper} {o : Oper} {x : Operand} {i d : Nat} {Vs : Array Value} {V : Value} (hj : p[j]? = some o) (ho : o.op = .extract x i) (hg : o.guard = none) (hd : o.dst = some d) (hdn : Nat.blt d n = true) (hx : ev F x = some (true, .tuple Vs)) (hi : Vs.toList[i]? = some V)
    (k : JLP p P n w0 old ops l ((d, true, V) :: F) H Q) : JLP p P n w0 old ops l F H Q := by
  intro a w hF hH hpr
  have e := hpr j o x i d hj ho hg hd
  obtain ⟨v, _, ⟨_, h1⟩, h2⟩ := pure_yields (by simp [pureB, ho]) (opV_ext ((v_extract (P := P) (ops := ops) (w0 := w0) (old := old) (H := H) (c := true) ho hx (fun _ => rfl) hi) a w hF.looks hH rfl))
  have e2 := h2 x i ho
  rw [e] at e2
  injection e2 with e2
  subst e2
  refine k a w ⟨hF.1, hF.2.1, fun t e' he => ?_⟩ hH hpr
  simp only [Frm.get] at he
  split at he
  · rename_i hq
    have := Nat.eq_of_beq_eq_true hq
    subst this
    injection he with he
    subst he
    exact ⟨by simpa [Nat.blt_eq] using hdn, ⟨fun _ => h1, fun h => (by cases h)⟩⟩
  · exact hF.2.2 t e' he
end
end Go.Vx

namespace Go.Vx
open Ieee Go.RowKit

/-! ### The reflections of a valid tube are finite -/
theorem one_32 : sval .f32 1065353216 = one_ .f32 := by decide +kernel
theorem none_32 : sval .f32 3212836864 = -one_ .f32 := by decide +kernel
theorem refl_num {x y : Nat} (hx : Fn .f32 x) (hy : Fn .f32 y) (px : 0 < sval .f32 x) (py : 0 < sval .f32 y) : fin (farith .quo .f32 (farith .sub .f32 x y) (farith .add .f32 x y)) = true := by
  have hm : rg .f32 y < FloatKind.f32.format.signWeight := Nat.lt_trans hy (inf_lt_sign .f32)
  have hn : Fn .f32 (FloatKind.f32.format.word true (rg .f32 y)) := by unfold Fn; rw [rg_word hm]; exact hy
  have vn : sval .f32 (FloatKind.f32.format.word true (rg .f32 y)) = -sval .f32 y := by
    rw [sval_word hm, if_pos rfl]
    unfold sval at py ⊢
    split at py
    · omega
    · rename_i h; rw [if_neg h]
  obtain ⟨hd, d1, d2⟩ := sub_bd hx hy hn hx (by rw [vn]; omega) (by omega)
  rw [vn] at d1
  obtain ⟨s, m, e, e1, e2, e3⟩ := add_val hx hy
  have e1' : farith .add .f32 x y = FloatKind.f32.format.nearest s m e := e1
  by_cases hs : Fn .f32 (farith .add .f32 x y)
  · have b1 : sval .f32 x ≤ sval .f32 (farith .add .f32 x y) := by
      rw [e1']
      exact nearest_lo (c := FloatKind.f32.format.leastPlace) e2 (Int.le_refl _) (Nat.le_of_lt hx) (by rw [e3]; simp; omega)
    have b2 : sval .f32 y ≤ sval .f32 (farith .add .f32 x y) := by
      rw [e1']
      exact nearest_lo (c := FloatKind.f32.format.leastPlace) e2 (Int.le_refl _) (Nat.le_of_lt hy) (by rw [e3]; simp; omega)
    have h1 : 0 ≤ one_ .f32 := by unfold one_; exact Int.natCast_nonneg _
    have c1 := Int.mul_le_mul_of_nonneg_right (show -sval .f32 (farith .add .f32 x y) ≤ sval .f32 (farith .sub .f32 x y) by omega) h1
    have c2 := Int.mul_le_mul_of_nonneg_right (show sval .f32 (farith .sub .f32 x y) ≤ sval .f32 (farith .add .f32 x y) by omega) h1
    refine fn_fin.1 (div_bd hd hs (by omega) (lo := 3212836864) (hi := 1065353216) (by decide) (by decide) ?_ ?_).1
    · rw [none_32, Int.neg_mul, Int.mul_comm, ← Int.neg_mul]; exact c1
    · rw [one_32, Int.mul_comm (one_ .f32)]; exact c2
  · have hi : rg .f32 (farith .add .f32 x y) = FloatKind.f32.format.infRung := by
      unfold Fn at hs
      have : rg .f32 (farith .add .f32 x y) ≤ FloatKind.f32.format.infRung := by rw [e1', rg_nearest]; exact rungOf_le _ _ _
      omega
    obtain ⟨t, m', e', h1, _⟩ := read_val hd
    show fin (fdiv .f32 _ _) = true
    unfold fdiv Format.div
    rw [h1, read_inf hi]
    simp only [Datum.quotient, Option.map_some, Format.write]
    rw [oc_nearest]
    cases t <;> cases sg .f32 (farith .add .f32 x y) <;> decide +kernel
theorem above_val {x : Nat} (h : above x = true) : Fn .f32 x ∧ 0 < sval .f32 x := by
  unfold above at h
  simp only [Bool.and_eq_true] at h
  have hf := fn_fin.2 h.1
  have h0 : Fn .f32 0 := by decide
  have v0 : sval .f32 0 = 0 := by decide +kernel
  have := h.2
  unfold fcmp at this
  rw [order_sval hf h0] at this
  refine ⟨hf, ?_⟩
  rw [v0] at this
  rcases Int.lt_trichotomy (sval .f32 x) 0 with g | g | g
  · rw [Int.compare_eq_lt.2 g] at this; cases this
  · rw [g] at this; cases this
  · exact g
theorem refl_tube {N l t p : Nat} {g : Nat → Nat} (h : tubeB N g l t p = true) : allB (N - 1) (fun j => fin (reflG g j)) = true := by
  simp only [tubeB, areasB, Bool.and_eq_true] at h
  have h1 := allB_true.1 h.1.1.1.1.2
  refine allB_true.2 fun j hj => ?_
  obtain ⟨a1, a2⟩ := above_val (h1 j (by omega))
  obtain ⟨b1, b2⟩ := above_val (h1 (j + 1) (by omega))
  exact refl_num a1 b1 a2 b2
theorem refl_waves {N l t p R M : Nat} {g r q : Nat → Nat} (h : wavesB N g l t p R r M q = true) : allB (N - 1) (fun j => fin (reflG g j)) = true := by
  simp only [wavesB, Bool.and_eq_true] at h
  exact refl_tube h.1.1.1.1

/-! ### Runs of waves -/
def wst (N : Nat) (g : Nat → Nat) (l t p : Nat) (r q f : Nat → Nat) (i : Nat) : (Nat → Nat) × (Nat → Nat) := fold i (r, q) fun k v => (outR g (lossG l v.1) (lossG l v.2) t (f k), outL N g (lossG l v.1) (lossG l v.2) p)
def wys (N : Nat) (g : Nat → Nat) (l t p : Nat) (r q f : Nat → Nat) : Nat → Nat := fun k => outS N (lossG l (wst N g l t p r q f k).1) p
def wok (N : Nat) (g : Nat → Nat) (l t p : Nat) (r q f : Nat → Nat) (k : Nat) : Bool := wavesB N g l t p N (wst N g l t p r q f (k + 1)).1 N (wst N g l t p r q f (k + 1)).2 && fin (wys N g l t p r q f k)
def runWB (N : Nat) (g : Nat → Nat) (l t p R : Nat) (r : Nat → Nat) (M : Nat) (q : Nat → Nat) (m : Nat) (f : Nat → Nat) : Bool := (wavesB N g l t p R r M q && sound m f) && allB m (wok N g l t p r q f)
def runWV (B : Bool) (N M : Nat) : ((Option Addr × Nat) × (Option Addr × Nat)) × (Option Addr × Nat) → Value := fun s => .tuple #[.agg #[.slice s.1.1.1 (bif B then N else 0) s.1.1.2, .slice s.1.2.1 (bif B then N else 0) s.1.2.2], .slice s.2.1 (bif B then M else 0) s.2.2, .bool B]
def runWK (E : TypeId) (B : Bool) (N M : Nat) (g h y : Nat → Nat) : ((Option Addr × Nat) × (Option Addr × Nat)) × (Option Addr × Nat) → List HFact := fun s => [.vec E s.1.1.1 s.1.1.2 (tab (bif B then N else 0) g), .vec E s.1.2.1 s.1.2.2 (tab (bif B then N else 0) h), .vec E s.2.1 s.2.2 (tab (bif B then M else 0) y)]
theorem mem3 {α : Type} {f g g' g'' : α} (h : f ∈ [g, g', g'']) : f = g ∨ f = g' ∨ f = g'' := by simpa using h
theorem runW_inV {E : TypeId} {B : Bool} {N M : Nat} {g h y : Nat → Nat} : ∀ s, ∀ f ∈ runWK E B N M g h y s, ∀ k, f.foot = some k → inV k (runWV B N M s) := by
  intro s f hf k hk
  rcases mem3 hf with rfl | rfl | rfl
  · exact inV_tup1' (inV_agg2l hk)
  · exact inV_tup1' (inV_agg2r hk)
  · exact inV_tup2' hk
theorem runW_Vin {E : TypeId} {B : Bool} {N M : Nat} {g h y : Nat → Nat} : ∀ s k, inV k (runWV B N M s) → ∃ f ∈ runWK E B N M g h y s, f.foot = some k := by
  intro s k hk
  obtain ⟨c, hc, h⟩ := hk
  rcases mem3 hc with rfl | rfl | rfl
  · rcases inV_agg2 h with h | h
    · exact ⟨_, .head _, h⟩
    · exact ⟨_, .tail _ (.head _), h⟩
  · exact ⟨_, .tail _ (.tail _ (.head _)), h⟩
  · exact h.elim
section
variable {N l t p R M m : Nat} {g r q f : Nat → Nat}
theorem runW_no1 (h : (!wavesB N g l t p R r M q || !sound m f) = true) : runWB N g l t p R r M q m f = false := by
  unfold runWB
  exact sw_no h
theorem runW_no2 {i : Nat} (hi : i < m) (h : wok N g l t p r q f i = false) : runWB N g l t p R r M q m f = false := by
  unfold runWB
  rw [allB_false hi h, Bool.and_false]
theorem runW_yes (h : (!wavesB N g l t p R r M q || !sound m f) = false) (hi : ∀ j, j < m → wok N g l t p r q f j = true) : runWB N g l t p R r M q m f = true := by
  unfold runWB
  rw [sw_yes h]
  exact allB_true.2 hi
theorem nnot {a : Bool} (h : (!a) = true) : a = false := by cases a <;> simp at h ⊢
theorem runW_hw (h : (!wavesB N g l t p R r M q || !sound m f) = false) : wavesB N g l t p R r M q = true := nb (sw_fst h)
end

/-- The first of them moved behind the two that come after it. -/
theorem HInv.down2 {w0 w : World} {old : Nat → Prop} {H : List HFact} {a b c : HFact} (h : HInv w0 old (a :: b :: c :: H) w) : HInv w0 old (b :: c :: a :: H) w := by
  have hp : (b :: c :: a :: H).Perm (a :: b :: c :: H) := ((List.Perm.swap a c H).cons b).trans (List.Perm.swap a b (c :: H))
  exact ⟨h.os, h.tape, h.output, h.size, h.frame, fun f hf => h.facts f (hp.subset hf), fun f hf => h.new f (hp.subset hf), (hp.pairwise_iff (fun hxy => HFact.off_symm hxy)).2 h.apart⟩

section
variable {P : Program} {F' : Frm} {w0 w : World} {H : List HFact} {n : Nat}
theorem fresh_nil3 {e : TypeId} : Fresh w0 w [.vec e none 0 [], .vec e none 0 [], .vec e none 0 []] := by
  have hf : ∀ f ∈ [HFact.vec e none 0 [], HFact.vec e none 0 [], HFact.vec e none 0 []], f = HFact.vec e none 0 [] := fun f hf => by
    rcases mem3 hf with h | h | h <;> exact h
  refine ⟨fun f hm => ?_, ?_⟩
  · rw [hf f hm]
    exact ⟨⟨[], ⟨rfl, .inl ⟨rfl, rfl⟩⟩, trivial⟩, fun k hk => by cases hk⟩
  · have ho : (HFact.vec e none 0 []).off (HFact.vec e none 0 []) := fun _ k hk => by cases hk
    exact .cons (fun f hm => by rcases mem2 hm with rfl | rfl <;> exact ho) (.cons (fun f hm => by rw [mem1 hm]; exact ho) (.cons (fun f hm => by cases hm) .nil))
theorem retRW_no (i : Nat) {fn : Func} {p t u : Tmp} {T T' : TypeId} {d : TypeDesc} {b : Nat} {E : TypeId} {B : Bool} {N M : Nat} {g h y : Nat → Nat} (hr : fn.results = #[.cell p T, .tmp t, .tmp u]) (hp : Frm.get F' p = some (true, .pointer (some ⟨b, 0, none⟩)))
    (hi : H[i]? = some (.box b T' [.slice none 0 0, .slice none 0 0])) (ht : Frm.get F' t = some (true, .slice none 0 0)) (hu : Frm.get F' u = some (true, .bool false)) (hT : P.underlying T = some d) (hd : aggT d = true) (hs : (P.info? T).map (·.size) = some 2) (hB : B = false) :
    JQ n w0 (fun _ => False) .ret F' H (bodyPost P fn (EndsM (runWV B N M) (runWK E B N M g h y) w0)) := by
  subst hB
  exact jq_retMM (((none, 0), (none, 0)), (none, 0)) (.inl rfl) hr (ret_cell hp hi hT hd hs (ret_tmp ht rfl (ret_tmp hu rfl ret_nil))) rfl rfl (fun w h => fresh_nil3)
theorem retRW_yes (i : Nat) {fn : Func} {p t u : Tmp} {T T' : TypeId} {d : TypeDesc} {b : Nat} {E : TypeId} {A1 A2 A3 : Option Addr} {c1 c2 c3 : Nat} {B : Bool} {N M : Nat} {g h y : Nat → Nat} (hr : fn.results = #[.cell p T, .tmp t, .tmp u]) (hp : Frm.get F' p = some (true, .pointer (some ⟨b, 0, none⟩)))
    (hi : H[i]? = some (.box b T' [.slice A1 N c1, .slice A2 N c2])) (ht : Frm.get F' t = some (true, .slice A3 M c3)) (hu : Frm.get F' u = some (true, .bool true)) (hT : P.underlying T = some d) (hd : aggT d = true) (hs : (P.info? T).map (·.size) = some 2)
    (hsub : [HFact.vec E A1 c1 (tab N g), .vec E A2 c2 (tab N h), .vec E A3 c3 (tab M y)].Sublist H) (hB : B = true) :
    JQ n w0 (fun _ => False) .ret F' H (bodyPost P fn (EndsM (runWV B N M) (runWK E B N M g h y) w0)) := by
  subst hB
  exact jq_retMM (((A1, c1), (A2, c2)), (A3, c3)) (.inl rfl) hr (ret_cell hp hi hT hd hs (ret_tmp ht rfl (ret_tmp hu rfl ret_nil))) rfl rfl (fun w hI => HInv.fresh hI hsub rfl)
end
end Go.Vx

namespace Go.Vx
open Ieee Go.RowKit

/-! ### A call that reads rows, writes one row and yields something new -/
/-- What is only read, apart from the row that is written. -/
def RoV (H : List HFact) (v : HFact) (w : World) : Prop := ∀ f ∈ H, f.isOwn = false ∧ f.holds w ∧ f.off v
theorem rov_nil {v : HFact} {w : World} : RoV [] v w := fun _ h => by cases h
theorem HInv.rovRo {w0 w : World} {old : Nat → Prop} {H L : List HFact} {v : HFact} {A : Option Addr} {cs : List Value} (h : HInv w0 old H w) (i j : Nat) (hi : H[i]? = some (.ro A cs)) (hj : H[j]? = some v) (hij : Nat.beq i j = false) (k : RoV L v w) : RoV (.ro A cs :: L) v w := fun f hf => by
  rcases List.mem_cons.1 hf with rfl | hf
  · exact ⟨rfl, h.facts _ (List.mem_of_getElem? hi), h.offAt hi hj fun e => by subst e; simp at hij⟩
  · exact k f hf
section
variable {P : Program} {ops : Array Oper} {o : Oper} {rest : List Oper} {F : Frm} {w0 : World} {old : Nat → Prop} {H : List HFact} {n : Nat} {Q : Exit → Act → World → Prop}
end
section
variable {P : Program} {F' : Frm} {w0 w : World} {H : List HFact} {n : Nat} {e : TypeId} {A : Option Addr} {cap : Nat} {cs cs' : List Value}
end

/-! ### What a ladder leaves of a sound -/
section
variable {L : Nat} {r k g : Nat → Nat} {x : Nat}
end
end Go.Vx

namespace Go.Vx
open Ieee Go.RowKit

/-! ### Doubling within a row; bits of whole numbers -/
section
variable {P : Program} {ops : Array Oper} {o : Oper} {rest : List Oper} {F : Frm} {w0 : World} {old : Nat → Prop} {H : List HFact} {n : Nat} {c : Bool} {Q : Exit → Act → World → Prop}
theorem v_iand {T T' : TypeId} {x y : Operand} {gx gy : Bool} {k : IntKind} {X Y Z : Int} (ho : o.op = .binOp .and T x y T') (hx : ev F x = some (gx, .int k X)) (hy : ev F y = some (gy, .int k Y))
    (hcx : c = true → gx = true) (hcy : c = true → gy = true) (hz : k.wrap ((BitVec.ofInt k.bits X &&& BitVec.ofInt k.bits Y).toNat : Int) = Z) : VOp P ops w0 old o F H c (.int k Z) := by
  intro a w hl _ hcc
  have h1 : a.eval x = .int k X := ev_ab (a := a) hl (by simp [ho, Op.operands]) hx (hcx hcc)
  have h2 : a.eval y = .int k Y := ev_ab (a := a) hl (by simp [ho, Op.operands]) hy (hcy hcc)
  simp only [OpV, execOp, ho, h1, h2, eqGuard_at_int, Sem.run_bind, Sem.run_pure, Result.andThen_ok]
  simp only [binOp, ne_eq, not_true_eq_false, if_false, Op.intBits, Sem.run_pure, Result.andThen_ok, yieldsUpon]
  exact ⟨below_self w, by rw [← hz]; rfl⟩
theorem v_ishr {T T' : TypeId} {x y : Operand} {gx gy : Bool} {k k' : IntKind} {X Y Z : Int} (ho : o.op = .binOp .shr T x y T') (hx : ev F x = some (gx, .int k X)) (hy : ev F y = some (gy, .int k' Y))
    (hcx : c = true → gx = true) (hcy : c = true → gy = true) (hY : 0 ≤ Y) (hz : X.fdiv (2 ^ min Y.toNat k.bits) = Z) : VOp P ops w0 old o F H c (.int k Z) := by
  intro a w hl _ hcc
  have h1 : a.eval x = .int k X := ev_ab (a := a) hl (by simp [ho, Op.operands]) hx (hcx hcc)
  have h2 : a.eval y = .int k' Y := ev_ab (a := a) hl (by simp [ho, Op.operands]) hy (hcy hcc)
  simp only [OpV, execOp, ho, h1, h2, eqGuard_at_int, Sem.run_bind, Sem.run_pure, Result.andThen_ok]
  simp only [binOp, Op.shift, if_neg (show ¬ Y < 0 by omega), Sem.run_pure, Result.andThen_ok, yieldsUpon]
  exact ⟨below_self w, by rw [← hz]; rfl⟩
end
end Go.Vx

namespace Go.Vx
open Ieee Go.RowKit

/-! ### A call that turns one thing of its caller's, told up to some choice -/
def EndsG {σ : Type} (v : HFact) (v' : σ → HFact) (V : σ → Value) (K : σ → List HFact) (w : World) : Ending → World → Prop := fun en w' => ∃ u s, en = .returned u ∧ (v' s).holds w' ∧ w'.os = w.os ∧ w'.tape = w.tape ∧ w'.output = w.output ∧ w.heap.size ≤ w'.heap.size ∧
  (∀ k, k < w.heap.size → v.foot ≠ some k → w'.heap[k]? = w.heap[k]?) ∧ Ab u (V s) ∧ Fresh w w' (K s)
def ConG (P : Program) (f : FuncId) (Vs : List Value) (H : List HFact) (v : HFact) {σ : Type} (v' : σ → HFact) (V : σ → Value) (K : σ → List HFact) : Prop :=
  Enters P f ∧ ∀ w vs, RoV H v w → v.holds w → AbL vs Vs → Calls P f vs.toArray w (EndsG v v' V K w)
def footOf (v : HFact) : Nat → Prop := fun k => v.foot = some k
theorem conG_intro {P : Program} {f : FuncId} {fn : Func} {body : Code} {Vs : List Value} {H : List HFact} {v : HFact} {σ : Type} {v' : σ → HFact} {V : σ → Value} {K : σ → List HFact} (hf : P.funcs[f]? = some fn) (hnm : (fn.name == "runtime.NumGoroutine") = false) (hb : fn.body = some body) (hn : Nat.ble Vs.length fn.ntmps = true)
    (k : ∀ w0, J P fn.ntmps w0 (footOf v) body (undefFrm Vs 0) (v :: H) (bodyPost P fn (EndsG v v' V K w0))) : ConG P f Vs H v v' V K := by
  refine ⟨⟨fn, hf, hnm, by rw [hb]; rfl⟩, fun w vs hr hv hvs => ?_⟩
  refine calls_of_wp hf hb (k w _ _ (fr_enter hvs hn) ⟨rfl, rfl, rfl, Nat.le_refl _, fun _ _ _ => rfl, fun f hf => ?_, fun f hf ho k hk => ?_, .cons (fun g hg => HFact.off_symm (hr g hg).2.2) ?_⟩)
  · rcases List.mem_cons.1 hf with rfl | hf
    · exact hv
    · exact (hr f hf).2.1
  · rcases List.mem_cons.1 hf with rfl | hf
    · exact .inr hk
    · rw [(hr f hf).1] at ho; cases ho
  · have hoff : ∀ g ∈ H, ∀ g' ∈ H, g.off g' := fun g hg g' hg' hm => by
      rw [(hr g hg).1, (hr g' hg').1] at hm; cases hm
    have : ∀ L : List HFact, (∀ x ∈ L, x ∈ H) → L.Pairwise HFact.off := by
      intro L
      induction L with
      | nil => exact fun _ => .nil
      | cons x L ih => exact fun hL => .cons (fun y hy => hoff x (hL x (.head _)) y (hL y (.tail _ hy))) (ih fun y hy => hL y (.tail _ hy))
    exact this H fun _ h => h
section
variable {P : Program} {ops : Array Oper} {o : Oper} {rest : List Oper} {F : Frm} {w0 : World} {old : Nat → Prop} {H : List HFact} {n : Nat} {Q : Exit → Act → World → Prop}
theorem jl_g {f : FuncId} {xs : List Operand} {ts : Array TypeId} {Vs : List Value} {Hs : List HFact} {v : HFact} {d i : Nat} {σ : Type} {v' : σ → HFact} {V : σ → Value} {K : σ → List HFact} (ho : o.op = .call { callee := .value (.func f), args := xs.toArray, argTypes := ts }) (hd : o.dst = some d) (hdn : Nat.blt d n = true) (hg : o.guard = none)
    (hcon : ConG P f Vs Hs v v' V K) (hx : evL F true xs Vs) (hH : H[i]? = some v) (hown : v.isOwn = true) (hfoot : ∀ s, (v' s).foot = v.foot) (hC : ∀ w, HInv w0 old H w → RoV Hs v w)
    (k : ∀ s, JL P n w0 old ops rest ((d, true, V s) :: F) (K s ++ H.set i (v' s)) Q) : JL P n w0 old ops (o :: rest) F H Q := by
  intro a w hF hI
  refine wpList_plain hg fun Kk hK => ?_
  have hr : OpV P o a w (fun u w' => EndsG v v' V K w (.returned u) w') := by
    obtain ⟨⟨fn, hf, hn, hb⟩, hcon⟩ := hcon
    have h1 := evL_ab (ops := ops) (o := o) (a := a) hF.looks rfl (xs := xs) (fun x hx => by simp [ho, Op.operands, Call.operands, hx]) hx
    have h2 := hcon w _ (hC w hI) (hI.facts _ (List.mem_of_getElem? hH)) h1
    simp only [OpV, execOp, ho, resolve, Sem.run_bind, Act.eval, Deferred.ofValue, Sem.run_pure, Result.andThen_ok, invoke, callFunc, run_program, hf, hn, hb, Bool.false_eq_true, if_false, List.map_toArray, Array.empty_append, Array.append_empty, yieldsUpon]
    refine Calls.mono ?_ (fun e w'' h => h)
    refine Calls.mono (by simpa using h2) fun e w'' h => ?_
    obtain ⟨u, s, rfl, h⟩ := h
    exact ⟨u, rfl, u, s, rfl, h⟩
  refine hr.wp fun u w' ⟨_, s, e0, e1, e2, e3, e4, e5, e6, e7, e8⟩ => hK _ _ ?_
  injection e0 with e0
  subst e0
  rw [hd]
  have ht := hI.turn (f' := v' s) hH hown (hfoot s) e1 e2 e3 e4 e5 e6
  have hcx : CX w0 old w.heap.size (H.set i (v' s)) w' := ⟨ht, e5, fun g hg k hk => by
    rcases List.mem_or_eq_of_mem_set hg with hg | rfl
    · exact hI.feet g hg k hk
    · rw [hfoot s] at hk
      exact hI.feet _ (List.mem_of_getElem? hH) k hk⟩
  exact k s _ _ (hF.put hdn ⟨fun _ => e7, fun h => (by cases h)⟩) (hcx.join hI.size e8)
end
section
variable {P : Program} {F' : Frm} {w0 w : World} {H : List HFact} {n : Nat} {v : HFact}
theorem jq_retG {fn : Func} {t : Tmp} {σ : Type} {v' : σ → HFact} {V : σ → Value} {K : σ → List HFact} {V' : Value} {en : Exit} (i : Nat) (s : σ) (he : en = .ret ∨ en = .normal) (hr : fn.results = #[.tmp t]) (hV : Frm.get F' t = some (true, V')) (hH : H[i]? = some (v' s)) (hs : V' = V s)
    (hK : ∀ w, HInv w0 (footOf v) H w → Fresh w0 w (K s)) : JQ n w0 (footOf v) en F' H (bodyPost P fn (EndsG v v' V K w0)) := by
  intro a w hF hI
  have h1 := (hF.2.2 t _ hV).2.1 rfl
  rw [hs] at h1
  have : a.defers = [] ∧ ∃ u, (results fn a.tmps).run P w = .ok u w ∧ EndsG v v' V K w0 (.returned u) w :=
    ⟨hF.1, _, results_tmp hr _ P w, _, s, rfl, hI.facts _ (List.mem_of_getElem? hH), hI.os, hI.tape, hI.output, hI.size, fun k hk hne => hI.frame k hk hne, h1, hK w hI⟩
  rcases he with rfl | rfl <;> exact this
end

/-! ### Choices out of bytes -/
def tabY (N : Nat) (g : Nat → Nat) : List Value := (List.range N).map fun j => .int .u8 (g j : Int)
theorem tabY_length (N : Nat) (g : Nat → Nat) : (tabY N g).length = N := by simp [tabY]
theorem tabY_get {N i : Nat} {g : Nat → Nat} (h : i < N) : (tabY N g)[i]? = some (.int .u8 (g i : Int)) := by simp [tabY, List.getElem?_range h]
section
variable {w0 : World} {old : Nat → Prop} {H : List HFact}
theorem hA_roY {A : Option Addr} {N : Nat} {g : Nat → Nat} (h : HFact.ro A (tabY N g) ∈ H) : ∀ w, HInv w0 old H w → A = none → N = 0 := fun w hI hA => by
  have := hA_ro h w hI hA
  rwa [tabY_length] at this
end
theorem zero_lt_256 : (0 : Int) < 256 := by decide
abbrev Pk (n : Int) : Type := { s : Int × Int // 0 ≤ s.1 ∧ s.1 < n }
def srcB (b : Nat) (T : TypeId) (A : Option Addr) (N cap a : Nat) (sd : Int) : HFact := .box b T [.slice A N cap, .int .i64 (a : Int), .int .u64 sd]
theorem byte_wrap {k : IntKind} {x : Nat} (h : x < 256) (hk : k = .i64) : 0 ≤ k.wrap (x : Int) ∧ k.wrap (x : Int) < 256 := by
  subst hk
  have : ∀ x : Nat, x < 256 → 0 ≤ IntKind.i64.wrap (x : Int) ∧ IntKind.i64.wrap (x : Int) < 256 := by decide +kernel
  exact this x h
theorem and_byte (X : Int) : 0 ≤ IntKind.i64.wrap (IntKind.u64.wrap ((BitVec.ofInt IntKind.u64.bits X &&& BitVec.ofInt IntKind.u64.bits 255).toNat : Int)) ∧ IntKind.i64.wrap (IntKind.u64.wrap ((BitVec.ofInt IntKind.u64.bits X &&& BitVec.ofInt IntKind.u64.bits 255).toNat : Int)) < 256 := by
  have h1 : (BitVec.ofInt IntKind.u64.bits X &&& BitVec.ofInt IntKind.u64.bits 255).toNat < 256 := by
    rw [BitVec.toNat_and]
    refine Nat.lt_of_le_of_lt Nat.and_le_right ?_
    decide
  have h2 : ∀ x : Nat, x < 256 → 0 ≤ IntKind.i64.wrap (IntKind.u64.wrap (x : Int)) ∧ IntKind.i64.wrap (IntKind.u64.wrap (x : Int)) < 256 := by decide +kernel
  exact h2 _ h1
theorem tmod_in {x n : Int} (h : 0 ≤ x) (hn : 0 < n) : 0 ≤ x.tmod n ∧ x.tmod n < n := ⟨Int.tmod_nonneg n h, Int.tmod_lt_of_pos x hn⟩
/-- A list with one more number at its end. -/
def upd (h : Nat → Nat) (i x : Nat) : Nat → Nat := fun j => if j < i then h j else x
theorem tab_upd {h : Nat → Nat} {i x : Nat} : tab i h ++ [F x] = tab (i + 1) (upd h i x) := by
  rw [← tab_succ]
  have e1 : tab i (upd h i x) = tab i h := tab_congr fun j hj => by unfold upd; rw [if_pos hj]
  have e2 : upd h i x i = x := by unfold upd; rw [if_neg (by omega)]
  rw [e1, e2]
theorem all_upd {p : Nat → Prop} {h : Nat → Nat} {i x : Nat} (ha : ∀ j, j < i → p (h j)) (hx : p x) : ∀ j, j < i + 1 → p (upd h i x j) := fun j hj => by
  unfold upd
  split
  · rename_i h1; exact ha j h1
  · exact hx
/-- The times and levels that were drawn so far, and the next time. -/
structure EnvD (n : Nat) (T : Nat → Int) (h : Nat → Nat) (t : Int) : Prop where
  lev : ∀ j, j < n → h j ≤ 8
  step : ∀ j, j + 1 < n → T j + 1 ≤ T (j + 1) ∧ T (j + 1) ≤ T j + 5
  first : 0 < n → 0 ≤ T 0 ∧ T 0 ≤ 3
  last : ∀ j, j + 1 = n → T j + 1 ≤ t ∧ t ≤ T j + 5
  zero : n = 0 → 0 ≤ t ∧ t ≤ 3
  most : 0 ≤ t ∧ t ≤ 3 + 5 * n
theorem EnvD.start {T : Nat → Int} {h : Nat → Nat} {t : Int} (ht : 0 ≤ t ∧ t < 4) : EnvD 0 T h t :=
  ⟨fun _ h => absurd h (Nat.not_lt_zero _), fun _ h => absurd h (Nat.not_lt_zero _), fun h => absurd h (Nat.lt_irrefl _), fun _ h => absurd h (by omega), fun _ => by omega, by omega⟩
end Go.Vx

namespace Go.Vx
open Go.RowKit
/-! ### Regions that draw their order: every order, step by step -/
def QN (Q : Exit → Act → World → Prop) (K : Act → World → Prop) : Exit → Act → World → Prop := fun e a w => (e = .normal → K a w) ∧ (e ≠ .normal → Q e a w)
theorem wp_swap {P : Program} {o : Oper} {a : Act} {w : World} {K : Act → World → Prop} {Q : Exit → Act → World → Prop} (h : o.wp P a w (fun a w => QN Q K .normal a w) (QN Q K)) : o.wp P a w K Q := by
  unfold Oper.wp at *
  generalize (execOp a.eval o).run P w = r at *
  have hl : LetsOut (QN Q K) → LetsOut Q := fun ⟨a, w, h⟩ => ⟨a, w, h.2 (by simp)⟩
  cases r with
  | ok n w' =>
    cases n <;> simp only [Oper.upon] at h ⊢ <;>
      first
        | exact h.1 rfl
        | exact Calls.mono h (fun e w'' he => by cases e <;> first | exact he.1 rfl | exact he.2 (by simp) | exact hl he)
        | exact Rows.mono h (fun _ _ he => he.1 rfl)
  | halt x w' => cases x <;> simp only [Oper.upon] at h ⊢ <;> exact h.2 (by simp)
def JN (P : Program) (n : Nat) (w0 : World) (old : Nat → Prop) (ops : Array Oper) (fuel : Nat) (listed : Array Bool) (F : Frm) (H : List HFact) (Q : Exit → Act → World → Prop) : Prop :=
  ∀ a w, Fr n F a → HInv w0 old H w → wpAny P .any ops Q fuel listed a w
section
variable {P : Program} {n : Nat} {w0 : World} {old : Nat → Prop} {ops : Array Oper} {fuel : Nat} {listed : Array Bool} {F : Frm} {H : List HFact} {Q : Exit → Act → World → Prop}
theorem jn_next (k : JN P n w0 old ops fuel listed F H Q) : JQ n w0 old .normal F H (QN Q (fun a w => wpAny P .any ops Q fuel listed a w)) :=
  fun a w hF hI => ⟨fun _ => k a w hF hI, fun h => absurd rfl h⟩
theorem wpOp_of_list {i : Nat} {o : Oper} {a : Act} {w : World} {K : Act → World → Prop} (ho : ops[i]? = some o) (h : wpList P ops (QN Q K) [o] a w) : wpOp P ops Q i K a w := by
  unfold wpOp
  simp only [ho]
  unfold wpList at h
  split
  · rename_i hw
    rw [if_pos hw] at h
    rcases h with h | ⟨h1, a', w', h2⟩
    · exact .inl (wp_swap h)
    · exact .inr ⟨h1, a', w', h2.2 (by simp)⟩
  · rename_i hw
    rw [if_neg hw] at h
    exact h.1 rfl
theorem jn_end (hr : Region.ready .any ops listed = []) (k : JQ n w0 old .normal F H Q) : JN P n w0 old ops 0 listed F H Q := fun a w hF hI => ⟨hr, k a w hF hI⟩
theorem jn1 (i : Nat) {o : Oper} (hr : Region.ready .any ops listed = [i]) (ho : ops[i]? = some o) (k : JL P n w0 old ops [o] F H (QN Q (fun a w => wpAny P .any ops Q fuel (listed.setIfInBounds i true) a w))) : JN P n w0 old ops (fuel + 1) listed F H Q := by
  intro a w hF hI
  refine ⟨fun h => by (rw [hr] at h; cases h), fun j hj => ?_⟩
  rw [hr] at hj
  obtain rfl : j = i := by simpa using hj
  exact wpOp_of_list ho (k a w hF hI)
theorem jn2 (i j : Nat) {o o' : Oper} (hr : Region.ready .any ops listed = [i, j]) (ho : ops[i]? = some o) (ho' : ops[j]? = some o') (k : JL P n w0 old ops [o] F H (QN Q (fun a w => wpAny P .any ops Q fuel (listed.setIfInBounds i true) a w)))
    (k' : JL P n w0 old ops [o'] F H (QN Q (fun a w => wpAny P .any ops Q fuel (listed.setIfInBounds j true) a w))) : JN P n w0 old ops (fuel + 1) listed F H Q := by
  intro a w hF hI
  refine ⟨fun h => by (rw [hr] at h; cases h), fun q hq => ?_⟩
  rw [hr] at hq
  have hq' : q = i ∨ q = j := by simpa using hq
  rcases hq' with rfl | rfl
  · exact wpOp_of_list ho (k a w hF hI)
  · exact wpOp_of_list ho' (k' a w hF hI)
theorem j_drawN {id m : Nat} {l : List Oper} (hm : P.follows .mixedOrders = true) (hl : l.length = m) (k : JN P n w0 old l.toArray m (Array.replicate m false) F H Q) : J P n w0 old (.region id l.toArray true) F H Q := by
  intro a w hF hI
  refine wp_region_any hm ?_
  have := k a { w with drawn := w.drawn + 1 } hF (hI.grow ⟨rfl, rfl, rfl, Nat.le_refl _, fun _ _ => rfl⟩)
  rw [← hl] at this
  simpa using this
/-- A cut behind a piece of code: from there on only this is known. -/
theorem j_mid {σ : Type} {c : Code} (F1 : σ → Frm) (H1 : σ → List HFact) (k1 : J P n w0 old c F H (QN Q (fun a w => ∃ s, Fr n (F1 s) a ∧ HInv w0 old (H1 s) w))) (k2 : ∀ s, JQ n w0 old .normal (F1 s) (H1 s) Q) : J P n w0 old c F H Q :=
  fun a w hF hI => Go.Code.wp_mono (fun e a w h => by
    by_cases he : e = .normal
    · subst he
      obtain ⟨s, h1, h2⟩ := h.1 rfl
      exact k2 s a w h1 h2
    · exact h.2 he) (k1 a w hF hI)
theorem jq_mid {σ : Type} {F1 : σ → Frm} {H1 : σ → List HFact} (s : σ) (hF : FSub (F1 s) F) (hH : ∀ w, HInv w0 old H w → HInv w0 old (H1 s) w) : JQ n w0 old .normal F H (QN Q (fun a w => ∃ s, Fr n (F1 s) a ∧ HInv w0 old (H1 s) w)) :=
  fun _ _ hFr hIn => ⟨fun _ => ⟨s, hF.fr hFr, hH _ hIn⟩, fun h => absurd rfl h⟩
end
end Go.Vx

namespace Go.Vx
open Ieee Go.RowKit

/-! ### Levels that are eighths -/
section
variable {n : Nat} {T : Nat → Int} {κ : Nat → Nat}
theorem EnvD.range {h : Nat → Nat} {t : Int} (E : EnvD n T h t) {j : Nat} (hj : j < n) : 0 ≤ T j ∧ T j ≤ 3 + 5 * j := by
  induction j with
  | zero => have := E.first hj; omega
  | succ j ih => have h1 := E.step j hj; have := ih (by omega); omega
theorem fin_neq {x : Nat} (h : fin x = true) : fcmp .neq .f32 x x = false := by
  have h' := fn_fin.2 h
  unfold fcmp
  rw [order_sval h' h', Int.compare_eq_eq.2 rfl]
  rfl
end
/-! ### The least and the greatest level -/
section
variable {P : Program} {ops : Array Oper} {o : Oper} {F : Frm} {w0 : World} {old : Nat → Prop} {H : List HFact} {c : Bool}
end
section
variable {n : Nat} {T : Nat → Int} {κ : Nat → Nat}
theorem sameN_fin {x : Nat} (h : fin x = true) : sameN x x = true := by
  unfold sameN
  rw [fin_neq h]
  have : fcmp .eql .f32 x x = true := by
    have h' := fn_fin.2 h
    unfold fcmp
    rw [order_sval h' h', Int.compare_eq_eq.2 rfl]
    rfl
  simp [this]
end
end Go.Vx

namespace Go.Vx
open Ieee Go.RowKit

/-! ### Logarithms of small numbers, glides -/
theorem byte_i {x : Nat} (h : x < 256) : IntKind.i64.wrap (x : Int) = (x : Int) := by
  have : ∀ x : Nat, x < 256 → IntKind.i64.wrap (x : Int) = (x : Int) := by decide +kernel
  exact this x h
end Go.Vx

namespace Go.Vx
open Ieee Go.RowKit

/-! ### Mixed sounds -/
section
variable {P : Program} {ops : Array Oper} {l : List Oper} {F : Frm} {w0 : World} {old : Nat → Prop} {H : List HFact} {n : Nat} {Q : Exit → Act → World → Prop}
theorem jl_none (i : Nat) {e : TypeId} {c N : Nat} {g : Nat → Nat} (hH : H[i]? = some (.vec e none c (tab N g))) (hl : 0 < N) : JL P n w0 old ops l F H Q := fun a w _ hI => by
  have := hA_vec (List.mem_of_getElem? hH) w hI rfl
  rw [tab_length] at this
  omega
end
/-! The small numbers, told by codes -/
/-! Where the first greatest one is -/
section
variable {n : Nat} {g h : Nat → Nat} {a b d : Int}
/-! Echoes of small numbers -/
/-! Sounds whose ends are softer -/
/-! How loud -/
end
end Go.Vx

namespace Go.Vx
open Ieee Go.RowKit
def frc {α : Type} (n : Nat) (f : Nat → α) : α := match n with | 0 => f 0 | k + 1 => f (k + 1)
theorem frc_eq {α : Type} (n : Nat) (f : Nat → α) : frc n f = f n := by cases n <;> rfl
theorem one_pos (k : FloatKind) : 0 < one_ k := by unfold one_; have := Nat.two_pow_pos (-k.format.leastPlace).toNat; omega
theorem fn_z : Fn .f32 0 := by decide
theorem fn_o : Fn .f32 1065353216 := by decide
theorem v0_32 : sval .f32 0 = 0 := by decide
end Go.Vx
