/- Laws on waves in tubes. -/
import Derived.Test.YteddfolpmmimiaaSu
namespace Go.Vx
open Ieee Go.RowKit
/-! ### Rounding errors of half a unit -/
theorem cut_half (n d : Nat) : 2 * (Toward.even.cut false n d * 2 ^ d) ≤ 2 * n + 2 ^ d ∧ 2 * n ≤ 2 * (Toward.even.cut false n d * 2 ^ d) + 2 ^ d := by
  unfold Toward.cut
  simp only [Nat.shiftLeft_eq, Nat.one_mul]
  by_cases hd : d ≤ n.log2 + 2
  · rw [Nat.min_eq_left hd]
    have hdm := Nat.div_add_mod n (2 ^ d)
    have hlt := Nat.mod_lt n (Nat.two_pow_pos d)
    cases hb : (decide (2 ^ d < 2 * (n % 2 ^ d)) || 2 ^ d == 2 * (n % 2 ^ d) && n / 2 ^ d % 2 == 1)
    · simp only [Bool.or_eq_false_iff, decide_eq_false_iff_not] at hb
      rw [Nat.add_mul, Bool.toNat_false, Nat.zero_mul, Nat.mul_comm (n / 2 ^ d)]
      omega
    · simp only [Bool.or_eq_true, decide_eq_true_eq, Bool.and_eq_true, beq_iff_eq] at hb
      rw [Nat.add_mul, Bool.toNat_true, Nat.one_mul, Nat.mul_comm (n / 2 ^ d)]
      omega
  · have hmin : min d (n.log2 + 2) = n.log2 + 2 := Nat.min_eq_right (by omega)
    rw [hmin]
    have hn : n < 2 ^ (n.log2 + 1) := Nat.lt_log2_self
    have h2 : 2 ^ (n.log2 + 2) = 2 * 2 ^ (n.log2 + 1) := by rw [Nat.pow_succ]; omega
    have h3 : 2 ^ (n.log2 + 2) ≤ 2 ^ d := Nat.pow_le_pow_right (by omega) (by omega)
    rw [Nat.div_eq_of_lt (show n < 2 ^ (n.log2 + 2) by omega), Nat.mod_eq_of_lt (show n < 2 ^ (n.log2 + 2) by omega)]
    have hb : (decide (2 ^ (n.log2 + 2) < 2 * n) || 2 ^ (n.log2 + 2) == 2 * n && 0 % 2 == 1) = false := by
      rw [Bool.or_eq_false_iff]
      exact ⟨decide_eq_false (by omega), by simp⟩
    rw [hb, Bool.toNat_false, Nat.zero_add, Nat.zero_mul]
    omega
theorem near_half (k : FloatKind) {m : Nat} {e c : Int} (hm : m ≠ 0) (hc1 : c ≤ e) (hc2 : c ≤ k.format.leastPlace) (hi : rungOf k m e < k.format.infRung) :
    2 * k.format.binade * (mg k.format.binade (rungOf k m e) * 2 ^ (k.format.leastPlace - c).toNat) ≤ (2 * k.format.binade + 1) * (m * 2 ^ (e - c).toNat) + k.format.binade * 2 ^ (k.format.leastPlace - c).toNat ∧
    2 * k.format.binade * (m * 2 ^ (e - c).toNat) ≤ 2 * k.format.binade * (mg k.format.binade (rungOf k m e) * 2 ^ (k.format.leastPlace - c).toNat) + m * 2 ^ (e - c).toNat + k.format.binade * 2 ^ (k.format.leastPlace - c).toNat := by
  have hBp := binade_pos k.format
  have hB : k.format.binade = 2 ^ k.format.fractionBits := rfl
  have hI := inf_lt_sign k
  generalize hL : k.format.leastPlace = L at *
  generalize hfb : k.format.fractionBits = fb at *
  let last : Int := max (e + (m.log2 : Int) - fb) L
  have hlast : L ≤ last := Int.le_max_right _ _
  have hlast2 : e + (m.log2 : Int) - fb ≤ last := Int.le_max_left _ _
  have hmlt : m < 2 ^ (m.log2 + 1) := Nat.lt_log2_self
  have hmge : 2 ^ m.log2 ≤ m := Nat.log2_self_le hm
  have hrung : rungOf k m e = min ((last - L).toNat * k.format.binade + Toward.even.cut false (m <<< (e - last).toNat) (last - e).toNat) k.format.infRung := by
    unfold rungOf Format.nearest
    rw [if_neg hm]
    simp only [hL, hfb]
    rw [show max (e + (m.log2 : Int) - (fb : Int)) L = last from rfl]
    exact rg_word (Nat.lt_of_le_of_lt (Nat.min_le_right _ _) hI)
  generalize hk : Toward.even.cut false (m <<< (e - last).toNat) (last - e).toNat = kept at hrung
  have hcut := cut_half (m <<< (e - last).toNat) (last - e).toNat
  rw [hk] at hcut
  have hr : rungOf k m e = (last - L).toNat * k.format.binade + kept := by omega
  generalize hM : m <<< (e - last).toNat = M at *
  generalize hd : (last - e).toNat = d at *
  have hpd := Nat.two_pow_pos d
  -- bounds of what is kept
  have hM2 : M < 2 * k.format.binade * 2 ^ d := by
    rw [← hM, Nat.shiftLeft_eq, hB, ← Nat.pow_succ', ← Nat.pow_add]
    calc m * 2 ^ (e - last).toNat < 2 ^ (m.log2 + 1) * 2 ^ (e - last).toNat := Nat.mul_lt_mul_of_pos_right hmlt (Nat.two_pow_pos _)
      _ = 2 ^ (m.log2 + 1 + (e - last).toNat) := (Nat.pow_add ..).symm
      _ ≤ 2 ^ (fb.succ + d) := Nat.pow_le_pow_right (by omega) (by omega)
  have hM1 : (last - L).toNat = 0 ∨ k.format.binade * 2 ^ d ≤ M := by
    by_cases hq : last = L
    · left; omega
    · right
      have h1 : last = e + (m.log2 : Int) - fb := by
        have : last = max (e + (m.log2 : Int) - fb) L := rfl
        omega
      rw [← hM, Nat.shiftLeft_eq, hB, ← Nat.pow_add]
      calc 2 ^ (fb + d) ≤ 2 ^ (m.log2 + (e - last).toNat) := Nat.pow_le_pow_right (by omega) (by omega)
        _ = 2 ^ m.log2 * 2 ^ (e - last).toNat := Nat.pow_add ..
        _ ≤ m * 2 ^ (e - last).toNat := Nat.mul_le_mul_right _ hmge
  have k1 : kept ≤ 2 * k.format.binade := by
    have h1 : 2 * (kept * 2 ^ d) < (4 * k.format.binade + 1) * 2 ^ d := by
      rw [Nat.add_mul, Nat.one_mul, show 4 * k.format.binade * 2 ^ d = 2 * (2 * k.format.binade * 2 ^ d) by rw [← Nat.mul_assoc, ← Nat.mul_assoc]]
      omega
    rw [← Nat.mul_assoc] at h1
    have := Nat.lt_of_mul_lt_mul_right h1
    omega
  have k2 : (last - L).toNat = 0 ∨ k.format.binade ≤ kept := by
    rcases hM1 with h | h
    · exact .inl h
    · right
      have h1 : 2 * k.format.binade * 2 ^ d ≤ (2 * kept + 1) * 2 ^ d := by
        rw [Nat.add_mul, Nat.one_mul, Nat.mul_assoc, Nat.mul_assoc]; omega
      have := Nat.le_of_mul_le_mul_right h1 hpd
      omega
  have hval : mg k.format.binade (rungOf k m e) * 2 ^ (L - c).toNat = kept * 2 ^ (last - c).toNat := by
    rw [hr, mg_unit hBp k1 k2, Nat.mul_assoc, ← Nat.pow_add]
    congr 2; omega
  rw [hval]
  have hW : 2 * (kept * 2 ^ (last - c).toNat) ≤ 2 * (m * 2 ^ (e - c).toNat) + 2 ^ (last - c).toNat ∧ 2 * (m * 2 ^ (e - c).toNat) ≤ 2 * (kept * 2 ^ (last - c).toNat) + 2 ^ (last - c).toNat := by
    rcases Int.le_total last e with hle | hle
    · have h0 : d = 0 := by omega
      subst h0
      simp only [Nat.pow_zero, Nat.mul_one] at hcut
      have h1 : kept = M := by omega
      have hw0 := Nat.two_pow_pos (last - c).toNat
      have h2 : M * 2 ^ (last - c).toNat = m * 2 ^ (e - c).toNat := by
        rw [← hM, Nat.shiftLeft_eq, Nat.mul_assoc, ← Nat.pow_add]
        congr 2; omega
      rw [h1, h2]; omega
    · have h0 : M = m := by rw [← hM, show (e - last).toNat = 0 by omega, Nat.shiftLeft_zero]
      have h2 : 2 ^ (last - c).toNat = 2 ^ d * 2 ^ (e - c).toNat := by rw [← Nat.pow_add]; congr 1; omega
      rw [h0] at hcut
      have c1 := Nat.mul_le_mul_right (2 ^ (e - c).toNat) hcut.1
      have c2 := Nat.mul_le_mul_right (2 ^ (e - c).toNat) hcut.2
      have e1 : 2 * (kept * 2 ^ d) * 2 ^ (e - c).toNat = 2 * (kept * (2 ^ d * 2 ^ (e - c).toNat)) := by ac_rfl
      rw [Nat.add_mul, e1, Nat.mul_assoc] at c1
      rw [Nat.add_mul, e1, Nat.mul_assoc 2 m] at c2
      rw [h2]
      exact ⟨c1, c2⟩
  have hrel : 2 ^ (last - c).toNat = 2 ^ (L - c).toNat ∨ k.format.binade * 2 ^ (last - c).toNat ≤ m * 2 ^ (e - c).toNat := by
    by_cases hq : last = L
    · left; rw [hq]
    · right
      have h1 : last = e + (m.log2 : Int) - fb := by
        have : last = max (e + (m.log2 : Int) - fb) L := rfl
        omega
      rw [hB, ← Nat.pow_add]
      calc 2 ^ (fb + (last - c).toNat) = 2 ^ (m.log2 + (e - c).toNat) := by congr 1; omega
        _ = 2 ^ m.log2 * 2 ^ (e - c).toNat := Nat.pow_add ..
        _ ≤ m * 2 ^ (e - c).toNat := Nat.mul_le_mul_right _ hmge
  generalize 2 ^ (last - c).toNat = w at *
  generalize 2 ^ (L - c).toNat = S at *
  generalize m * 2 ^ (e - c).toNat = V at *
  generalize kept * w = K at *
  generalize k.format.binade = B at *
  have m1 := Nat.mul_le_mul_left B hW.1
  have m2 := Nat.mul_le_mul_left B hW.2
  rw [Nat.mul_add, Nat.mul_left_comm, Nat.mul_left_comm B 2] at m1 m2
  have hBw : B * w ≤ V + B * S := by
    rcases hrel with h | h
    · rw [h]; omega
    · omega
  rw [Nat.add_mul, Nat.one_mul, Nat.mul_assoc, Nat.mul_assoc]
  omega
/-- The signed number, in units of its own. -/
theorem nearest_half {k : FloatKind} {s : Bool} {m : Nat} {e c : Int} (hc1 : c ≤ e) (hc2 : c ≤ k.format.leastPlace) (hi : Fn k (k.format.nearest s m e)) :
    2 * (k.format.binade : Int) * (sval k (k.format.nearest s m e) * (2 ^ (k.format.leastPlace - c).toNat : Nat) - signed s m (e - c).toNat) ≤ (signed s m (e - c).toNat).natAbs + (k.format.binade : Int) * (2 ^ (k.format.leastPlace - c).toNat : Nat) ∧
    2 * (k.format.binade : Int) * (signed s m (e - c).toNat - sval k (k.format.nearest s m e) * (2 ^ (k.format.leastPlace - c).toNat : Nat)) ≤ (signed s m (e - c).toNat).natAbs + (k.format.binade : Int) * (2 ^ (k.format.leastPlace - c).toNat : Nat) := by
  have hB := binade_pos k.format
  unfold Fn at hi
  rw [rg_nearest] at hi
  rw [sval_nearest, signed_eq]
  by_cases hm : m = 0
  · subst hm
    rw [rungOf_zero, mg_zero hB]
    cases s <;> simp <;> exact Int.mul_nonneg (Int.natCast_nonneg _) (by have := Nat.two_pow_pos (k.format.leastPlace - c).toNat; exact_mod_cast Nat.zero_le _)
  · obtain ⟨h1, h2⟩ := near_half k hm hc1 hc2 hi
    generalize 2 ^ (k.format.leastPlace - c).toNat = S at *
    generalize m * 2 ^ (e - c).toNat = V at *
    generalize mg k.format.binade (rungOf k m e) = x at *
    generalize k.format.binade = B at *
    have e1 : (2 * (B : Int)) * ((x : Int) * (S : Int)) = ((2 * B * (x * S) : Nat) : Int) := by simp
    have e2 : (2 * (B : Int)) * (V : Int) = ((2 * B * V : Nat) : Int) := by simp
    have e3 : (B : Int) * (S : Int) = ((B * S : Nat) : Int) := by simp
    rw [Nat.add_mul, Nat.one_mul] at h1
    cases s
    · simp only [Bool.false_eq_true, if_false]
      rw [Int.mul_sub, Int.mul_sub, e1, e2, e3]
      omega
    · simp only [if_true]
      rw [Int.mul_sub, Int.mul_sub, Int.neg_mul, Int.mul_neg, Int.mul_neg, e1, e2, e3]
      omega
/-! In 32 bits -/
theorem bin_32 : (FloatKind.f32.format.binade : Int) = 8388608 := by decide +kernel
theorem add_half {x y : Nat} (hx : Fn .f32 x) (hy : Fn .f32 y) (hz : Fn .f32 (farith .add .f32 x y)) :
    16777216 * (sval .f32 (farith .add .f32 x y) - (sval .f32 x + sval .f32 y)) ≤ (sval .f32 x + sval .f32 y).natAbs + 8388608 ∧ 16777216 * ((sval .f32 x + sval .f32 y) - sval .f32 (farith .add .f32 x y)) ≤ (sval .f32 x + sval .f32 y).natAbs + 8388608 := by
  obtain ⟨s, m, e, e1, e2, e3⟩ := add_val hx hy
  change Fn .f32 (fadd .f32 x y) at hz
  change 16777216 * (sval .f32 (fadd .f32 x y) - _) ≤ _ ∧ 16777216 * (_ - sval .f32 (fadd .f32 x y)) ≤ _
  rw [e1] at hz ⊢
  have h := nearest_half (c := FloatKind.f32.format.leastPlace) e2 (Int.le_refl _) hz
  rw [e3, bin_32, Int.sub_self] at h
  simpa using h
theorem sub_half {x y : Nat} (hx : Fn .f32 x) (hy : Fn .f32 y) (hz : Fn .f32 (farith .sub .f32 x y)) :
    16777216 * (sval .f32 (farith .sub .f32 x y) - (sval .f32 x - sval .f32 y)) ≤ (sval .f32 x - sval .f32 y).natAbs + 8388608 ∧ 16777216 * ((sval .f32 x - sval .f32 y) - sval .f32 (farith .sub .f32 x y)) ≤ (sval .f32 x - sval .f32 y).natAbs + 8388608 := by
  obtain ⟨s, m, e, e1, e2, e3⟩ := sub_val hx hy
  change Fn .f32 (fsub .f32 x y) at hz
  change 16777216 * (sval .f32 (fsub .f32 x y) - _) ≤ _ ∧ 16777216 * (_ - sval .f32 (fsub .f32 x y)) ≤ _
  rw [e1] at hz ⊢
  have h := nearest_half (c := FloatKind.f32.format.leastPlace) e2 (Int.le_refl _) hz
  rw [e3, bin_32, Int.sub_self] at h
  simpa using h
theorem mul_half {x y : Nat} (hx : Fn .f32 x) (hy : Fn .f32 y) (hz : Fn .f32 (farith .mul .f32 x y)) :
    16777216 * (sval .f32 (farith .mul .f32 x y) * one_ .f32 - sval .f32 x * sval .f32 y) ≤ (sval .f32 x * sval .f32 y).natAbs + 8388608 * one_ .f32 ∧ 16777216 * (sval .f32 x * sval .f32 y - sval .f32 (farith .mul .f32 x y) * one_ .f32) ≤ (sval .f32 x * sval .f32 y).natAbs + 8388608 * one_ .f32 := by
  obtain ⟨s, m, e, e1, e2, e3⟩ := mul_val hx hy
  change Fn .f32 (fmul .f32 x y) at hz
  change 16777216 * (sval .f32 (fmul .f32 x y) * _ - _) ≤ _ ∧ 16777216 * (_ - sval .f32 (fmul .f32 x y) * _) ≤ _
  rw [e1] at hz ⊢
  have h := nearest_half (c := FloatKind.f32.format.leastPlace + FloatKind.f32.format.leastPlace) e2 (by decide) hz
  rw [e3, bin_32, show (FloatKind.f32.format.leastPlace - (FloatKind.f32.format.leastPlace + FloatKind.f32.format.leastPlace)).toNat = (-FloatKind.f32.format.leastPlace).toNat from rfl] at h
  exact h
end Go.Vx

namespace Go.Vx
/-! ### Weighted sums of squares -/
def sm (f : Nat → Int) : Nat → Int
  | 0 => 0
  | n + 1 => sm f n + f n
theorem sm_first (f : Nat → Int) : ∀ n, sm f (n + 1) = f 0 + sm (fun i => f (i + 1)) n
  | 0 => by show 0 + f 0 = f 0 + 0; omega
  | n + 1 => by
    have := sm_first f n
    show sm f (n + 1) + f (n + 1) = f 0 + (sm (fun i => f (i + 1)) n + f (n + 1))
    omega
theorem sm_add (f g : Nat → Int) : ∀ n, sm (fun i => f i + g i) n = sm f n + sm g n
  | 0 => rfl
  | n + 1 => by
    have := sm_add f g n
    show sm (fun i => f i + g i) n + (f n + g n) = sm f n + f n + (sm g n + g n)
    omega
theorem sm_mul (c : Int) (f : Nat → Int) : ∀ n, sm (fun i => c * f i) n = c * sm f n
  | 0 => (Int.mul_zero c).symm
  | n + 1 => by
    have := sm_mul c f n
    show sm (fun i => c * f i) n + c * f n = c * (sm f n + f n)
    rw [this, Int.mul_add]
theorem sm_le {f g : Nat → Int} : ∀ n, (∀ i, i < n → f i ≤ g i) → sm f n ≤ sm g n
  | 0, _ => Int.le_refl _
  | n + 1, h => by
    have h1 := sm_le n (fun i hi => h i (by omega))
    have h2 := h n (by omega)
    show sm f n + f n ≤ sm g n + g n
    omega
theorem sm_congr {f g : Nat → Int} (n : Nat) (h : ∀ i, i < n → f i = g i) : sm f n = sm g n :=
  Int.le_antisymm (sm_le n fun i hi => Int.le_of_eq (h i hi)) (sm_le n fun i hi => Int.le_of_eq (h i hi).symm)
theorem sm_nn {f : Nat → Int} (n : Nat) (h : ∀ i, i < n → 0 ≤ f i) : 0 ≤ sm f n := by
  have h0 : sm (fun _ => 0) n = 0 := by
    induction n with
    | zero => rfl
    | succ n ih => show sm (fun _ => 0) n + 0 = 0; rw [ih fun i hi => h i (by omega)]; rfl
  have := sm_le (f := fun _ => 0) (g := f) n h
  omega
theorem sm_one {f : Nat → Int} {n i : Nat} (h : ∀ j, j < n → 0 ≤ f j) (hi : i < n) : f i ≤ sm f n := by
  induction n with
  | zero => omega
  | succ n ih =>
    show f i ≤ sm f n + f n
    have h1 := sm_nn n fun j hj => h j (by omega)
    have h2 := h n (by omega)
    by_cases e : i = n
    · rw [e]; omega
    · have := ih (fun j hj => h j (by omega)) (by omega)
      omega
theorem sq_nn (x : Int) : 0 ≤ x * x := by
  rcases Int.le_total 0 x with h | h
  · exact Int.mul_nonneg h h
  · have := Int.mul_nonneg_of_nonpos_of_nonpos h h; exact this
theorem sq_ab {x y : Int} (h1 : -y ≤ x) (h2 : x ≤ y) : x * x ≤ y * y := by
  have := (prod_bd (x := x) (y := x) (X := y) (Y := y) h1 h2 h1 h2).2
  exact this
/-- The energy of two rows. -/
def en (κ : Nat → Int) (R L : Nat → Int) (n : Nat) : Int := sm (fun i => κ i * (R i * R i) + κ i * (L i * L i)) n
section
variable {κ R L R' L' : Nat → Int} {n : Nat}
theorem en_nn (hk : ∀ i, i < n → 0 ≤ κ i) : 0 ≤ en κ R L n := sm_nn n fun i hi => Int.add_nonneg (Int.mul_nonneg (hk i hi) (sq_nn _)) (Int.mul_nonneg (hk i hi) (sq_nn _))
theorem en_le (hk : ∀ i, i < n → 0 ≤ κ i) (h : ∀ i, i < n → (-(R' i) ≤ R i ∧ R i ≤ R' i) ∧ (-(L' i) ≤ L i ∧ L i ≤ L' i)) : en κ R L n ≤ en κ R' L' n :=
  sm_le n fun i hi => Int.add_le_add (Int.mul_le_mul_of_nonneg_left (sq_ab (h i hi).1.1 (h i hi).1.2) (hk i hi)) (Int.mul_le_mul_of_nonneg_left (sq_ab (h i hi).2.1 (h i hi).2.2) (hk i hi))
theorem en_mul (c : Int) : en κ (fun i => c * R i) (fun i => c * L i) n = c * c * en κ R L n := by
  unfold en
  rw [← sm_mul]
  refine sm_congr n fun i _ => ?_
  show κ i * (c * R i * (c * R i)) + κ i * (c * L i * (c * L i)) = c * c * (κ i * (R i * R i) + κ i * (L i * L i))
  rw [Int.mul_add]
  congr 1 <;> ac_rfl
theorem abs_sq (x : Int) : (x.natAbs : Int) * (x.natAbs : Int) = x * x := by
  rcases Int.le_total 0 x with h | h
  · rw [Int.natAbs_of_nonneg h]
  · rw [Int.ofNat_natAbs_of_nonpos h, Int.neg_mul_neg]
theorem en_abs : en κ (fun i => ((R i).natAbs : Int)) (fun i => ((L i).natAbs : Int)) n = en κ R L n := by
  unfold en
  refine sm_congr n fun i _ => ?_
  show κ i * ((R i).natAbs * (R i).natAbs) + κ i * ((L i).natAbs * (L i).natAbs) = _
  rw [abs_sq, abs_sq]
theorem pair_sq (A B x y : Int) : A * B * ((x + y) * (x + y)) ≤ B * (A + B) * (x * x) + A * (A + B) * (y * y) := by
  have h := sq_nn (B * x - A * y)
  have e : B * (A + B) * (x * x) + A * (A + B) * (y * y) - A * B * ((x + y) * (x + y)) = (B * x - A * y) * (B * x - A * y) := by
    simp only [Int.mul_add, Int.add_mul, Int.mul_sub, Int.sub_mul]
    have e1 : B * A * (x * x) = A * B * (x * x) := by ac_rfl
    have e2 : A * B * (x * y) = A * B * (y * x) := by ac_rfl
    have e3 : B * x * (A * y) = A * B * (y * x) := by ac_rfl
    have e4 : A * y * (B * x) = A * B * (y * x) := by ac_rfl
    have e5 : B * x * (B * x) = B * B * (x * x) := by ac_rfl
    have e6 : A * y * (A * y) = A * A * (y * y) := by ac_rfl
    rw [e1, e2, e3, e4, e5, e6]
    omega
  omega
theorem mink {A B : Int} (hk : ∀ i, i < n → 0 ≤ κ i) (hA : 0 < A) (hB : 0 < B) (h1 : en κ R L n ≤ A * A) (h2 : en κ R' L' n ≤ B * B) : en κ (fun i => R i + R' i) (fun i => L i + L' i) n ≤ (A + B) * (A + B) := by
  have hAB := Int.mul_pos hA hB
  have key : A * B * en κ (fun i => R i + R' i) (fun i => L i + L' i) n ≤ B * (A + B) * en κ R L n + A * (A + B) * en κ R' L' n := by
    unfold en
    rw [← sm_mul, ← sm_mul, ← sm_mul, ← sm_add]
    refine sm_le n fun i hi => ?_
    have p1 := Int.mul_le_mul_of_nonneg_left (pair_sq A B (R i) (R' i)) (hk i hi)
    have p2 := Int.mul_le_mul_of_nonneg_left (pair_sq A B (L i) (L' i)) (hk i hi)
    have e1 : A * B * (κ i * ((R i + R' i) * (R i + R' i)) + κ i * ((L i + L' i) * (L i + L' i))) = κ i * (A * B * ((R i + R' i) * (R i + R' i))) + κ i * (A * B * ((L i + L' i) * (L i + L' i))) := by rw [Int.mul_add]; congr 1 <;> ac_rfl
    have e2 : B * (A + B) * (κ i * (R i * R i) + κ i * (L i * L i)) + A * (A + B) * (κ i * (R' i * R' i) + κ i * (L' i * L' i)) = κ i * (B * (A + B) * (R i * R i) + A * (A + B) * (R' i * R' i)) + κ i * (B * (A + B) * (L i * L i) + A * (A + B) * (L' i * L' i)) := by
      generalize A + B = s
      rw [Int.mul_add, Int.mul_add, Int.mul_add, Int.mul_add]
      have a1 : B * s * (κ i * (R i * R i)) = κ i * (B * s * (R i * R i)) := by ac_rfl
      have a2 : B * s * (κ i * (L i * L i)) = κ i * (B * s * (L i * L i)) := by ac_rfl
      have a3 : A * s * (κ i * (R' i * R' i)) = κ i * (A * s * (R' i * R' i)) := by ac_rfl
      have a4 : A * s * (κ i * (L' i * L' i)) = κ i * (A * s * (L' i * L' i)) := by ac_rfl
      rw [a1, a2, a3, a4]; omega
    rw [e1, e2]
    exact Int.add_le_add p1 p2
  have q1 := Int.mul_le_mul_of_nonneg_left h1 (show 0 ≤ B * (A + B) from Int.mul_nonneg (by omega) (by omega))
  have q2 := Int.mul_le_mul_of_nonneg_left h2 (show 0 ≤ A * (A + B) from Int.mul_nonneg (by omega) (by omega))
  refine Int.le_of_mul_le_mul_left (a := A * B) ?_ hAB
  have e : A * B * ((A + B) * (A + B)) = B * (A + B) * (A * A) + A * (A + B) * (B * B) := by
    have a1 : B * (A + B) * (A * A) = A * B * ((A + B) * A) := by ac_rfl
    have a2 : A * (A + B) * (B * B) = A * B * ((A + B) * B) := by ac_rfl
    rw [a1, a2, ← Int.mul_add, ← Int.mul_add]
  rw [e]
  omega
end
end Go.Vx

namespace Go.Vx
open Ieee Go.RowKit
/-! ### One junction of two sections -/
theorem psd {α β γ : Int} (h1 : 0 < α) (h2 : β * β ≤ α * γ) (R L : Int) : 0 ≤ α * (R * R) + 2 * (β * (R * L)) + γ * (L * L) := by
  have a := sq_nn (α * R + β * L)
  have b := Int.mul_nonneg (show 0 ≤ α * γ - β * β by omega) (sq_nn L)
  refine Int.le_of_mul_le_mul_left (a := α) ?_ h1
  rw [Int.mul_zero]
  have e : α * (α * (R * R) + 2 * (β * (R * L)) + γ * (L * L)) = (α * R + β * L) * (α * R + β * L) + (α * γ - β * β) * (L * L) := by
    simp only [Int.mul_add, Int.add_mul, Int.sub_mul]
    have e1 : α * R * (α * R) = α * (α * (R * R)) := by ac_rfl
    have e2 : α * R * (β * L) = α * (β * (R * L)) := by ac_rfl
    have e3 : β * L * (α * R) = α * (β * (R * L)) := by ac_rfl
    have e4 : β * L * (β * L) = β * β * (L * L) := by ac_rfl
    have e5 : α * (2 * (β * (R * L))) = 2 * (α * (β * (R * L))) := by ac_rfl
    have e6 : α * (γ * (L * L)) = α * γ * (L * L) := by ac_rfl
    rw [e1, e2, e3, e4, e5, e6]
    omega
  rw [e]; omega
def frcI (z : Int) (f : Int → Bool) : Bool := match z with | .ofNat n => frc n fun m => f (.ofNat m) | .negSucc n => frc n fun m => f (.negSucc m)
theorem frcI_eq (z : Int) (f : Int → Bool) : frcI z f = f z := by cases z <;> simp only [frcI, frc_eq]
def psdB (α β γ : Int) : Bool := decide (0 < α) && decide (β * β ≤ α * γ)
def E9 : Int := ((2 ^ 129 : Nat) : Int)
def jOk (a b : Nat) : Bool := frcI (sval .f32 (rfl2 (qA a) (qA b))) fun ρ => frcI (one_ .f32) fun T => frcI ((T + ρ) * (T + ρ)) fun pp => frcI ((T - ρ) * (T - ρ)) fun ss => frcI (ρ * ρ) fun rr => frcI (b * ((T + ρ) * ρ) - a * (ρ * (T - ρ))) fun β =>
  (psdB (T * (T + E9) * a - (b * pp + a * rr)) β (T * (T + E9) * b - (b * rr + a * ss)) && psdB (b * pp + a * rr - T * (T - E9) * a) (-β) (b * rr + a * ss - T * (T - E9) * b)) &&
  (psdB (2209 * (T * T) * a - 100 * ((a + b) * rr)) (100 * ((a + b) * rr)) (2209 * (T * T) * b - 100 * ((a + b) * rr)) && decide (-T ≤ ρ ∧ ρ ≤ T))
theorem j_tab : ((List.range 24).all fun a => (List.range 24).all fun b => jOk (a + 1) (b + 1)) = true := by decide +kernel
theorem j_at {a b : Nat} (ha : 1 ≤ a ∧ a ≤ 24) (hb : 1 ≤ b ∧ b ≤ 24) : jOk a b = true := by
  have h1 := List.all_eq_true.1 j_tab (a - 1) (List.mem_range.2 (by omega))
  have h2 := List.all_eq_true.1 h1 (b - 1) (List.mem_range.2 (by omega))
  rwa [show a - 1 + 1 = a by omega, show b - 1 + 1 = b by omega] at h2
theorem form_1 (a b ρ T R L : Int) : b * ((T * R + ρ * (R - L)) * (T * R + ρ * (R - L))) + a * ((T * L + ρ * (R - L)) * (T * L + ρ * (R - L))) =
    (b * ((T + ρ) * (T + ρ)) + a * (ρ * ρ)) * (R * R) + (b * (ρ * ρ) + a * ((T - ρ) * (T - ρ))) * (L * L) - 2 * ((b * ((T + ρ) * ρ) - a * (ρ * (T - ρ))) * (R * L)) := by
  have e1 : T * R + ρ * (R - L) = (T + ρ) * R - ρ * L := by rw [Int.mul_sub, Int.add_mul]; omega
  have e2 : T * L + ρ * (R - L) = ρ * R + (T - ρ) * L := by rw [Int.mul_sub, Int.sub_mul]; omega
  rw [e1, e2]
  generalize T + ρ = P
  generalize T - ρ = S
  have d1 : (P * R - ρ * L) * (P * R - ρ * L) = P * P * (R * R) - 2 * (P * ρ * (R * L)) + ρ * ρ * (L * L) := by
    simp only [Int.mul_sub, Int.sub_mul]
    have a1 : P * R * (P * R) = P * P * (R * R) := by ac_rfl
    have a2 : P * R * (ρ * L) = P * ρ * (R * L) := by ac_rfl
    have a3 : ρ * L * (P * R) = P * ρ * (R * L) := by ac_rfl
    have a4 : ρ * L * (ρ * L) = ρ * ρ * (L * L) := by ac_rfl
    rw [a1, a2, a3, a4]; omega
  have d2 : (ρ * R + S * L) * (ρ * R + S * L) = ρ * ρ * (R * R) + 2 * (ρ * S * (R * L)) + S * S * (L * L) := by
    simp only [Int.mul_add, Int.add_mul]
    have a1 : ρ * R * (ρ * R) = ρ * ρ * (R * R) := by ac_rfl
    have a2 : ρ * R * (S * L) = ρ * S * (R * L) := by ac_rfl
    have a3 : S * L * (ρ * R) = ρ * S * (R * L) := by ac_rfl
    have a4 : S * L * (S * L) = S * S * (L * L) := by ac_rfl
    rw [a1, a2, a3, a4]; omega
  rw [d1, d2]
  simp only [Int.mul_add, Int.mul_sub, Int.add_mul, Int.sub_mul]
  have m1 : b * (2 * (P * ρ * (R * L))) = 2 * (b * (P * ρ) * (R * L)) := by ac_rfl
  have m2 : a * (2 * (ρ * S * (R * L))) = 2 * (a * (ρ * S) * (R * L)) := by ac_rfl
  have m3 : b * (P * P * (R * R)) = b * (P * P) * (R * R) := by ac_rfl
  have m4 : b * (ρ * ρ * (L * L)) = b * (ρ * ρ) * (L * L) := by ac_rfl
  have m5 : a * (ρ * ρ * (R * R)) = a * (ρ * ρ) * (R * R) := by ac_rfl
  have m6 : a * (S * S * (L * L)) = a * (S * S) * (L * L) := by ac_rfl
  rw [m1, m2, m3, m4, m5, m6]
  omega
theorem alg_1 {q A B C a b X Y Z : Int} (U : 0 ≤ (q * a - A) * X + 2 * (C * Z) + (q * b - B) * Y) : A * X + B * Y - 2 * (C * Z) ≤ q * (a * X + b * Y) := by
  rw [Int.sub_mul, Int.sub_mul] at U
  rw [Int.mul_add, (Int.mul_assoc q a X).symm, (Int.mul_assoc q b Y).symm]
  omega
theorem alg_2 {q A B C a b X Y Z : Int} (D : 0 ≤ (A - q * a) * X + 2 * (-C * Z) + (B - q * b) * Y) : q * (a * X + b * Y) ≤ A * X + B * Y - 2 * (C * Z) := by
  rw [Int.sub_mul, Int.sub_mul, Int.neg_mul] at D
  rw [Int.mul_add, (Int.mul_assoc q a X).symm, (Int.mul_assoc q b Y).symm]
  omega
theorem alg_3 {q w s rr a b X Y Z E : Int} (hw : w = s * rr) (hE : E = rr * (X - 2 * Z + Y)) (U : 0 ≤ (q * a - 100 * w) * X + 2 * (100 * w * Z) + (q * b - 100 * w) * Y) : 100 * (s * E) ≤ q * (a * X + b * Y) := by
  have e : s * E = w * X - 2 * (w * Z) + w * Y := by
    rw [hE, ← Int.mul_assoc, ← hw, Int.mul_add, Int.mul_sub, Int.mul_left_comm w 2 Z]
  rw [Int.sub_mul, Int.sub_mul, Int.mul_assoc 100 w X, Int.mul_assoc 100 w Y, Int.mul_assoc 100 w Z] at U
  rw [e, Int.mul_add q, (Int.mul_assoc q a X).symm, (Int.mul_assoc q b Y).symm]
  omega
theorem j_all {a b : Nat} (ha : 1 ≤ a ∧ a ≤ 24) (hb : 1 ≤ b ∧ b ≤ 24) {ρ T : Int} (hρ : ρ = sval .f32 (rfl2 (qA a) (qA b))) (hT : T = one_ .f32) (R L : Int) :
    (b * ((T * R + ρ * (R - L)) * (T * R + ρ * (R - L))) + a * ((T * L + ρ * (R - L)) * (T * L + ρ * (R - L))) ≤ T * (T + E9) * (a * (R * R) + b * (L * L)) ∧
     T * (T - E9) * (a * (R * R) + b * (L * L)) ≤ b * ((T * R + ρ * (R - L)) * (T * R + ρ * (R - L))) + a * ((T * L + ρ * (R - L)) * (T * L + ρ * (R - L)))) ∧
    100 * ((a + b) * ((ρ * (R - L)) * (ρ * (R - L)))) ≤ 2209 * (T * T) * (a * (R * R) + b * (L * L)) ∧ -T ≤ ρ ∧ ρ ≤ T := by
  have h := j_at ha hb
  unfold jOk at h
  simp only [frcI_eq, psdB, Bool.and_eq_true, decide_eq_true_eq] at h
  rw [← hρ, ← hT] at h
  obtain ⟨⟨⟨u1, u2⟩, ⟨l1, l2⟩⟩, ⟨p1, p2⟩, r1, r2⟩ := h
  have U := psd u1 u2 R L
  have D := psd l1 l2 R L
  have X := psd p1 p2 R L
  refine ⟨⟨?_, ?_⟩, ?_, r1, r2⟩
  · rw [form_1]; exact alg_1 U
  · rw [form_1]; exact alg_2 D
  · refine alg_3 rfl ?_ X
    have e1 : ρ * (R - L) * (ρ * (R - L)) = ρ * ρ * ((R - L) * (R - L)) := by ac_rfl
    have e2 : (R - L) * (R - L) = R * R - 2 * (R * L) + L * L := by
      rw [Int.sub_mul, Int.mul_sub, Int.mul_sub, Int.mul_comm L R]; omega
    rw [e1, e2]
end Go.Vx

namespace Go.Vx
open Ieee Go.RowKit
/-! ### One step of waves: how far it is from the line -/
/-- A number that stands for another one but for half a unit. -/
def Hf (z x t : Int) : Prop := 16777216 * (z - x) ≤ x.natAbs + 8388608 * t ∧ 16777216 * (x - z) ≤ x.natAbs + 8388608 * t
theorem hf_mul {z x ρ T : Int} (h : Hf z x 1) (hr : -T ≤ ρ ∧ ρ ≤ T) : 16777216 * (ρ * z - ρ * x) ≤ (ρ * x).natAbs + 8388608 * T ∧ 16777216 * (ρ * x - ρ * z) ≤ (ρ * x).natAbs + 8388608 * T := by
  have hb : (16777216 * (z - x)).natAbs ≤ x.natAbs + 8388608 := by unfold Hf at h; omega
  have h1 : (ρ.natAbs : Int) * ((16777216 * (z - x)).natAbs : Int) ≤ (ρ.natAbs : Int) * ((x.natAbs : Int) + 8388608) := Int.mul_le_mul_of_nonneg_left (by omega) (by omega)
  have h2 : (ρ.natAbs : Int) * 8388608 ≤ T * 8388608 := Int.mul_le_mul_of_nonneg_right (by omega) (by omega)
  have e1 : (ρ.natAbs : Int) * ((16777216 * (z - x)).natAbs : Int) = ((16777216 * (ρ * z - ρ * x)).natAbs : Int) := by
    rw [← Int.natCast_mul, ← Int.natAbs_mul, Int.mul_left_comm, Int.mul_sub]
  have e2 : (ρ.natAbs : Int) * (x.natAbs : Int) = ((ρ * x).natAbs : Int) := by rw [← Int.natCast_mul, ← Int.natAbs_mul]
  rw [e1, Int.mul_add, e2] at h1
  omega
theorem hf_one {T z x : Int} (hT : 0 < T) (h : Hf z x 1) : 16777216 * (T * z - T * x) ≤ (T * x).natAbs + 8388608 * T ∧ 16777216 * (T * x - T * z) ≤ (T * x).natAbs + 8388608 * T := hf_mul h ⟨by omega, Int.le_refl _⟩
/-- An inner wave. -/
theorem inner_err {T ρ x s d R y : Int} (hT : 0 < T) (hr : -T ≤ ρ ∧ ρ ≤ T) (hs : Hf s x 1) (hd : Hf (d * T) (ρ * s) T) (hy : Hf y (R + d) 1) :
    ((1000 * 16777216 * (T * y - (T * R + ρ * x))).natAbs : Int) ≤ 1000 * (T * R + ρ * x).natAbs + 2002 * (ρ * x).natAbs + 68719476736 * T := by
  have f1 := hf_mul hs hr
  have f3 := hf_one hT hy
  unfold Hf at hd
  have e1 : T * (R + d) = T * R + d * T := by rw [Int.mul_add, Int.mul_comm T d]
  rw [e1] at f3
  generalize ρ * x = p at *
  generalize ρ * s = ps at *
  generalize d * T = dT at *
  generalize T * R = TR at *
  generalize T * y = Ty at *
  omega
/-- The waves at the ends. -/
theorem first_err {T τ L m x y : Int} (hT : 0 < T) (hm : Hf (m * T) (τ * L) T) (hy : Hf y (x + m) 1) :
    ((1000 * 16777216 * (T * y - (τ * L + T * x))).natAbs : Int) ≤ 1000 * (τ * L).natAbs + 1001 * (τ * L).natAbs + 1000 * (T * x).natAbs + 68719476736 * T := by
  have f3 := hf_one hT hy
  unfold Hf at hm
  have e1 : T * (x + m) = T * x + m * T := by rw [Int.mul_add, Int.mul_comm T m]
  rw [e1] at f3
  generalize τ * L = p at *
  generalize m * T = mT at *
  generalize T * x = Tx at *
  generalize T * y = Ty at *
  omega
theorem last_err {T lam R y : Int} (hT : 0 < T) (hy : Hf (y * T) (lam * R) T) : ((1000 * 16777216 * (T * y - lam * R)).natAbs : Int) ≤ 1000 * (lam * R).natAbs + 1001 * (lam * R).natAbs + 68719476736 * T := by
  unfold Hf at hy
  rw [Int.mul_comm y T] at hy
  generalize lam * R = p at *
  generalize T * y = Ty at *
  omega
end Go.Vx

namespace Go.Vx
/-! ### Norms of one step -/
section
variable (T τ lam : Int) (m : Nat) (ρ R L : Nat → Int)
def mR : Nat → Int := fun i => if i = 0 then τ * L 0 else T * R (i - 1) + ρ (i - 1) * (R (i - 1) - L i)
def mL : Nat → Int := fun i => if i = m then lam * R m else T * L (i + 1) + ρ i * (R i - L (i + 1))
def pR : Nat → Int := fun i => if i = 0 then 0 else ρ (i - 1) * (R (i - 1) - L i)
def pL : Nat → Int := fun i => if i = m then 0 else ρ i * (R i - L (i + 1))
def qR : Nat → Int := fun i => if i = 0 then τ * L 0 else 0
def qL : Nat → Int := fun i => if i = m then lam * R m else 0
def iR (x : Int) : Nat → Int := fun i => if i = 0 then x else 0
end
theorem en_cut (κ X Y : Nat → Int) (m : Nat) : en κ X Y (m + 1) = κ 0 * (X 0 * X 0) + κ m * (Y m * Y m) + sm (fun i => κ (i + 1) * (X (i + 1) * X (i + 1)) + κ i * (Y i * Y i)) m := by
  unfold en
  rw [sm_add, sm_first (fun i => κ i * (X i * X i)) m, sm_add]
  show _ + (sm (fun i => κ i * (Y i * Y i)) m + κ m * (Y m * Y m)) = _
  omega
theorem en_cut2 (κ R L : Nat → Int) (m : Nat) : en κ R L (m + 1) = κ m * (R m * R m) + κ 0 * (L 0 * L 0) + sm (fun i => κ i * (R i * R i) + κ (i + 1) * (L (i + 1) * L (i + 1))) m := by
  unfold en
  rw [sm_add, sm_first (fun i => κ i * (L i * L i)) m, sm_add]
  show sm (fun i => κ i * (R i * R i)) m + κ m * (R m * R m) + _ = _
  omega
/-- What is known of all junctions. -/
def Jn (T E : Int) (m : Nat) (κ ρ : Nat → Int) : Prop := ∀ i, i < m → ∀ R L : Int,
  (κ (i + 1) * ((T * R + ρ i * (R - L)) * (T * R + ρ i * (R - L))) + κ i * ((T * L + ρ i * (R - L)) * (T * L + ρ i * (R - L))) ≤ T * (T + E) * (κ i * (R * R) + κ (i + 1) * (L * L)) ∧
     T * (T - E) * (κ i * (R * R) + κ (i + 1) * (L * L)) ≤ κ (i + 1) * ((T * R + ρ i * (R - L)) * (T * R + ρ i * (R - L))) + κ i * ((T * L + ρ i * (R - L)) * (T * L + ρ i * (R - L)))) ∧
    100 * ((κ i + κ (i + 1)) * ((ρ i * (R - L)) * (ρ i * (R - L)))) ≤ 2209 * (T * T) * (κ i * (R * R) + κ (i + 1) * (L * L)) ∧ -T ≤ ρ i ∧ ρ i ≤ T
section
variable {T E τ lam : Int} {m : Nat} {κ ρ : Nat → Int}
theorem sq_scale {T τ a x : Int} (h1 : -T ≤ τ) (h2 : τ ≤ T) (ha : 0 ≤ a) : a * ((τ * x) * (τ * x)) ≤ T * T * (a * (x * x)) := by
  have e1 : a * ((τ * x) * (τ * x)) = τ * τ * (a * (x * x)) := by ac_rfl
  rw [e1]
  exact Int.mul_le_mul_of_nonneg_right (sq_ab h1 h2) (Int.mul_nonneg ha (sq_nn x))
theorem en_M (hT : 0 ≤ T) (hE : 0 ≤ E) (hk : ∀ i, i < m + 1 → 0 ≤ κ i) (hJ : Jn T E m κ ρ) (ht : -T ≤ τ ∧ τ ≤ T) (hl : -T ≤ lam ∧ lam ≤ T) (R L : Nat → Int) :
    en κ (mR T τ ρ R L) (mL T lam m ρ R L) (m + 1) ≤ T * (T + E) * en κ R L (m + 1) := by
  rw [en_cut, en_cut2, Int.mul_add, Int.mul_add, ← sm_mul]
  have hq : T * T ≤ T * (T + E) := Int.mul_le_mul_of_nonneg_left (by omega) hT
  have a1 : κ 0 * (mR T τ ρ R L 0 * mR T τ ρ R L 0) ≤ T * (T + E) * (κ 0 * (L 0 * L 0)) := by
    have := sq_scale (x := L 0) ht.1 ht.2 (hk 0 (by omega))
    exact Int.le_trans this (Int.mul_le_mul_of_nonneg_right hq (Int.mul_nonneg (hk 0 (by omega)) (sq_nn _)))
  have a2 : κ m * (mL T lam m ρ R L m * mL T lam m ρ R L m) ≤ T * (T + E) * (κ m * (R m * R m)) := by
    have := sq_scale (x := R m) hl.1 hl.2 (hk m (by omega))
    have e : mL T lam m ρ R L m = lam * R m := by unfold mL; rw [if_pos rfl]
    rw [e]
    exact Int.le_trans this (Int.mul_le_mul_of_nonneg_right hq (Int.mul_nonneg (hk m (by omega)) (sq_nn _)))
  have a3 : sm (fun i => κ (i + 1) * (mR T τ ρ R L (i + 1) * mR T τ ρ R L (i + 1)) + κ i * (mL T lam m ρ R L i * mL T lam m ρ R L i)) m ≤ sm (fun i => T * (T + E) * (κ i * (R i * R i) + κ (i + 1) * (L (i + 1) * L (i + 1)))) m := by
    refine sm_le m fun i hi => ?_
    have e1 : mR T τ ρ R L (i + 1) = T * R i + ρ i * (R i - L (i + 1)) := by unfold mR; rw [if_neg (by omega)]; rfl
    have e2 : mL T lam m ρ R L i = T * L (i + 1) + ρ i * (R i - L (i + 1)) := by unfold mL; rw [if_neg (by omega)]
    rw [e1, e2]
    exact (hJ i hi (R i) (L (i + 1))).1.1
  omega
theorem en_M_lo (hT : 0 ≤ T) (hE : 0 ≤ E) (hk : ∀ i, i < m + 1 → 0 ≤ κ i) (hJ : Jn T E m κ ρ) (ht : τ = T) (hl : lam = -T) (R L : Nat → Int) :
    T * (T - E) * en κ R L (m + 1) ≤ en κ (mR T τ ρ R L) (mL T lam m ρ R L) (m + 1) := by
  subst ht hl
  rw [en_cut2 κ R L m, en_cut, Int.mul_add, Int.mul_add, ← sm_mul]
  have hq : τ * (τ - E) ≤ τ * τ := Int.mul_le_mul_of_nonneg_left (by omega) hT
  have a1 : τ * (τ - E) * (κ 0 * (L 0 * L 0)) ≤ κ 0 * (mR τ τ ρ R L 0 * mR τ τ ρ R L 0) := by
    have e : κ 0 * (mR τ τ ρ R L 0 * mR τ τ ρ R L 0) = τ * τ * (κ 0 * (L 0 * L 0)) := by
      show κ 0 * ((τ * L 0) * (τ * L 0)) = _
      ac_rfl
    rw [e]
    exact Int.mul_le_mul_of_nonneg_right hq (Int.mul_nonneg (hk 0 (by omega)) (sq_nn _))
  have a2 : τ * (τ - E) * (κ m * (R m * R m)) ≤ κ m * (mL τ (-τ) m ρ R L m * mL τ (-τ) m ρ R L m) := by
    have e : mL τ (-τ) m ρ R L m = -τ * R m := by unfold mL; rw [if_pos rfl]
    have e2 : κ m * (-τ * R m * (-τ * R m)) = τ * τ * (κ m * (R m * R m)) := by
      rw [Int.neg_mul, Int.neg_mul_neg]; ac_rfl
    rw [e, e2]
    exact Int.mul_le_mul_of_nonneg_right hq (Int.mul_nonneg (hk m (by omega)) (sq_nn _))
  have a3 : sm (fun i => τ * (τ - E) * (κ i * (R i * R i) + κ (i + 1) * (L (i + 1) * L (i + 1)))) m ≤ sm (fun i => κ (i + 1) * (mR τ τ ρ R L (i + 1) * mR τ τ ρ R L (i + 1)) + κ i * (mL τ (-τ) m ρ R L i * mL τ (-τ) m ρ R L i)) m := by
    refine sm_le m fun i hi => ?_
    have e1 : mR τ τ ρ R L (i + 1) = τ * R i + ρ i * (R i - L (i + 1)) := by unfold mR; rw [if_neg (by omega)]; rfl
    have e2 : mL τ (-τ) m ρ R L i = τ * L (i + 1) + ρ i * (R i - L (i + 1)) := by unfold mL; rw [if_neg (by omega)]
    rw [e1, e2]
    exact (hJ i hi (R i) (L (i + 1))).1.2
  omega
theorem en_P (hT : 0 ≤ T) (hk : ∀ i, i < m + 1 → 0 ≤ κ i) (hJ : Jn T E m κ ρ) (R L : Nat → Int) :
    100 * en κ (pR ρ R L) (pL m ρ R L) (m + 1) ≤ 2209 * (T * T) * en κ R L (m + 1) := by
  rw [en_cut, en_cut2, Int.mul_add, Int.mul_add, Int.mul_add, Int.mul_add, ← sm_mul, ← sm_mul]
  have hTT : 0 ≤ 2209 * (T * T) := by have := Int.mul_nonneg hT hT; omega
  have a1 : κ 0 * (pR ρ R L 0 * pR ρ R L 0) = 0 := by show κ 0 * (0 * 0) = 0; simp
  have a2 : κ m * (pL m ρ R L m * pL m ρ R L m) = 0 := by
    have e : pL m ρ R L m = 0 := by unfold pL; rw [if_pos rfl]
    rw [e]; simp
  have b1 : 0 ≤ 2209 * (T * T) * (κ m * (R m * R m)) := Int.mul_nonneg hTT (Int.mul_nonneg (hk m (by omega)) (sq_nn _))
  have b2 : 0 ≤ 2209 * (T * T) * (κ 0 * (L 0 * L 0)) := Int.mul_nonneg hTT (Int.mul_nonneg (hk 0 (by omega)) (sq_nn _))
  have a3 : sm (fun i => 100 * (κ (i + 1) * (pR ρ R L (i + 1) * pR ρ R L (i + 1)) + κ i * (pL m ρ R L i * pL m ρ R L i))) m ≤ sm (fun i => 2209 * (T * T) * (κ i * (R i * R i) + κ (i + 1) * (L (i + 1) * L (i + 1)))) m := by
    refine sm_le m fun i hi => ?_
    have e1 : pR ρ R L (i + 1) = ρ i * (R i - L (i + 1)) := by unfold pR; rw [if_neg (by omega)]; rfl
    have e2 : pL m ρ R L i = ρ i * (R i - L (i + 1)) := by unfold pL; rw [if_neg (by omega)]
    rw [e1, e2, ← Int.add_mul, Int.add_comm (κ (i + 1))]
    exact (hJ i hi (R i) (L (i + 1))).2.1
  omega
theorem en_Q (hk : ∀ i, i < m + 1 → 0 ≤ κ i) (ht : -T ≤ τ ∧ τ ≤ T) (hl : -T ≤ lam ∧ lam ≤ T) (R L : Nat → Int) :
    en κ (qR τ L) (qL lam m R) (m + 1) ≤ T * T * en κ R L (m + 1) := by
  rw [en_cut, en_cut2, Int.mul_add, Int.mul_add, ← sm_mul]
  have a1 := sq_scale (x := L 0) ht.1 ht.2 (hk 0 (by omega))
  have a2 := sq_scale (x := R m) hl.1 hl.2 (hk m (by omega))
  have e : qL lam m R m = lam * R m := by unfold qL; rw [if_pos rfl]
  have a3 : sm (fun i => κ (i + 1) * (qR τ L (i + 1) * qR τ L (i + 1)) + κ i * (qL lam m R i * qL lam m R i)) m ≤ sm (fun i => T * T * (κ i * (R i * R i) + κ (i + 1) * (L (i + 1) * L (i + 1)))) m := by
    refine sm_le m fun i hi => ?_
    have e1 : qR τ L (i + 1) = 0 := by unfold qR; rw [if_neg (by omega)]
    have e2 : qL lam m R i = 0 := by unfold qL; rw [if_neg (by omega)]
    rw [e1, e2]
    have : 0 ≤ T * T * (κ i * (R i * R i) + κ (i + 1) * (L (i + 1) * L (i + 1))) := Int.mul_nonneg (sq_nn T) (Int.add_nonneg (Int.mul_nonneg (hk i (by omega)) (sq_nn _)) (Int.mul_nonneg (hk (i + 1) (by omega)) (sq_nn _)))
    simpa using this
  rw [e]
  show κ 0 * ((τ * L 0) * (τ * L 0)) + _ + _ ≤ _
  omega
theorem en_I (x : Int) : en κ (iR x) (fun _ => 0) (m + 1) = κ 0 * (x * x) := by
  rw [en_cut]
  have a3 : sm (fun i => κ (i + 1) * (iR x (i + 1) * iR x (i + 1)) + κ i * ((0 : Int) * 0)) m = 0 := by
    have : ∀ i, i < m → κ (i + 1) * (iR x (i + 1) * iR x (i + 1)) + κ i * ((0 : Int) * 0) = 0 * 0 := fun i _ => by
      have e : iR x (i + 1) = 0 := by unfold iR; rw [if_neg (by omega)]
      rw [e]; simp
    rw [sm_congr m this, sm_mul 0 (fun _ => 0), Int.zero_mul]
  show κ 0 * (x * x) + κ m * ((0 : Int) * 0) + _ = _
  rw [a3]; simp
end
end Go.Vx

namespace Go.Vx
theorem sq_cancel {a b K : Int} (hK : 0 < K) (h : K * K * a ≤ (K * b) * (K * b)) : a ≤ b * b := by
  have e : (K * b) * (K * b) = K * K * (b * b) := by ac_rfl
  rw [e] at h
  exact Int.le_of_mul_le_mul_left h (Int.mul_pos hK hK)
/-- The norm of a vector of which something is known, times a number. -/
theorem en_up {κ X Y : Nat → Int} {n : Nat} {c q N A : Int} (h : q * en κ X Y n ≤ N) (hq : 0 < q) (hc : c * c * N ≤ q * (A * A)) : en κ (fun i => c * ((X i).natAbs : Int)) (fun i => c * ((Y i).natAbs : Int)) n ≤ A * A := by
  rw [en_mul, en_abs]
  have h1 := Int.mul_le_mul_of_nonneg_left h (sq_nn c)
  refine Int.le_of_mul_le_mul_left (a := q) ?_ hq
  have e : q * (c * c * en κ X Y n) = c * c * (q * en κ X Y n) := by ac_rfl
  rw [e]; omega
theorem abs5 {σ a b c d e s x : Int} (hσ : 0 ≤ σ) (h : ((x).natAbs : Int) ≤ a + b + c + d + e) (hs : s = σ * a + σ * b + σ * c + σ * d + σ * e) : -s ≤ σ * x ∧ σ * x ≤ s := by
  have h1 := Int.mul_le_mul_of_nonneg_left h hσ
  have h2 : σ * x ≤ σ * (x.natAbs : Int) := Int.mul_le_mul_of_nonneg_left (by omega) hσ
  have h3 : σ * (-x) ≤ σ * (x.natAbs : Int) := Int.mul_le_mul_of_nonneg_left (by omega) hσ
  rw [Int.mul_neg] at h3
  rw [Int.mul_add, Int.mul_add, Int.mul_add, Int.mul_add] at h1
  omega
section
variable {T E τ lam σ ν b x : Int} {m : Nat} {κ ρ R L eR eL : Nat → Int}
def hE (ν b : Int) : Int := 11412 * ν + 1000 * b + 1
theorem err_norm (hT : 0 < T) (hE0 : 0 ≤ E) (hE2 : 1000000 * (T + E) ≤ 1002001 * T) (hk : ∀ i, i < m + 1 → 0 ≤ κ i) (hJ : Jn T E m κ ρ) (ht : -T ≤ τ ∧ τ ≤ T) (hl : -T ≤ lam ∧ lam ≤ T)
    (hσ : 0 < σ) (hν : 0 < ν) (hb : 0 < b) (hN : σ * σ * en κ R L (m + 1) ≤ (ν * T) * (ν * T)) (hI : σ * σ * (κ 0 * (x * x)) ≤ (b * T) * (b * T)) (hone : en κ (fun _ => 1) (fun _ => 1) (m + 1) ≤ 196) (hbig : 68719476736 * σ * 14 ≤ T)
    (heR : ∀ i, i < m + 1 → ((1000 * 16777216 * eR i).natAbs : Int) ≤ 1000 * (mR T τ ρ R L i).natAbs + 2002 * (pR ρ R L i).natAbs + 1001 * (qR τ L i).natAbs + 1000 * (T * iR x i).natAbs + 68719476736 * T)
    (heL : ∀ i, i < m + 1 → ((1000 * 16777216 * eL i).natAbs : Int) ≤ 1000 * (mL T lam m ρ R L i).natAbs + 2002 * (pL m ρ R L i).natAbs + 1001 * (qL lam m R i).natAbs + 68719476736 * T) :
    en κ (fun i => σ * (1000 * 16777216 * eR i)) (fun i => σ * (1000 * 16777216 * eL i)) (m + 1) ≤ (T * (T * hE ν b)) * (T * (T * hE ν b)) := by
  have hTT := Int.mul_pos hT hT
  have hνT := Int.mul_pos hν hT
  have v1 : en κ (fun i => σ * 1000 * ((mR T τ ρ R L i).natAbs : Int)) (fun i => σ * 1000 * ((mL T lam m ρ R L i).natAbs : Int)) (m + 1) ≤ (1001 * (T * (ν * T))) * (1001 * (T * (ν * T))) := by
    refine en_up (q := 1) (N := T * (T + E) * en κ R L (m + 1)) (by rw [Int.one_mul]; exact en_M (Int.le_of_lt hT) hE0 hk hJ ht hl R L) (by decide) ?_
    have h1 := Int.mul_le_mul_of_nonneg_left hN (show 0 ≤ T * (1000000 * (T + E)) from Int.mul_nonneg (by omega) (by omega))
    have h2 := Int.mul_le_mul_of_nonneg_right (Int.mul_le_mul_of_nonneg_left hE2 (Int.le_of_lt hT)) (sq_nn (ν * T))
    have e1 : σ * 1000 * (σ * 1000) * (T * (T + E) * en κ R L (m + 1)) = T * (1000000 * (T + E)) * (σ * σ * en κ R L (m + 1)) := by
      rw [show (1000000 : Int) = 1000 * 1000 from rfl]; ac_rfl
    have e2 : (1001 * (T * (ν * T))) * (1001 * (T * (ν * T))) = T * (1002001 * T) * (ν * T * (ν * T)) := by
      rw [show (1002001 : Int) = 1001 * 1001 from rfl]; ac_rfl
    rw [e1, Int.one_mul, e2]
    exact Int.le_trans h1 h2
  have v2 : en κ (fun i => σ * 2002 * ((pR ρ R L i).natAbs : Int)) (fun i => σ * 2002 * ((pL m ρ R L i).natAbs : Int)) (m + 1) ≤ (9410 * (T * (ν * T))) * (9410 * (T * (ν * T))) := by
    refine en_up (q := 100) (N := 2209 * (T * T) * en κ R L (m + 1)) (en_P (Int.le_of_lt hT) hk hJ R L) (by decide) ?_
    have h1 := Int.mul_le_mul_of_nonneg_left hN (show 0 ≤ 2002 * 2002 * 2209 * (T * T) from Int.mul_nonneg (by decide) (by omega))
    have h2 : 2002 * 2002 * 2209 * (T * T) * (ν * T * (ν * T)) ≤ 100 * 9410 * 9410 * (T * T) * (ν * T * (ν * T)) := Int.mul_le_mul_of_nonneg_right (Int.mul_le_mul_of_nonneg_right (by decide) (by omega)) (sq_nn _)
    have e1 : σ * 2002 * (σ * 2002) * (2209 * (T * T) * en κ R L (m + 1)) = 2002 * 2002 * 2209 * (T * T) * (σ * σ * en κ R L (m + 1)) := by ac_rfl
    have e2 : 100 * ((9410 * (T * (ν * T))) * (9410 * (T * (ν * T)))) = 100 * 9410 * 9410 * (T * T) * (ν * T * (ν * T)) := by ac_rfl
    rw [e1, e2]
    exact Int.le_trans h1 h2
  have v3 : en κ (fun i => σ * 1001 * ((qR τ L i).natAbs : Int)) (fun i => σ * 1001 * ((qL lam m R i).natAbs : Int)) (m + 1) ≤ (1001 * (T * (ν * T))) * (1001 * (T * (ν * T))) := by
    refine en_up (q := 1) (N := T * T * en κ R L (m + 1)) (by rw [Int.one_mul]; exact en_Q hk ht hl R L) (by decide) ?_
    have h1 := Int.mul_le_mul_of_nonneg_left hN (show 0 ≤ 1001 * 1001 * (T * T) from Int.mul_nonneg (by decide) (by omega))
    have e1 : σ * 1001 * (σ * 1001) * (T * T * en κ R L (m + 1)) = 1001 * 1001 * (T * T) * (σ * σ * en κ R L (m + 1)) := by ac_rfl
    have e2 : 1 * ((1001 * (T * (ν * T))) * (1001 * (T * (ν * T)))) = 1001 * 1001 * (T * T) * (ν * T * (ν * T)) := by rw [Int.one_mul]; ac_rfl
    rw [e1, e2]
    exact h1
  have v4 : en κ (fun i => σ * 1000 * ((T * iR x i).natAbs : Int)) (fun i => σ * 1000 * (((fun _ => (0 : Int)) i).natAbs : Int)) (m + 1) ≤ (1000 * (T * (b * T))) * (1000 * (T * (b * T))) := by
    have e0 : en κ (fun i => T * iR x i) (fun _ => (0 : Int)) (m + 1) = T * T * (κ 0 * (x * x)) := by
      have h1 := en_mul (κ := κ) (R := iR x) (L := fun _ => 0) (n := m + 1) T
      rw [en_I] at h1
      rw [← h1]
      simp
    refine en_up (X := fun i => T * iR x i) (Y := fun _ => (0 : Int)) (q := 1) (N := T * T * (κ 0 * (x * x))) (by rw [Int.one_mul, e0]; exact Int.le_refl _) (by decide) ?_
    have h1 := Int.mul_le_mul_of_nonneg_left hI (show 0 ≤ 1000 * 1000 * (T * T) from Int.mul_nonneg (by decide) (by omega))
    have e1 : σ * 1000 * (σ * 1000) * (T * T * (κ 0 * (x * x))) = 1000 * 1000 * (T * T) * (σ * σ * (κ 0 * (x * x))) := by ac_rfl
    have e2 : 1 * ((1000 * (T * (b * T))) * (1000 * (T * (b * T)))) = 1000 * 1000 * (T * T) * (b * T * (b * T)) := by rw [Int.one_mul]; ac_rfl
    rw [e1, e2]
    exact h1
  have v5 : en κ (fun _ => σ * 68719476736 * T * 1) (fun _ => σ * 68719476736 * T * 1) (m + 1) ≤ (T * T) * (T * T) := by
    rw [en_mul (κ := κ) (R := fun _ => 1) (L := fun _ => 1)]
    have h1 := Int.mul_le_mul_of_nonneg_left hone (sq_nn (σ * 68719476736 * T))
    have h2 : σ * 68719476736 * T * 14 ≤ T * T := by
      have := Int.mul_le_mul_of_nonneg_right hbig (Int.le_of_lt hT)
      have e : σ * 68719476736 * T * 14 = 68719476736 * σ * 14 * T := by ac_rfl
      rw [e]; exact this
    have h3 := sq_ab (x := σ * 68719476736 * T * 14) (y := T * T) (by have := Int.mul_nonneg (Int.mul_nonneg (Int.mul_nonneg (Int.le_of_lt hσ) (show (0 : Int) ≤ 68719476736 by decide)) (Int.le_of_lt hT)) (show (0 : Int) ≤ 14 by decide); omega) h2
    have e3 : σ * 68719476736 * T * 14 * (σ * 68719476736 * T * 14) = σ * 68719476736 * T * (σ * 68719476736 * T) * 196 := by rw [show (196 : Int) = 14 * 14 from rfl]; ac_rfl
    rw [e3] at h3
    exact Int.le_trans h1 h3
  have p1 := Int.mul_pos hT hνT
  have p2 := Int.mul_pos hT (Int.mul_pos hb hT)
  have m1 := mink hk (A := 1001 * (T * (ν * T))) (B := 9410 * (T * (ν * T))) (by omega) (by omega) v1 v2
  have m2 := mink hk (A := 1001 * (T * (ν * T)) + 9410 * (T * (ν * T))) (B := 1001 * (T * (ν * T))) (by omega) (by omega) m1 v3
  have m3 := mink hk (B := 1000 * (T * (b * T))) (by omega) (by omega) m2 v4
  have m4 := mink hk (B := T * T) (by omega) hTT m3 v5
  have e : 1001 * (T * (ν * T)) + 9410 * (T * (ν * T)) + 1001 * (T * (ν * T)) + 1000 * (T * (b * T)) + T * T = T * (T * hE ν b) := by
    unfold hE
    rw [Int.mul_add, Int.mul_add, Int.mul_add, Int.mul_add, Int.mul_one]
    have a1 : T * (ν * T) = T * (T * ν) := by ac_rfl
    have a2 : T * (b * T) = T * (T * b) := by ac_rfl
    have a3 : T * (T * (11412 * ν)) = 11412 * (T * (T * ν)) := by ac_rfl
    have a4 : T * (T * (1000 * b)) = 1000 * (T * (T * b)) := by ac_rfl
    rw [a1, a2, a3, a4]; omega
  rw [e] at m4
  refine Int.le_trans (en_le hk fun i hi => ⟨?_, ?_⟩) m4
  · refine abs5 (Int.le_of_lt hσ) (heR i hi) ?_
    show σ * 1000 * _ + σ * 2002 * _ + σ * 1001 * _ + σ * 1000 * _ + σ * 68719476736 * T * 1 = _
    rw [Int.mul_one]
    simp only [Int.mul_assoc]
  · refine abs5 (d := 1000 * ((0 : Int).natAbs : Int)) (Int.le_of_lt hσ) (by have := heL i hi; simpa using this) ?_
    show σ * 1000 * _ + σ * 2002 * _ + σ * 1001 * _ + σ * 1000 * _ + σ * 68719476736 * T * 1 = _
    rw [Int.mul_one]
    simp only [Int.mul_assoc]
end
end Go.Vx

namespace Go.Vx
theorem grow_sq {T E ν f : Int} (hT : 0 ≤ T) (hE : 0 ≤ E) (hE3 : 1000000 * E ≤ T) (hν : 0 ≤ ν) (hf : ν ≤ 1000000 * f) : (T + E) * (ν * ν) ≤ T * ((ν + f) * (ν + f)) := by
  have hf0 : 0 ≤ f := by omega
  have h1 : E * (ν * ν) ≤ E * (ν * (1000000 * f)) := Int.mul_le_mul_of_nonneg_left (Int.mul_le_mul_of_nonneg_left hf hν) hE
  have h2 : 1000000 * E * (ν * f) ≤ T * (ν * f) := Int.mul_le_mul_of_nonneg_right hE3 (Int.mul_nonneg hν hf0)
  have e1 : E * (ν * (1000000 * f)) = 1000000 * E * (ν * f) := by ac_rfl
  have e2 : (ν + f) * (ν + f) = ν * ν + 2 * (ν * f) + f * f := by rw [Int.add_mul, Int.mul_add, Int.mul_add, Int.mul_comm f ν]; omega
  have h3 := Int.mul_nonneg hT (Int.mul_nonneg hν hf0)
  have h4 := Int.mul_nonneg hT (sq_nn f)
  rw [e2, Int.mul_add, Int.mul_add, Int.add_mul, Int.mul_left_comm T 2]
  omega
theorem en_neg {κ X Y : Nat → Int} {n : Nat} : en κ (fun i => -X i) (fun i => -Y i) n = en κ X Y n := by
  unfold en
  exact sm_congr n fun i _ => by
    show κ i * (-X i * -X i) + κ i * (-Y i * -Y i) = _
    rw [Int.neg_mul_neg, Int.neg_mul_neg]
theorem en_congr {κ X Y X' Y' : Nat → Int} {n : Nat} (h : ∀ i, i < n → X i = X' i ∧ Y i = Y' i) : en κ X Y n = en κ X' Y' n := by
  unfold en
  exact sm_congr n fun i hi => by rw [(h i hi).1, (h i hi).2]
section
variable {T E τ lam σ ν b x : Int} {m : Nat} {κ ρ R L eR eL yR yL : Nat → Int}
def nxN (ν b : Int) : Int := ν + b + ν / 500000 + 2
theorem next_norm (hT : 0 < T) (hE0 : 0 ≤ E) (hE3 : 1000000 * E ≤ T) (hk : ∀ i, i < m + 1 → 0 ≤ κ i) (hJ : Jn T E m κ ρ) (ht : -T ≤ τ ∧ τ ≤ T) (hl : -T ≤ lam ∧ lam ≤ T)
    (hν : 0 < ν) (hb : 0 < b) (hb2 : b ≤ 5000000) (hN : σ * σ * en κ R L (m + 1) ≤ (ν * T) * (ν * T)) (hI : σ * σ * (κ 0 * (x * x)) ≤ (b * T) * (b * T))
    (he : en κ (fun i => σ * (1000 * 16777216 * eR i)) (fun i => σ * (1000 * 16777216 * eL i)) (m + 1) ≤ (T * (T * hE ν b)) * (T * (T * hE ν b)))
    (hyR : ∀ i, i < m + 1 → T * yR i = mR T τ ρ R L i + T * iR x i + eR i) (hyL : ∀ i, i < m + 1 → T * yL i = mL T lam m ρ R L i + eL i) :
    σ * σ * en κ yR yL (m + 1) ≤ (nxN ν b * T) * (nxN ν b * T) := by
  have hTT := Int.mul_pos hT hT
  have hd0 : 0 < ν + (ν / 1000000 + 1) := by have := Int.ediv_nonneg (Int.le_of_lt hν) (show (0 : Int) ≤ 1000000 by decide); omega
  have v1 : en κ (fun i => σ * 16777216000 * mR T τ ρ R L i) (fun i => σ * 16777216000 * mL T lam m ρ R L i) (m + 1) ≤ (16777216000 * (T * ((ν + (ν / 1000000 + 1)) * T))) * (16777216000 * (T * ((ν + (ν / 1000000 + 1)) * T))) := by
    rw [en_mul]
    have h1 := Int.mul_le_mul_of_nonneg_left (en_M (Int.le_of_lt hT) hE0 hk hJ ht hl R L) (sq_nn (σ * 16777216000))
    have h2 := Int.mul_le_mul_of_nonneg_left hN (show 0 ≤ 16777216000 * 16777216000 * (T * (T + E)) from Int.mul_nonneg (by decide) (Int.mul_nonneg (by omega) (by omega)))
    have h3 := Int.mul_le_mul_of_nonneg_left (grow_sq (f := ν / 1000000 + 1) (Int.le_of_lt hT) hE0 hE3 (Int.le_of_lt hν) (by omega)) (show 0 ≤ 16777216000 * 16777216000 * (T * (T * T)) from Int.mul_nonneg (by decide) (Int.mul_nonneg (by omega) (by omega)))
    have e1 : σ * 16777216000 * (σ * 16777216000) * (T * (T + E) * en κ R L (m + 1)) = 16777216000 * 16777216000 * (T * (T + E)) * (σ * σ * en κ R L (m + 1)) := by ac_rfl
    have e2 : 16777216000 * 16777216000 * (T * (T + E)) * (ν * T * (ν * T)) = 16777216000 * 16777216000 * (T * (T * T)) * ((T + E) * (ν * ν)) := by ac_rfl
    have e3 : (16777216000 * (T * ((ν + (ν / 1000000 + 1)) * T))) * (16777216000 * (T * ((ν + (ν / 1000000 + 1)) * T))) = 16777216000 * 16777216000 * (T * (T * T)) * (T * ((ν + (ν / 1000000 + 1)) * (ν + (ν / 1000000 + 1)))) := by ac_rfl
    rw [e3]
    rw [e1] at h1
    rw [e2] at h2
    exact Int.le_trans h1 (Int.le_trans h2 h3)
  have v2 : en κ (fun i => σ * 16777216000 * T * iR x i) (fun i => σ * 16777216000 * T * (fun _ => (0 : Int)) i) (m + 1) ≤ (16777216000 * (T * (b * T))) * (16777216000 * (T * (b * T))) := by
    rw [en_mul (κ := κ) (R := iR x) (L := fun _ => 0), en_I]
    have h1 := Int.mul_le_mul_of_nonneg_left hI (show 0 ≤ 16777216000 * 16777216000 * (T * T) from Int.mul_nonneg (by decide) (by omega))
    have e1 : σ * 16777216000 * T * (σ * 16777216000 * T) * (κ 0 * (x * x)) = 16777216000 * 16777216000 * (T * T) * (σ * σ * (κ 0 * (x * x))) := by ac_rfl
    have e2 : (16777216000 * (T * (b * T))) * (16777216000 * (T * (b * T))) = 16777216000 * 16777216000 * (T * T) * (b * T * (b * T)) := by ac_rfl
    rw [e1, e2]; exact h1
  have hh : 0 < hE ν b := by unfold hE; omega
  have p1 := Int.mul_pos hT (Int.mul_pos hd0 hT)
  have p2 := Int.mul_pos hT (Int.mul_pos hb hT)
  have p3 := Int.mul_pos hT (Int.mul_pos hT hh)
  have m1 := mink hk (by omega) (by omega) v1 v2
  have m2 := mink hk (by omega) p3 m1 he
  have e0 : en κ (fun i => 16777216000 * T * (σ * yR i)) (fun i => 16777216000 * T * (σ * yL i)) (m + 1) = en κ (fun i => (fun i => σ * 16777216000 * mR T τ ρ R L i + σ * 16777216000 * T * iR x i) i + σ * (1000 * 16777216 * eR i)) (fun i => (fun i => σ * 16777216000 * mL T lam m ρ R L i + σ * 16777216000 * T * (fun _ => (0 : Int)) i) i + σ * (1000 * 16777216 * eL i)) (m + 1) := by
    refine en_congr fun i hi => ⟨?_, ?_⟩
    · have a1 : 16777216000 * T * (σ * yR i) = σ * 16777216000 * (T * yR i) := by ac_rfl
      have a2 : σ * (1000 * 16777216 * eR i) = σ * 16777216000 * eR i := by rw [← Int.mul_assoc]; rfl
      show 16777216000 * T * (σ * yR i) = σ * 16777216000 * mR T τ ρ R L i + σ * 16777216000 * T * iR x i + σ * (1000 * 16777216 * eR i)
      rw [a1, hyR i hi, a2, Int.mul_add, Int.mul_add, ← Int.mul_assoc (σ * 16777216000) T]
    · have a1 : 16777216000 * T * (σ * yL i) = σ * 16777216000 * (T * yL i) := by ac_rfl
      have a2 : σ * (1000 * 16777216 * eL i) = σ * 16777216000 * eL i := by rw [← Int.mul_assoc]; rfl
      show 16777216000 * T * (σ * yL i) = σ * 16777216000 * mL T lam m ρ R L i + σ * 16777216000 * T * 0 + σ * (1000 * 16777216 * eL i)
      rw [a1, hyL i hi, a2, Int.mul_add, Int.mul_zero, Int.add_zero]
  rw [← e0, en_mul (κ := κ) (R := fun i => σ * yR i) (L := fun i => σ * yL i), en_mul] at m2
  have hS : 16777216000 * (T * ((ν + (ν / 1000000 + 1)) * T)) + 16777216000 * (T * (b * T)) + T * (T * hE ν b) ≤ 16777216000 * T * (nxN ν b * T) := by
    have a1 : T * ((ν + (ν / 1000000 + 1)) * T) = T * T * (ν + (ν / 1000000 + 1)) := by ac_rfl
    have a2 : T * (b * T) = T * T * b := by ac_rfl
    have a3 : T * (T * hE ν b) = T * T * hE ν b := (Int.mul_assoc ..).symm
    have a4 : 16777216000 * T * (nxN ν b * T) = T * T * (16777216000 * nxN ν b) := by ac_rfl
    rw [a1, a2, a3, a4, Int.mul_left_comm 16777216000, Int.mul_left_comm 16777216000, ← Int.mul_add, ← Int.mul_add]
    refine Int.mul_le_mul_of_nonneg_left ?_ (by omega)
    unfold hE nxN
    omega
  have hS0 : 0 ≤ 16777216000 * (T * ((ν + (ν / 1000000 + 1)) * T)) + 16777216000 * (T * (b * T)) + T * (T * hE ν b) := by omega
  have h5 := sq_ab (x := 16777216000 * (T * ((ν + (ν / 1000000 + 1)) * T)) + 16777216000 * (T * (b * T)) + T * (T * hE ν b)) (by omega) hS
  exact sq_cancel (K := 16777216000 * T) (by omega) (Int.le_trans m2 h5)
/-- How far sums go apart in one step. -/
theorem sup_step {c hz hu hv : Int} {zR zL uR uL vR vL dR dL : Nat → Int} (hT : 0 < T) (hE0 : 0 ≤ E) (hE3 : 1000000 * E ≤ T) (hk : ∀ i, i < m + 1 → 0 ≤ κ i) (hJ : Jn T E m κ ρ) (ht : -T ≤ τ ∧ τ ≤ T) (hl : -T ≤ lam ∧ lam ≤ T)
    (hc : 0 < c) (hz0 : 0 < hz) (hu0 : 0 < hu) (hv0 : 0 < hv) (hd : en κ (fun i => σ * (1000 * 16777216 * eR i)) (fun i => σ * (1000 * 16777216 * eL i)) (m + 1) ≤ (T * c) * (T * c))
    (h1 : en κ (fun i => σ * (1000 * 16777216 * zR i)) (fun i => σ * (1000 * 16777216 * zL i)) (m + 1) ≤ (T * (T * hz)) * (T * (T * hz)))
    (h2 : en κ (fun i => σ * (1000 * 16777216 * uR i)) (fun i => σ * (1000 * 16777216 * uL i)) (m + 1) ≤ (T * (T * hu)) * (T * (T * hu)))
    (h3 : en κ (fun i => σ * (1000 * 16777216 * vR i)) (fun i => σ * (1000 * 16777216 * vL i)) (m + 1) ≤ (T * (T * hv)) * (T * (T * hv)))
    (hR : ∀ i, i < m + 1 → T * dR i = mR T τ ρ eR eL i + zR i - uR i - vR i) (hL : ∀ i, i < m + 1 → T * dL i = mL T lam m ρ eR eL i + zL i - uL i - vL i) :
    en κ (fun i => σ * (1000 * 16777216 * dR i)) (fun i => σ * (1000 * 16777216 * dL i)) (m + 1) ≤ (T * (c + (c / 1000000 + 1) + hz + hu + hv)) * (T * (c + (c / 1000000 + 1) + hz + hu + hv)) := by
  have hTT := Int.mul_pos hT hT
  have hd0 : 0 < c + (c / 1000000 + 1) := by have := Int.ediv_nonneg (Int.le_of_lt hc) (show (0 : Int) ≤ 1000000 by decide); omega
  have e1 : ∀ X : Int, σ * (1000 * 16777216 * X) = σ * 16777216000 * X := fun X => by rw [← Int.mul_assoc]; rfl
  have v1 : en κ (fun i => σ * 16777216000 * mR T τ ρ eR eL i) (fun i => σ * 16777216000 * mL T lam m ρ eR eL i) (m + 1) ≤ (T * (T * (c + (c / 1000000 + 1)))) * (T * (T * (c + (c / 1000000 + 1)))) := by
    rw [en_mul]
    have a1 := Int.mul_le_mul_of_nonneg_left (en_M (Int.le_of_lt hT) hE0 hk hJ ht hl eR eL) (sq_nn (σ * 16777216000))
    simp only [e1] at hd
    rw [en_mul] at hd
    have a2 := Int.mul_le_mul_of_nonneg_left hd (show 0 ≤ T * (T + E) from Int.mul_nonneg (by omega) (by omega))
    have a3 := Int.mul_le_mul_of_nonneg_left (grow_sq (f := c / 1000000 + 1) (Int.le_of_lt hT) hE0 hE3 (Int.le_of_lt hc) (by omega)) (show 0 ≤ T * (T * T) from Int.mul_nonneg (by omega) (by omega))
    have b1 : σ * 16777216000 * (σ * 16777216000) * (T * (T + E) * en κ eR eL (m + 1)) = T * (T + E) * (σ * 16777216000 * (σ * 16777216000) * en κ eR eL (m + 1)) := by ac_rfl
    have b2 : T * (T + E) * (T * c * (T * c)) = T * (T * T) * ((T + E) * (c * c)) := by ac_rfl
    have b3 : (T * (T * (c + (c / 1000000 + 1)))) * (T * (T * (c + (c / 1000000 + 1)))) = T * (T * T) * (T * ((c + (c / 1000000 + 1)) * (c + (c / 1000000 + 1)))) := by ac_rfl
    rw [b3]
    rw [b1] at a1
    rw [b2] at a2
    exact Int.le_trans a1 (Int.le_trans a2 a3)
  have p1 := Int.mul_pos hT (Int.mul_pos hT hd0)
  have p2 := Int.mul_pos hT (Int.mul_pos hT hz0)
  have p3 := Int.mul_pos hT (Int.mul_pos hT hu0)
  have p4 := Int.mul_pos hT (Int.mul_pos hT hv0)
  rw [← en_neg] at h2 h3
  have m1 := mink hk p1 p2 v1 h1
  have m2 := mink hk (by omega) p3 m1 h2
  have m3 := mink hk (by omega) p4 m2 h3
  have e0 : en κ (fun i => T * (σ * (1000 * 16777216 * dR i))) (fun i => T * (σ * (1000 * 16777216 * dL i))) (m + 1) = en κ (fun i => σ * 16777216000 * mR T τ ρ eR eL i + σ * (1000 * 16777216 * zR i) + -(σ * (1000 * 16777216 * uR i)) + -(σ * (1000 * 16777216 * vR i))) (fun i => σ * 16777216000 * mL T lam m ρ eR eL i + σ * (1000 * 16777216 * zL i) + -(σ * (1000 * 16777216 * uL i)) + -(σ * (1000 * 16777216 * vL i))) (m + 1) := by
    refine en_congr fun i hi => ⟨?_, ?_⟩
    · simp only [e1]
      have a1 : T * (σ * 16777216000 * dR i) = σ * 16777216000 * (T * dR i) := by ac_rfl
      rw [a1, hR i hi, Int.mul_sub, Int.mul_sub, Int.mul_add]; omega
    · simp only [e1]
      have a1 : T * (σ * 16777216000 * dL i) = σ * 16777216000 * (T * dL i) := by ac_rfl
      rw [a1, hL i hi, Int.mul_sub, Int.mul_sub, Int.mul_add]; omega
  rw [← e0, en_mul (κ := κ) (R := fun i => σ * (1000 * 16777216 * dR i)) (L := fun i => σ * (1000 * 16777216 * dL i))] at m3
  refine sq_cancel hT (Int.le_trans m3 (Int.le_of_eq ?_))
  have e2 : T * (T * (c + (c / 1000000 + 1))) + T * (T * hz) + T * (T * hu) + T * (T * hv) = T * (T * (c + (c / 1000000 + 1) + hz + hu + hv)) := by
    rw [← Int.mul_add, ← Int.mul_add, ← Int.mul_add, ← Int.mul_add, ← Int.mul_add, ← Int.mul_add]
  rw [e2]
end
end Go.Vx

namespace Go.Vx
open Ieee Go.RowKit
/-! ### One step of waves in floats -/
theorem t_cs : (0 ≤ E9 ∧ 1000000 * (one_ .f32 + E9) ≤ 1002001 * one_ .f32 ∧ 1000000 * E9 ≤ one_ .f32) ∧ (Fn .f32 1140850688 ∧ Fn .f32 3288334336 ∧ sval .f32 1140850688 = 512 * one_ .f32 ∧ sval .f32 3288334336 = -(512 * one_ .f32)) ∧ (Fn .f32 1149239296 ∧ Fn .f32 3296722944 ∧ sval .f32 1149239296 = 1024 * one_ .f32 ∧ sval .f32 3296722944 = -(1024 * one_ .f32)) := by decide +kernel
theorem jn_of {m : Nat} {g κ : Nat → Nat} (hκ : ∀ j, j < m + 1 → (1 ≤ κ j ∧ κ j ≤ 24) ∧ g j = qA (κ j)) : Jn (one_ .f32) E9 m (fun i => (κ i : Int)) (fun i => sval .f32 (reflG g i)) := fun i hi R L => by
  obtain ⟨h1, e1⟩ := hκ i (by omega)
  obtain ⟨h2, e2⟩ := hκ (i + 1) (by omega)
  exact j_all h1 h2 (by show sval .f32 (reflG g i) = _; rw [refl_2, e1, e2]) rfl R L
theorem t_200 : Fn .f32 1128792064 ∧ Fn .f32 3276275712 ∧ sval .f32 1128792064 = 200 * one_ .f32 ∧ sval .f32 3276275712 = -(200 * one_ .f32) := by decide +kernel
theorem sq_le_abs {x y : Int} (hy : 0 ≤ y) (h : x * x ≤ y * y) : -y ≤ x ∧ x ≤ y := by
  have key : ∀ a : Int, 0 ≤ a → a * a ≤ y * y → a ≤ y := fun a ha h => by
    rcases Int.lt_or_le y a with h1 | h1
    · have h2 := Int.mul_lt_mul_of_pos_left h1 (show 0 < a by omega)
      have h3 := Int.mul_le_mul_of_nonneg_right (Int.le_of_lt h1) hy
      omega
    · exact h1
  rcases Int.le_total 0 x with h0 | h0
  · have := key x h0 h; omega
  · have := key (-x) (by omega) (by rw [Int.neg_mul_neg]; exact h); omega
theorem ent_le {κ R L : Nat → Int} {n i : Nat} {σ ν T : Int} (hk : ∀ j, j < n → 1 ≤ κ j) (hσ : 0 < σ) (hT : 0 < T) (hν : 0 < ν) (hc : ν ≤ 200 * σ) (hN : σ * σ * en κ R L n ≤ (ν * T) * (ν * T)) (hi : i < n) : (-(200 * T) ≤ R i ∧ R i ≤ 200 * T) ∧ (-(200 * T) ≤ L i ∧ L i ≤ 200 * T) := by
  have h0 : ∀ j, j < n → 0 ≤ κ j * (R j * R j) + κ j * (L j * L j) := fun j hj => Int.add_nonneg (Int.mul_nonneg (by have := hk j hj; omega) (sq_nn _)) (Int.mul_nonneg (by have := hk j hj; omega) (sq_nn _))
  have h1 : κ i * (R i * R i) + κ i * (L i * L i) ≤ en κ R L n := sm_one h0 hi
  have hκ := hk i hi
  have key : ∀ x : Int, x * x ≤ en κ R L n → -(200 * T) ≤ x ∧ x ≤ 200 * T := fun x hx => by
    have h2 := Int.mul_le_mul_of_nonneg_left hx (sq_nn σ)
    have h3 : (σ * x) * (σ * x) ≤ (ν * T) * (ν * T) := by
      have e : (σ * x) * (σ * x) = σ * σ * (x * x) := by ac_rfl
      rw [e]; exact Int.le_trans h2 hN
    have h4 := sq_le_abs (Int.le_of_lt (Int.mul_pos hν hT)) h3
    have h5 : ν * T ≤ 200 * σ * T := Int.mul_le_mul_of_nonneg_right hc (Int.le_of_lt hT)
    have e5 : 200 * σ * T = σ * (200 * T) := by ac_rfl
    rw [e5] at h5
    constructor
    · refine Int.le_of_mul_le_mul_left (a := σ) ?_ hσ
      rw [Int.mul_neg]; omega
    · refine Int.le_of_mul_le_mul_left (a := σ) ?_ hσ
      omega
  have a1 := sq_nn (R i)
  have a2 := sq_nn (L i)
  have b1 : R i * R i ≤ κ i * (R i * R i) := by have := Int.mul_le_mul_of_nonneg_right hκ a1; omega
  have b2 : L i * L i ≤ κ i * (L i * L i) := by have := Int.mul_le_mul_of_nonneg_right hκ a2; omega
  exact ⟨key _ (by omega), key _ (by omega)⟩
section
attribute [local irreducible] farith sval one_ Fn E9
def W200 (x : Nat) : Prop := Fn .f32 x ∧ -(200 * one_ .f32) ≤ sval .f32 x ∧ sval .f32 x ≤ 200 * one_ .f32
theorem hf_of1 {z x : Int} (h : 16777216 * (z - x) ≤ x.natAbs + 8388608 ∧ 16777216 * (x - z) ≤ x.natAbs + 8388608) : Hf z x 1 := by unfold Hf; omega
theorem inner_fl {R L r : Nat} (hR : W200 R) (hL : W200 L) (hr : Fn .f32 r) (hr1 : -one_ .f32 ≤ sval .f32 r ∧ sval .f32 r ≤ one_ .f32) :
    (Hf (sval .f32 (farith .sub .f32 R L)) (sval .f32 R - sval .f32 L) 1 ∧ Hf (sval .f32 (farith .mul .f32 r (farith .sub .f32 R L)) * one_ .f32) (sval .f32 r * sval .f32 (farith .sub .f32 R L)) (one_ .f32)) ∧
    (∀ x, W200 x → Fn .f32 (farith .add .f32 x (farith .mul .f32 r (farith .sub .f32 R L))) ∧ Hf (sval .f32 (farith .add .f32 x (farith .mul .f32 r (farith .sub .f32 R L)))) (sval .f32 x + sval .f32 (farith .mul .f32 r (farith .sub .f32 R L))) 1) := by
  obtain ⟨_, ⟨c1, c2, c3, c4⟩, ⟨d1, d2, d3, d4⟩⟩ := t_cs
  obtain ⟨a1, a2, a3⟩ := hR
  obtain ⟨b1, b2, b3⟩ := hL
  have hT := one_pos .f32
  obtain ⟨s1, s2, s3⟩ := sub_bd a1 b1 c2 c1 (by rw [c4]; omega) (by rw [c3]; omega)
  rw [c4] at s2
  rw [c3] at s3
  have hs := sub_half a1 b1 s1
  generalize farith .sub .f32 R L = s at *
  have hp := prod_bd (x := sval .f32 r) (y := sval .f32 s) (X := one_ .f32) (Y := 512 * one_ .f32) hr1.1 hr1.2 s2 s3
  rw [Int.mul_comm (one_ .f32)] at hp
  obtain ⟨m1, m2, m3⟩ := mul_bd hr s1 c2 c1 (by rw [c4, Int.neg_mul]; exact hp.1) (by rw [c3]; exact hp.2)
  rw [c4] at m2
  rw [c3] at m3
  have hd := mul_half hr s1 m1
  generalize farith .mul .f32 r s = d at *
  refine ⟨⟨hf_of1 hs, hd⟩, fun x hx => ?_⟩
  obtain ⟨x1, x2, x3⟩ := hx
  obtain ⟨y1, _⟩ := add_bd x1 m1 d2 d1 (by rw [d4]; omega) (by rw [d3]; omega)
  exact ⟨y1, hf_of1 (add_half x1 m1 y1)⟩
theorem end_fl {p x : Nat} (hx : W200 x) (hp : Fn .f32 p) (hp1 : -one_ .f32 ≤ sval .f32 p ∧ sval .f32 p ≤ one_ .f32) : W200 (farith .mul .f32 p x) ∧ Hf (sval .f32 (farith .mul .f32 p x) * one_ .f32) (sval .f32 p * sval .f32 x) (one_ .f32) := by
  obtain ⟨c1, c2, c3, c4⟩ := t_200
  obtain ⟨x1, x2, x3⟩ := hx
  have hT := one_pos .f32
  have hq := prod_bd (x := sval .f32 p) (y := sval .f32 x) (X := one_ .f32) (Y := 200 * one_ .f32) hp1.1 hp1.2 x2 x3
  rw [Int.mul_comm (one_ .f32)] at hq
  obtain ⟨m1, m2, m3⟩ := mul_bd hp x1 c2 c1 (by rw [c4, Int.neg_mul]; exact hq.1) (by rw [c3]; exact hq.2)
  rw [c4] at m2
  rw [c3] at m3
  exact ⟨⟨m1, m2, m3⟩, mul_half hp x1 m1⟩
theorem sum_fl {x y : Nat} (hx : W200 x) (hy : W200 y) : Fn .f32 (farith .add .f32 x y) ∧ Hf (sval .f32 (farith .add .f32 x y)) (sval .f32 x + sval .f32 y) 1 := by
  obtain ⟨_, ⟨c1, c2, c3, c4⟩, _⟩ := t_cs
  obtain ⟨x1, x2, x3⟩ := hx
  obtain ⟨y1, y2, y3⟩ := hy
  have hT := one_pos .f32
  obtain ⟨z1, _⟩ := add_bd x1 y1 c2 c1 (by rw [c4]; omega) (by rw [c3]; omega)
  exact ⟨z1, hf_of1 (add_half x1 y1 z1)⟩
theorem loss_v {r : Nat → Nat} {i : Nat} (h : Fn .f32 (r i)) : Fn .f32 (lossG 1065353216 r i) ∧ sval .f32 (lossG 1065353216 r i) = sval .f32 (r i) := by
  have h1 : sval .f32 1065353216 = one_ .f32 := one_32
  have := mul_bd fn_o h h h (by rw [h1, Int.mul_comm]; exact Int.le_refl _) (by rw [h1, Int.mul_comm]; exact Int.le_refl _)
  exact ⟨this.1, Int.le_antisymm this.2.2 this.2.1⟩
end
/-- One step: what comes out is finite, and near the line. -/
def vR (r : Nat → Nat) : Nat → Int := fun i => sval .f32 (r i)
section
attribute [local irreducible] farith sval one_ Fn E9
theorem step_fl {m : Nat} {g κ r q : Nat → Nat} {t p x : Nat} {σ ν : Int} (hκ : ∀ j, j < m + 1 → (1 ≤ κ j ∧ κ j ≤ 24) ∧ g j = qA (κ j)) (ht : Fn .f32 t ∧ -one_ .f32 ≤ sval .f32 t ∧ sval .f32 t ≤ one_ .f32) (hp : Fn .f32 p ∧ -one_ .f32 ≤ sval .f32 p ∧ sval .f32 p ≤ one_ .f32) (hx : W200 x)
    (hσ : 0 < σ) (hν : 0 < ν) (hc : ν ≤ 200 * σ) (hf : ∀ i, i < m + 1 → Fn .f32 (r i) ∧ Fn .f32 (q i)) (hN : σ * σ * en (fun i => (κ i : Int)) (vR r) (vR q) (m + 1) ≤ (ν * one_ .f32) * (ν * one_ .f32)) :
    (∀ i, i < m + 1 → Fn .f32 (outR g (lossG 1065353216 r) (lossG 1065353216 q) t x i) ∧ Fn .f32 (outL (m + 1) g (lossG 1065353216 r) (lossG 1065353216 q) p i)) ∧
    (∀ i, i < m + 1 → ((1000 * 16777216 * (one_ .f32 * vR (outR g (lossG 1065353216 r) (lossG 1065353216 q) t x) i - (mR (one_ .f32) (sval .f32 t) (vR (reflG g)) (vR r) (vR q) i + one_ .f32 * iR (sval .f32 x) i))).natAbs : Int) ≤ 1000 * (mR (one_ .f32) (sval .f32 t) (vR (reflG g)) (vR r) (vR q) i).natAbs + 2002 * (pR (vR (reflG g)) (vR r) (vR q) i).natAbs + 1001 * (qR (sval .f32 t) (vR q) i).natAbs + 1000 * (one_ .f32 * iR (sval .f32 x) i).natAbs + 68719476736 * one_ .f32) ∧
    (∀ i, i < m + 1 → ((1000 * 16777216 * (one_ .f32 * vR (outL (m + 1) g (lossG 1065353216 r) (lossG 1065353216 q) p) i - mL (one_ .f32) (sval .f32 p) m (vR (reflG g)) (vR r) (vR q) i)).natAbs : Int) ≤ 1000 * (mL (one_ .f32) (sval .f32 p) m (vR (reflG g)) (vR r) (vR q) i).natAbs + 2002 * (pL m (vR (reflG g)) (vR r) (vR q) i).natAbs + 1001 * (qL (sval .f32 p) m (vR r) i).natAbs + 68719476736 * one_ .f32) := by
  have hT := one_pos .f32
  have hk : ∀ j, j < m + 1 → (1 : Int) ≤ (κ j : Int) := fun j hj => by have := (hκ j hj).1.1; omega
  have hJ := jn_of hκ
  have ent := fun i hi => ent_le (i := i) hk hσ hT hν hc hN hi
  have wr : ∀ i, i < m + 1 → W200 (lossG 1065353216 r i) ∧ sval .f32 (lossG 1065353216 r i) = vR r i := fun i hi => by
    obtain ⟨l1, l2⟩ := loss_v (hf i hi).1
    exact ⟨⟨l1, by rw [l2]; exact (ent i hi).1.1, by rw [l2]; exact (ent i hi).1.2⟩, l2⟩
  have wq : ∀ i, i < m + 1 → W200 (lossG 1065353216 q i) ∧ sval .f32 (lossG 1065353216 q i) = vR q i := fun i hi => by
    obtain ⟨l1, l2⟩ := loss_v (hf i hi).2
    exact ⟨⟨l1, by rw [l2]; exact (ent i hi).2.1, by rw [l2]; exact (ent i hi).2.2⟩, l2⟩
  generalize lossG 1065353216 r = r' at *
  generalize lossG 1065353216 q = q' at *
  have inn : ∀ j, j < m → (Fn .f32 (inR g r' q' j) ∧ ((1000 * 16777216 * (one_ .f32 * sval .f32 (inR g r' q' j) - (one_ .f32 * vR r j + vR (reflG g) j * (vR r j - vR q (j + 1))))).natAbs : Int) ≤ 1000 * (one_ .f32 * vR r j + vR (reflG g) j * (vR r j - vR q (j + 1))).natAbs + 2002 * (vR (reflG g) j * (vR r j - vR q (j + 1))).natAbs + 68719476736 * one_ .f32) ∧
      (Fn .f32 (inL g r' q' j) ∧ ((1000 * 16777216 * (one_ .f32 * sval .f32 (inL g r' q' j) - (one_ .f32 * vR q (j + 1) + vR (reflG g) j * (vR r j - vR q (j + 1))))).natAbs : Int) ≤ 1000 * (one_ .f32 * vR q (j + 1) + vR (reflG g) j * (vR r j - vR q (j + 1))).natAbs + 2002 * (vR (reflG g) j * (vR r j - vR q (j + 1))).natAbs + 68719476736 * one_ .f32) := fun j hj => by
    obtain ⟨w1, v1⟩ := wr j (by omega)
    obtain ⟨w2, v2⟩ := wq (j + 1) (by omega)
    have hr1 := (hJ j hj 0 0).2.2
    have hrf : Fn .f32 (reflG g j) := by
      obtain ⟨a1, a2⟩ := hκ j (by omega)
      obtain ⟨b1, b2⟩ := hκ (j + 1) (by omega)
      have := okR_all (a := g j) (b := g (j + 1)) ⟨_, a1, a2⟩ ⟨_, b1, b2⟩
      unfold okR at this
      simp only [Bool.and_eq_true] at this
      exact fn_fin.2 this.1.1.1
    obtain ⟨⟨f1, f2⟩, f3⟩ := inner_fl w1 w2 hrf hr1
    obtain ⟨y1, y2⟩ := f3 _ w1
    obtain ⟨z1, z2⟩ := f3 _ w2
    have i1 := inner_err hT hr1 f1 f2 y2
    have i2 := inner_err hT hr1 f1 f2 z2
    rw [v1, v2] at i1 i2
    exact ⟨⟨y1, i1⟩, z1, i2⟩
  obtain ⟨e1, e2⟩ := end_fl (wq 0 (by omega)).1 ht.1 ht.2
  obtain ⟨e3, e4⟩ := sum_fl hx e1
  have i3 := first_err hT e2 e4
  rw [(wq 0 (by omega)).2] at i3
  obtain ⟨e5, e6⟩ := end_fl (wr m (by omega)).1 hp.1 hp.2
  have i4 := last_err hT e6
  rw [(wr m (by omega)).2] at i4
  refine ⟨fun i hi => ⟨?_, ?_⟩, fun i hi => ?_, fun i hi => ?_⟩
  · unfold outR
    split
    · exact e3
    · exact (inn (i - 1) (by omega)).1.1
  · unfold outL
    split
    · exact e5.1
    · exact (inn i (by omega)).2.1
  · by_cases h0 : i = 0
    · subst h0
      have a1 : vR (outR g r' q' t x) 0 = sval .f32 (farith .add .f32 x (farith .mul .f32 t (q' 0))) := rfl
      have a2 : mR (one_ .f32) (sval .f32 t) (vR (reflG g)) (vR r) (vR q) 0 = sval .f32 t * vR q 0 := rfl
      have a3 : iR (sval .f32 x) 0 = sval .f32 x := rfl
      have a4 : qR (sval .f32 t) (vR q) 0 = sval .f32 t * vR q 0 := rfl
      have a5 : pR (vR (reflG g)) (vR r) (vR q) 0 = 0 := rfl
      rw [a1, a2, a3, a4, a5]
      generalize (sval .f32 t * vR q 0).natAbs = u at *
      omega
    · obtain ⟨j, rfl⟩ : ∃ j, i = j + 1 := ⟨i - 1, by omega⟩
      have a1 : vR (outR g r' q' t x) (j + 1) = sval .f32 (inR g r' q' j) := rfl
      have a2 : mR (one_ .f32) (sval .f32 t) (vR (reflG g)) (vR r) (vR q) (j + 1) = one_ .f32 * vR r j + vR (reflG g) j * (vR r j - vR q (j + 1)) := rfl
      have a3 : iR (sval .f32 x) (j + 1) = 0 := rfl
      have a4 : qR (sval .f32 t) (vR q) (j + 1) = 0 := rfl
      have a5 : pR (vR (reflG g)) (vR r) (vR q) (j + 1) = vR (reflG g) j * (vR r j - vR q (j + 1)) := rfl
      rw [a1, a2, a3, a4, a5, Int.mul_zero, Int.add_zero]
      have := (inn j (by omega)).1.2
      omega
  · by_cases h0 : i = m
    · subst h0
      have a1 : vR (outL (i + 1) g r' q' p) i = sval .f32 (farith .mul .f32 p (r' i)) := by
        show sval .f32 (if i = i + 1 - 1 then _ else _) = _
        rw [if_pos (by omega)]; rfl
      have a2 : mL (one_ .f32) (sval .f32 p) i (vR (reflG g)) (vR r) (vR q) i = sval .f32 p * vR r i := by unfold mL; rw [if_pos rfl]
      have a4 : qL (sval .f32 p) i (vR r) i = sval .f32 p * vR r i := by unfold qL; rw [if_pos rfl]
      have a5 : pL i (vR (reflG g)) (vR r) (vR q) i = 0 := by unfold pL; rw [if_pos rfl]
      rw [a1, a2, a4, a5]
      omega
    · have a1 : vR (outL (m + 1) g r' q' p) i = sval .f32 (inL g r' q' i) := by
        show sval .f32 (if i = m + 1 - 1 then _ else _) = _
        rw [if_neg (by omega)]
      have a2 : mL (one_ .f32) (sval .f32 p) m (vR (reflG g)) (vR r) (vR q) i = one_ .f32 * vR q (i + 1) + vR (reflG g) i * (vR r i - vR q (i + 1)) := by unfold mL; rw [if_neg h0]
      have a4 : qL (sval .f32 p) m (vR r) i = 0 := by unfold qL; rw [if_neg h0]
      have a5 : pL m (vR (reflG g)) (vR r) (vR q) i = vR (reflG g) i * (vR r i - vR q (i + 1)) := by unfold pL; rw [if_neg h0]
      rw [a1, a2, a4, a5]
      have := (inn i (by omega)).2.2
      omega
end
end Go.Vx

namespace Go.Vx
open Ieee Go.RowKit
/-! ### Runs of waves -/
theorem en_ones {κ : Nat → Int} {n : Nat} (hn : n ≤ 4) (hk : ∀ i, i < n → κ i ≤ 24) : en κ (fun _ => 1) (fun _ => 1) n ≤ 196 := by
  have h1 : en κ (fun _ => 1) (fun _ => 1) n ≤ sm (fun _ => 48 * 1) n := sm_le n fun i hi => by
    have := hk i hi
    show κ i * (1 * 1) + κ i * (1 * 1) ≤ 48 * 1
    omega
  have h2 : ∀ k : Nat, sm (fun _ => 48 * 1) k = 48 * (k : Int) := fun k => by
    induction k with
    | zero => rfl
    | succ k ih => show sm (fun _ => 48 * 1) k + 48 * 1 = _; rw [ih]; omega
  rw [h2] at h1
  omega
theorem self_err3 (a b c : Int) : a = b + c + (a - (b + c)) := by omega
theorem self_err2 (a b : Int) : a = b + (a - b) := by omega
def nuN (ν0 b : Int) : Nat → Int
  | 0 => ν0
  | k + 1 => nxN (nuN ν0 b k) b
section
variable (n : Nat) (g : Nat → Nat) (t p : Nat) (r q f : Nat → Nat)
def Sk (k : Nat) : (Nat → Nat) × (Nat → Nat) := wst n g 1065353216 t p r q f k
def eRk (k : Nat) : Nat → Int := fun i => one_ .f32 * vR (Sk n g t p r q f (k + 1)).1 i - (mR (one_ .f32) (sval .f32 t) (vR (reflG g)) (vR (Sk n g t p r q f k).1) (vR (Sk n g t p r q f k).2) i + one_ .f32 * iR (sval .f32 (f k)) i)
def eLk (k : Nat) : Nat → Int := fun i => one_ .f32 * vR (Sk n g t p r q f (k + 1)).2 i - mL (one_ .f32) (sval .f32 p) (n - 1) (vR (reflG g)) (vR (Sk n g t p r q f k).1) (vR (Sk n g t p r q f k).2) i
end
/-- What is asked of a run's beginning. -/
structure Ru (m : Nat) (g κ : Nat → Nat) (t p : Nat) (r q f : Nat → Nat) (σ ν0 b : Int) (K : Nat) : Prop where
  areas : ∀ j, j < m + 1 → (1 ≤ κ j ∧ κ j ≤ 24) ∧ g j = qA (κ j)
  four : m + 1 ≤ 4
  ends : (Fn .f32 t ∧ -one_ .f32 ≤ sval .f32 t ∧ sval .f32 t ≤ one_ .f32) ∧ (Fn .f32 p ∧ -one_ .f32 ≤ sval .f32 p ∧ sval .f32 p ≤ one_ .f32)
  scale : 0 < σ ∧ 68719476736 * σ * 14 ≤ one_ .f32
  small : 0 < b ∧ b ≤ 5000000
  cap : ∀ k, k ≤ K → 0 < nuN ν0 b k ∧ nuN ν0 b k ≤ 200 * σ
  fin0 : ∀ i, i < m + 1 → Fn .f32 (r i) ∧ Fn .f32 (q i)
  norm0 : σ * σ * en (fun i => (κ i : Int)) (vR r) (vR q) (m + 1) ≤ (ν0 * one_ .f32) * (ν0 * one_ .f32)
  input : ∀ k, k < K → W200 (f k) ∧ σ * σ * ((κ 0 : Int) * (sval .f32 (f k) * sval .f32 (f k))) ≤ (b * one_ .f32) * (b * one_ .f32)
section
attribute [local irreducible] farith sval one_ Fn E9
variable {m : Nat} {g κ : Nat → Nat} {t p : Nat} {r q f : Nat → Nat} {σ ν0 b : Int} {K : Nat}
theorem ru_kp (h : Ru m g κ t p r q f σ ν0 b K) : ∀ i, i < m + 1 → (0 : Int) ≤ (κ i : Int) := fun i hi => by have := (h.areas i hi).1; omega
theorem run_step (h : Ru m g κ t p r q f σ ν0 b K) {k : Nat} (hk : k < K) (hf : ∀ i, i < m + 1 → Fn .f32 ((Sk (m + 1) g t p r q f k).1 i) ∧ Fn .f32 ((Sk (m + 1) g t p r q f k).2 i))
    (hN : σ * σ * en (fun i => (κ i : Int)) (vR (Sk (m + 1) g t p r q f k).1) (vR (Sk (m + 1) g t p r q f k).2) (m + 1) ≤ (nuN ν0 b k * one_ .f32) * (nuN ν0 b k * one_ .f32)) :
    ((∀ i, i < m + 1 → Fn .f32 ((Sk (m + 1) g t p r q f (k + 1)).1 i) ∧ Fn .f32 ((Sk (m + 1) g t p r q f (k + 1)).2 i)) ∧
     σ * σ * en (fun i => (κ i : Int)) (vR (Sk (m + 1) g t p r q f (k + 1)).1) (vR (Sk (m + 1) g t p r q f (k + 1)).2) (m + 1) ≤ (nuN ν0 b (k + 1) * one_ .f32) * (nuN ν0 b (k + 1) * one_ .f32)) ∧
    en (fun i => (κ i : Int)) (fun i => σ * (1000 * 16777216 * eRk (m + 1) g t p r q f k i)) (fun i => σ * (1000 * 16777216 * eLk (m + 1) g t p r q f k i)) (m + 1) ≤ (one_ .f32 * (one_ .f32 * hE (nuN ν0 b k) b)) * (one_ .f32 * (one_ .f32 * hE (nuN ν0 b k) b)) := by
  obtain ⟨⟨c1, c2, c3⟩, _⟩ := t_cs
  have hT := one_pos .f32
  have hJ := jn_of h.areas
  obtain ⟨n1, n2⟩ := h.cap k (Nat.le_of_lt hk)
  obtain ⟨x1, x2⟩ := h.input k hk
  obtain ⟨s1, s2, s3⟩ := step_fl (x := f k) h.areas h.ends.1 h.ends.2 x1 h.scale.1 n1 n2 hf hN
  have hkp := ru_kp h
  have hone := en_ones (κ := fun i => (κ i : Int)) h.four (fun i hi => by have := (h.areas i hi).1; show (κ i : Int) ≤ 24; omega)
  have E := err_norm hT c1 c2 hkp hJ h.ends.1.2 h.ends.2.2 h.scale.1 n1 h.small.1 hN x2 hone h.scale.2 s2 s3
  refine ⟨⟨s1, ?_⟩, E⟩
  exact next_norm hT c1 c3 hkp hJ h.ends.1.2 h.ends.2.2 n1 h.small.1 h.small.2 hN x2 E (fun _ _ => self_err3 _ _ _) (fun _ _ => self_err2 _ _)
theorem run_all (h : Ru m g κ t p r q f σ ν0 b K) : ∀ k, k ≤ K → (∀ i, i < m + 1 → Fn .f32 ((Sk (m + 1) g t p r q f k).1 i) ∧ Fn .f32 ((Sk (m + 1) g t p r q f k).2 i)) ∧
     σ * σ * en (fun i => (κ i : Int)) (vR (Sk (m + 1) g t p r q f k).1) (vR (Sk (m + 1) g t p r q f k).2) (m + 1) ≤ (nuN ν0 b k * one_ .f32) * (nuN ν0 b k * one_ .f32)
  | 0, _ => ⟨h.fin0, h.norm0⟩
  | k + 1, hk => by
    have ih := run_all h k (by omega)
    exact (run_step h hk ih.1 ih.2).1
theorem run_err (h : Ru m g κ t p r q f σ ν0 b K) {k : Nat} (hk : k < K) : en (fun i => (κ i : Int)) (fun i => σ * (1000 * 16777216 * eRk (m + 1) g t p r q f k i)) (fun i => σ * (1000 * 16777216 * eLk (m + 1) g t p r q f k i)) (m + 1) ≤ (one_ .f32 * (one_ .f32 * hE (nuN ν0 b k) b)) * (one_ .f32 * (one_ .f32 * hE (nuN ν0 b k) b)) :=
  (run_step h hk (run_all h k (Nat.le_of_lt hk)).1 (run_all h k (Nat.le_of_lt hk)).2).2
theorem run_200 (h : Ru m g κ t p r q f σ ν0 b K) {k i : Nat} (hk : k ≤ K) (hi : i < m + 1) : W200 ((Sk (m + 1) g t p r q f k).1 i) ∧ W200 ((Sk (m + 1) g t p r q f k).2 i) := by
  obtain ⟨a, c⟩ := run_all h k hk
  have hkk : ∀ j, j < m + 1 → (1 : Int) ≤ (κ j : Int) := fun j hj => by have := (h.areas j hj).1.1; omega
  obtain ⟨n1, n2⟩ := h.cap k hk
  have := ent_le hkk h.scale.1 (one_pos .f32) n1 n2 c hi
  exact ⟨⟨(a i hi).1, this.1⟩, (a i hi).2, this.2⟩
end
/-! ### Sums of waves -/
section
variable {T τ lam : Int} {m : Nat} {ρ R L R' L' R'' L'' : Nat → Int}
theorem mR_lin (i : Nat) : mR T τ ρ R L i - mR T τ ρ R' L' i - mR T τ ρ R'' L'' i = mR T τ ρ (fun j => R j - R' j - R'' j) (fun j => L j - L' j - L'' j) i := by
  unfold mR
  split
  · simp only [Int.mul_sub]
  · simp only [Int.mul_sub]; omega
theorem mL_lin (i : Nat) : mL T lam m ρ R L i - mL T lam m ρ R' L' i - mL T lam m ρ R'' L'' i = mL T lam m ρ (fun j => R j - R' j - R'' j) (fun j => L j - L' j - L'' j) i := by
  unfold mL
  split
  · simp only [Int.mul_sub]
  · simp only [Int.mul_sub]; omega
end
def R0 : Nat → Int := fun _ => 0
def cN (νz bz νu bu νv bv : Int) : Nat → Int
  | 0 => 1
  | k + 1 => cN νz bz νu bu νv bv k + (cN νz bz νu bu νv bv k / 1000000 + 1) + hE (nuN νz bz k) bz + hE (nuN νu bu k) bu + hE (nuN νv bv k) bv
section
attribute [local irreducible] farith sval one_ Fn E9
variable {m : Nat} {g κ : Nat → Nat} {t p : Nat} {r q ru qu rv qv f fv : Nat → Nat} {σ νz bz νu bu νv bv : Int} {K : Nat}
theorem sup_all (hz : Ru m g κ t p r q f σ νz bz K) (hu : Ru m g κ t p ru qu f σ νu bu K) (hv : Ru m g κ t p rv qv fv σ νv bv K) (h0 : ∀ i, i < m + 1 → vR r i - vR ru i - vR rv i = 0 ∧ vR q i - vR qu i - vR qv i = 0) (hfv : ∀ k, k < K → sval .f32 (fv k) = 0) :
    ∀ k, k ≤ K → 0 < cN νz bz νu bu νv bv k ∧ en (fun i => (κ i : Int)) (fun i => σ * (1000 * 16777216 * (vR (Sk (m + 1) g t p r q f k).1 i - vR (Sk (m + 1) g t p ru qu f k).1 i - vR (Sk (m + 1) g t p rv qv fv k).1 i))) (fun i => σ * (1000 * 16777216 * (vR (Sk (m + 1) g t p r q f k).2 i - vR (Sk (m + 1) g t p ru qu f k).2 i - vR (Sk (m + 1) g t p rv qv fv k).2 i))) (m + 1) ≤ (one_ .f32 * cN νz bz νu bu νv bv k) * (one_ .f32 * cN νz bz νu bu νv bv k)
  | 0, _ => by
    refine ⟨Int.one_pos, ?_⟩
    have e : en (fun i => (κ i : Int)) (fun i => σ * (1000 * 16777216 * (vR (Sk (m + 1) g t p r q f 0).1 i - vR (Sk (m + 1) g t p ru qu f 0).1 i - vR (Sk (m + 1) g t p rv qv fv 0).1 i))) (fun i => σ * (1000 * 16777216 * (vR (Sk (m + 1) g t p r q f 0).2 i - vR (Sk (m + 1) g t p ru qu f 0).2 i - vR (Sk (m + 1) g t p rv qv fv 0).2 i))) (m + 1) = en (fun i => (κ i : Int)) (fun i => 0 * R0 i) (fun i => 0 * R0 i) (m + 1) := by
      refine en_congr fun i hi => ?_
      obtain ⟨a, b⟩ := h0 i hi
      constructor
      · show σ * (1000 * 16777216 * (vR r i - vR ru i - vR rv i)) = _
        rw [a, Int.mul_zero, Int.mul_zero, Int.zero_mul]
      · show σ * (1000 * 16777216 * (vR q i - vR qu i - vR qv i)) = _
        rw [b, Int.mul_zero, Int.mul_zero, Int.zero_mul]
    rw [e, en_mul (κ := fun i => (κ i : Int)) (R := R0) (L := R0), Int.mul_zero, Int.zero_mul]
    exact sq_nn _
  | k + 1, hk => by
    obtain ⟨c0, ih⟩ := sup_all hz hu hv h0 hfv k (by omega)
    obtain ⟨⟨c1, c2, c3⟩, _⟩ := t_cs
    have hT := one_pos .f32
    have hJ := jn_of hz.areas
    have z1 := run_err hz hk
    have u1 := run_err hu hk
    have v1 := run_err hv hk
    have pos : ∀ ν b : Int, 0 < ν → 0 < b → 0 < hE ν b := fun ν b h1 h2 => by unfold hE; omega
    have pz := pos _ _ (hz.cap k (by omega)).1 hz.small.1
    have pu := pos _ _ (hu.cap k (by omega)).1 hu.small.1
    have pv := pos _ _ (hv.cap k (by omega)).1 hv.small.1
    have hd : 0 ≤ cN νz bz νu bu νv bv k / 1000000 := Int.ediv_nonneg (Int.le_of_lt c0) (by decide)
    refine ⟨by show 0 < cN νz bz νu bu νv bv k + (cN νz bz νu bu νv bv k / 1000000 + 1) + hE (nuN νz bz k) bz + hE (nuN νu bu k) bu + hE (nuN νv bv k) bv; omega, ?_⟩
    refine sup_step (zR := eRk (m + 1) g t p r q f k) (zL := eLk (m + 1) g t p r q f k) (uR := eRk (m + 1) g t p ru qu f k) (uL := eLk (m + 1) g t p ru qu f k) (vR := eRk (m + 1) g t p rv qv fv k) (vL := eLk (m + 1) g t p rv qv fv k) hT c1 c3 (ru_kp hz) hJ hz.ends.1.2 hz.ends.2.2 c0 pz pu pv ih z1 u1 v1 (fun i _ => ?_) (fun i _ => ?_)
    · have l := mR_lin (T := one_ .f32) (τ := sval .f32 t) (ρ := vR (reflG g)) (R := vR (Sk (m + 1) g t p r q f k).1) (L := vR (Sk (m + 1) g t p r q f k).2) (R' := vR (Sk (m + 1) g t p ru qu f k).1) (L' := vR (Sk (m + 1) g t p ru qu f k).2) (R'' := vR (Sk (m + 1) g t p rv qv fv k).1) (L'' := vR (Sk (m + 1) g t p rv qv fv k).2) i
      change _ = mR (one_ .f32) (sval .f32 t) (vR (reflG g)) _ _ i + _ - _ - _
      rw [← l]
      unfold eRk
      have e0 : one_ .f32 * iR (sval .f32 (fv k)) i = 0 := by
        rw [hfv k hk]; unfold iR; split <;> exact Int.mul_zero _
      rw [e0, Int.mul_sub, Int.mul_sub]
      omega
    · have l := mL_lin (T := one_ .f32) (lam := sval .f32 p) (m := m) (ρ := vR (reflG g)) (R := vR (Sk (m + 1) g t p r q f k).1) (L := vR (Sk (m + 1) g t p r q f k).2) (R' := vR (Sk (m + 1) g t p ru qu f k).1) (L' := vR (Sk (m + 1) g t p ru qu f k).2) (R'' := vR (Sk (m + 1) g t p rv qv fv k).1) (L'' := vR (Sk (m + 1) g t p rv qv fv k).2) i
      change _ = mL (one_ .f32) (sval .f32 p) m (vR (reflG g)) _ _ i + _ - _ - _
      rw [← l]
      unfold eLk
      rw [Int.mul_sub, Int.mul_sub]
      show _ = _ + (_ - mL (one_ .f32) (sval .f32 p) (m + 1 - 1) _ _ _ i) - (_ - mL (one_ .f32) (sval .f32 p) (m + 1 - 1) _ _ _ i) - (_ - mL (one_ .f32) (sval .f32 p) (m + 1 - 1) _ _ _ i)
      rw [Nat.add_sub_cancel]
      omega
end
end Go.Vx

namespace Go.Vx
open Ieee Go.RowKit
/-! ### Energies in closed tubes -/
theorem grow_sq2 {T E ν f : Int} (hT : 0 ≤ T) (hE : 0 ≤ E) (hE3 : 1000000 * E ≤ T) (hν : 0 ≤ ν) (hf : ν ≤ 1000000 * f) : (T + 2 * E) * (ν * ν) ≤ T * ((ν + f) * (ν + f)) := by
  have hf0 : 0 ≤ f := by omega
  have h1 : E * (ν * ν) ≤ E * (ν * (1000000 * f)) := Int.mul_le_mul_of_nonneg_left (Int.mul_le_mul_of_nonneg_left hf hν) hE
  have h2 : 1000000 * E * (ν * f) ≤ T * (ν * f) := Int.mul_le_mul_of_nonneg_right hE3 (Int.mul_nonneg hν hf0)
  have e1 : E * (ν * (1000000 * f)) = 1000000 * E * (ν * f) := by ac_rfl
  have e2 : (ν + f) * (ν + f) = ν * ν + 2 * (ν * f) + f * f := by rw [Int.add_mul, Int.mul_add, Int.mul_add, Int.mul_comm f ν]; omega
  have h4 := Int.mul_nonneg hT (sq_nn f)
  rw [e2, Int.mul_add, Int.mul_add, Int.add_mul, Int.mul_left_comm T 2, Int.mul_assoc 2]
  omega
section
variable {T E σ Y h : Int} {m : Nat} {κ ρ R L eR eL yR yL : Nat → Int}
def bkN (Y h : Int) : Int := Y + Y / 500000 + h / 8388608000 + 4
theorem back_norm (hT : 0 < T) (hE0 : 0 ≤ E) (hE3 : 1000000 * E ≤ T) (hk : ∀ i, i < m + 1 → 0 ≤ κ i) (hJ : Jn T E m κ ρ) (hY : 0 < Y) (hh : 0 < h) (hN : σ * σ * en κ yR yL (m + 1) ≤ (Y * T) * (Y * T))
    (he : en κ (fun i => σ * (1000 * 16777216 * eR i)) (fun i => σ * (1000 * 16777216 * eL i)) (m + 1) ≤ (T * (T * h)) * (T * (T * h)))
    (hyR : ∀ i, i < m + 1 → T * yR i = mR T T ρ R L i + eR i) (hyL : ∀ i, i < m + 1 → T * yL i = mL T (-T) m ρ R L i + eL i) :
    σ * σ * en κ R L (m + 1) ≤ (bkN Y h * T) * (bkN Y h * T) := by
  have hTT := Int.mul_pos hT hT
  have e1 : ∀ X : Int, σ * (1000 * 16777216 * X) = σ * 16777216000 * X := fun X => by rw [← Int.mul_assoc]; rfl
  have v1 : en κ (fun i => σ * 16777216000 * T * yR i) (fun i => σ * 16777216000 * T * yL i) (m + 1) ≤ (T * (T * (16777216000 * Y))) * (T * (T * (16777216000 * Y))) := by
    rw [en_mul]
    have h1 := Int.mul_le_mul_of_nonneg_left hN (show 0 ≤ 16777216000 * 16777216000 * (T * T) from Int.mul_nonneg (by decide) (by omega))
    have a1 : σ * 16777216000 * T * (σ * 16777216000 * T) * en κ yR yL (m + 1) = 16777216000 * 16777216000 * (T * T) * (σ * σ * en κ yR yL (m + 1)) := by ac_rfl
    have a2 : (T * (T * (16777216000 * Y))) * (T * (T * (16777216000 * Y))) = 16777216000 * 16777216000 * (T * T) * (Y * T * (Y * T)) := by ac_rfl
    rw [a1, a2]; exact h1
  rw [← en_neg] at he
  have p1 : 0 < T * (T * (16777216000 * Y)) := Int.mul_pos hT (Int.mul_pos hT (by omega))
  have p2 := Int.mul_pos hT (Int.mul_pos hT hh)
  have m1 := mink hk p1 p2 v1 he
  have e0 : en κ (fun i => σ * 16777216000 * T * yR i + -(σ * (1000 * 16777216 * eR i))) (fun i => σ * 16777216000 * T * yL i + -(σ * (1000 * 16777216 * eL i))) (m + 1) = en κ (fun i => σ * 16777216000 * mR T T ρ R L i) (fun i => σ * 16777216000 * mL T (-T) m ρ R L i) (m + 1) := by
    refine en_congr fun i hi => ⟨?_, ?_⟩
    · rw [e1, Int.mul_assoc (σ * 16777216000), hyR i hi, Int.mul_add]; omega
    · rw [e1, Int.mul_assoc (σ * 16777216000), hyL i hi, Int.mul_add]; omega
  rw [e0, en_mul] at m1
  have lo := Int.mul_le_mul_of_nonneg_left (en_M_lo (Int.le_of_lt hT) hE0 hk hJ rfl rfl R L) (sq_nn (σ * 16777216000))
  have hB : T * (T * (16777216000 * Y)) + T * (T * h) = T * (T * (16777216000 * Y + h)) := by rw [← Int.mul_add, ← Int.mul_add]
  rw [hB] at m1
  have h3 := Int.le_trans lo m1
  generalize hBd : 16777216000 * Y + h = B at *
  have hB0 : 0 < B := by omega
  -- the factor T - E
  have g2 := grow_sq2 (f := B / 1000000 + 1) (Int.le_of_lt hT) hE0 hE3 (Int.le_of_lt hB0) (by omega)
  have hn := en_nn (R := R) (L := L) hk
  generalize en κ R L (m + 1) = e at *
  have hA : 0 ≤ σ * 16777216000 * (σ * 16777216000) * e := Int.mul_nonneg (sq_nn _) hn
  have k1 : T * T ≤ (T - E) * (T + 2 * E) := by
    have : (T - E) * (T + 2 * E) = T * T + T * E - 2 * (E * E) := by
      rw [Int.sub_mul, Int.mul_add, Int.mul_add, Int.mul_comm E T, Int.mul_left_comm T 2, Int.mul_left_comm E 2]; omega
    have h5 : 2 * E * E ≤ T * E := Int.mul_le_mul_of_nonneg_right (by omega) hE0
    rw [Int.mul_assoc] at h5
    omega
  have k2 := Int.mul_le_mul_of_nonneg_right k1 hA
  have k3 : σ * 16777216000 * (σ * 16777216000) * (T * (T - E) * e) = T * ((T - E) * (σ * 16777216000 * (σ * 16777216000) * e)) := by ac_rfl
  have k4 : (T * (T * B)) * (T * (T * B)) = T * (T * (T * T) * (B * B)) := by ac_rfl
  rw [k3, k4] at h3
  have h6 := Int.le_of_mul_le_mul_left h3 hT
  have k5 := Int.mul_le_mul_of_nonneg_left h6 (show 0 ≤ T + 2 * E by omega)
  have k6 := Int.mul_le_mul_of_nonneg_left g2 (show 0 ≤ T * (T * T) from Int.mul_nonneg (by omega) (by omega))
  have q1 : (T - E) * (T + 2 * E) * (σ * 16777216000 * (σ * 16777216000) * e) = (T + 2 * E) * ((T - E) * (σ * 16777216000 * (σ * 16777216000) * e)) := by ac_rfl
  have q2 : (T + 2 * E) * (T * (T * T) * (B * B)) = T * (T * T) * ((T + 2 * E) * (B * B)) := by ac_rfl
  rw [q1] at k2
  rw [q2] at k5
  have k7 := Int.le_trans k2 (Int.le_trans k5 k6)
  have k8 : T * T * (16777216000 * 16777216000 * (σ * σ * e)) ≤ T * T * ((T * (B + (B / 1000000 + 1))) * (T * (B + (B / 1000000 + 1)))) := by
    have r1 : T * T * (16777216000 * 16777216000 * (σ * σ * e)) = T * T * (σ * 16777216000 * (σ * 16777216000) * e) := by ac_rfl
    have r2 : T * T * ((T * (B + (B / 1000000 + 1))) * (T * (B + (B / 1000000 + 1)))) = T * (T * T) * (T * ((B + (B / 1000000 + 1)) * (B + (B / 1000000 + 1)))) := by ac_rfl
    rw [r1, r2]; exact k7
  have k9 := Int.le_of_mul_le_mul_left k8 hTT
  have hX : T * (B + (B / 1000000 + 1)) ≤ 16777216000 * (bkN Y h * T) := by
    have r1 : 16777216000 * (bkN Y h * T) = T * (16777216000 * bkN Y h) := by ac_rfl
    rw [r1]
    refine Int.mul_le_mul_of_nonneg_left ?_ (Int.le_of_lt hT)
    unfold bkN
    omega
  have hX0 : 0 ≤ T * (B + (B / 1000000 + 1)) := Int.mul_nonneg (by omega) (by omega)
  exact sq_cancel (K := 16777216000) (by decide) (Int.le_trans k9 (sq_ab (by omega) hX))
end
theorem exists_sqrt : ∀ A : Nat, ∃ s : Nat, s * s ≤ A ∧ A < (s + 1) * (s + 1)
  | 0 => ⟨0, by omega, by omega⟩
  | A + 1 => by
    obtain ⟨s, h1, h2⟩ := exists_sqrt A
    by_cases h : A + 1 < (s + 1) * (s + 1)
    · exact ⟨s, by omega, h⟩
    · refine ⟨s + 1, by omega, ?_⟩
      have : (s + 1 + 1) * (s + 1 + 1) = (s + 1) * (s + 1) + 2 * (s + 1) + 1 := by rw [Nat.add_mul, Nat.mul_add]; omega
      omega
theorem floor_le2 {a U : Int} (hU : 0 < U) : a / U * U ≤ a ∧ a ≤ (a / U + 1) * U := by
  have h1 := Int.emod_add_mul_ediv a U
  have h2 := Int.emod_nonneg a (Int.ne_of_gt hU)
  have h3 := Int.emod_lt_of_pos a hU
  rw [Int.mul_comm] at h1
  rw [Int.add_mul, Int.one_mul]
  omega
/-- A whole number for a root. -/
theorem root_of {x T : Int} (hx : 0 ≤ x) (hT : 0 < T) : ∃ s : Int, 0 ≤ s ∧ (s * T) * (s * T) ≤ x ∧ x ≤ ((s + 1) * T) * ((s + 1) * T) := by
  have hTT := Int.mul_pos hT hT
  obtain ⟨s, h1, h2⟩ := exists_sqrt (x / (T * T)).toNat
  have hd := Int.ediv_nonneg hx (Int.le_of_lt hTT)
  have e1 : ((x / (T * T)).toNat : Int) = x / (T * T) := Int.toNat_of_nonneg hd
  have f := floor_le2 (a := x) hTT
  refine ⟨(s : Int), by omega, ?_, ?_⟩
  · have a1 : (s : Int) * s ≤ x / (T * T) := by rw [← e1]; exact_mod_cast h1
    have a2 := Int.mul_le_mul_of_nonneg_right a1 (Int.le_of_lt hTT)
    have e : (s : Int) * T * ((s : Int) * T) = (s : Int) * s * (T * T) := by ac_rfl
    rw [e]; omega
  · have a1 : x / (T * T) + 1 ≤ ((s : Int) + 1) * ((s : Int) + 1) := by
      have h3 : (((x / (T * T)).toNat : Nat) : Int) < (((s + 1) * (s + 1) : Nat) : Int) := by exact_mod_cast h2
      rw [e1] at h3
      have e : (((s + 1) * (s + 1) : Nat) : Int) = ((s : Int) + 1) * ((s : Int) + 1) := by simp
      omega
    have a2 := Int.mul_le_mul_of_nonneg_right a1 (Int.le_of_lt hTT)
    have e : ((s : Int) + 1) * T * (((s : Int) + 1) * T) = ((s : Int) + 1) * ((s : Int) + 1) * (T * T) := by ac_rfl
    rw [e]; omega
end Go.Vx

namespace Go.Vx
open Ieee Go.RowKit
/-! ### Energies of a closed tube behind six ticks -/
theorem mul_pairQ2 {a b : Int} (h : 0 ≤ a) (hab : a ≤ b) : a * a ≤ b * b := Int.le_trans (Int.mul_le_mul_of_nonneg_left hab h) (Int.mul_le_mul_of_nonneg_right hab (Int.le_trans h hab))
theorem close_sq {s D x : Int} (h0 : 0 ≤ s) (h1 : s ≤ 29000000000) (hD : 0 ≤ D) (hd : 1000000 * D ≤ 22 * s + 100000000) (hx : x = s + D) : 10000 * (x * x) ≤ 10001 * (s * s) + 1000000000 * 1000000000 := by
  have a1 := Int.mul_le_mul_of_nonneg_left hd h0
  have e1 : s * (1000000 * D) = 1000000 * (s * D) := Int.mul_left_comm ..
  have e2 : s * (22 * s + 100000000) = 22 * (s * s) + 100000000 * s := by rw [Int.mul_add, Int.mul_left_comm, Int.mul_comm s 100000000]
  rw [e1, e2] at a1
  have hD2 : D ≤ 640000 := by omega
  have a2 : D * D ≤ 640000 * 640000 := mul_pairQ2 hD hD2
  have e3 : x * x = s * s + 2 * (s * D) + D * D := by rw [hx, Int.add_mul, Int.mul_add, Int.mul_add, Int.mul_comm D s]; omega
  have a3 := sq_nn s
  rw [e3]
  omega
theorem nu_step {a c d : Int} {k : Int} (h0 : 0 ≤ a) (hk : 0 ≤ k ∧ k ≤ 6) (ha : a ≤ c) (h : 10000000 * c ≤ 10000000 * a + k * (21 * a) + 31000000 * k) (hd : d = c + 1 + c / 500000 + 2) : (a ≤ d ∧ c ≤ d) ∧ 10000000 * d ≤ 10000000 * a + (k + 1) * (21 * a) + 31000000 * (k + 1) := by
  have h1 : k * (21 * a) ≤ 6 * (21 * a) := Int.mul_le_mul_of_nonneg_right hk.2 (by omega)
  rw [Int.add_mul k 1, Int.one_mul]
  generalize k * (21 * a) = ka at *
  have h2 := Int.mul_ediv_self_le (x := c) (k := 500000) (by decide)
  have h3 : 0 ≤ c / 500000 := Int.ediv_nonneg (by omega) (by decide)
  generalize c / 500000 = e at *
  refine ⟨⟨by omega, by omega⟩, by omega⟩
theorem nu_all {a : Int} (h : 0 ≤ a) : ∀ k : Nat, k ≤ 6 → a ≤ nuN a 1 k ∧ 10000000 * nuN a 1 k ≤ 10000000 * a + (k : Int) * (21 * a) + 31000000 * (k : Int)
  | 0, _ => ⟨Int.le_refl _, by show 10000000 * a ≤ 10000000 * a + 0 * (21 * a) + 31000000 * 0; omega⟩
  | k + 1, hk => by
    obtain ⟨h1, h2⟩ := nu_all h k (by omega)
    have := nu_step (d := nuN a 1 (k + 1)) h ⟨by omega, by omega⟩ h1 h2 rfl
    exact ⟨this.1.1, by have := this.2; rw [Int.natCast_add, Int.natCast_one]; exact this⟩
theorem nu_cap {a : Int} (h : 0 ≤ a) {k : Nat} (hk : k ≤ 6) : a ≤ nuN a 1 k ∧ 10000000 * nuN a 1 k ≤ 10000126 * a + 186000000 := by
  obtain ⟨h1, h2⟩ := nu_all h k hk
  have h3 : (k : Int) * (21 * a) ≤ 6 * (21 * a) := Int.mul_le_mul_of_nonneg_right (by omega) (by omega)
  exact ⟨h1, by omega⟩
/-- The way back. -/
theorem bk_step {y b c h W : Int} {k : Int} (h0 : 0 ≤ y) (hW : 0 ≤ W ∧ W ≤ 60000) (hh : h / 8388608000 ≤ W) (hh0 : 0 ≤ h) (hk : 0 ≤ k ∧ k ≤ 6) (hb : y ≤ b) (hc : c = bkN b h) (hi : 10000000 * b ≤ 10000000 * y + k * (21 * y) + k * (10000000 * (W + 5))) :
    y ≤ c ∧ 10000000 * c ≤ 10000000 * y + (k + 1) * (21 * y) + (k + 1) * (10000000 * (W + 5)) := by
  have h1 : k * (21 * y) ≤ 6 * (21 * y) := Int.mul_le_mul_of_nonneg_right hk.2 (by omega)
  have h4 : k * (10000000 * (W + 5)) ≤ 6 * (10000000 * (W + 5)) := Int.mul_le_mul_of_nonneg_right hk.2 (by omega)
  rw [Int.add_mul k 1, Int.one_mul, Int.add_mul k 1, Int.one_mul]
  generalize k * (21 * y) = ka at *
  generalize k * (10000000 * (W + 5)) = kb at *
  have h2 := Int.mul_ediv_self_le (x := b) (k := 500000) (by decide)
  have h3 : 0 ≤ b / 500000 := Int.ediv_nonneg (by omega) (by decide)
  have h5 : 0 ≤ h / 8388608000 := Int.ediv_nonneg hh0 (by decide)
  unfold bkN at hc
  generalize b / 500000 = e at *
  generalize h / 8388608000 = w at *
  exact ⟨by omega, by omega⟩
section
attribute [local irreducible] farith sval one_ Fn E9
variable {m : Nat} {g κ r q f : Nat → Nat}
/-- The energy in front of a tick, from the one behind it. -/
theorem back_one {t p : Nat} {σ ν0 b : Int} {K k : Nat} (h : Ru m g κ t p r q f σ ν0 b K) (ht : sval .f32 t = one_ .f32) (hp : sval .f32 p = -one_ .f32) (hf : ∀ k, k < K → sval .f32 (f k) = 0) (hk : k < K) {Y : Int} (hY : 0 < Y)
    (hN : σ * σ * en (fun i => (κ i : Int)) (vR (Sk (m + 1) g t p r q f (k + 1)).1) (vR (Sk (m + 1) g t p r q f (k + 1)).2) (m + 1) ≤ (Y * one_ .f32) * (Y * one_ .f32)) :
    σ * σ * en (fun i => (κ i : Int)) (vR (Sk (m + 1) g t p r q f k).1) (vR (Sk (m + 1) g t p r q f k).2) (m + 1) ≤ (bkN Y (hE (nuN ν0 b k) b) * one_ .f32) * (bkN Y (hE (nuN ν0 b k) b) * one_ .f32) := by
  obtain ⟨⟨c1, c2, c3⟩, _⟩ := t_cs
  have e := run_err h hk
  have n1 := (h.cap k (Nat.le_of_lt hk)).1
  have n2 := h.small.1
  refine back_norm (eR := eRk (m + 1) g t p r q f k) (eL := eLk (m + 1) g t p r q f k) (one_pos .f32) c1 c3 (ru_kp h) (jn_of h.areas) hY (by unfold hE; omega) hN e (fun i _ => ?_) (fun i _ => ?_)
  · unfold eRk
    have e0 : one_ .f32 * iR (sval .f32 (f k)) i = 0 := by
      rw [hf k hk]; unfold iR; split <;> exact Int.mul_zero _
    rw [e0, ht]
    change _ = mR (one_ .f32) (one_ .f32) (vR (reflG g)) _ _ i + _
    omega
  · unfold eLk
    rw [hp, Nat.add_sub_cancel]
    change _ = mL (one_ .f32) (-one_ .f32) m (vR (reflG g)) _ _ i + _
    omega
def Ys (ν0 y : Int) : Nat → Int
  | 0 => y + 1
  | j + 1 => bkN (Ys ν0 y j) (hE (nuN ν0 1 (5 - j)) 1)
theorem ys_all {t p : Nat} {σ s y W : Int} (h : Ru m g κ t p r q f σ (s + 1) 1 6) (ht : sval .f32 t = one_ .f32) (hp : sval .f32 p = -one_ .f32) (hf : ∀ k, k < 6 → sval .f32 (f k) = 0) (hs : 0 ≤ s) (hy : 0 ≤ y) (hW : 0 ≤ W ∧ W ≤ 60000) (hWh : ∀ k, k ≤ 6 → hE (nuN (s + 1) 1 k) 1 / 8388608000 ≤ W)
    (hN : σ * σ * en (fun i => (κ i : Int)) (vR (Sk (m + 1) g t p r q f 6).1) (vR (Sk (m + 1) g t p r q f 6).2) (m + 1) ≤ ((y + 1) * one_ .f32) * ((y + 1) * one_ .f32)) :
    ∀ j : Nat, j ≤ 6 → (y + 1 ≤ Ys (s + 1) y j ∧ 10000000 * Ys (s + 1) y j ≤ 10000000 * (y + 1) + (j : Int) * (21 * (y + 1)) + (j : Int) * (10000000 * (W + 5))) ∧
      σ * σ * en (fun i => (κ i : Int)) (vR (Sk (m + 1) g t p r q f (6 - j)).1) (vR (Sk (m + 1) g t p r q f (6 - j)).2) (m + 1) ≤ (Ys (s + 1) y j * one_ .f32) * (Ys (s + 1) y j * one_ .f32)
  | 0, _ => ⟨⟨Int.le_refl _, by show 10000000 * (y + 1) ≤ 10000000 * (y + 1) + 0 * (21 * (y + 1)) + 0 * (10000000 * (W + 5)); omega⟩, hN⟩
  | j + 1, hj => by
    obtain ⟨⟨a1, a2⟩, a3⟩ := ys_all h ht hp hf hs hy hW hWh hN j (by omega)
    have hc := nu_cap (a := s + 1) (by omega) (k := 5 - j) (by omega)
    have e6 : 6 - j = 5 - j + 1 := by omega
    rw [e6] at a3
    have b := back_one h ht hp hf (k := 5 - j) (by omega) (by omega) a3
    have st := bk_step (y := y + 1) (b := Ys (s + 1) y j) (c := Ys (s + 1) y (j + 1)) (h := hE (nuN (s + 1) 1 (5 - j)) 1) (k := (j : Int)) (by omega) hW (hWh (5 - j) (by omega)) (by unfold hE; omega) ⟨by omega, by omega⟩ a1 rfl a2
    refine ⟨⟨st.1, by have := st.2; rw [Int.natCast_add, Int.natCast_one]; exact this⟩, ?_⟩
    have e5 : 6 - (j + 1) = 5 - j := by omega
    rw [e5]
    exact b
theorem scale_T {a b c T A B : Int} (h : 10000 * (a * a) ≤ 10001 * (b * b) + c * c) (hA : A ≤ (a * T) * (a * T)) (hB : (b * T) * (b * T) ≤ B) : 10000 * A ≤ 10001 * B + (c * T) * (c * T) := by
  have h1 := Int.mul_le_mul_of_nonneg_right h (sq_nn T)
  have e1 : 10000 * (a * a) * (T * T) = 10000 * ((a * T) * (a * T)) := by ac_rfl
  have e2 : (10001 * (b * b) + c * c) * (T * T) = 10001 * ((b * T) * (b * T)) + (c * T) * (c * T) := by rw [Int.add_mul]; congr 1 <;> ac_rfl
  rw [e1, e2] at h1
  omega
theorem root_le {a b T : Int} (hT : 0 < T) (hb : 0 ≤ b) (h : (a * T) * (a * T) ≤ (b * T) * (b * T)) : a ≤ b := by
  have := (sq_le_abs (Int.mul_nonneg hb (Int.le_of_lt hT)) h).2
  exact Int.le_of_mul_le_mul_right this hT
theorem closed_near {t p : Nat} {s : Int} (h : Ru m g κ t p r q f 1000000000 (s + 1) 1 6) (ht : sval .f32 t = one_ .f32) (hp : sval .f32 p = -one_ .f32) (hf : ∀ k, k < 6 → sval .f32 (f k) = 0) (hs : 0 ≤ s ∧ s ≤ 28000000000)
    (h1 : (s * one_ .f32) * (s * one_ .f32) ≤ 1000000000 * 1000000000 * en (fun i => (κ i : Int)) (vR r) (vR q) (m + 1)) :
    10000 * (1000000000 * 1000000000 * en (fun i => (κ i : Int)) (vR (Sk (m + 1) g t p r q f 6).1) (vR (Sk (m + 1) g t p r q f 6).2) (m + 1)) ≤ 10001 * (1000000000 * 1000000000 * en (fun i => (κ i : Int)) (vR r) (vR q) (m + 1)) + (1000000000 * one_ .f32) * (1000000000 * one_ .f32) ∧
    10000 * (1000000000 * 1000000000 * en (fun i => (κ i : Int)) (vR r) (vR q) (m + 1)) ≤ 10001 * (1000000000 * 1000000000 * en (fun i => (κ i : Int)) (vR (Sk (m + 1) g t p r q f 6).1) (vR (Sk (m + 1) g t p r q f 6).2) (m + 1)) + (1000000000 * one_ .f32) * (1000000000 * one_ .f32) := by
  have hT := one_pos .f32
  have r6 := (run_all h 6 (Nat.le_refl _)).2
  obtain ⟨n1, n2⟩ := nu_cap (a := s + 1) (by omega) (k := 6) (Nat.le_refl _)
  have hk0 := en_nn (κ := fun i => (κ i : Int)) (R := vR (Sk (m + 1) g t p r q f 6).1) (L := vR (Sk (m + 1) g t p r q f 6).2) (ru_kp h)
  constructor
  · exact scale_T (close_sq (s := s) (D := nuN (s + 1) 1 6 - s) (by omega) (by omega) (by omega) (by omega) (by omega)) r6 h1
  · obtain ⟨y, y0, y1, y2⟩ := root_of (x := 1000000000 * 1000000000 * en (fun i => (κ i : Int)) (vR (Sk (m + 1) g t p r q f 6).1) (vR (Sk (m + 1) g t p r q f 6).2) (m + 1)) (Int.mul_nonneg (by decide) hk0) hT
    have yle := root_le hT (by omega) (Int.le_trans y1 r6)
    generalize hC : (10000126 * (s + 1) + 186000000) / 10000000 = C at *
    have hCle : ∀ k, k ≤ 6 → nuN (s + 1) 1 k ≤ C := fun k hk => by
      have := (nu_cap (a := s + 1) (by omega) hk).2
      rw [← hC]
      exact (Int.le_ediv_iff_mul_le (by decide)).2 (by omega)
    have hC2 : 10000000 * C ≤ 10000126 * (s + 1) + 186000000 := by rw [← hC]; exact Int.mul_ediv_self_le (by decide)
    have hC0 : 0 ≤ C := by rw [← hC]; exact Int.ediv_nonneg (by omega) (by decide)
    generalize hW : (11412 * C + 1001) / 8388608000 = W at *
    have hW2 : 8388608000 * W ≤ 11412 * C + 1001 := by rw [← hW]; exact Int.mul_ediv_self_le (by decide)
    have hW0 : 0 ≤ W := by rw [← hW]; exact Int.ediv_nonneg (by omega) (by decide)
    have ys := ys_all (W := W) h ht hp hf hs.1 y0 ⟨hW0, by omega⟩ (fun k hk => by
      rw [← hW]
      refine Int.ediv_le_ediv (by decide) ?_
      have := hCle k hk
      unfold hE; omega) y2 6 (Nat.le_refl _)
    obtain ⟨⟨b1, b2⟩, b3⟩ := ys
    change 1000000000 * 1000000000 * en (fun i => (κ i : Int)) (vR r) (vR q) (m + 1) ≤ _ at b3
    have sle := root_le hT (by omega) (Int.le_trans h1 b3)
    have e1 : ((6 : Nat) : Int) * (21 * (y + 1)) = 126 * (y + 1) := by omega
    have e2 : ((6 : Nat) : Int) * (10000000 * (W + 5)) = 60000000 * (W + 5) := by omega
    rw [e1, e2] at b2
    generalize Ys (s + 1) y 6 = Y at *
    exact scale_T (close_sq (s := y) (D := Y - y) y0 (by omega) (by omega) (by omega) (by omega)) b3 y1
end
end Go.Vx

namespace Go.Vx
open Ieee Go.RowKit
/-! ### Energies that floats tell -/
theorem e_cs : (Fn .f32 1199570944 ∧ sval .f32 1199570944 = 65536 * one_ .f32) ∧ (Fn .f32 1207959552 ∧ sval .f32 1207959552 = 131072 * one_ .f32) ∧ (Fn .f32 1233125376 ∧ sval .f32 1233125376 = 1048576 * one_ .f32) ∧ (Fn .f32 1258291200 ∧ sval .f32 1258291200 = 8388608 * one_ .f32) ∧ 4 * (262144 * U29) = one_ .f32 := by decide +kernel
theorem part_alg {T RR QQ κ a1 a2 a3 a4 G : Int} (hT : 0 < T) (hκ : 0 ≤ κ ∧ κ ≤ 24) (h1 : 0 ≤ RR) (h2 : 0 ≤ QQ) (hG : 4 * G = κ * T) (p1 : Hf (a1 * T) RR T) (p2 : Hf (a2 * T) QQ T) (p3 : Hf a3 (a1 + a2) 1) (p4 : Hf (a4 * T) (G * a3) T) (n1 : 0 ≤ a1) (n2 : 0 ≤ a2) (n3 : 0 ≤ a3) :
    16777216 * (4 * (a4 * T) - κ * (RR + QQ)) ≤ 5 * (κ * (RR + QQ)) + 17179869184 * T ∧ 16777216 * (κ * (RR + QQ) - 4 * (a4 * T)) ≤ 5 * (κ * (RR + QQ)) + 17179869184 * T := by
  have f3 := hf_one hT p3
  unfold Hf at p1 p2 p4
  have e1 : T * (a1 + a2) = a1 * T + a2 * T := by rw [Int.mul_add, Int.mul_comm T a1, Int.mul_comm T a2]
  rw [e1] at f3
  have m1 := Int.mul_nonneg n1 (Int.le_of_lt hT)
  have m2 := Int.mul_nonneg n2 (Int.le_of_lt hT)
  have m3 := Int.mul_nonneg (Int.le_of_lt hT) n3
  have d1 : 16777216 * (T * a3 - (RR + QQ)) ≤ 3 * (RR + QQ) + 50331648 * T ∧ 16777216 * ((RR + QQ) - T * a3) ≤ 3 * (RR + QQ) + 50331648 * T := by
    generalize a1 * T = A1 at *
    generalize a2 * T = A2 at *
    generalize T * a3 = A3 at *
    omega
  have k1 := Int.mul_le_mul_of_nonneg_left d1.1 hκ.1
  have k2 := Int.mul_le_mul_of_nonneg_left d1.2 hκ.1
  have k3 : κ * (50331648 * T) ≤ 24 * (50331648 * T) := Int.mul_le_mul_of_nonneg_right hκ.2 (by omega)
  have g1 : 4 * (G * a3) = κ * (T * a3) := by rw [← Int.mul_assoc, hG, Int.mul_assoc]
  have g2 : 0 ≤ κ * (T * a3) := Int.mul_nonneg hκ.1 m3
  have g3 : 0 ≤ κ * (RR + QQ) := Int.mul_nonneg hκ.1 (by omega)
  rw [Int.mul_left_comm, Int.mul_sub, Int.mul_add κ (3 * (RR + QQ)), Int.mul_left_comm κ 3] at k1 k2
  generalize κ * (T * a3) = K3 at *
  generalize κ * (RR + QQ) = KE at *
  generalize κ * (50331648 * T) = KT at *
  generalize G * a3 = GA at *
  generalize a4 * T = A4 at *
  omega
section
attribute [local irreducible] farith sval one_ Fn
theorem sq_fl {x : Nat} (h : W200 x) : (Fn .f32 (farith .mul .f32 x x) ∧ 0 ≤ sval .f32 (farith .mul .f32 x x) ∧ sval .f32 (farith .mul .f32 x x) ≤ 65536 * one_ .f32) ∧ Hf (sval .f32 (farith .mul .f32 x x) * one_ .f32) (sval .f32 x * sval .f32 x) (one_ .f32) := by
  obtain ⟨⟨c1, c2⟩, _⟩ := e_cs
  obtain ⟨x1, x2, x3⟩ := h
  have hT := one_pos .f32
  have k0 := v0_32
  have h1 := sq_ab x2 x3
  have h0 := sq_nn (sval .f32 x)
  have e : 200 * one_ .f32 * (200 * one_ .f32) ≤ 65536 * one_ .f32 * one_ .f32 := by
    have hTT := Int.mul_pos hT hT
    have e1 : 200 * one_ .f32 * (200 * one_ .f32) = 40000 * (one_ .f32 * one_ .f32) := by rw [show (40000 : Int) = 200 * 200 from rfl]; ac_rfl
    rw [e1, Int.mul_assoc 65536]; omega
  obtain ⟨m1, m2, m3⟩ := mul_bd x1 x1 fn_z c1 (by rw [k0, Int.zero_mul]; exact h0) (by rw [c2]; exact Int.le_trans h1 e)
  rw [k0] at m2
  rw [c2] at m3
  exact ⟨⟨m1, m2, m3⟩, mul_half x1 x1 m1⟩
theorem part_fl {g κ r q : Nat} (hg : g = qA κ) (hκ : 1 ≤ κ ∧ κ ≤ 24) (hr : W200 r) (hq : W200 q) :
    (Fn .f32 (farith .mul .f32 g (farith .add .f32 (farith .mul .f32 r r) (farith .mul .f32 q q))) ∧ 0 ≤ sval .f32 (farith .mul .f32 g (farith .add .f32 (farith .mul .f32 r r) (farith .mul .f32 q q))) ∧ sval .f32 (farith .mul .f32 g (farith .add .f32 (farith .mul .f32 r r) (farith .mul .f32 q q))) ≤ 1048576 * one_ .f32) ∧
    16777216 * (4 * (sval .f32 (farith .mul .f32 g (farith .add .f32 (farith .mul .f32 r r) (farith .mul .f32 q q))) * one_ .f32) - κ * (sval .f32 r * sval .f32 r + sval .f32 q * sval .f32 q)) ≤ 5 * (κ * (sval .f32 r * sval .f32 r + sval .f32 q * sval .f32 q)) + 17179869184 * one_ .f32 ∧
    16777216 * (κ * (sval .f32 r * sval .f32 r + sval .f32 q * sval .f32 q) - 4 * (sval .f32 (farith .mul .f32 g (farith .add .f32 (farith .mul .f32 r r) (farith .mul .f32 q q))) * one_ .f32)) ≤ 5 * (κ * (sval .f32 r * sval .f32 r + sval .f32 q * sval .f32 q)) + 17179869184 * one_ .f32 := by
  obtain ⟨_, ⟨c1, c2⟩, ⟨d1, d2⟩, _, u4⟩ := e_cs
  have hT := one_pos .f32
  have k0 := v0_32
  obtain ⟨⟨⟨gf, gv⟩, _⟩⟩ := (⟨qA_val (k := κ) (by omega)⟩ : PLift _)
  obtain ⟨⟨a1, a2, a3⟩, a4⟩ := sq_fl hr
  obtain ⟨⟨b1, b2, b3⟩, b4⟩ := sq_fl hq
  generalize farith .mul .f32 r r = rr at *
  generalize farith .mul .f32 q q = qq at *
  obtain ⟨s1, s2, s3⟩ := add_bd a1 b1 fn_z c1 (by rw [k0]; omega) (by rw [c2]; omega)
  have s4 := add_half a1 b1 s1
  rw [k0] at s2
  rw [c2] at s3
  generalize farith .add .f32 rr qq = ss at *
  have hG : 4 * sval .f32 g = (κ : Int) * one_ .f32 := by
    rw [hg, gv, ← u4]
    have : 4 * ((κ : Int) * 262144 * U29) = (κ : Int) * (4 * (262144 * U29)) := by ac_rfl
    exact this
  have gf' : Fn .f32 g := by rw [hg]; exact gf
  have hg0 : 0 ≤ sval .f32 g := by
    have := Int.mul_nonneg (show (0 : Int) ≤ (κ : Int) by omega) (Int.le_of_lt hT); omega
  have hg6 : sval .f32 g ≤ 6 * one_ .f32 := by
    have := Int.mul_le_mul_of_nonneg_right (show (κ : Int) ≤ 24 by omega) (Int.le_of_lt hT); omega
  have h6 : sval .f32 g * sval .f32 ss ≤ 6 * one_ .f32 * (131072 * one_ .f32) := Int.le_trans (Int.mul_le_mul_of_nonneg_right hg6 s2) (Int.mul_le_mul_of_nonneg_left s3 (by omega))
  have h7 : 6 * one_ .f32 * (131072 * one_ .f32) ≤ 1048576 * one_ .f32 * one_ .f32 := by
    have hTT := Int.mul_pos hT hT
    have e1 : 6 * one_ .f32 * (131072 * one_ .f32) = 786432 * (one_ .f32 * one_ .f32) := by rw [show (786432 : Int) = 6 * 131072 from rfl]; ac_rfl
    rw [e1, Int.mul_assoc 1048576]; omega
  obtain ⟨m1, m2, m3⟩ := mul_bd gf' s1 fn_z d1 (by rw [k0, Int.zero_mul]; exact Int.mul_nonneg hg0 s2) (by rw [d2]; exact Int.le_trans h6 h7)
  rw [k0] at m2
  rw [d2] at m3
  refine ⟨⟨m1, m2, m3⟩, ?_⟩
  exact part_alg hT ⟨by omega, by omega⟩ (sq_nn _) (sq_nn _) hG a4 b4 (hf_of1 s4) (mul_half gf' s1 m1) a2 b2 s2
theorem enS_fl {m : Nat} {g κ r q : Nat → Nat} (hκ : ∀ j, j < m + 1 → (1 ≤ κ j ∧ κ j ≤ 24) ∧ g j = qA (κ j)) (h4 : m + 1 ≤ 4) (hw : ∀ j, j < m + 1 → W200 (r j) ∧ W200 (q j)) :
    ∀ i, i ≤ m + 1 → (Fn .f32 (enS g r q i) ∧ 0 ≤ sval .f32 (enS g r q i) ∧ sval .f32 (enS g r q i) ≤ (i : Int) * (1048577 * one_ .f32)) ∧ 0 ≤ en (fun i => (κ i : Int)) (vR r) (vR q) i ∧
      16777216 * (4 * (sval .f32 (enS g r q i) * one_ .f32) - en (fun i => (κ i : Int)) (vR r) (vR q) i) ≤ (5 + 2 * (i : Int)) * en (fun i => (κ i : Int)) (vR r) (vR q) i + (i : Int) * (34359738368 * one_ .f32) ∧
      16777216 * (en (fun i => (κ i : Int)) (vR r) (vR q) i - 4 * (sval .f32 (enS g r q i) * one_ .f32)) ≤ (5 + 2 * (i : Int)) * en (fun i => (κ i : Int)) (vR r) (vR q) i + (i : Int) * (34359738368 * one_ .f32)
  | 0, _ => by
    have k0 := v0_32
    have e1 : enS g r q 0 = 0 := rfl
    have e2 : en (fun i => (κ i : Int)) (vR r) (vR q) 0 = 0 := rfl
    rw [e1, e2, k0]
    exact ⟨⟨fn_z, Int.le_refl _, by simp⟩, Int.le_refl _, by simp, by simp⟩
  | i + 1, hi => by
    obtain ⟨⟨f, s0, s1⟩, n0, a1, a2⟩ := enS_fl hκ h4 hw i (by omega)
    obtain ⟨hk, e⟩ := hκ i (by omega)
    obtain ⟨w1, w2⟩ := hw i (by omega)
    obtain ⟨⟨p1, p2, p3⟩, p4, p5⟩ := part_fl e hk w1 w2
    have eS : enS g r q (i + 1) = farith .add .f32 (enS g r q i) (farith .mul .f32 (g i) (farith .add .f32 (farith .mul .f32 (r i) (r i)) (farith .mul .f32 (q i) (q i)))) := rfl
    have eE : en (fun i => (κ i : Int)) (vR r) (vR q) (i + 1) = en (fun i => (κ i : Int)) (vR r) (vR q) i + (κ i : Int) * (sval .f32 (r i) * sval .f32 (r i) + sval .f32 (q i) * sval .f32 (q i)) := by
      show _ + ((κ i : Int) * (vR r i * vR r i) + (κ i : Int) * (vR q i * vR q i)) = _
      rw [← Int.mul_add]; rfl
    rw [eS, eE]
    generalize farith .mul .f32 (g i) (farith .add .f32 (farith .mul .f32 (r i) (r i)) (farith .mul .f32 (q i) (q i))) = b at *
    have hE0 : 0 ≤ (κ i : Int) * (sval .f32 (r i) * sval .f32 (r i) + sval .f32 (q i) * sval .f32 (q i)) := Int.mul_nonneg (by omega) (Int.add_nonneg (sq_nn _) (sq_nn _))
    generalize (κ i : Int) * (sval .f32 (r i) * sval .f32 (r i) + sval .f32 (q i) * sval .f32 (q i)) = e' at *
    obtain ⟨_, _, _, ⟨c1, c2⟩, _⟩ := e_cs
    have hT := one_pos .f32
    have k0 := v0_32
    have hi3 : (i : Int) * (1048577 * one_ .f32) ≤ 3 * (1048577 * one_ .f32) := Int.mul_le_mul_of_nonneg_right (by omega) (by omega)
    obtain ⟨z1, z2, z3⟩ := add_bd f p1 fn_z c1 (by rw [k0]; omega) (by rw [c2]; omega)
    rw [k0] at z2
    have z4 := add_half f p1 z1
    have z5 := hf_one hT (hf_of1 z4)
    have e1 : one_ .f32 * (sval .f32 (enS g r q i) + sval .f32 b) = sval .f32 (enS g r q i) * one_ .f32 + sval .f32 b * one_ .f32 := by rw [Int.mul_comm, Int.add_mul]
    rw [e1, Int.mul_comm (one_ .f32)] at z5
    have y1 := Int.mul_nonneg s0 (Int.le_of_lt hT)
    have y2 := Int.mul_nonneg p2 (Int.le_of_lt hT)
    have c0 : (i : Int) = 0 ∨ (i : Int) = 1 ∨ (i : Int) = 2 ∨ (i : Int) = 3 := by omega
    refine ⟨⟨z1, z2, ?_⟩, by omega, ?_, ?_⟩
    · rw [Int.natCast_add, Int.natCast_one, Int.add_mul, Int.one_mul]
      omega
    · generalize sval .f32 (enS g r q i) * one_ .f32 = S at *
      generalize sval .f32 b * one_ .f32 = B at *
      generalize sval .f32 (farith .add .f32 (enS g r q i) b) * one_ .f32 = Z at *
      generalize en (fun i => (κ i : Int)) (vR r) (vR q) i = E0 at *
      rw [Int.natCast_add, Int.natCast_one]
      rcases c0 with h | h | h | h <;> rw [h] at a1 a2 ⊢ <;> omega
    · generalize sval .f32 (enS g r q i) * one_ .f32 = S at *
      generalize sval .f32 b * one_ .f32 = B at *
      generalize sval .f32 (farith .add .f32 (enS g r q i) b) * one_ .f32 = Z at *
      generalize en (fun i => (κ i : Int)) (vR r) (vR q) i = E0 at *
      rw [Int.natCast_add, Int.natCast_one]
      rcases c0 with h | h | h | h <;> rw [h] at a1 a2 ⊢ <;> omega
end
end Go.Vx

namespace Go.Vx
open Ieee Go.RowKit
theorem bin_64 : (FloatKind.f64.format.binade : Int) = 4503599627370496 := by decide +kernel
theorem add_half64 {x y : Nat} (hx : Fn .f64 x) (hy : Fn .f64 y) (hz : Fn .f64 (farith .add .f64 x y)) :
    9007199254740992 * (sval .f64 (farith .add .f64 x y) - (sval .f64 x + sval .f64 y)) ≤ (sval .f64 x + sval .f64 y).natAbs + 4503599627370496 ∧ 9007199254740992 * ((sval .f64 x + sval .f64 y) - sval .f64 (farith .add .f64 x y)) ≤ (sval .f64 x + sval .f64 y).natAbs + 4503599627370496 := by
  obtain ⟨s, m, e, e1, e2, e3⟩ := add_val hx hy
  change Fn .f64 (fadd .f64 x y) at hz
  change 9007199254740992 * (sval .f64 (fadd .f64 x y) - _) ≤ _ ∧ 9007199254740992 * (_ - sval .f64 (fadd .f64 x y)) ≤ _
  rw [e1] at hz ⊢
  have h := nearest_half (c := FloatKind.f64.format.leastPlace) e2 (Int.le_refl _) hz
  rw [e3, bin_64, Int.sub_self] at h
  simpa using h
theorem mul_half64 {x y : Nat} (hx : Fn .f64 x) (hy : Fn .f64 y) (hz : Fn .f64 (farith .mul .f64 x y)) :
    9007199254740992 * (sval .f64 x * sval .f64 y - sval .f64 (farith .mul .f64 x y) * one_ .f64) ≤ (sval .f64 x * sval .f64 y).natAbs + 4503599627370496 * one_ .f64 := by
  obtain ⟨s, m, e, e1, e2, e3⟩ := mul_val hx hy
  change Fn .f64 (fmul .f64 x y) at hz
  change 9007199254740992 * (_ - sval .f64 (fmul .f64 x y) * _) ≤ _
  rw [e1] at hz ⊢
  have h := (nearest_half (c := FloatKind.f64.format.leastPlace + FloatKind.f64.format.leastPlace) e2 (by decide) hz).2
  rw [e3, bin_64, show (FloatKind.f64.format.leastPlace - (FloatKind.f64.format.leastPlace + FloatKind.f64.format.leastPlace)).toNat = (-FloatKind.f64.format.leastPlace).toNat from rfl] at h
  exact h
theorem w_cs : ((Fn .f64 4607182418800017408 ∧ sval .f64 4607182418800017408 = one_ .f64) ∧ (Fn .f64 0 ∧ sval .f64 0 = 0)) ∧ ((Fn .f64 4715268809856909312 ∧ sval .f64 4715268809856909312 = 16777216 * one_ .f64) ∧ (Fn .f64 13938640846711685120 ∧ sval .f64 13938640846711685120 = -(16777216 * one_ .f64))) ∧ (Fn .f64 4562254508917369340 ∧ one_ .f64 ≤ 1001 * sval .f64 4562254508917369340 ∧ sval .f64 4562254508917369340 ≤ one_ .f64) ∧ one_ .f64 = one_ .f32 * wid ∧ 9007199254740992 ≤ one_ .f64 := by decide +kernel
section
attribute [local irreducible] farith sval one_ Fn wid fcmp conv
/-- Two numbers that are near each other, asked in 64 bits. -/
theorem gap_rel {a b : Nat} (ha : Fn .f32 a) (hb : Fn .f32 b) (a0 : 0 ≤ sval .f32 a) (a1 : sval .f32 a ≤ 5000000 * one_ .f32) (h1 : 5000 * (sval .f32 b - sval .f32 a) ≤ one_ .f32 + sval .f32 a) (h2 : 5000 * (sval .f32 a - sval .f32 b) ≤ one_ .f32 + sval .f32 a) :
    (isN .f64 (farith .sub .f64 (conv .f32 .f64 a) (conv .f32 .f64 b)) = false ∧ isN .f64 (farith .sub .f64 (conv .f32 .f64 b) (conv .f32 .f64 a)) = false) ∧
    fcmp .gtr .f64 (gapM (conv .f32 .f64 a) (conv .f32 .f64 b)) (farith .mul .f64 4562254508917369340 (farith .add .f64 4607182418800017408 (conv .f32 .f64 a))) = false := by
  obtain ⟨⟨⟨c1, c2⟩, ⟨z1, z2⟩⟩, ⟨⟨d1, d2⟩, ⟨e1, e2⟩⟩, ⟨m1, m2, m3⟩, o1, o2⟩ := w_cs
  obtain ⟨x1, x2⟩ := wide_val ha
  obtain ⟨y1, y2⟩ := wide_val hb
  have hw := wid_pos
  have hT := one_pos .f64
  refine ⟨⟨sub_num x1 y1, sub_num y1 x1⟩, ?_⟩
  have b0 := Int.mul_nonneg a0 (Int.le_of_lt hw)
  have b1 := Int.mul_le_mul_of_nonneg_right a1 (Int.le_of_lt hw)
  have b2 := Int.mul_le_mul_of_nonneg_right h1 (Int.le_of_lt hw)
  have b3 := Int.mul_le_mul_of_nonneg_right h2 (Int.le_of_lt hw)
  rw [Int.mul_assoc, ← o1] at b1
  rw [Int.mul_assoc, Int.sub_mul, Int.add_mul, ← o1] at b2 b3
  rw [← x2] at b0 b1 b2 b3
  rw [← y2] at b2 b3
  generalize conv .f32 .f64 a = ca at *
  generalize conv .f32 .f64 b = cb at *
  obtain ⟨s1, s2, s3⟩ := add_bd (k := .f64) c1 x1 z1 d1 (by rw [z2, c2]; omega) (by rw [c2, d2]; omega)
  have s4 := (add_half64 c1 x1 s1).2
  rw [c2] at s4
  rw [z2] at s2
  rw [d2] at s3
  generalize farith .add .f64 4607182418800017408 ca = Z at *
  have hZ : one_ .f64 + sval .f64 ca ≤ 2 * sval .f64 Z := by omega
  have p0 : 0 ≤ sval .f64 4562254508917369340 * sval .f64 Z := Int.mul_nonneg (by omega) s2
  have p1 : sval .f64 4562254508917369340 * sval .f64 Z ≤ 16777216 * one_ .f64 * one_ .f64 := by
    have := Int.mul_le_mul m3 s3 s2 (Int.le_of_lt hT)
    rw [Int.mul_comm (one_ .f64)] at this
    exact this
  obtain ⟨w1, w2, w3⟩ := mul_bd (k := .f64) m1 s1 z1 d1 (by rw [z2, Int.zero_mul]; exact p0) (by rw [d2]; exact p1)
  have w4 := mul_half64 m1 s1 w1
  rw [z2] at w2
  have q1 := Int.mul_le_mul_of_nonneg_right m2 s2
  rw [Int.mul_assoc] at q1
  generalize farith .mul .f64 4562254508917369340 Z = V at *
  have hV : one_ .f64 + sval .f64 ca ≤ 5000 * sval .f64 V := by
    refine Int.le_of_mul_le_mul_right (a := one_ .f64) ?_ hT
    have r1 := Int.mul_le_mul_of_nonneg_right hZ (Int.le_of_lt hT)
    rw [Int.mul_assoc] at r1
    rw [Int.mul_assoc]
    have r2 : one_ .f64 * one_ .f64 ≤ (one_ .f64 + sval .f64 ca) * one_ .f64 := Int.mul_le_mul_of_nonneg_right (by omega) (Int.le_of_lt hT)
    have r3 := Int.mul_le_mul_of_nonneg_right o2 (Int.le_of_lt hT)
    rw [Int.mul_comm (one_ .f64) (sval .f64 Z)] at q1
    generalize (one_ .f64 + sval .f64 ca) * one_ .f64 = A at *
    generalize sval .f64 4562254508917369340 * sval .f64 Z = P at *
    generalize sval .f64 V * one_ .f64 = Q at *
    generalize sval .f64 Z * one_ .f64 = S at *
    generalize one_ .f64 * one_ .f64 = TT at *
    omega
  have g1 := sub_bd (k := .f64) x1 y1 e1 w1 (by rw [e2]; omega) (by omega)
  have g2 := sub_bd (k := .f64) y1 x1 e1 w1 (by rw [e2]; omega) (by omega)
  unfold gapM
  rcases maxF_or g1.1 g2.1 with h' | h' <;> rw [h']
  · exact cmp_gt_not g1.1 w1 g1.2.2
  · exact cmp_gt_not g2.1 w1 g2.2.2
end
end Go.Vx

namespace Go.Vx
open Ieee Go.RowKit
/-! ### Drawn waves -/
def qW (k : Nat) : Nat := farith .quo .f32 (ofInt .f32 ((k : Int) - 8)) 1082130432
def waveN (x : Nat) : Prop := ∃ k : Nat, k ≤ 16 ∧ x = qW k
theorem wave_of {s : Int × Int} (h : 0 ≤ s.1 ∧ s.1 < 17) : waveN (farith .quo .f32 (ofInt .f32 (s.1 - 8)) 1082130432) := ⟨s.1.toNat, by omega, by unfold qW; rw [show ((s.1.toNat : Nat) : Int) = s.1 by omega]⟩
theorem wave_tab : ∀ k : Nat, k < 17 → Fn .f32 (qW k) ∧ -(2 * one_ .f32) ≤ sval .f32 (qW k) ∧ sval .f32 (qW k) ≤ 2 * one_ .f32 := by decide +kernel
theorem wave_v {x : Nat} (h : waveN x) : Fn .f32 x ∧ -(2 * one_ .f32) ≤ sval .f32 x ∧ sval .f32 x ≤ 2 * one_ .f32 := by
  obtain ⟨k, hk, rfl⟩ := h
  exact wave_tab k (by omega)
theorem wave_0 : waveN 0 := ⟨8, by decide, by decide +kernel⟩
theorem p_cs : ((Fn .f32 1065353216 ∧ sval .f32 1065353216 = one_ .f32) ∧ (Fn .f32 3212836864 ∧ sval .f32 3212836864 = -one_ .f32)) ∧ ((Fn .f32 1061158912 ∧ -one_ .f32 ≤ sval .f32 1061158912 ∧ sval .f32 1061158912 ≤ one_ .f32) ∧ (Fn .f32 3210739712 ∧ -one_ .f32 ≤ sval .f32 3210739712 ∧ sval .f32 3210739712 ≤ one_ .f32)) ∧ 68719476736 * 1000000000 * 14 ≤ one_ .f32 := by decide +kernel
section
attribute [local irreducible] farith sval one_ Fn E9
theorem wave_200 {x : Nat} (h : waveN x) : W200 x := by
  obtain ⟨a, b, c⟩ := wave_v h
  have := one_pos .f32
  exact ⟨a, by omega, by omega⟩
/-- Waves that are drawn, in a drawn tube. -/
structure Wd (m : Nat) (g κ r q : Nat → Nat) : Prop where
  areas : ∀ j, j < m + 1 → (1 ≤ κ j ∧ κ j ≤ 24) ∧ g j = qA (κ j)
  four : m + 1 ≤ 4
  waves : ∀ i, i < m + 1 → waveN (r i) ∧ waveN (q i)
variable {m : Nat} {g κ r q f : Nat → Nat}
theorem wd_en (h : Wd m g κ r q) : 0 ≤ en (fun i => (κ i : Int)) (vR r) (vR q) (m + 1) ∧ en (fun i => (κ i : Int)) (vR r) (vR q) (m + 1) ≤ 768 * (one_ .f32 * one_ .f32) := by
  have hT := one_pos .f32
  have hk : ∀ i, i < m + 1 → (0 : Int) ≤ (κ i : Int) := fun i hi => by have := (h.areas i hi).1; omega
  refine ⟨en_nn hk, ?_⟩
  have h1 : en (fun i => (κ i : Int)) (vR r) (vR q) (m + 1) ≤ en (fun i => (κ i : Int)) (fun _ => 2 * one_ .f32 * 1) (fun _ => 2 * one_ .f32 * 1) (m + 1) := en_le hk fun i hi => by
    obtain ⟨⟨_, a1, a2⟩, _, b1, b2⟩ := (⟨wave_v (h.waves i hi).1, wave_v (h.waves i hi).2⟩ : _ ∧ _)
    rw [Int.mul_one]
    exact ⟨⟨a1, a2⟩, b1, b2⟩
  have h2 : en (fun i => (κ i : Int)) (fun _ => 1) (fun _ => 1) (m + 1) ≤ sm (fun _ => 48 * 1) (m + 1) := sm_le (m + 1) fun i hi => by
    have := (h.areas i hi).1
    show (κ i : Int) * (1 * 1) + (κ i : Int) * (1 * 1) ≤ 48 * 1
    omega
  have h3 : ∀ k : Nat, sm (fun _ => 48 * 1) k = 48 * (k : Int) := fun k => by
    induction k with
    | zero => rfl
    | succ k ih => show sm (fun _ => 48 * 1) k + 48 * 1 = _; rw [ih]; omega
  rw [h3] at h2
  rw [en_mul (κ := fun i => (κ i : Int)) (R := fun _ => 1) (L := fun _ => 1)] at h1
  have h4 : 2 * one_ .f32 * (2 * one_ .f32) * en (fun i => (κ i : Int)) (fun _ => 1) (fun _ => 1) (m + 1) ≤ 2 * one_ .f32 * (2 * one_ .f32) * 192 := Int.mul_le_mul_of_nonneg_left (by have := h.four; omega) (sq_nn _)
  have e : 2 * one_ .f32 * (2 * one_ .f32) * 192 = 768 * (one_ .f32 * one_ .f32) := by rw [show (768 : Int) = 2 * 2 * 192 from rfl]; ac_rfl
  rw [e] at h4
  omega
theorem in_ok {x : Nat} {κ0 : Nat} (h : waveN x) (hk : κ0 ≤ 24) : W200 x ∧ 1000 * 1000 * ((κ0 : Int) * (sval .f32 x * sval .f32 x)) ≤ (9799 * one_ .f32) * (9799 * one_ .f32) := by
  refine ⟨wave_200 h, ?_⟩
  obtain ⟨_, a, b⟩ := wave_v h
  have h1 := sq_ab a b
  have h0 := sq_nn (sval .f32 x)
  have h2 : (κ0 : Int) * (sval .f32 x * sval .f32 x) ≤ 24 * (2 * one_ .f32 * (2 * one_ .f32)) := Int.le_trans (Int.mul_le_mul_of_nonneg_right (by omega) h0) (Int.mul_le_mul_of_nonneg_left h1 (by decide))
  have e1 : 2 * one_ .f32 * (2 * one_ .f32) = 4 * (one_ .f32 * one_ .f32) := by rw [show (4 : Int) = 2 * 2 from rfl]; ac_rfl
  have e2 : (9799 * one_ .f32) * (9799 * one_ .f32) = 96020401 * (one_ .f32 * one_ .f32) := by rw [show (96020401 : Int) = 9799 * 9799 from rfl]; ac_rfl
  have hTT := sq_nn (one_ .f32)
  rw [e1] at h2
  rw [e2]
  omega
theorem in_zero {σ : Int} {κ0 : Nat} : W200 0 ∧ σ * σ * ((κ0 : Int) * (sval .f32 0 * sval .f32 0)) ≤ (1 * one_ .f32) * (1 * one_ .f32) := by
  refine ⟨wave_200 wave_0, ?_⟩
  rw [v0_32, Int.mul_zero, Int.mul_zero, Int.mul_zero]
  exact sq_nn _
theorem nu_z : ∀ k : Nat, k < 9 → 0 < nuN 27720 9799 k ∧ nuN 27720 9799 k ≤ 200 * 1000 := by decide
theorem nu_u : ∀ k : Nat, k < 9 → 0 < nuN 1 9799 k ∧ nuN 1 9799 k ≤ 200 * 1000 := by decide
theorem nu_v : ∀ k : Nat, k < 9 → 0 < nuN 27720 1 k ∧ nuN 27720 1 k ≤ 200 * 1000 := by decide
theorem c_8 : ∀ k : Nat, k < 9 → cN 27720 9799 1 9799 27720 1 k ≤ 11500000000 := by decide
def zF : Nat → Nat := fun _ => 0
theorem ru_z (h : Wd m g κ r q) (hf : ∀ k, k < 8 → waveN (f k)) : Ru m g κ 1061158912 3210739712 r q f 1000 27720 9799 8 where
  areas := h.areas
  four := h.four
  ends := p_cs.2.1
  scale := ⟨by decide, by have := p_cs.2.2; omega⟩
  small := ⟨by decide, by decide⟩
  cap := fun k hk => nu_z k (by omega)
  fin0 := fun i hi => ⟨(wave_v (h.waves i hi).1).1, (wave_v (h.waves i hi).2).1⟩
  norm0 := by
    have := (wd_en h).2
    have e : (27720 * one_ .f32) * (27720 * one_ .f32) = 768398400 * (one_ .f32 * one_ .f32) := by rw [show (768398400 : Int) = 27720 * 27720 from rfl]; ac_rfl
    have hTT := sq_nn (one_ .f32)
    rw [e]; omega
  input := fun k hk => in_ok (hf k hk) (h.areas 0 (by omega)).1.2
theorem ru_v (h : Wd m g κ r q) : Ru m g κ 1061158912 3210739712 r q zF 1000 27720 1 8 where
  areas := h.areas
  four := h.four
  ends := p_cs.2.1
  scale := ⟨by decide, by have := p_cs.2.2; omega⟩
  small := ⟨by decide, by decide⟩
  cap := fun k hk => nu_v k (by omega)
  fin0 := fun i hi => ⟨(wave_v (h.waves i hi).1).1, (wave_v (h.waves i hi).2).1⟩
  norm0 := by
    have := (wd_en h).2
    have e : (27720 * one_ .f32) * (27720 * one_ .f32) = 768398400 * (one_ .f32 * one_ .f32) := by rw [show (768398400 : Int) = 27720 * 27720 from rfl]; ac_rfl
    have hTT := sq_nn (one_ .f32)
    rw [e]; omega
  input := fun _ _ => in_zero
theorem ru_u (h : Wd m g κ r q) (hf : ∀ k, k < 8 → waveN (f k)) : Ru m g κ 1061158912 3210739712 zF zF f 1000 1 9799 8 where
  areas := h.areas
  four := h.four
  ends := p_cs.2.1
  scale := ⟨by decide, by have := p_cs.2.2; omega⟩
  small := ⟨by decide, by decide⟩
  cap := fun k hk => nu_u k (by omega)
  fin0 := fun _ _ => ⟨fn_z, fn_z⟩
  norm0 := by
    have e : en (fun i => (κ i : Int)) (vR zF) (vR zF) (m + 1) = en (fun i => (κ i : Int)) (fun i => 0 * R0 i) (fun i => 0 * R0 i) (m + 1) := en_congr fun i _ => by
      have : vR zF i = 0 := v0_32
      rw [this, Int.zero_mul]; exact ⟨rfl, rfl⟩
    rw [e, en_mul (κ := fun i => (κ i : Int)) (R := R0) (L := R0), Int.mul_zero, Int.zero_mul, Int.mul_zero]
    exact sq_nn _
  input := fun k hk => in_ok (hf k hk) (h.areas 0 (by omega)).1.2
theorem ru_c {s : Int} (h : Wd m g κ r q) (hs : 0 ≤ s ∧ s ≤ 28000000000) (hN : 1000000000 * 1000000000 * en (fun i => (κ i : Int)) (vR r) (vR q) (m + 1) ≤ ((s + 1) * one_ .f32) * ((s + 1) * one_ .f32)) : Ru m g κ 1065353216 3212836864 r q zF 1000000000 (s + 1) 1 6 where
  areas := h.areas
  four := h.four
  ends := by
    obtain ⟨⟨⟨a, b⟩, c, d⟩, _⟩ := p_cs
    have := one_pos .f32
    exact ⟨⟨a, by omega, by omega⟩, c, by omega, by omega⟩
  scale := ⟨by decide, p_cs.2.2⟩
  small := ⟨by decide, by decide⟩
  cap := fun k hk => by
    have := nu_cap (a := s + 1) (by omega) hk
    exact ⟨by omega, by omega⟩
  fin0 := fun i hi => ⟨(wave_v (h.waves i hi).1).1, (wave_v (h.waves i hi).2).1⟩
  norm0 := hN
  input := fun _ _ => in_zero
end
end Go.Vx

namespace Go.Vx
open Ieee Go.RowKit
theorem mil_cs : (Fn .f64 4562254508917369340 ∧ 14000 * (one_ .f32 * wid) ≤ 16777216 * sval .f64 4562254508917369340) ∧ (farith .add .f32 1065353216 3210739712 = 1040187392 ∧ Fn .f32 1040187392 ∧ 8 * sval .f32 1040187392 = one_ .f32) ∧ (farith .add .f32 1065353216 3212836864 = 0) := by decide +kernel
section
attribute [local irreducible] farith sval one_ Fn E9 wid fcmp conv
/-- Two numbers that are near each other. -/
theorem gap_abs {a b : Nat} (ha : Fn .f32 a) (hb : Fn .f32 b) (h1 : 16777216 * (sval .f32 b - sval .f32 a) ≤ 14000 * one_ .f32) (h2 : 16777216 * (sval .f32 a - sval .f32 b) ≤ 14000 * one_ .f32) :
    (isN .f64 (farith .sub .f64 (conv .f32 .f64 a) (conv .f32 .f64 b)) = false ∧ isN .f64 (farith .sub .f64 (conv .f32 .f64 b) (conv .f32 .f64 a)) = false) ∧ fcmp .gtr .f64 (gapM (conv .f32 .f64 a) (conv .f32 .f64 b)) 4562254508917369340 = false := by
  obtain ⟨_, ⟨_, ⟨e1, e2⟩⟩, _, o1, _⟩ := w_cs
  obtain ⟨⟨m1, m2⟩, _⟩ := mil_cs
  obtain ⟨x1, x2⟩ := wide_val ha
  obtain ⟨y1, y2⟩ := wide_val hb
  have hw := wid_pos
  have hT := one_pos .f64
  have b2 := Int.mul_le_mul_of_nonneg_right h1 (Int.le_of_lt hw)
  have b3 := Int.mul_le_mul_of_nonneg_right h2 (Int.le_of_lt hw)
  rw [Int.mul_assoc, Int.mul_assoc, Int.sub_mul, ← x2, ← y2] at b2 b3
  have g1 := sub_bd (k := .f64) x1 y1 e1 m1 (by rw [e2]; omega) (by omega)
  have g2 := sub_bd (k := .f64) y1 x1 e1 m1 (by rw [e2]; omega) (by omega)
  refine ⟨⟨sub_num x1 y1, sub_num y1 x1⟩, ?_⟩
  unfold gapM
  rcases maxF_or g1.1 g2.1 with h' | h' <;> rw [h']
  · exact cmp_gt_not g1.1 m1 g1.2.2
  · exact cmp_gt_not g2.1 m1 g2.2.2
/-- A number near a sum of two. -/
theorem gap_sum {a b c : Nat} (ha : W200 a) (hb : W200 b) (hc : W200 c) (h1 : 16777216 * (sval .f32 a - sval .f32 b - sval .f32 c) ≤ 13000 * one_ .f32) (h2 : 16777216 * (sval .f32 b + sval .f32 c - sval .f32 a) ≤ 13000 * one_ .f32) :
    (isN .f64 (farith .sub .f64 (conv .f32 .f64 a) (farith .add .f64 (conv .f32 .f64 b) (conv .f32 .f64 c))) = false ∧ isN .f64 (farith .sub .f64 (farith .add .f64 (conv .f32 .f64 b) (conv .f32 .f64 c)) (conv .f32 .f64 a)) = false) ∧ fcmp .gtr .f64 (gapM (conv .f32 .f64 a) (farith .add .f64 (conv .f32 .f64 b) (conv .f32 .f64 c))) 4562254508917369340 = false := by
  obtain ⟨_, ⟨⟨d1, d2⟩, ⟨e1, e2⟩⟩, _, o1, o2⟩ := w_cs
  obtain ⟨⟨m1, m2⟩, _⟩ := mil_cs
  obtain ⟨a0, a1, a2⟩ := ha
  obtain ⟨b0, b1, b2⟩ := hb
  obtain ⟨c0, c1, c2⟩ := hc
  obtain ⟨x1, x2⟩ := wide_val a0
  obtain ⟨y1, y2⟩ := wide_val b0
  obtain ⟨z1, z2⟩ := wide_val c0
  have hw := wid_pos
  have hT := one_pos .f64
  have p1 := Int.mul_le_mul_of_nonneg_right h1 (Int.le_of_lt hw)
  have p2 := Int.mul_le_mul_of_nonneg_right h2 (Int.le_of_lt hw)
  rw [Int.mul_assoc, Int.mul_assoc, Int.sub_mul, Int.sub_mul, ← x2, ← y2, ← z2] at p1
  rw [Int.mul_assoc, Int.mul_assoc, Int.sub_mul, Int.add_mul, ← x2, ← y2, ← z2] at p2
  have q1 := Int.mul_le_mul_of_nonneg_right a1 (Int.le_of_lt hw)
  have q2 := Int.mul_le_mul_of_nonneg_right a2 (Int.le_of_lt hw)
  have q3 := Int.mul_le_mul_of_nonneg_right b1 (Int.le_of_lt hw)
  have q4 := Int.mul_le_mul_of_nonneg_right b2 (Int.le_of_lt hw)
  have q5 := Int.mul_le_mul_of_nonneg_right c1 (Int.le_of_lt hw)
  have q6 := Int.mul_le_mul_of_nonneg_right c2 (Int.le_of_lt hw)
  rw [Int.neg_mul, Int.mul_assoc, ← o1] at q1 q3 q5
  rw [Int.mul_assoc, ← o1] at q2 q4 q6
  rw [← x2] at q1 q2
  rw [← y2] at q3 q4
  rw [← z2] at q5 q6
  rw [← o1] at p1 p2 m2
  generalize conv .f32 .f64 a = X at *
  generalize conv .f32 .f64 b = Y at *
  generalize conv .f32 .f64 c = Z at *
  obtain ⟨s1, s2, s3⟩ := add_bd (k := .f64) y1 z1 e1 d1 (by rw [e2]; omega) (by rw [d2]; omega)
  have s4 := add_half64 y1 z1 s1
  generalize farith .add .f64 Y Z = S at *
  have g1 := sub_bd (k := .f64) x1 s1 e1 m1 (by rw [e2]; omega) (by omega)
  have g2 := sub_bd (k := .f64) s1 x1 e1 m1 (by rw [e2]; omega) (by omega)
  refine ⟨⟨sub_num x1 s1, sub_num s1 x1⟩, ?_⟩
  unfold gapM
  rcases maxF_or g1.1 g2.1 with h' | h' <;> rw [h']
  · exact cmp_gt_not g1.1 m1 g1.2.2
  · exact cmp_gt_not g2.1 m1 g2.2.2
variable {m : Nat} {g κ r q f : Nat → Nat}
def Zk (m : Nat) (g r q f : Nat → Nat) (k : Nat) : (Nat → Nat) × (Nat → Nat) := Sk (m + 1) g 1061158912 3210739712 r q f k
theorem dif_sup (h : Wd m g κ r q) (hf : ∀ k, k < 8 → waveN (f k)) {k i : Nat} (hk : k ≤ 8) (hi : i < m + 1) :
    (16777216 * (sval .f32 ((Zk m g r q f k).1 i) - sval .f32 ((Zk m g zF zF f k).1 i) - sval .f32 ((Zk m g r q zF k).1 i)) ≤ 11500 * one_ .f32 ∧ 16777216 * (sval .f32 ((Zk m g zF zF f k).1 i) + sval .f32 ((Zk m g r q zF k).1 i) - sval .f32 ((Zk m g r q f k).1 i)) ≤ 11500 * one_ .f32) ∧
    (16777216 * (sval .f32 ((Zk m g r q f k).2 i) - sval .f32 ((Zk m g zF zF f k).2 i) - sval .f32 ((Zk m g r q zF k).2 i)) ≤ 11500 * one_ .f32 ∧ 16777216 * (sval .f32 ((Zk m g zF zF f k).2 i) + sval .f32 ((Zk m g r q zF k).2 i) - sval .f32 ((Zk m g r q f k).2 i)) ≤ 11500 * one_ .f32) := by
  have hT := one_pos .f32
  have hz : vR zF = fun _ => 0 := by funext i; exact v0_32
  obtain ⟨c0, hE⟩ := sup_all (ru_z h hf) (ru_u h hf) (ru_v h) (fun i _ => by rw [hz]; show vR r i - 0 - vR r i = 0 ∧ vR q i - 0 - vR q i = 0; omega) (fun _ _ => v0_32) k hk
  have hc := c_8 k (by omega)
  generalize cN 27720 9799 1 9799 27720 1 k = c at *
  have hcT : one_ .f32 * c ≤ one_ .f32 * 11500000000 := Int.mul_le_mul_of_nonneg_left hc (Int.le_of_lt hT)
  have h0 : 0 ≤ one_ .f32 * c := Int.mul_nonneg (Int.le_of_lt hT) (Int.le_of_lt c0)
  have key : ∀ d : Int, (1000 * (1000 * 16777216 * d)) * (1000 * (1000 * 16777216 * d)) ≤ (one_ .f32 * c) * (one_ .f32 * c) → 16777216 * d ≤ 11500 * one_ .f32 ∧ 16777216 * (-d) ≤ 11500 * one_ .f32 := fun d hd => by
    have := sq_le_abs h0 hd
    omega
  have hk1 := (h.areas i hi).1.1
  have nn : ∀ j, j < m + 1 → 0 ≤ (κ j : Int) * ((1000 * (1000 * 16777216 * (vR (Sk (m + 1) g 1061158912 3210739712 r q f k).1 j - vR (Sk (m + 1) g 1061158912 3210739712 zF zF f k).1 j - vR (Sk (m + 1) g 1061158912 3210739712 r q zF k).1 j))) * (1000 * (1000 * 16777216 * (vR (Sk (m + 1) g 1061158912 3210739712 r q f k).1 j - vR (Sk (m + 1) g 1061158912 3210739712 zF zF f k).1 j - vR (Sk (m + 1) g 1061158912 3210739712 r q zF k).1 j)))) + (κ j : Int) * ((1000 * (1000 * 16777216 * (vR (Sk (m + 1) g 1061158912 3210739712 r q f k).2 j - vR (Sk (m + 1) g 1061158912 3210739712 zF zF f k).2 j - vR (Sk (m + 1) g 1061158912 3210739712 r q zF k).2 j))) * (1000 * (1000 * 16777216 * (vR (Sk (m + 1) g 1061158912 3210739712 r q f k).2 j - vR (Sk (m + 1) g 1061158912 3210739712 zF zF f k).2 j - vR (Sk (m + 1) g 1061158912 3210739712 r q zF k).2 j)))) := fun j hj => Int.add_nonneg (Int.mul_nonneg (by omega) (sq_nn _)) (Int.mul_nonneg (by omega) (sq_nn _))
  have one := Int.le_trans (sm_one nn hi) hE
  have up : ∀ X : Int, X * X ≤ (κ i : Int) * (X * X) := fun X => by
    have := Int.mul_le_mul_of_nonneg_right (show (1 : Int) ≤ (κ i : Int) by omega) (sq_nn X); omega
  have kk : (0 : Int) ≤ (κ i : Int) := by omega
  constructor
  · have e := key (vR (Sk (m + 1) g 1061158912 3210739712 r q f k).1 i - vR (Sk (m + 1) g 1061158912 3210739712 zF zF f k).1 i - vR (Sk (m + 1) g 1061158912 3210739712 r q zF k).1 i) (by
      refine Int.le_trans (up _) (Int.le_trans ?_ one)
      exact Int.le_add_of_nonneg_right (Int.mul_nonneg kk (sq_nn _)))
    change 16777216 * (sval .f32 ((Zk m g r q f k).1 i) - sval .f32 ((Zk m g zF zF f k).1 i) - sval .f32 ((Zk m g r q zF k).1 i)) ≤ _ ∧ 16777216 * -(sval .f32 ((Zk m g r q f k).1 i) - sval .f32 ((Zk m g zF zF f k).1 i) - sval .f32 ((Zk m g r q zF k).1 i)) ≤ _ at e
    exact ⟨e.1, by omega⟩
  · have e := key (vR (Sk (m + 1) g 1061158912 3210739712 r q f k).2 i - vR (Sk (m + 1) g 1061158912 3210739712 zF zF f k).2 i - vR (Sk (m + 1) g 1061158912 3210739712 r q zF k).2 i) (by
      refine Int.le_trans (up _) (Int.le_trans ?_ one)
      exact Int.le_add_of_nonneg_left (Int.mul_nonneg kk (sq_nn _)))
    change 16777216 * (sval .f32 ((Zk m g r q f k).2 i) - sval .f32 ((Zk m g zF zF f k).2 i) - sval .f32 ((Zk m g r q zF k).2 i)) ≤ _ ∧ 16777216 * -(sval .f32 ((Zk m g r q f k).2 i) - sval .f32 ((Zk m g zF zF f k).2 i) - sval .f32 ((Zk m g r q zF k).2 i)) ≤ _ at e
    exact ⟨e.1, by omega⟩
end
end Go.Vx

namespace Go.Vx
open Ieee Go.RowKit
section
attribute [local irreducible] farith sval one_ Fn E9 wid fcmp conv
variable {m : Nat} {g κ r q f : Nat → Nat}
theorem z_200 (h : Wd m g κ r q) (hf : ∀ k, k < 8 → waveN (f k)) {k i : Nat} (hk : k ≤ 8) (hi : i < m + 1) : (W200 ((Zk m g r q f k).1 i) ∧ W200 ((Zk m g r q f k).2 i)) ∧ (W200 ((Zk m g zF zF f k).1 i) ∧ W200 ((Zk m g zF zF f k).2 i)) ∧ (W200 ((Zk m g r q zF k).1 i) ∧ W200 ((Zk m g r q zF k).2 i)) :=
  ⟨run_200 (ru_z h hf) hk hi, run_200 (ru_u h hf) hk hi, run_200 (ru_v h) hk hi⟩
/-! What comes out -/
theorem out_fl {R : Nat} (h : W200 R) : W200 (farith .mul .f32 (farith .add .f32 1065353216 3210739712) R) ∧ Hf (8 * sval .f32 (farith .mul .f32 (farith .add .f32 1065353216 3210739712) R)) (sval .f32 R) 8 := by
  obtain ⟨_, ⟨e, c1, c2⟩, _⟩ := mil_cs
  rw [e]
  have hT := one_pos .f32
  obtain ⟨w, hf⟩ := end_fl h c1 (by omega)
  refine ⟨w, ?_⟩
  unfold Hf at hf ⊢
  have e1 : 8 * (sval .f32 1040187392 * sval .f32 R) = one_ .f32 * sval .f32 R := by rw [← Int.mul_assoc, c2]
  have a1 : ((sval .f32 1040187392 * sval .f32 R).natAbs : Int) * 8 = one_ .f32 * (sval .f32 R).natAbs := by
    have h2 : ((one_ .f32).natAbs : Int) = one_ .f32 := Int.natAbs_of_nonneg (Int.le_of_lt hT)
    have h4 : ((one_ .f32 * sval .f32 R).natAbs : Int) = one_ .f32 * ((sval .f32 R).natAbs : Int) := by rw [Int.natAbs_mul, Int.natCast_mul, h2]
    rw [← h4, ← e1]
    omega
  generalize farith .mul .f32 1040187392 R = y at *
  constructor
  · refine Int.le_of_mul_le_mul_left (a := one_ .f32) ?_ hT
    have b1 : one_ .f32 * (16777216 * (8 * sval .f32 y - sval .f32 R)) = 16777216 * (8 * (sval .f32 y * one_ .f32)) - 16777216 * (one_ .f32 * sval .f32 R) := by
      rw [Int.mul_left_comm, Int.mul_sub, Int.mul_sub, Int.mul_left_comm (one_ .f32) 8, Int.mul_comm (one_ .f32) (sval .f32 y)]
    have b2 : one_ .f32 * (((sval .f32 R).natAbs : Int) + 8388608 * 8) = one_ .f32 * (sval .f32 R).natAbs + 67108864 * one_ .f32 := by rw [Int.mul_add, Int.mul_comm (one_ .f32) (8388608 * 8)]; rfl
    rw [b1, b2, ← a1, ← e1]
    have := hf.1
    omega
  · refine Int.le_of_mul_le_mul_left (a := one_ .f32) ?_ hT
    have b1 : one_ .f32 * (16777216 * (sval .f32 R - 8 * sval .f32 y)) = 16777216 * (one_ .f32 * sval .f32 R) - 16777216 * (8 * (sval .f32 y * one_ .f32)) := by
      rw [Int.mul_left_comm, Int.mul_sub, Int.mul_sub, Int.mul_left_comm (one_ .f32) 8, Int.mul_comm (one_ .f32) (sval .f32 y)]
    have b2 : one_ .f32 * (((sval .f32 R).natAbs : Int) + 8388608 * 8) = one_ .f32 * (sval .f32 R).natAbs + 67108864 * one_ .f32 := by rw [Int.mul_add, Int.mul_comm (one_ .f32) (8388608 * 8)]; rfl
    rw [b1, b2, ← a1, ← e1]
    have := hf.2
    omega
def yK (m : Nat) (g r q f : Nat → Nat) (k : Nat) : Nat := wys (m + 1) g 1065353216 1061158912 3210739712 r q f k
theorem y_is {k : Nat} : yK m g r q f k = farith .mul .f32 (farith .add .f32 1065353216 3210739712) (lossG 1065353216 (Zk m g r q f k).1 m) := rfl
theorem loss_200 {r : Nat → Nat} {i : Nat} (h : W200 (r i)) : W200 (lossG 1065353216 r i) ∧ sval .f32 (lossG 1065353216 r i) = sval .f32 (r i) := by
  obtain ⟨a, b⟩ := loss_v h.1
  exact ⟨⟨a, by rw [b]; exact h.2.1, by rw [b]; exact h.2.2⟩, b⟩
theorem y_one {k : Nat} (h : W200 ((Zk m g r q f k).1 m)) : W200 (yK m g r q f k) ∧ Hf (8 * sval .f32 (yK m g r q f k)) (sval .f32 ((Zk m g r q f k).1 m)) 8 := by
  obtain ⟨a, b⟩ := loss_200 h
  have := out_fl a
  rw [b, ← y_is] at this
  exact this
/-- What comes out of all is nearly what comes out of both. -/
theorem q_out (h : Wd m g κ r q) (hf : ∀ k, k < 8 → waveN (f k)) {k : Nat} (hk : k ≤ 8) :
    (isN .f64 (farith .sub .f64 (conv .f32 .f64 (yK m g r q f k)) (farith .add .f64 (conv .f32 .f64 (yK m g zF zF f k)) (conv .f32 .f64 (yK m g r q zF k)))) = false ∧ isN .f64 (farith .sub .f64 (farith .add .f64 (conv .f32 .f64 (yK m g zF zF f k)) (conv .f32 .f64 (yK m g r q zF k))) (conv .f32 .f64 (yK m g r q f k))) = false) ∧
    fcmp .gtr .f64 (gapM (conv .f32 .f64 (yK m g r q f k)) (farith .add .f64 (conv .f32 .f64 (yK m g zF zF f k)) (conv .f32 .f64 (yK m g r q zF k)))) 4562254508917369340 = false := by
  obtain ⟨⟨z1, _⟩, ⟨u1, _⟩, v1, _⟩ := z_200 h hf hk (show m < m + 1 by omega)
  obtain ⟨⟨d1, d2⟩, _⟩ := dif_sup h hf hk (show m < m + 1 by omega)
  obtain ⟨z2, z3⟩ := y_one z1
  obtain ⟨u2, u3⟩ := y_one u1
  obtain ⟨v2, v3⟩ := y_one v1
  have hT := one_pos .f32
  obtain ⟨_, _, _, o1, o2⟩ := w_cs
  have hb : 1000000 ≤ one_ .f32 := by have := p_cs.2.2; omega
  unfold W200 at z1 u1 v1
  unfold Hf at z3 u3 v3
  exact gap_sum z2 u2 v2 (by omega) (by omega)
/-- The sums of two runs are nearly the run of both. -/
theorem q_sum (h : Wd m g κ r q) (hf : ∀ k, k < 8 → waveN (f k)) {i : Nat} (hi : i < m + 1) :
    ((isN .f64 (farith .sub .f64 (conv .f32 .f64 (farith .add .f32 ((Zk m g zF zF f 8).1 i) ((Zk m g r q zF 8).1 i))) (conv .f32 .f64 ((Zk m g r q f 8).1 i))) = false ∧ isN .f64 (farith .sub .f64 (conv .f32 .f64 ((Zk m g r q f 8).1 i)) (conv .f32 .f64 (farith .add .f32 ((Zk m g zF zF f 8).1 i) ((Zk m g r q zF 8).1 i)))) = false) ∧
      fcmp .gtr .f64 (gapM (conv .f32 .f64 (farith .add .f32 ((Zk m g zF zF f 8).1 i) ((Zk m g r q zF 8).1 i))) (conv .f32 .f64 ((Zk m g r q f 8).1 i))) 4562254508917369340 = false) ∧
    ((isN .f64 (farith .sub .f64 (conv .f32 .f64 (farith .add .f32 ((Zk m g zF zF f 8).2 i) ((Zk m g r q zF 8).2 i))) (conv .f32 .f64 ((Zk m g r q f 8).2 i))) = false ∧ isN .f64 (farith .sub .f64 (conv .f32 .f64 ((Zk m g r q f 8).2 i)) (conv .f32 .f64 (farith .add .f32 ((Zk m g zF zF f 8).2 i) ((Zk m g r q zF 8).2 i)))) = false) ∧
      fcmp .gtr .f64 (gapM (conv .f32 .f64 (farith .add .f32 ((Zk m g zF zF f 8).2 i) ((Zk m g r q zF 8).2 i))) (conv .f32 .f64 ((Zk m g r q f 8).2 i))) 4562254508917369340 = false) ∧
    fin (farith .add .f32 ((Zk m g zF zF f 8).1 i) ((Zk m g r q zF 8).1 i)) = true ∧ fin (farith .add .f32 ((Zk m g zF zF f 8).2 i) ((Zk m g r q zF 8).2 i)) = true := by
  obtain ⟨⟨z1, z2⟩, ⟨u1, u2⟩, v1, v2⟩ := z_200 h hf (Nat.le_refl 8) hi
  obtain ⟨⟨d1, d2⟩, d3, d4⟩ := dif_sup h hf (Nat.le_refl 8) hi
  obtain ⟨s1, s2⟩ := sum_fl u1 v1
  obtain ⟨t1, t2⟩ := sum_fl u2 v2
  have hT := one_pos .f32
  have hb : 1000000000 ≤ one_ .f32 := by have := p_cs.2.2; omega
  have z1' := z1.1
  have z2' := z2.1
  unfold W200 at u1 u2 v1 v2
  unfold Hf at s2 t2
  exact ⟨gap_abs s1 z1' (by omega) (by omega), gap_abs t1 z2' (by omega) (by omega), fn_fin.1 s1, fn_fin.1 t1⟩
end
end Go.Vx

namespace Go.Vx
open Ieee Go.RowKit
section
attribute [local irreducible] farith sval one_ Fn E9 wid fcmp conv
variable {m : Nat} {g κ r q f : Nat → Nat}
def Ck (m : Nat) (g r q : Nat → Nat) (k : Nat) : (Nat → Nat) × (Nat → Nat) := Sk (m + 1) g 1065353216 3212836864 r q zF k
theorem near_alg {T A B E0 E6 : Int} (hT : 1125899906842624 ≤ T) (n1 : 10000 * E6 ≤ 10001 * E0 + T * T) (n2 : 10000 * E0 ≤ 10001 * E6 + T * T) (a1 : 16777216 * (4 * (A * T) - E0) ≤ 13 * E0 + 137438953472 * T) (a2 : 16777216 * (E0 - 4 * (A * T)) ≤ 13 * E0 + 137438953472 * T)
    (b1 : 16777216 * (4 * (B * T) - E6) ≤ 13 * E6 + 137438953472 * T) (b2 : 16777216 * (E6 - 4 * (B * T)) ≤ 13 * E6 + 137438953472 * T) : 5000 * (B - A) ≤ T + A ∧ 5000 * (A - B) ≤ T + A := by
  have h1 : 1125899906842624 * T ≤ T * T := Int.mul_le_mul_of_nonneg_right hT (by omega)
  have hT0 : 0 < T := by omega
  have c1 : 5000 * (B * T - A * T) ≤ T * T + A * T := by
    generalize A * T = AT at *
    generalize B * T = BT at *
    generalize T * T = TT at *
    omega
  have c2 : 5000 * (A * T - B * T) ≤ T * T + A * T := by
    generalize A * T = AT at *
    generalize B * T = BT at *
    generalize T * T = TT at *
    omega
  constructor
  · refine Int.le_of_mul_le_mul_right (a := T) ?_ hT0
    rw [Int.mul_assoc, Int.sub_mul, Int.add_mul]; exact c1
  · refine Int.le_of_mul_le_mul_right (a := T) ?_ hT0
    rw [Int.mul_assoc, Int.sub_mul, Int.add_mul]; exact c2
/-- Closed tubes keep the energy, nearly. -/
theorem q_energy (h : Wd m g κ r q) : (∀ k i, k ≤ 6 → i < m + 1 → W200 ((Ck m g r q k).1 i) ∧ W200 ((Ck m g r q k).2 i)) ∧ (fin (enS g r q (m + 1)) = true ∧ fin (enS g (Ck m g r q 6).1 (Ck m g r q 6).2 (m + 1)) = true) ∧
    (isN .f64 (farith .sub .f64 (conv .f32 .f64 (enS g r q (m + 1))) (conv .f32 .f64 (enS g (Ck m g r q 6).1 (Ck m g r q 6).2 (m + 1)))) = false ∧ isN .f64 (farith .sub .f64 (conv .f32 .f64 (enS g (Ck m g r q 6).1 (Ck m g r q 6).2 (m + 1))) (conv .f32 .f64 (enS g r q (m + 1)))) = false) ∧
    fcmp .gtr .f64 (gapM (conv .f32 .f64 (enS g r q (m + 1))) (conv .f32 .f64 (enS g (Ck m g r q 6).1 (Ck m g r q 6).2 (m + 1)))) (farith .mul .f64 4562254508917369340 (farith .add .f64 4607182418800017408 (conv .f32 .f64 (enS g r q (m + 1))))) = false := by
  have hT := one_pos .f32
  have hTb : 1125899906842624 ≤ one_ .f32 := by have := p_cs.2.2; omega
  obtain ⟨w0, w1⟩ := wd_en h
  obtain ⟨s, s0, s1, s2⟩ := root_of (x := 1000000000 * 1000000000 * en (fun i => (κ i : Int)) (vR r) (vR q) (m + 1)) (by omega) hT
  have s3 : s ≤ 28000000000 := by
    refine root_le hT (by decide) (Int.le_trans s1 ?_)
    have e : (28000000000 * one_ .f32) * (28000000000 * one_ .f32) = 784000000000000000000 * (one_ .f32 * one_ .f32) := by rw [show (784000000000000000000 : Int) = 28000000000 * 28000000000 from rfl]; ac_rfl
    have hTT := sq_nn (one_ .f32)
    rw [e]; omega
  have R := ru_c h ⟨s0, s3⟩ s2
  have w6 : ∀ k i, k ≤ 6 → i < m + 1 → W200 ((Ck m g r q k).1 i) ∧ W200 ((Ck m g r q k).2 i) := fun k i hk hi => run_200 R hk hi
  obtain ⟨n1, n2⟩ := closed_near R p_cs.1.1.2 p_cs.1.2.2 (fun _ _ => v0_32) ⟨s0, s3⟩ s1
  change 10000 * (1000000000 * 1000000000 * en (fun i => (κ i : Int)) (vR (Ck m g r q 6).1) (vR (Ck m g r q 6).2) (m + 1)) ≤ _ at n1
  change _ ≤ 10001 * (1000000000 * 1000000000 * en (fun i => (κ i : Int)) (vR (Ck m g r q 6).1) (vR (Ck m g r q 6).2) (m + 1)) + _ at n2
  have e : (1000000000 * one_ .f32) * (1000000000 * one_ .f32) = 1000000000 * 1000000000 * (one_ .f32 * one_ .f32) := by ac_rfl
  rw [e] at n1 n2
  obtain ⟨⟨a1, a2, a3⟩, a4, a5, a6⟩ := enS_fl h.areas h.four (fun j hj => ⟨wave_200 (h.waves j hj).1, wave_200 (h.waves j hj).2⟩) (m + 1) (Nat.le_refl _)
  obtain ⟨⟨b1, b2, b3⟩, b4, b5, b6⟩ := enS_fl h.areas h.four (fun j hj => w6 6 j (Nat.le_refl _) hj) (m + 1) (Nat.le_refl _)
  have h4 := h.four
  have k13 : ∀ E : Int, 0 ≤ E → (5 + 2 * ((m + 1 : Nat) : Int)) * E ≤ 13 * E := fun E hE => Int.mul_le_mul_of_nonneg_right (by omega) hE
  have kT : ((m + 1 : Nat) : Int) * (34359738368 * one_ .f32) ≤ 4 * (34359738368 * one_ .f32) := Int.mul_le_mul_of_nonneg_right (by omega) (by omega)
  have kA : ((m + 1 : Nat) : Int) * (1048577 * one_ .f32) ≤ 4 * (1048577 * one_ .f32) := Int.mul_le_mul_of_nonneg_right (by omega) (by omega)
  have k1 := k13 _ a4
  have k2 := k13 _ b4
  generalize en (fun i => (κ i : Int)) (vR r) (vR q) (m + 1) = E0 at *
  generalize en (fun i => (κ i : Int)) (vR (Ck m g r q 6).1) (vR (Ck m g r q 6).2) (m + 1) = E6 at *
  obtain ⟨g1, g2⟩ := near_alg (E0 := E0) (E6 := E6) (A := sval .f32 (enS g r q (m + 1))) (B := sval .f32 (enS g (Ck m g r q 6).1 (Ck m g r q 6).2 (m + 1))) hTb (by omega) (by omega) (by omega) (by omega) (by omega) (by omega)
  have gr := gap_rel a1 b1 a2 (by omega) g1 g2
  exact ⟨w6, ⟨fn_fin.1 a1, fn_fin.1 b1⟩, gr.1, gr.2⟩
/-! Runs that are in order -/
theorem waves_ok {t p : Nat} {R Q : Nat → Nat} (ht : tubeB (m + 1) g 1065353216 t p = true) (hw : ∀ i, i < m + 1 → W200 (R i) ∧ W200 (Q i)) : wavesB (m + 1) g 1065353216 t p (m + 1) R (m + 1) Q = true := by
  have e : icmp .eql ((m + 1 : Nat) : Int) ((m + 1 : Nat) : Int) = true := by simp [icmp]
  unfold wavesB
  rw [ht, e, allB_true.2 (fun i hi => fn_fin.1 (hw i hi).1.1), allB_true.2 (fun i hi => fn_fin.1 (hw i hi).2.1)]; rfl
theorem run_ok2 {t p : Nat} {K : Nat} (ht : tubeB (m + 1) g 1065353216 t p = true) (hp : Fn .f32 (farith .add .f32 1065353216 p) ∧ -one_ .f32 ≤ sval .f32 (farith .add .f32 1065353216 p) ∧ sval .f32 (farith .add .f32 1065353216 p) ≤ one_ .f32) (hK : K ≤ 256) (hf : ∀ k, k < K → fin (f k) = true)
    (hw : ∀ k i, k ≤ K → i < m + 1 → W200 ((Sk (m + 1) g t p r q f k).1 i) ∧ W200 ((Sk (m + 1) g t p r q f k).2 i)) : runWB (m + 1) g 1065353216 t p (m + 1) r (m + 1) q K f = true := by
  have h1 : wavesB (m + 1) g 1065353216 t p (m + 1) r (m + 1) q = true := waves_ok ht (fun i hi => hw 0 i (Nat.zero_le _) hi)
  have h2 : sound K f = true := by
    unfold sound
    have e : icmp .leq (K : Int) 256 = true := by simp [icmp]; omega
    rw [allB_true.2 hf, e]; rfl
  unfold runWB
  rw [h1, h2, allB_true.2 fun k hk => ?_]
  · rfl
  · unfold wok
    have h3 : wavesB (m + 1) g 1065353216 t p (m + 1) (wst (m + 1) g 1065353216 t p r q f (k + 1)).1 (m + 1) (wst (m + 1) g 1065353216 t p r q f (k + 1)).2 = true := waves_ok ht (fun i hi => hw (k + 1) i (by omega) hi)
    rw [h3, Bool.true_and]
    have h4 := (loss_200 (hw k m (by omega) (by omega)).1).1
    exact fn_fin.1 (end_fl h4 hp.1 hp.2).1.1
theorem sk_cut {t p n c : Nat} : ∀ j, Sk n g t p (Sk n g t p r q f c).1 (Sk n g t p r q f c).2 (fun k => f (c + k)) j = Sk n g t p r q f (c + j)
  | 0 => rfl
  | j + 1 => by
    have ih := sk_cut (t := t) (p := p) (n := n) (c := c) j
    show (outR g (lossG 1065353216 (Sk n g t p (Sk n g t p r q f c).1 (Sk n g t p r q f c).2 (fun k => f (c + k)) j).1) (lossG 1065353216 (Sk n g t p (Sk n g t p r q f c).1 (Sk n g t p r q f c).2 (fun k => f (c + k)) j).2) t (f (c + j)), outL n g (lossG 1065353216 (Sk n g t p (Sk n g t p r q f c).1 (Sk n g t p r q f c).2 (fun k => f (c + k)) j).1) (lossG 1065353216 (Sk n g t p (Sk n g t p r q f c).1 (Sk n g t p r q f c).2 (fun k => f (c + k)) j).2) p) = _
    rw [ih]; rfl
end
end Go.Vx

namespace Go.Vx
open Ieee Go.RowKit
/-- A choice by one byte, or the first. -/
def at8 (N : Nat) (g : Nat → Nat) (i n : Int) : Int := if i < (N : Int) then (g i.toNat : Int).tmod n else 0
theorem at8_1 {N : Nat} {g : Nat → Nat} {i n : Int} (h : i < (N : Int)) : (g i.toNat : Int).tmod n = at8 N g i n := by unfold at8; rw [if_pos h]
theorem at8_0 {N : Nat} {g : Nat → Nat} {i n : Int} (h : ¬ i < (N : Int)) : 0 = at8 N g i n := by unfold at8; rw [if_neg h]
theorem at8_c0 {N : Nat} {i n : Int} (hn : 2 ≤ n ∧ n ≤ 1000) (h : (icmp .leq n 1 || icmp .geq i (N : Int)) = true) : ¬ i < (N : Int) := by
  simp [icmp] at h; omega
theorem at8_c1 {N : Nat} {i n : Int} (h : (icmp .leq n 1 || icmp .geq i (N : Int)) = false) : i < (N : Int) := by
  simp [icmp] at h; omega
theorem at8_in {N : Nat} {g : Nat → Nat} {i n : Int} (hn : 0 < n) : 0 ≤ at8 N g i n ∧ at8 N g i n < n := by
  unfold at8
  split
  · exact tmod_in (Int.natCast_nonneg _) hn
  · omega
end Go.Vx

namespace Go.Vx
open Ieee Go.RowKit
theorem j_cut {P : Program} {n : Nat} {w0 : World} {old : Nat → Prop} {Q : Exit → Act → World → Prop} {x : Code} {F G : Frm} {H H' : List HFact} (hF : FSub G F) (hH : ∀ w, HInv w0 old H w → HInv w0 old H' w)
    (k : J P n w0 old x G H' Q) : J P n w0 old x F H Q := fun a w hFr hIn => k a w (hF.fr hFr) (hH w hIn)
/-- What is left of a row of steps behind its first one. -/
def sndS : Code → Code
  | .seq _ c => c
  | c => c
/-- The first and the third of them change places. -/
theorem HInv.swap3 {w0 w : World} {old : Nat → Prop} {H : List HFact} {a b c : HFact} (h : HInv w0 old (a :: b :: c :: H) w) : HInv w0 old (c :: b :: a :: H) w := by
  have hp : (c :: b :: a :: H).Perm (a :: b :: c :: H) := ((List.Perm.swap b c (a :: H)).trans ((List.Perm.swap a c H).cons b)).trans (List.Perm.swap a b (c :: H))
  exact ⟨h.os, h.tape, h.output, h.size, h.frame, fun f hf => h.facts f (hp.subset hf), fun f hf => h.new f (hp.subset hf), (hp.pairwise_iff (fun hxy => HFact.off_symm hxy)).2 h.apart⟩
/-- The beginning of a list that is read. -/
theorem ro_head {w : World} {A : Option Addr} {N m : Nat} {g : Nat → Nat} (h : (HFact.ro A (tab N g)).holds w) (hm : m ≤ N) : (HFact.ro A (tab m g)).holds w := fun i V hV => by
  have hi : i < m := by
    have := (List.getElem?_eq_some_iff.1 hV).1
    rwa [tab_length] at this
  refine h i V ?_
  rw [tab_get hi] at hV
  rw [tab_get (by omega)]
  exact hV
theorem ro_zero {w : World} {A : Option Addr} {N : Nat} (h : (HFact.ro A (List.replicate N (F 0))).holds w) : (HFact.ro A (tab N zF)).holds w := by
  rw [tab_replicate] at h
  exact h
theorem end_1 : endB 1065353216 = true := by decide +kernel
theorem end_m : endB 3212836864 = true := by decide +kernel
theorem fin_zF (k : Nat) : fin (zF k) = true := by
  show fin 0 = true
  decide +kernel
theorem cmp_ne_not {k : FloatKind} {x y : Nat} (hx : Fn k x) (hy : Fn k y) (h : sval k x = sval k y) : fcmp .neq k x y = false := by
  unfold fcmp
  rw [order_sval hx hy, Int.compare_eq_eq.2 h]; rfl
section
attribute [local irreducible] farith sval one_ Fn E9 wid fcmp conv
variable {m : Nat} {g κ r q f : Nat → Nat}
theorem wd_tq (h : Wd m g κ r q) : Tq (m + 1) g := ⟨⟨by omega, h.four⟩, fun j hj => ⟨κ j, (h.areas j hj).1, (h.areas j hj).2⟩⟩
theorem wd_t (h : Wd m g κ r q) : tubeB (m + 1) g 1065353216 1061158912 3210739712 = true := tq_ok (wd_tq h)
theorem tq_c {n : Nat} (h : Tq n g) : tubeB n g 1065353216 1065353216 3212836864 = true := tube_of (by have := h.1; omega) (fun j hj => area_above (h.2 j hj)) end_1 end_m
theorem p_q : Fn .f32 (farith .add .f32 1065353216 3210739712) ∧ -one_ .f32 ≤ sval .f32 (farith .add .f32 1065353216 3210739712) ∧ sval .f32 (farith .add .f32 1065353216 3210739712) ≤ one_ .f32 := by
  obtain ⟨_, ⟨e, c1, c2⟩, _⟩ := mil_cs
  have hT := one_pos .f32
  rw [e]
  exact ⟨c1, by omega, by omega⟩
theorem p_c : Fn .f32 (farith .add .f32 1065353216 3212836864) ∧ -one_ .f32 ≤ sval .f32 (farith .add .f32 1065353216 3212836864) ∧ sval .f32 (farith .add .f32 1065353216 3212836864) ≤ one_ .f32 := by
  obtain ⟨_, _, e⟩ := mil_cs
  have hT := one_pos .f32
  rw [e]
  exact ⟨fn_z, by rw [v0_32]; omega, by rw [v0_32]; omega⟩
/-- Nothing comes out of closed lips. -/
theorem c_out (h : Wd m g κ r q) {k : Nat} (hk : k < 6) : fcmp .neq .f32 (wys (m + 1) g 1065353216 1065353216 3212836864 r q zF k) 0 = false := by
  obtain ⟨a, b⟩ := loss_200 ((q_energy h).1 k m (by omega) (by omega)).1
  obtain ⟨_, _, e⟩ := mil_cs
  have hT := one_pos .f32
  obtain ⟨y1, y2⟩ := end_fl a p_c.1 p_c.2
  change W200 (wys (m + 1) g 1065353216 1065353216 3212836864 r q zF k) at y1
  change Hf (sval .f32 (wys (m + 1) g 1065353216 1065353216 3212836864 r q zF k) * one_ .f32) _ _ at y2
  rw [e, v0_32, Int.zero_mul] at y2
  generalize wys (m + 1) g 1065353216 1065353216 3212836864 r q zF k = y at *
  refine cmp_ne_not y1.1 fn_z ?_
  rw [v0_32]
  unfold Hf at y2
  have y3 : 16777216 * (sval .f32 y * one_ .f32) ≤ 8388608 * one_ .f32 := by have := y2.1; omega
  have y4 : 16777216 * (-(sval .f32 y * one_ .f32)) ≤ 8388608 * one_ .f32 := by have := y2.2; omega
  have e1 : (2 * sval .f32 y) * one_ .f32 ≤ 1 * one_ .f32 := by rw [Int.mul_assoc]; omega
  have e2 : (-(2 * sval .f32 y)) * one_ .f32 ≤ 1 * one_ .f32 := by rw [Int.neg_mul, Int.mul_assoc]; omega
  have f1 := Int.le_of_mul_le_mul_right e1 hT
  have f2 := Int.le_of_mul_le_mul_right e2 hT
  omega
theorem rb_c (h : Wd m g κ r q) : runWB (m + 1) g 1065353216 1065353216 3212836864 (m + 1) r (m + 1) q 6 zF = true := run_ok2 (tq_c (wd_tq h)) p_c (by decide) (fun k _ => fin_zF k) (q_energy h).1
theorem rb_w (h : Wd m g κ r q) (hf : ∀ k, k < 8 → waveN (f k)) {c : Nat} (hc : c ≤ 8) : runWB (m + 1) g 1065353216 1061158912 3210739712 (m + 1) r (m + 1) q c f = true :=
  run_ok2 (wd_t h) p_q (by omega) (fun k hk => fn_fin.1 (wave_200 (hf k (by omega))).1) (fun k i hk hi => (z_200 h hf (by omega) hi).1)
theorem rb_2 (h : Wd m g κ r q) (hf : ∀ k, k < 8 → waveN (f k)) {c : Nat} (hc : c ≤ 8) : runWB (m + 1) g 1065353216 1061158912 3210739712 (m + 1) (Zk m g r q f c).1 (m + 1) (Zk m g r q f c).2 (8 - c) (fun k => f (c + k)) = true :=
  run_ok2 (wd_t h) p_q (by omega) (fun k hk => fn_fin.1 (wave_200 (hf _ (by omega))).1) (fun k i hk hi => by
    have e := sk_cut (g := g) (r := r) (q := q) (f := f) (t := 1061158912) (p := 3210739712) (n := m + 1) (c := c) k
    unfold Zk
    rw [e]
    exact (z_200 h hf (k := c + k) (by omega) hi).1)
theorem rb_u (h : Wd m g κ r q) (hf : ∀ k, k < 8 → waveN (f k)) : runWB (m + 1) g 1065353216 1061158912 3210739712 (m + 1) zF (m + 1) zF 8 f = true :=
  run_ok2 (wd_t h) p_q (by omega) (fun k hk => fn_fin.1 (wave_200 (hf k (by omega))).1) (fun k i hk hi => (z_200 h hf (by omega) hi).2.1)
theorem rb_v (h : Wd m g κ r q) : runWB (m + 1) g 1065353216 1061158912 3210739712 (m + 1) r (m + 1) q 8 zF = true :=
  run_ok2 (wd_t h) p_q (by omega) (fun k _ => fin_zF k) (fun k i hk hi => run_200 (ru_v h) hk hi)
theorem cut_8 {c : Nat} (hc : c ≤ 8) : wst (m + 1) g 1065353216 1061158912 3210739712 (Zk m g r q f c).1 (Zk m g r q f c).2 (fun k => f (c + k)) (8 - c) = Zk m g r q f 8 := by
  have e := sk_cut (g := g) (r := r) (q := q) (f := f) (t := 1061158912) (p := 3210739712) (n := m + 1) (c := c) (8 - c)
  rw [show c + (8 - c) = 8 by omega] at e
  exact e
theorem wv_0 (h : Wd m g κ r q) : wavesB (m + 1) g 1065353216 1061158912 3210739712 (m + 1) r (m + 1) q = true := waves_ok (wd_t h) (fun i hi => ⟨wave_200 (h.waves i hi).1, wave_200 (h.waves i hi).2⟩)
theorem wv_z (h : Wd m g κ r q) : wavesB (m + 1) g 1065353216 1061158912 3210739712 (m + 1) zF (m + 1) zF = true := waves_ok (wd_t h) (fun _ _ => ⟨wave_200 wave_0, wave_200 wave_0⟩)
theorem wv_c (h : Wd m g κ r q) : wavesB (m + 1) g 1065353216 1061158912 3210739712 (m + 1) (Ck m g r q 6).1 (m + 1) (Ck m g r q 6).2 = true := waves_ok (wd_t h) (fun i hi => (q_energy h).1 6 i (Nat.le_refl _) hi)
theorem en_ok (h : Wd m g κ r q) : (wavesB (m + 1) g 1065353216 1061158912 3210739712 (m + 1) r (m + 1) q && fin (enS g r q (m + 1))) = true := by rw [wv_0 h, (q_energy h).2.1.1]; rfl
theorem en_ok6 (h : Wd m g κ r q) : (wavesB (m + 1) g 1065353216 1061158912 3210739712 (m + 1) (Ck m g r q 6).1 (m + 1) (Ck m g r q 6).2 && fin (enS g (Ck m g r q 6).1 (Ck m g r q 6).2 (m + 1))) = true := by rw [wv_c h, (q_energy h).2.1.2]; rfl
theorem add_ok (h : Wd m g κ r q) (hf : ∀ k, k < 8 → waveN (f k)) : ((wavesB (m + 1) g 1065353216 1061158912 3210739712 (m + 1) (Zk m g zF zF f 8).1 (m + 1) (Zk m g zF zF f 8).2 && wavesB (m + 1) g 1065353216 1061158912 3210739712 (m + 1) (Zk m g r q zF 8).1 (m + 1) (Zk m g r q zF 8).2) &&
    wavesB (m + 1) g 1065353216 1061158912 3210739712 (m + 1) (fun j => farith .add .f32 ((Zk m g zF zF f 8).1 j) ((Zk m g r q zF 8).1 j)) (m + 1) (fun j => farith .add .f32 ((Zk m g zF zF f 8).2 j) ((Zk m g r q zF 8).2 j))) = true := by
  have e : icmp .eql ((m + 1 : Nat) : Int) ((m + 1 : Nat) : Int) = true := by simp [icmp]
  have e1 := waves_ok (wd_t h) (fun i hi => (z_200 h hf (Nat.le_refl 8) hi).2.1)
  have e2 := waves_ok (wd_t h) (fun i hi => (z_200 h hf (Nat.le_refl 8) hi).2.2)
  rw [e1, e2]
  unfold wavesB
  rw [wd_t h, e, allB_true.2 (fun i hi => (q_sum h hf hi).2.2.1), allB_true.2 (fun i hi => (q_sum h hf hi).2.2.2)]
  rfl
theorem sameN_fn {x : Nat} (h : Fn .f32 x) : sameN x x = true := sameN_fin (fn_fin.1 h)
theorem same_z (h : Wd m g κ r q) (hf : ∀ k, k < 8 → waveN (f k)) : ((decide (m + 1 = m + 1) && allB (m + 1) (fun j => sameN ((Zk m g r q f 8).1 j) ((Zk m g r q f 8).1 j))) && (decide (m + 1 = m + 1) && allB (m + 1) (fun j => sameN ((Zk m g r q f 8).2 j) ((Zk m g r q f 8).2 j)))) = true := by
  rw [allB_true.2 (fun i hi => sameN_fn (z_200 h hf (Nat.le_refl 8) hi).1.1.1), allB_true.2 (fun i hi => sameN_fn (z_200 h hf (Nat.le_refl 8) hi).1.2.1)]
  simp
theorem st_ok (h : Wd m g κ r q) : ((wavesB (m + 1) g 1065353216 1061158912 3210739712 (m + 1) zF (m + 1) zF && fin 0) && ((allB (m + 1 - 1) (fun j => fin (reflG g j)) && wavesB (m + 1) g 1065353216 1061158912 3210739712 (m + 1) (outR g (lossG 1065353216 zF) (lossG 1065353216 zF) 1061158912 0) (m + 1) (outL (m + 1) g (lossG 1065353216 zF) (lossG 1065353216 zF) 3210739712)) && fin (outS (m + 1) (lossG 1065353216 zF) 3210739712))) = true := by
  have hz : ∀ k, k < 8 → waveN (zF k) := fun _ _ => wave_0
  have e1 : wavesB (m + 1) g 1065353216 1061158912 3210739712 (m + 1) (outR g (lossG 1065353216 zF) (lossG 1065353216 zF) 1061158912 0) (m + 1) (outL (m + 1) g (lossG 1065353216 zF) (lossG 1065353216 zF) 3210739712) = true := waves_ok (wd_t h) (fun i hi => (z_200 h hz (k := 1) (by omega) hi).2.1)
  have e2 : fin (outS (m + 1) (lossG 1065353216 zF) 3210739712) = true := fn_fin.1 (y_one (g := g) (f := zF) (k := 0) (z_200 h hz (k := 0) (by omega) (show m < m + 1 by omega)).2.1.1).1.1
  have e3 : fin 0 = true := fin_zF 0
  rw [wv_z h, e1, e2, e3, refl_waves (wv_z h)]
  rfl
end
theorem st_out {m : Nat} : fcmp .eql .f32 (outS (m + 1) (lossG 1065353216 zF) 3210739712) 0 = true := by
  have : outS (m + 1) (lossG 1065353216 zF) 3210739712 = farith .mul .f32 (farith .add .f32 1065353216 3210739712) (farith .mul .f32 1065353216 0) := rfl
  rw [this]
  decide +kernel
theorem st_right {g : Nat → Nat} : fcmp .eql .f32 (outR g (lossG 1065353216 zF) (lossG 1065353216 zF) 1061158912 0 0) 0 = true := by
  have : outR g (lossG 1065353216 zF) (lossG 1065353216 zF) 1061158912 0 0 = farith .add .f32 0 (farith .mul .f32 1061158912 (farith .mul .f32 1065353216 0)) := rfl
  rw [this]
  decide +kernel
theorem stepWV_true {N y : Nat} : stepWV true true N y = fun s : (Option Addr × Nat) × (Option Addr × Nat) => .tuple #[.agg #[.slice s.1.1 N s.1.2, .slice s.2.1 N s.2.2], F y, .bool true] := rfl
theorem stepWK_true {E : TypeId} {N : Nat} {g h : Nat → Nat} : stepWK E true N g h = fun s : (Option Addr × Nat) × (Option Addr × Nat) => [.vec E s.1.1 s.1.2 (tab N g), .vec E s.2.1 s.2.2 (tab N h)] := rfl
theorem runQ_Vin {E : TypeId} {N M : Nat} {g h y : Nat → Nat} : ∀ (s : ((Option Addr × Nat) × (Option Addr × Nat)) × (Option Addr × Nat)) k, inV k (.tuple #[.agg #[.slice s.1.1.1 N s.1.1.2, .slice s.1.2.1 N s.1.2.2], .slice s.2.1 M s.2.2, .bool true]) → ∃ f ∈ [HFact.vec E s.1.1.1 s.1.1.2 (tab N g), HFact.vec E s.1.2.1 s.1.2.2 (tab N h), HFact.vec E s.2.1 s.2.2 (tab M y)], f.foot = some k :=
  runW_Vin (B := true)
theorem runQ_inV {E : TypeId} {N M : Nat} {g h y : Nat → Nat} : ∀ (s : ((Option Addr × Nat) × (Option Addr × Nat)) × (Option Addr × Nat)), ∀ f ∈ [HFact.vec E s.1.1.1 s.1.1.2 (tab N g), HFact.vec E s.1.2.1 s.1.2.2 (tab N h), HFact.vec E s.2.1 s.2.2 (tab M y)], ∀ k, f.foot = some k → inV k (.tuple #[.agg #[.slice s.1.1.1 N s.1.1.2, .slice s.1.2.1 N s.1.2.2], .slice s.2.1 M s.2.2, .bool true]) :=
  runW_inV (B := true)
theorem wd_mk {n : Nat} {g r q : Nat → Nat} (hT : Tq n g) (hw : ∀ j, j < n → waveN (r j) ∧ waveN (q j)) : ∃ (m : Nat) (κ : Nat → Nat), n = m + 1 ∧ Wd m g κ r q := by
  obtain ⟨⟨h1, h4⟩, ha⟩ := hT
  have hx : ∀ j, ∃ k : Nat, j < n → (1 ≤ k ∧ k ≤ 24) ∧ g j = qA k := fun j => by
    by_cases h : j < n
    · obtain ⟨k, hk⟩ := ha j h
      exact ⟨k, fun _ => hk⟩
    · exact ⟨0, fun h' => absurd h' h⟩
  obtain ⟨κ, hκ⟩ := Classical.axiomOfChoice hx
  obtain ⟨m, rfl⟩ : ∃ m, n = m + 1 := ⟨n - 1, by omega⟩
  exact ⟨m, κ, rfl, fun j hj => hκ j hj, h4, hw⟩
section
variable {m : Nat} {g κ r q f : Nat → Nat}
theorem w_c1 (h : Wd m g κ r q) {x y : Int} (hx : x = y) : (((((!true || !true) || !true) || !true) || icmp .neq x y) || fcmp .gtr .f64 (gapM (conv .f32 .f64 (enS g r q (m + 1))) (conv .f32 .f64 (enS g (Ck m g r q 6).1 (Ck m g r q 6).2 (m + 1)))) (farith .mul .f64 4562254508917369340 (farith .add .f64 4607182418800017408 (conv .f32 .f64 (enS g r q (m + 1)))))) = false := by
  rw [(q_energy h).2.2.2, hx]; simp [icmp]
theorem w_c2 {a b c d e f : Int} (h1 : a = b) (h2 : c = d) (h3 : e = f) : ((((((!true || !true) || !true) || !true) || icmp .neq a b) || icmp .neq c d) || icmp .neq e f) = false := by
  rw [h1, h2, h3]; simp [icmp]
theorem w_c3 {a b : Int} (h1 : a = b) : (((((!true || !true) || !true) || !true) || !true) || icmp .neq a b) = false := by
  rw [h1]; simp [icmp]
theorem w_c4 (h : Wd m g κ r q) (hf : ∀ k, k < 8 → waveN (f k)) {i : Nat} (hi : i < m + 1) : (fcmp .gtr .f64 (gapM (conv .f32 .f64 (farith .add .f32 ((Zk m g zF zF f 8).1 i) ((Zk m g r q zF 8).1 i))) (conv .f32 .f64 ((Zk m g r q f 8).1 i))) 4562254508917369340 ||
    fcmp .gtr .f64 (gapM (conv .f32 .f64 (farith .add .f32 ((Zk m g zF zF f 8).2 i) ((Zk m g r q zF 8).2 i))) (conv .f32 .f64 ((Zk m g r q f 8).2 i))) 4562254508917369340) = false := by
  rw [(q_sum h hf hi).1.2, (q_sum h hf hi).2.1.2]; rfl
theorem w_end {a b : Int} (h1 : a = b) : (((true && fcmp .eql .f32 (outS (m + 1) (lossG 1065353216 zF) 3210739712) 0) && icmp .eql a b) && fcmp .eql .f32 (outR g (lossG 1065353216 zF) (lossG 1065353216 zF) 1061158912 0 0) 0) = true := by
  rw [st_out, st_right, h1]; simp [icmp]
end
end Go.Vx
