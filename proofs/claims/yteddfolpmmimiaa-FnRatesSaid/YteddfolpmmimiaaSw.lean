/- Laws on exponentials, logarithms, notes, glides and what trembles. -/
import Derived.Test.YteddfolpmmimiaaSt
namespace Go.Vx
open Ieee Go.RowKit
/-! ### The exponential keeps the order, nearly -/
def Sm (t : Nat) : Prop := Iv 13800982019061627591 4577609982206851783 t
def Pm (p : Nat) : Prop := Iv 4607074332408960516 4607234210195732169 p
def Nk (k : Nat) : Prop := Fn .f64 k ∧ one_ .f64 ≤ sval .f64 k
theorem x_cs : (sval .f64 13800982019061627591 = -sval .f64 4577609982206851783 ∧ 80 * sval .f64 4577609982206851783 ≤ one_ .f64 ∧ 0 ≤ sval .f64 4577609982206851783) ∧ (49 * one_ .f64 ≤ 50 * sval .f64 4607074332408960516 ∧ 50 * sval .f64 4607234210195732169 ≤ 51 * one_ .f64) := by decide +kernel
theorem expS_pm {t p k : Nat} (ht : Sm t) (hp : Pm p) (hk : Nk k) : Pm (expS t k p) := by
  obtain ⟨hk, hk1⟩ := hk
  obtain ⟨t1, t2, t3⟩ := ht
  obtain ⟨p1, p2, p3⟩ := hp
  have v1 : sval .f64 13800982019061627591 = -sval .f64 4577609982206851783 := by decide +kernel
  have v2 : sval .f64 13801062723566950070 = -sval .f64 4577690686712174262 := by decide +kernel
  have v3 : (0 : Int) ≤ sval .f64 4607074332408960516 := by decide +kernel
  have v4 : sval .f64 4577609982206851783 * sval .f64 4607234210195732169 ≤ sval .f64 4577690686712174262 * one_ .f64 := by decide +kernel
  have v5 : sval .f64 4607074332408960516 ≤ sval .f64 4607182418800017408 - sval .f64 4577690686712174262 := by decide +kernel
  have v6 : sval .f64 4607182418800017408 + sval .f64 4577690686712174262 ≤ sval .f64 4607234210195732169 := by decide +kernel
  have v7 : (0 : Int) ≤ sval .f64 4577690686712174262 := by decide +kernel
  have f1 : Fn .f64 13801062723566950070 := by decide
  have f2 : Fn .f64 4577690686712174262 := by decide
  have f3 : Fn .f64 4607074332408960516 := by decide
  have f4 : Fn .f64 4607234210195732169 := by decide
  have f5 : Fn .f64 4607182418800017408 := by decide
  obtain ⟨a1, a2⟩ := prod_bd (x := sval .f64 t) (y := sval .f64 p) (X := sval .f64 4577609982206851783) (Y := sval .f64 4607234210195732169) (by omega) t3 (by omega) p3
  obtain ⟨m1, m2, m3⟩ := mul_bd t1 p1 f1 f2 (by rw [v2, Int.neg_mul]; omega) (by omega)
  have hq : sval .f64 4577690686712174262 * one_ .f64 ≤ sval .f64 4577690686712174262 * sval .f64 k := Int.mul_le_mul_of_nonneg_left hk1 v7
  have hT := one_pos .f64
  have hk0 : 0 < sval .f64 k := by omega
  have u1 : sval .f64 (farith .mul .f64 t p) * one_ .f64 ≤ sval .f64 4577690686712174262 * one_ .f64 := Int.mul_le_mul_of_nonneg_right m3 (by omega)
  have u2 : sval .f64 13801062723566950070 * one_ .f64 ≤ sval .f64 (farith .mul .f64 t p) * one_ .f64 := Int.mul_le_mul_of_nonneg_right m2 (by omega)
  rw [v2, Int.neg_mul] at u2
  obtain ⟨d1, d2, d3⟩ := div_bd m1 hk hk0 f1 f2 (by rw [v2, Int.neg_mul]; omega) (by omega)
  rw [v2] at d2
  exact add_bd f5 d1 f3 f4 (by omega) (by omega)
/-- How one step changes the distance. -/
theorem stage_a {T e D X1 P1 P2 A1 A2 X2 : Int} (hT : 0 < T) (he : 0 < e) (hD : 0 ≤ D) (hx : X2 = X1 + D) (hA1 : A1 = X1 * P1) (hA2 : A2 = X2 * P2) (hX : -T ≤ 80 * X1 ∧ 80 * X1 ≤ T) (hP2 : 49 * T ≤ 50 * P2 ∧ 50 * P2 ≤ 51 * T) (h1 : P1 - P2 ≤ 7 * e) (h2 : P2 - P1 ≤ 2 * D + 7 * e) :
    A1 - A2 ≤ e * T ∧ 20 * (A2 - A1) ≤ (21 * D + 20 * e) * T := by
  have hM := prod_bd (x := 80 * X1) (y := P2 - P1) (X := T) (Y := 2 * D + 7 * e) (by omega) hX.2 (by omega) h2
  have e1 : A2 - A1 = D * P2 + X1 * (P2 - P1) := by rw [hA1, hA2, hx, Int.add_mul, Int.mul_sub]; omega
  have e2 : 80 * X1 * (P2 - P1) = 80 * (X1 * (P2 - P1)) := Int.mul_assoc ..
  have e3 : T * (2 * D + 7 * e) = 2 * (D * T) + 7 * (e * T) := by rw [Int.mul_comm, Int.add_mul, Int.mul_assoc, Int.mul_assoc]
  rw [e2, e3] at hM
  have d1 : D * (49 * T) ≤ D * (50 * P2) := Int.mul_le_mul_of_nonneg_left hP2.1 hD
  have d2 : D * (50 * P2) ≤ D * (51 * T) := Int.mul_le_mul_of_nonneg_left hP2.2 hD
  rw [Int.mul_left_comm, Int.mul_left_comm D 50] at d1
  rw [Int.mul_left_comm D 50, Int.mul_left_comm D 51] at d2
  have e4 : (21 * D + 20 * e) * T = 21 * (D * T) + 20 * (e * T) := by rw [Int.add_mul, Int.mul_assoc, Int.mul_assoc]
  rw [e4]
  have hDT : 0 ≤ D * T := Int.mul_nonneg hD (by omega)
  have heT : 0 ≤ e * T := Int.mul_nonneg (by omega) (by omega)
  generalize D * P2 = a at *
  generalize X1 * (P2 - P1) = b at *
  generalize D * T = c at *
  generalize e * T = d at *
  omega
theorem div_le {a b K : Int} (hK : 0 < K) (h : a * K ≤ b * K) : a ≤ b := Int.le_of_mul_le_mul_right h hK
theorem stage_b {T e D m1 m2 z1 z2 K A1 A2 : Int} (hT : 0 < T) (he : 0 < e) (hD : 0 ≤ D) (hK : T ≤ K) (hA : A1 - A2 ≤ e * T ∧ 20 * (A2 - A1) ≤ (21 * D + 20 * e) * T)
    (a1 : m1 * T ≤ A1 + e * T ∧ A1 ≤ m1 * T + e * T) (a2 : m2 * T ≤ A2 + e * T ∧ A2 ≤ m2 * T + e * T)
    (b1 : z1 * K ≤ m1 * T + e * K ∧ m1 * T ≤ z1 * K + e * K) (b2 : z2 * K ≤ m2 * T + e * K ∧ m2 * T ≤ z2 * K + e * K) : z1 - z2 ≤ 5 * e ∧ 20 * (z2 - z1) ≤ 21 * D + 100 * e := by
  have hK0 : 0 < K := by omega
  have k1 : e * T ≤ e * K := Int.mul_le_mul_of_nonneg_left hK (by omega)
  have k2 : D * T ≤ D * K := Int.mul_le_mul_of_nonneg_left hK hD
  have e4 : (21 * D + 20 * e) * T = 21 * (D * T) + 20 * (e * T) := by rw [Int.add_mul, Int.mul_assoc, Int.mul_assoc]
  rw [e4] at hA
  constructor
  · refine div_le hK0 ?_
    rw [Int.sub_mul, Int.mul_assoc]
    generalize z1 * K = a at *
    generalize z2 * K = b at *
    generalize m1 * T = c at *
    generalize m2 * T = d at *
    generalize e * K = f at *
    generalize e * T = g at *
    omega
  · refine div_le hK0 ?_
    have e5 : 20 * (z2 - z1) * K = 20 * (z2 * K) - 20 * (z1 * K) := by rw [Int.mul_assoc, Int.sub_mul, Int.mul_sub]
    have e6 : (21 * D + 100 * e) * K = 21 * (D * K) + 100 * (e * K) := by rw [Int.add_mul, Int.mul_assoc, Int.mul_assoc]
    rw [e5, e6]
    generalize z1 * K = a at *
    generalize z2 * K = b at *
    generalize m1 * T = c at *
    generalize m2 * T = d at *
    generalize e * K = f at *
    generalize e * T = g at *
    generalize D * T = p at *
    generalize D * K = q at *
    omega
section
attribute [local irreducible] farith sval one_ Fn
theorem expS_er {t1 t2 p1 p2 k : Nat} (h1 : Sm t1) (h2 : Sm t2) (hp1 : Pm p1) (hp2 : Pm p2) (hk : Nk k) (hd : sval .f64 t1 ≤ sval .f64 t2)
    (hab : sval .f64 p1 - sval .f64 p2 ≤ 7 * e4 ∧ sval .f64 p2 - sval .f64 p1 ≤ 2 * (sval .f64 t2 - sval .f64 t1) + 7 * e4) :
    sval .f64 (expS t1 k p1) - sval .f64 (expS t2 k p2) ≤ 7 * e4 ∧ sval .f64 (expS t2 k p2) - sval .f64 (expS t1 k p1) ≤ 2 * (sval .f64 t2 - sval .f64 t1) + 7 * e4 := by
  obtain ⟨⟨c1, c2, c3⟩, c4, c5⟩ := x_cs
  have hT := one_pos .f64
  have he := e4_pos
  have hg : gapU .f64 R4 = e4 := u_g
  have ht := u_top
  have hu := u_one
  obtain ⟨k1, k2⟩ := hk
  have bx : ∀ t, Sm t → Fn .f64 t ∧ -one_ .f64 ≤ 80 * sval .f64 t ∧ 80 * sval .f64 t ≤ one_ .f64 := fun t h => ⟨h.1, by have := h.2.1; omega, by have := h.2.2; omega⟩
  have bp : ∀ p, Pm p → Fn .f64 p ∧ 49 * one_ .f64 ≤ 50 * sval .f64 p ∧ 50 * sval .f64 p ≤ 51 * one_ .f64 := fun p h => ⟨h.1, by have := h.2.1; omega, by have := h.2.2; omega⟩
  have stg : ∀ t p, Sm t → Pm p → (Fn .f64 (farith .mul .f64 t p) ∧ sval .f64 (farith .mul .f64 t p) * one_ .f64 ≤ sval .f64 t * sval .f64 p + e4 * one_ .f64 ∧ sval .f64 t * sval .f64 p ≤ sval .f64 (farith .mul .f64 t p) * one_ .f64 + e4 * one_ .f64) ∧
      (Fn .f64 (farith .quo .f64 (farith .mul .f64 t p) k) ∧ sval .f64 (farith .quo .f64 (farith .mul .f64 t p) k) * sval .f64 k ≤ sval .f64 (farith .mul .f64 t p) * one_ .f64 + e4 * sval .f64 k ∧ sval .f64 (farith .mul .f64 t p) * one_ .f64 ≤ sval .f64 (farith .quo .f64 (farith .mul .f64 t p) k) * sval .f64 k + e4 * sval .f64 k) ∧
      (sval .f64 (expS t k p) ≤ one_ .f64 + sval .f64 (farith .quo .f64 (farith .mul .f64 t p) k) + e4 ∧ one_ .f64 + sval .f64 (farith .quo .f64 (farith .mul .f64 t p) k) ≤ sval .f64 (expS t k p) + e4) := fun t p hs hp => by
    obtain ⟨b1, b2, b3⟩ := bx t hs
    obtain ⟨q1, q2, q3⟩ := bp p hp
    have hM := prod_bd (x := 80 * sval .f64 t) (y := 50 * sval .f64 p) (X := one_ .f64) (Y := 51 * one_ .f64) (by omega) b3 (by omega) q3
    have e2 : 80 * sval .f64 t * (50 * sval .f64 p) = 4000 * (sval .f64 t * sval .f64 p) := by rw [Int.mul_assoc, Int.mul_left_comm (sval .f64 t), ← Int.mul_assoc]; rfl
    have e3 : one_ .f64 * (51 * one_ .f64) = 51 * (one_ .f64 * one_ .f64) := Int.mul_left_comm ..
    have hTT : 0 < one_ .f64 * one_ .f64 := Int.mul_pos hT hT
    have e5 : topU .f64 R4 * one_ .f64 = 4 * (one_ .f64 * one_ .f64) := by rw [ht, Int.mul_assoc]
    rw [e2, e3] at hM
    have m := mul_er R4 r4_ok b1 q1 (by rw [Int.neg_mul, e5]; omega) (by rw [e5]; omega)
    rw [hg] at m
    obtain ⟨m1, m2, m3⟩ := m
    have ke : one_ .f64 * one_ .f64 ≤ one_ .f64 * sval .f64 k := Int.mul_le_mul_of_nonneg_left k2 (by omega)
    have e6 : topU .f64 R4 * sval .f64 k = 4 * (one_ .f64 * sval .f64 k) := by rw [ht, Int.mul_assoc]
    have he1 : 8 * e4 * one_ .f64 ≤ one_ .f64 * one_ .f64 := Int.mul_le_mul_of_nonneg_right (by have := u_e4; omega) (by omega)
    rw [Int.mul_assoc] at he1
    have d := div_er R4 r4_ok m1 k1 (by omega) (by rw [Int.neg_mul, e6]; omega) (by rw [e6]; omega)
    rw [hg] at d
    obtain ⟨d1, d2, d3⟩ := d
    have hz : -(2 * one_ .f64) ≤ sval .f64 (farith .quo .f64 (farith .mul .f64 t p) k) ∧ sval .f64 (farith .quo .f64 (farith .mul .f64 t p) k) ≤ 2 * one_ .f64 := by
      have hk0 : 0 < sval .f64 k := by omega
      have ek : 8 * e4 * sval .f64 k ≤ one_ .f64 * sval .f64 k := Int.mul_le_mul_of_nonneg_right (by have := u_e4; omega) (by omega)
      rw [Int.mul_assoc] at ek
      constructor
      · refine div_le hk0 ?_
        rw [Int.neg_mul, Int.mul_assoc]; omega
      · refine div_le hk0 ?_
        rw [Int.mul_assoc]; omega
    have a := add_er (k := .f64) (x := 4607182418800017408) R4 r4_ok fn_1 d1 (by omega) (by omega)
    rw [hg, hu] at a
    exact ⟨⟨m1, m2, m3⟩, ⟨d1, d2, d3⟩, a.2.1, a.2.2⟩
  obtain ⟨⟨_, m1⟩, ⟨_, d1⟩, s1⟩ := stg t1 p1 h1 hp1
  obtain ⟨⟨_, m2⟩, ⟨_, d2⟩, s2⟩ := stg t2 p2 h2 hp2
  obtain ⟨_, b1⟩ := bx t1 h1
  obtain ⟨_, q2⟩ := bp p2 hp2
  have A := stage_a (e := e4) (D := sval .f64 t2 - sval .f64 t1) (X1 := sval .f64 t1) (X2 := sval .f64 t2) hT he (by omega) (by omega) rfl rfl b1 q2 hab.1 hab.2
  have B := stage_b hT he (by omega) k2 A m1 m2 d1 d2
  omega
end
theorem nk_all : Nk 4622945017495814144 ∧ Nk 4622382067542392832 ∧ Nk 4621819117588971520 ∧ Nk 4621256167635550208 ∧ Nk 4620693217682128896 ∧ Nk 4619567317775286272 ∧ Nk 4618441417868443648 ∧ Nk 4617315517961601024 ∧ Nk 4616189618054758400 ∧ Nk 4613937818241073152 ∧ Nk 4611686018427387904 ∧ Nk 4607182418800017408 := by unfold Nk; decide +kernel
theorem pm_one : Pm 4607182418800017408 := ⟨by decide, by decide +kernel, by decide +kernel⟩
section
attribute [local irreducible] expS farith sval one_ Fn
def Eo (t1 t2 p1 p2 : Nat) : Prop := (Pm p1 ∧ Pm p2) ∧ sval .f64 p1 - sval .f64 p2 ≤ 7 * e4 ∧ sval .f64 p2 - sval .f64 p1 ≤ 2 * (sval .f64 t2 - sval .f64 t1) + 7 * e4
theorem eo_go {t1 t2 p1 p2 k : Nat} (h1 : Sm t1) (h2 : Sm t2) (hk : Nk k) (hd : sval .f64 t1 ≤ sval .f64 t2) (h : Eo t1 t2 p1 p2) : Eo t1 t2 (expS t1 k p1) (expS t2 k p2) :=
  ⟨⟨expS_pm h1 h.1.1 hk, expS_pm h2 h.1.2 hk⟩, expS_er h1 h2 h.1.1 h.1.2 hk hd h.2⟩
theorem expP_ord {t1 t2 : Nat} (h1 : Sm t1) (h2 : Sm t2) (hd : sval .f64 t1 ≤ sval .f64 t2) : Eo t1 t2 (expP t1) (expP t2) := by
  obtain ⟨n1, n2, n3, n4, n5, n6, n7, n8, n9, n10, n11, n12⟩ := nk_all
  have he := e4_pos
  have h0 : Eo t1 t2 4607182418800017408 4607182418800017408 := ⟨⟨pm_one, pm_one⟩, by omega, by omega⟩
  unfold expP
  exact eo_go h1 h2 n12 hd (eo_go h1 h2 n11 hd (eo_go h1 h2 n10 hd (eo_go h1 h2 n9 hd (eo_go h1 h2 n8 hd (eo_go h1 h2 n7 hd (eo_go h1 h2 n6 hd (eo_go h1 h2 n5 hd (eo_go h1 h2 n4 hd (eo_go h1 h2 n3 hd (eo_go h1 h2 n2 hd (eo_go h1 h2 n1 hd h0)))))))))))
end
/-! Squares -/
theorem mul_pairQ {a b : Int} (h : 0 ≤ a) (hab : a ≤ b) : a * a ≤ b * b := Int.le_trans (Int.mul_le_mul_of_nonneg_left hab h) (Int.mul_le_mul_of_nonneg_right hab (Int.le_trans h hab))
def R32w : Nat := 4629700416936869888
theorem r32_cs : R32w < FloatKind.f64.format.infRung ∧ gapU .f64 R32w = 8 * e4 ∧ topU .f64 R32w = 32 * one_ .f64 := by decide +kernel
theorem sq_alg {T P1 P2 Z1 Z2 e c n m G : Int} (hT : 0 < T) (a1 : 0 ≤ P1) (a2 : 0 ≤ P2) (hs : 2 * (P1 + P2) ≤ c * T) (hn : 0 < n) (hm : 0 ≤ m * G) (hG : 400 * e ≤ G) (he : 0 ≤ e) (h : n * (P1 - P2) ≤ m * G)
    (z1 : Z1 * T ≤ P1 * P1 + 8 * e * T) (z2 : P2 * P2 ≤ Z2 * T + 8 * e * T) : 20 * (n * (Z1 - Z2)) ≤ 10 * (c * (m * G)) + n * G := by
  have h1 : n * (P1 - P2) * (2 * (P1 + P2)) ≤ m * G * (c * T) := Int.le_trans (Int.mul_le_mul_of_nonneg_right h (by omega)) (Int.mul_le_mul_of_nonneg_left hs hm)
  have e1 : (P1 - P2) * (P1 + P2) = P1 * P1 - P2 * P2 := by rw [Int.sub_mul, Int.mul_add, Int.mul_add, Int.mul_comm P2 P1]; omega
  have e2 : n * (P1 - P2) * (2 * (P1 + P2)) = 2 * (n * (P1 * P1 - P2 * P2)) := by rw [← e1]; ac_rfl
  have e3 : m * G * (c * T) = c * (m * G) * T := by ac_rfl
  rw [e2, e3] at h1
  have h0 : 16 * e * T = 8 * e * T + 8 * e * T := by rw [← Int.add_mul]; congr 1; omega
  have h2' : (Z1 - Z2) * T ≤ P1 * P1 - P2 * P2 + 16 * e * T := by rw [Int.sub_mul]; omega
  have h2 : n * ((Z1 - Z2) * T) ≤ n * (P1 * P1 - P2 * P2 + 16 * e * T) := Int.mul_le_mul_of_nonneg_left h2' (by omega)
  have h3 : n * (320 * e * T) ≤ n * (G * T) := Int.mul_le_mul_of_nonneg_left (Int.mul_le_mul_of_nonneg_right (by omega) (by omega)) (by omega)
  refine div_le hT ?_
  have e4' : 20 * (n * (Z1 - Z2)) * T = 20 * (n * ((Z1 - Z2) * T)) := by ac_rfl
  have e5 : (10 * (c * (m * G)) + n * G) * T = 10 * (c * (m * G) * T) + n * (G * T) := by rw [Int.add_mul]; congr 1 <;> ac_rfl
  have e6 : n * (P1 * P1 - P2 * P2 + 16 * e * T) = n * (P1 * P1 - P2 * P2) + n * (16 * e * T) := Int.mul_add ..
  have e7 : n * (320 * e * T) = 20 * (n * (16 * e * T)) := by rw [show (320 : Int) = 20 * 16 from rfl]; ac_rfl
  rw [e4', e5]
  rw [e6] at h2
  rw [e7] at h3
  generalize n * ((Z1 - Z2) * T) = a at *
  generalize n * (P1 * P1 - P2 * P2) = b at *
  generalize c * (m * G) * T = d at *
  generalize n * (16 * e * T) = f at *
  generalize n * (G * T) = g at *
  omega
theorem sq_er {p1 p2 : Nat} {c n m G : Int} (f1 : Fn .f64 p1) (f2 : Fn .f64 p2) (a1 : 0 ≤ sval .f64 p1) (a2 : 0 ≤ sval .f64 p2) (b1 : sval .f64 p1 ≤ 5 * one_ .f64) (b2 : sval .f64 p2 ≤ 5 * one_ .f64) (hs : 2 * (sval .f64 p1 + sval .f64 p2) ≤ c * one_ .f64)
    (hn : 0 < n) (hm : 0 ≤ m) (hG : 400 * e4 ≤ G) (h : n * (sval .f64 p1 - sval .f64 p2) ≤ m * G) : 20 * (n * (sval .f64 (sqW p1) - sval .f64 (sqW p2))) ≤ 10 * (c * (m * G)) + n * G := by
  obtain ⟨r1, r2, r3⟩ := r32_cs
  have hT := one_pos .f64
  have he := e4_pos
  have m5 : ∀ p : Nat, Fn .f64 p → 0 ≤ sval .f64 p → sval .f64 p ≤ 5 * one_ .f64 → Fn .f64 (farith .mul .f64 p p) ∧ sval .f64 (farith .mul .f64 p p) * one_ .f64 ≤ sval .f64 p * sval .f64 p + 8 * e4 * one_ .f64 ∧ sval .f64 p * sval .f64 p ≤ sval .f64 (farith .mul .f64 p p) * one_ .f64 + 8 * e4 * one_ .f64 := fun p f a b => by
    have q1 : sval .f64 p * sval .f64 p ≤ 5 * one_ .f64 * (5 * one_ .f64) := mul_pairQ a b
    have q0 : 0 ≤ sval .f64 p * sval .f64 p := Int.mul_nonneg a a
    have e1 : 5 * one_ .f64 * (5 * one_ .f64) = 25 * (one_ .f64 * one_ .f64) := by rw [Int.mul_assoc, Int.mul_left_comm (one_ .f64), ← Int.mul_assoc]; rfl
    have hTT : 0 < one_ .f64 * one_ .f64 := Int.mul_pos hT hT
    have e2 : topU .f64 R32w * one_ .f64 = 32 * (one_ .f64 * one_ .f64) := by rw [r3, Int.mul_assoc]
    rw [e1] at q1
    have := mul_er R32w r1 f f (by rw [Int.neg_mul, e2]; omega) (by rw [e2]; omega)
    rw [r2] at this
    exact this
  exact sq_alg hT a1 a2 hs hn (Int.mul_nonneg hm (by omega)) hG (by omega) h (m5 p1 f1 a1 b1).2.1 (m5 p2 f2 a2 b2).2.2
end Go.Vx

namespace Go.Vx
open Ieee Go.RowKit
theorem sq_cs : ((sval .f64 4607234210195732169 * sval .f64 4607234210195732169 ≤ sval .f64 4607286597653275452 * one_ .f64 ∧ sval .f64 4607286597653275452 * sval .f64 4607286597653275452 ≤ sval .f64 4607393186879907373 * one_ .f64 ∧ sval .f64 4607393186879907373 * sval .f64 4607393186879907373 ≤ sval .f64 4607613819381527191 * one_ .f64 ∧ sval .f64 4607613819381527191 * sval .f64 4607613819381527191 ≤ sval .f64 4608086544439577609 * one_ .f64) ∧
    (sval .f64 4608086544439577609 * sval .f64 4608086544439577609 ≤ sval .f64 4609172179574673647 * one_ .f64 ∧ sval .f64 4609172179574673647 * sval .f64 4609172179574673647 ≤ sval .f64 4611863533576598886 * one_ .f64 ∧ sval .f64 4611863533576598886 * sval .f64 4611863533576598886 ≤ sval .f64 4616551645826777136 * one_ .f64 ∧ sval .f64 4616551645826777136 * sval .f64 4616551645826777136 ≤ sval .f64 4625949975457229541 * one_ .f64)) := by decide +kernel
theorem sq_c2 : (4 * sval .f64 4607234210195732169 ≤ 5 * one_ .f64 ∧ 4 * sval .f64 4607286597653275452 ≤ 5 * one_ .f64 ∧ 4 * sval .f64 4607393186879907373 ≤ 5 * one_ .f64 ∧ 4 * sval .f64 4607613819381527191 ≤ 5 * one_ .f64 ∧ 4 * sval .f64 4608086544439577609 ≤ 5 * one_ .f64) ∧ (4 * sval .f64 4609172179574673647 ≤ 6 * one_ .f64 ∧ 4 * sval .f64 4611863533576598886 ≤ 9 * one_ .f64 ∧ 4 * sval .f64 4616551645826777136 ≤ 18 * one_ .f64) ∧ sval .f64 4625949975457229541 < sval .f32 1107296256 * wid ∧ 0 ≤ sval .f64 4607074332408960516 := by decide +kernel
theorem fn_q1 : Fn .f64 4607286597653275452 := by decide
theorem fn_q2 : Fn .f64 4607393186879907373 := by decide
theorem fn_q3 : Fn .f64 4607613819381527191 := by decide
theorem fn_q4 : Fn .f64 4608086544439577609 := by decide
theorem fn_q5 : Fn .f64 4609172179574673647 := by decide
theorem fn_q6 : Fn .f64 4611863533576598886 := by decide
theorem fn_q7 : Fn .f64 4616551645826777136 := by decide
theorem fn_q8 : Fn .f64 4625949975457229541 := by decide
def Sq2 (G : Int) (hi : Nat) (m : Int) (p1 p2 : Nat) : Prop := (Iv 0 hi p1 ∧ Iv 0 hi p2) ∧ 10 * (sval .f64 p1 - sval .f64 p2) ≤ m * G
section
attribute [local irreducible] farith sval one_ Fn
theorem sq2_go {G : Int} {hi hi2 p1 p2 : Nat} {c m m2 : Int} (hG : 400 * e4 ≤ G) (hh : sval .f64 hi * sval .f64 hi ≤ sval .f64 hi2 * one_ .f64) (f2 : Fn .f64 hi2) (hc : 4 * sval .f64 hi ≤ c * one_ .f64) (h5 : c ≤ 20) (hm : 0 ≤ m) (hq : 10 * (c * m) + 10 ≤ 20 * m2) (h : Sq2 G hi m p1 p2) : Sq2 G hi2 m2 (sqW p1) (sqW p2) := by
  obtain ⟨⟨i1, i2⟩, hd⟩ := h
  have z0 := u_z
  have hT := one_pos .f64
  have he := e4_pos
  have hc5 : c * one_ .f64 ≤ 20 * one_ .f64 := Int.mul_le_mul_of_nonneg_right h5 (by omega)
  have j1 : 0 ≤ sval .f64 p1 := by have := i1.2.1; omega
  have j2 : 0 ≤ sval .f64 p2 := by have := i2.2.1; omega
  have k1 := i1.2.2
  have k2 := i2.2.2
  refine ⟨⟨sq_bd (lo := 0) (by omega) i1 f2 hh, sq_bd (lo := 0) (by omega) i2 f2 hh⟩, ?_⟩
  have h := sq_er (c := c) (n := 10) (m := m) (G := G) i1.1 i2.1 j1 j2 (by omega) (by omega) (by omega) (by decide) hm hG hd
  have h2 : (10 * (c * m) + 10) * G ≤ 20 * m2 * G := Int.mul_le_mul_of_nonneg_right hq (by omega)
  rw [Int.add_mul, Int.mul_assoc 10, Int.mul_assoc c, Int.mul_assoc 20] at h2
  omega
theorem sq8 {G : Int} {p1 p2 : Nat} (hG : 400 * e4 ≤ G) (h1 : Pm p1) (h2 : Pm p2) (h : 10 * (sval .f64 p1 - sval .f64 p2) ≤ 1 * G) :
    Sq2 G 4625949975457229541 16210 (sqW (sqW (sqW (sqW (sqW (sqW (sqW (sqW p1)))))))) (sqW (sqW (sqW (sqW (sqW (sqW (sqW (sqW p2)))))))) := by
  obtain ⟨⟨a1, a2, a3, a4⟩, a5, a6, a7, a8⟩ := sq_cs
  obtain ⟨⟨c1, c2, c3, c4, c5⟩, ⟨c6, c7, c8⟩, _, c9⟩ := sq_c2
  have z0 := u_z
  have s0 : Sq2 G 4607234210195732169 1 p1 p2 := ⟨⟨⟨h1.1, by have := h1.2.1; omega, h1.2.2⟩, ⟨h2.1, by have := h2.2.1; omega, h2.2.2⟩⟩, h⟩
  have s1 := sq2_go (m2 := 3) hG a1 fn_q1 c1 (by decide) (by decide) (by decide) s0
  have s2 := sq2_go (m2 := 8) hG a2 fn_q2 c2 (by decide) (by decide) (by decide) s1
  have s3 := sq2_go (m2 := 21) hG a3 fn_q3 c3 (by decide) (by decide) (by decide) s2
  have s4 := sq2_go (m2 := 53) hG a4 fn_q4 c4 (by decide) (by decide) (by decide) s3
  have s5 := sq2_go (m2 := 133) hG a5 fn_q5 c5 (by decide) (by decide) (by decide) s4
  have s6 := sq2_go (m2 := 400) hG a6 fn_q6 c6 (by decide) (by decide) (by decide) s5
  have s7 := sq2_go (m2 := 1801) hG a7 fn_q7 c7 (by decide) (by decide) (by decide) s6
  exact sq2_go (m2 := 16210) hG a8 fn_q8 c8 (by decide) (by decide) (by decide) s7
end
/-! From numbers in 32 bits to numbers in 32 bits -/
def R32s : Nat := 1107296256
def R256s : Nat := 1132462080
theorem r_cs : (R32s < FloatKind.f32.format.infRung ∧ gapU .f32 R32s = 32 * g1 ∧ topU .f32 R32s = 32 * one_ .f32) ∧ (R256s < FloatKind.f32.format.infRung ∧ gapU .f32 R256s = 256 * g1 ∧ topU .f32 R256s = 256 * one_ .f32) := by decide +kernel
theorem x_c2 : (Fn .f64 4643211215818981376 ∧ sval .f64 4643211215818981376 = 256 * one_ .f64) ∧ (Fn .f64 13800982019061627591 ∧ Fn .f64 4577609982206851783) ∧ sval .f32 3224580915 = -sval .f32 1077097267 ∧ sval .f32 1077097267 * wid ≤ 256 * sval .f64 4577609982206851783 ∧ 4 * sval .f32 1077097267 ≤ 12 * one_ .f32 ∧ one_ .f64 = one_ .f32 * wid := by decide +kernel
def Xb (x : Nat) : Prop := Jv 3224580915 1077097267 x
section
attribute [local irreducible] farith sval one_ Fn expP sqW
theorem x_small {x : Nat} (h : Xb x) : Sm (farith .quo .f64 (conv .f32 .f64 x) 4643211215818981376) ∧ 256 * sval .f64 (farith .quo .f64 (conv .f32 .f64 x) 4643211215818981376) ≤ sval .f32 x * wid + 256 * e4 ∧ sval .f32 x * wid ≤ 256 * sval .f64 (farith .quo .f64 (conv .f32 .f64 x) 4643211215818981376) + 256 * e4 := by
  obtain ⟨⟨k1, k2⟩, ⟨l1, l2⟩, n1, n2, n3, n4⟩ := x_c2
  obtain ⟨⟨y1, y2, y3⟩, _⟩ := x_cs
  obtain ⟨x1, x2, x3⟩ := h
  obtain ⟨w1, w2⟩ := wide_val x1
  have hw := wid_pos
  have hT := one_pos .f64
  have m1 := Int.mul_le_mul_of_nonneg_right x2 (Int.le_of_lt hw)
  have m2 := Int.mul_le_mul_of_nonneg_right x3 (Int.le_of_lt hw)
  rw [n1, Int.neg_mul] at m1
  have ht := u_top
  have hg : gapU .f64 R4 = e4 := u_g
  have b1 := Int.mul_le_mul_of_nonneg_right m1 (Int.le_of_lt hT)
  have b2 := Int.mul_le_mul_of_nonneg_right m2 (Int.le_of_lt hT)
  have b3 := Int.mul_le_mul_of_nonneg_right n2 (Int.le_of_lt hT)
  have e1 : sval .f64 4577609982206851783 * (256 * one_ .f64) = 256 * sval .f64 4577609982206851783 * one_ .f64 := by ac_rfl
  rw [Int.neg_mul] at b1
  have d := div_bd (k := .f64) w1 k1 (by omega) l1 l2 (by rw [k2, w2, y1, Int.neg_mul, e1]; omega) (by rw [k2, w2, e1]; omega)
  have h80 := Int.mul_le_mul_of_nonneg_right y2 (Int.le_of_lt hT)
  rw [Int.mul_assoc] at h80
  have e2 : topU .f64 R4 * (256 * one_ .f64) = 1024 * (one_ .f64 * one_ .f64) := by rw [ht, Int.mul_left_comm, Int.mul_assoc, ← Int.mul_assoc]; rfl
  have e3 : 256 * sval .f64 4577609982206851783 * one_ .f64 = 256 * (sval .f64 4577609982206851783 * one_ .f64) := Int.mul_assoc ..
  have hTT := Int.mul_pos hT hT
  have r := div_er (k := .f64) R4 r4_ok w1 k1 (by omega) (by rw [Int.neg_mul, k2, e2, w2]; omega) (by rw [k2, e2, w2]; omega)
  rw [hg, k2, w2] at r
  refine ⟨d, ?_, ?_⟩
  · refine div_le hT ?_
    rw [Int.add_mul, Int.mul_assoc 256 e4]
    have e4' : e4 * (256 * one_ .f64) = 256 * (e4 * one_ .f64) := Int.mul_left_comm ..
    have e5 : 256 * sval .f64 (farith .quo .f64 (conv .f32 .f64 x) 4643211215818981376) * one_ .f64 = sval .f64 (farith .quo .f64 (conv .f32 .f64 x) 4643211215818981376) * (256 * one_ .f64) := by ac_rfl
    rw [e5]
    have := r.2.1
    omega
  · refine div_le hT ?_
    rw [Int.add_mul, Int.mul_assoc 256 e4]
    have e4' : e4 * (256 * one_ .f64) = 256 * (e4 * one_ .f64) := Int.mul_left_comm ..
    have e5 : 256 * sval .f64 (farith .quo .f64 (conv .f32 .f64 x) 4643211215818981376) * one_ .f64 = sval .f64 (farith .quo .f64 (conv .f32 .f64 x) 4643211215818981376) * (256 * one_ .f64) := by ac_rfl
    rw [e5]
    have := r.2.2
    omega
theorem expW_ord {x1 x2 : Nat} (h1 : Xb x1) (h2 : Xb x2) (hd : sval .f32 x1 - sval .f32 x2 ≤ 8 * g1) : Sq2 (g1 * wid) 4625949975457229541 16210 (expW (conv .f32 .f64 x1)) (expW (conv .f32 .f64 x2)) := by
  obtain ⟨s1, a1, a2⟩ := x_small h1
  obtain ⟨s2, b1, b2⟩ := x_small h2
  obtain ⟨_, _, _, w4, _⟩ := w_g1
  have he := e4_pos
  have hw := wid_pos
  have hD := Int.mul_le_mul_of_nonneg_right hd (Int.le_of_lt hw)
  rw [Int.sub_mul, Int.mul_assoc] at hD
  have key : 10 * (sval .f64 (expP (farith .quo .f64 (conv .f32 .f64 x1) 4643211215818981376)) - sval .f64 (expP (farith .quo .f64 (conv .f32 .f64 x2) 4643211215818981376))) ≤ 1 * (g1 * wid) := by
    rcases Int.le_total (sval .f64 (farith .quo .f64 (conv .f32 .f64 x1) 4643211215818981376)) (sval .f64 (farith .quo .f64 (conv .f32 .f64 x2) 4643211215818981376)) with hl | hl
    · have := (expP_ord s1 s2 hl).2.1
      omega
    · have := (expP_ord s2 s1 hl).2.2
      omega
  have hp : Pm (expP (farith .quo .f64 (conv .f32 .f64 x1) 4643211215818981376)) ∧ Pm (expP (farith .quo .f64 (conv .f32 .f64 x2) 4643211215818981376)) := by
    rcases Int.le_total (sval .f64 (farith .quo .f64 (conv .f32 .f64 x1) 4643211215818981376)) (sval .f64 (farith .quo .f64 (conv .f32 .f64 x2) 4643211215818981376)) with hl | hl
    · exact (expP_ord s1 s2 hl).1
    · exact ⟨(expP_ord s2 s1 hl).1.2, (expP_ord s2 s1 hl).1.1⟩
  exact sq8 w4 hp.1 hp.2 key
end
end Go.Vx

namespace Go.Vx
open Ieee Go.RowKit
/-! ### Logarithms and powers, forced step by step -/
def lgC (u : Nat) : List Nat → Nat → (Nat → Bool) → Bool
  | [], q, k => k q
  | c :: l, q, k => frc (lgS u c q) fun q' => lgC u l q' k
theorem lgC_eq {u : Nat} : ∀ (l : List Nat) (q : Nat) (k : Nat → Bool), lgC u l q k = k (l.foldl (fun q c => lgS u c q) q)
  | [], _, _ => rfl
  | c :: l, q, k => by unfold lgC; rw [frc_eq]; exact lgC_eq l _ k
def lgL : List Nat := [4627730092099895296, 4627167142146473984, 4626604192193052672, 4626041242239631360, 4625478292286210048, 4624633867356078080, 4623507967449235456, 4622382067542392832, 4621256167635550208, 4619567317775286272, 4617315517961601024, 4613937818241073152, 4607182418800017408]
theorem lgQ_fold {u : Nat} : lgQ u = lgL.foldl (fun q c => lgS u c q) 0 := by simp only [lgQ, lgL, List.foldl_cons, List.foldl_nil]
def exC (t : Nat) : List Nat → Nat → (Nat → Bool) → Bool
  | [], q, k => k q
  | c :: l, q, k => frc (expS t c q) fun q' => exC t l q' k
theorem exC_eq {t : Nat} : ∀ (l : List Nat) (q : Nat) (k : Nat → Bool), exC t l q k = k (l.foldl (fun q c => expS t c q) q)
  | [], _, _ => rfl
  | c :: l, q, k => by unfold exC; rw [frc_eq]; exact exC_eq l _ k
def exL : List Nat := [4622945017495814144, 4622382067542392832, 4621819117588971520, 4621256167635550208, 4620693217682128896, 4619567317775286272, 4618441417868443648, 4617315517961601024, 4616189618054758400, 4613937818241073152, 4611686018427387904, 4607182418800017408]
theorem expP_fold {t : Nat} : expP t = exL.foldl (fun q c => expS t c q) 4607182418800017408 := by simp only [expP, exL, List.foldl_cons, List.foldl_nil]
def sqC : Nat → Nat → (Nat → Bool) → Bool
  | 0, p, k => k p
  | n + 1, p, k => frc (sqW p) fun p' => sqC n p' k
/-- A power of e, then something of it. -/
def exF (x : Nat) (k : Nat → Bool) : Bool := frc (farith .quo .f64 (conv .f32 .f64 x) 4643211215818981376) fun t => exC t exL 4607182418800017408 fun p => sqC 8 p k
theorem exF_eq {x : Nat} {k : Nat → Bool} : exF x k = k (expW (conv .f32 .f64 x)) := by
  unfold exF
  rw [frc_eq, exC_eq, ← expP_fold]
  simp only [sqC, frc_eq]
  rfl
def hvC : Nat → Nat → Nat → Nat → (Nat → Nat → Nat → Bool) → Bool
  | 0, _, _, _, _ => false
  | n + 1, i, x, e, k => bif fcmp .geq .f64 x 4609434218613702656 then frc (farith .quo .f64 x 4611686018427387904) fun x' => frc (farith .add .f64 e 4607182418800017408) fun e' => hvC n (i + 1) x' e' k else k i x e
theorem hvC_ok {y : Nat} {k : Nat → Nat → Nat → Bool} : ∀ (n i x e : Nat), hvC n i x e k = true → hvS y i = (x, e) → (∀ j, j < i → fcmp .geq .f64 (hvS y j).1 4609434218613702656 = true) → ∃ K, hvOk y K = true ∧ k K (hvS y K).1 (hvS y K).2 = true
  | 0, _, _, _, h, _, _ => by cases h
  | n + 1, i, x, e, h, hs, hj => by
    unfold hvC at h
    cases hc : fcmp .geq .f64 x 4609434218613702656
    · rw [hc] at h
      refine ⟨i, ?_, by rw [hs]; exact h⟩
      unfold hvOk
      rw [allB_true.2 hj, hs, hc]; rfl
    · rw [hc, cond_true, frc_eq, frc_eq] at h
      refine hvC_ok n (i + 1) _ _ h ?_ fun j hj' => ?_
      · show (farith .quo .f64 (hvS y i).1 4611686018427387904, farith .add .f64 (hvS y i).2 4607182418800017408) = _
        rw [hs]
      · by_cases e : j = i
        · rw [e, hs]; exact hc
        · exact hj j (by omega)
def dbC : Nat → Nat → Nat → Nat → (Nat → Nat → Nat → Bool) → Bool
  | 0, _, _, _, _ => false
  | n + 1, i, x, e, k => bif fcmp .lss .f64 x 4604930618986332160 then frc (farith .mul .f64 x 4611686018427387904) fun x' => frc (farith .sub .f64 e 4607182418800017408) fun e' => dbC n (i + 1) x' e' k else k i x e
theorem dbC_ok {v : Nat × Nat} {k : Nat → Nat → Nat → Bool} : ∀ (n i x e : Nat), dbC n i x e k = true → dbS v i = (x, e) → (∀ j, j < i → fcmp .lss .f64 (dbS v j).1 4604930618986332160 = true) → ∃ K, dbOk v K = true ∧ k K (dbS v K).1 (dbS v K).2 = true
  | 0, _, _, _, h, _, _ => by cases h
  | n + 1, i, x, e, h, hs, hj => by
    unfold dbC at h
    cases hc : fcmp .lss .f64 x 4604930618986332160
    · rw [hc] at h
      refine ⟨i, ?_, by rw [hs]; exact h⟩
      unfold dbOk
      rw [allB_true.2 hj, hs, hc]; rfl
    · rw [hc, cond_true, frc_eq, frc_eq] at h
      refine dbC_ok n (i + 1) _ _ h ?_ fun j hj' => ?_
      · show (farith .mul .f64 (dbS v i).1 4611686018427387904, farith .sub .f64 (dbS v i).2 4607182418800017408) = _
        rw [hs]
      · by_cases e : j = i
        · rw [e, hs]; exact hc
        · exact hj j (by omega)
/-- A logarithm, then something of it. -/
def lgF (x e : Nat) (k : Nat → Bool) : Bool := frc (farith .quo .f64 (farith .sub .f64 x 4607182418800017408) (farith .add .f64 x 4607182418800017408)) fun s => frc (farith .mul .f64 s s) fun u => lgC u lgL 0 fun q =>
  frc (farith .add .f64 (farith .mul .f64 4611686018427387904 (farith .mul .f64 s q)) (farith .mul .f64 e 4604418534313441775)) k
theorem lgF_eq {x e : Nat} {k : Nat → Bool} : lgF x e k = k (lgT x e) := by
  unfold lgF
  rw [frc_eq, frc_eq, lgC_eq, frc_eq, ← lgQ_fold]
  rfl
instance {x : Nat} : Decidable (Xb x) := by unfold Xb Jv; infer_instance
/-- What is asked of the glides of one ratio. -/
def askM (p q r l z : Nat) (m : Nat) : Bool := bif decide (16 < (m + 1) * p) || decide (16 < (m + 1) * q) then true else
  (farith .quo .f32 (halfN ((m + 1) * q)) (halfN ((m + 1) * p)) == r && (decide (p ≤ q → 0 ≤ sval .f32 l) && decide (q ≤ p → sval .f32 l ≤ 0))) && !fcmp .gtr .f64 (gapW (conv .f32 .f64 (farith .mul .f32 (halfN ((m + 1) * p)) z)) (conv .f32 .f64 (halfN ((m + 1) * q)))) 4576918229304087675
def askP (p q r l : Nat) : Bool := (decide (Xb l) && (farith .mul .f32 1065353216 l == l && (farith .mul .f32 0 l == 0 || farith .mul .f32 0 l == 2147483648))) && exF l fun w => frc (conv .f64 .f32 w) fun z => (List.range 16).all (askM p q r l z)
def chkP (p q : Nat) : Bool := frc (farith .quo .f32 (halfN q) (halfN p)) fun r => frc (conv .f32 .f64 r) fun y => hvC 8 0 y 0 fun _ x e => dbC 8 0 x e fun _ x2 e2 => lgF x2 e2 fun w => fits .f64 .f32 w && frc (conv .f64 .f32 w) (askP p q r)
def rowP (p : Nat) : Bool := (List.range 16).all fun q => bif Nat.gcd (p + 1) (q + 1) == 1 then chkP (p + 1) (q + 1) else true
def AllP : Prop := ∀ p, p < 16 → rowP p = true
/-- What is known of the glide from a halves to b halves. -/
def Gl (a b : Nat) : Prop := ∃ K L l : Nat, ((hvOk (conv .f32 .f64 (farith .quo .f32 (halfN b) (halfN a))) K = true ∧ dbOk (hvS (conv .f32 .f64 (farith .quo .f32 (halfN b) (halfN a))) K) L = true) ∧ fits .f64 .f32 (lgW (farith .quo .f32 (halfN b) (halfN a)) K L) = true ∧ lgN (farith .quo .f32 (halfN b) (halfN a)) K L = l) ∧
  (Xb l ∧ (a ≤ b → 0 ≤ sval .f32 l) ∧ (b ≤ a → sval .f32 l ≤ 0)) ∧ (farith .mul .f32 1065353216 l = l ∧ (farith .mul .f32 0 l = 0 ∨ farith .mul .f32 0 l = 2147483648)) ∧ fcmp .gtr .f64 (gapW (conv .f32 .f64 (farith .mul .f32 (halfN a) (exN l))) (conv .f32 .f64 (halfN b))) 4576918229304087675 = false
theorem gcd_red : ∀ a, a < 17 → ∀ b, b < 17 → 1 ≤ a → 1 ≤ b → Nat.gcd (a / Nat.gcd a b) (b / Nat.gcd a b) = 1 := by decide +kernel
theorem row_at (h : AllP) {p q : Nat} (hp : 1 ≤ p ∧ p ≤ 16) (hq : 1 ≤ q ∧ q ≤ 16) (hg : Nat.gcd p q = 1) : chkP p q = true := by
  have h1 := List.all_eq_true.1 (h (p - 1) (by omega)) (q - 1) (List.mem_range.2 (by omega))
  rw [show p - 1 + 1 = p by omega, show q - 1 + 1 = q by omega, hg] at h1
  exact h1
theorem gl_of (h : AllP) {a b : Nat} (ha : 1 ≤ a ∧ a ≤ 16) (hb : 1 ≤ b ∧ b ≤ 16) : Gl a b := by
  obtain ⟨m, p, q, hm, rfl, rfl, hg⟩ : ∃ m p q : Nat, 0 < m ∧ a = m * p ∧ b = m * q ∧ Nat.gcd p q = 1 := by
    have h0 : 0 < Nat.gcd a b := Nat.gcd_pos_of_pos_left _ (by omega)
    refine ⟨Nat.gcd a b, a / Nat.gcd a b, b / Nat.gcd a b, h0, (Nat.mul_div_cancel' (Nat.gcd_dvd_left a b)).symm, (Nat.mul_div_cancel' (Nat.gcd_dvd_right a b)).symm, gcd_red a (by omega) b (by omega) (by omega) (by omega)⟩
  have hp1 : 0 < p := by rcases Nat.eq_zero_or_pos p with rfl | h2; (rw [Nat.mul_zero] at ha; omega); exact h2
  have hq1 : 0 < q := by rcases Nat.eq_zero_or_pos q with rfl | h2; (rw [Nat.mul_zero] at hb; omega); exact h2
  have hp2 : p ≤ m * p := Nat.le_mul_of_pos_left p hm
  have hq2 : q ≤ m * q := Nat.le_mul_of_pos_left q hm
  have hm2 : m ≤ m * p := Nat.le_mul_of_pos_right m hp1
  have hc := row_at h (p := p) (q := q) (by omega) (by omega) hg
  unfold chkP at hc
  rw [frc_eq, frc_eq] at hc
  obtain ⟨K, hK, hc⟩ := hvC_ok 8 0 _ 0 hc rfl (fun j hj => absurd hj (Nat.not_lt_zero _))
  obtain ⟨L, hL, hc⟩ := dbC_ok (v := hvS (conv .f32 .f64 (farith .quo .f32 (halfN q) (halfN p))) K) 8 0 _ _ hc rfl (fun j hj => absurd hj (Nat.not_lt_zero _))
  rw [lgF_eq, frc_eq, Bool.and_eq_true] at hc
  obtain ⟨hf, hc⟩ := hc
  change askP p q (farith .quo .f32 (halfN q) (halfN p)) (lgN (farith .quo .f32 (halfN q) (halfN p)) K L) = true at hc
  change fits .f64 .f32 (lgW (farith .quo .f32 (halfN q) (halfN p)) K L) = true at hf
  unfold askP at hc
  rw [exF_eq, frc_eq, Bool.and_eq_true, Bool.and_eq_true, Bool.and_eq_true, Bool.or_eq_true] at hc
  obtain ⟨⟨c1, c2, c3⟩, c4⟩ := hc
  have c5 := List.all_eq_true.1 c4 (m - 1) (List.mem_range.2 (by omega))
  unfold askM at c5
  rw [show m - 1 + 1 = m by omega, decide_eq_false (by omega : ¬ 16 < m * p), decide_eq_false (by omega : ¬ 16 < m * q)] at c5
  simp only [Bool.or_self, cond_false, Bool.and_eq_true, Bool.not_eq_true', beq_iff_eq] at c5
  obtain ⟨⟨e1, d1, d2⟩, d3⟩ := c5
  rw [Gl, e1]
  have hle : m * p ≤ m * q ↔ p ≤ q := Nat.mul_le_mul_left_iff hm
  have hle2 : m * q ≤ m * p ↔ q ≤ p := Nat.mul_le_mul_left_iff hm
  refine ⟨K, L, _, ⟨⟨hK, hL⟩, hf, rfl⟩, ⟨of_decide_eq_true c1, fun hh => of_decide_eq_true d1 (hle.1 hh), fun hh => of_decide_eq_true d2 (hle2.1 hh)⟩, ⟨eq_of_beq c2, ?_⟩, d3⟩
  rcases c3 with c3 | c3
  · exact .inl (eq_of_beq c3)
  · exact .inr (eq_of_beq c3)
end Go.Vx

namespace Go.Vx
open Ieee Go.RowKit
/-! ### Tables -/
theorem row_0 : rowP 0 = true := by decide +kernel
theorem row_1 : rowP 1 = true := by decide +kernel
theorem row_2 : rowP 2 = true := by decide +kernel
theorem row_3 : rowP 3 = true := by decide +kernel
theorem row_4 : rowP 4 = true := by decide +kernel
theorem row_5 : rowP 5 = true := by decide +kernel
theorem row_6 : rowP 6 = true := by decide +kernel
theorem row_7 : rowP 7 = true := by decide +kernel
theorem row_8 : rowP 8 = true := by decide +kernel
theorem row_9 : rowP 9 = true := by decide +kernel
theorem row_10 : rowP 10 = true := by decide +kernel
theorem row_11 : rowP 11 = true := by decide +kernel
theorem row_12 : rowP 12 = true := by decide +kernel
theorem row_13 : rowP 13 = true := by decide +kernel
theorem row_14 : rowP 14 = true := by decide +kernel
theorem row_15 : rowP 15 = true := by decide +kernel
theorem rows_all : AllP := fun p hp => by
  have : p = 0 ∨ p = 1 ∨ p = 2 ∨ p = 3 ∨ p = 4 ∨ p = 5 ∨ p = 6 ∨ p = 7 ∨ p = 8 ∨ p = 9 ∨ p = 10 ∨ p = 11 ∨ p = 12 ∨ p = 13 ∨ p = 14 ∨ p = 15 := by omega
  rcases this with rfl | rfl | rfl | rfl | rfl | rfl | rfl | rfl | rfl | rfl | rfl | rfl | rfl | rfl | rfl | rfl
  · exact row_0
  · exact row_1
  · exact row_2
  · exact row_3
  · exact row_4
  · exact row_5
  · exact row_6
  · exact row_7
  · exact row_8
  · exact row_9
  · exact row_10
  · exact row_11
  · exact row_12
  · exact row_13
  · exact row_14
  · exact row_15
/-! ### Notes -/
def chkN (h : Nat) : Bool := frc (farith .quo .f32 (ofInt .f32 ((h : Int) - 48)) 1073741824) fun x => frc (halfX x) fun y => exF y fun w => frc (farith .mul .f32 1138491392 (conv .f64 .f32 w)) fun n1 =>
  frc (farith .add .f32 x 1094713344) fun x2 => frc (halfX x2) fun y2 => exF y2 fun w2 => frc (farith .mul .f32 1138491392 (conv .f64 .f32 w2)) fun n2 =>
  ((btw x 3270508544 1123024896 && fin n1) && (btw x2 3270508544 1123024896 && fin n2)) && !fcmp .gtr .f64 (gapW (conv .f32 .f64 n2) (farith .mul .f64 4611686018427387904 (conv .f32 .f64 n1))) (farith .mul .f64 4562254508917369340 (conv .f32 .f64 n2))
def halfH (h : Nat) : Nat := farith .quo .f32 (ofInt .f32 ((h : Int) - 48)) 1073741824
theorem note_a : ((List.range 33).all fun h => chkN h) = true := by decide +kernel
theorem note_b : ((List.range 32).all fun h => chkN (33 + h)) = true := by decide +kernel
theorem note_c : ((List.range 32).all fun h => chkN (65 + h)) = true := by decide +kernel
theorem note_at {h : Nat} (hh : h < 97) : chkN h = true := by
  by_cases h1 : h < 33
  · exact List.all_eq_true.1 note_a h (List.mem_range.2 h1)
  · by_cases h2 : h < 65
    · have := List.all_eq_true.1 note_b (h - 33) (List.mem_range.2 (by omega))
      rwa [show 33 + (h - 33) = h by omega] at this
    · have := List.all_eq_true.1 note_c (h - 65) (List.mem_range.2 (by omega))
      rwa [show 65 + (h - 65) = h by omega] at this
theorem note_all {h : Nat} (hh : h < 97) : ((btw (halfH h) 3270508544 1123024896 && fin (noteN (halfH h))) = true ∧ (btw (farith .add .f32 (halfH h) 1094713344) 3270508544 1123024896 && fin (noteN (farith .add .f32 (halfH h) 1094713344))) = true) ∧
    fcmp .gtr .f64 (gapW (conv .f32 .f64 (noteN (farith .add .f32 (halfH h) 1094713344))) (farith .mul .f64 4611686018427387904 (conv .f32 .f64 (noteN (halfH h))))) (farith .mul .f64 4562254508917369340 (conv .f32 .f64 (noteN (farith .add .f32 (halfH h) 1094713344)))) = false := by
  have h1 := note_at hh
  unfold chkN at h1
  simp only [frc_eq, exF_eq] at h1
  rw [Bool.and_eq_true, Bool.and_eq_true, Bool.not_eq_true'] at h1
  exact ⟨h1.1, h1.2⟩
/-! ### What trembles -/
def x64 (m : Nat) : Nat := farith .quo .f32 (ofInt .f32 (m : Int)) 1115684864
instance {a b x : Nat} : Decidable (Jv a b x) := by unfold Jv; infer_instance
def chkSn (m : Nat) : Bool := frc (x64 m) fun x => frc (sinN x) fun y => decide (Jv 3212836872 1065353224 y)
theorem sn_a : ((List.range 81).all fun m => chkSn m) = true := by decide +kernel
theorem sn_b : ((List.range 80).all fun m => chkSn (81 + m)) = true := by decide +kernel
end Go.Vx

namespace Go.Vx
open Ieee Go.RowKit
/-! ### Numbers that tremble near a base -/
theorem sn_all {m : Nat} (hm : m ≤ 160) : Jv 3212836872 1065353224 (sinN (x64 m)) := by
  have key : chkSn m = true := by
    by_cases h1 : m < 81
    · exact List.all_eq_true.1 sn_a m (List.mem_range.2 h1)
    · have := List.all_eq_true.1 sn_b (m - 81) (List.mem_range.2 (by omega))
      rwa [show 81 + (m - 81) = m by omega] at this
  unfold chkSn at key
  rw [frc_eq, frc_eq] at key
  exact of_decide_eq_true key
def tuN (i : Nat) : Nat := farith .quo .f32 (ofInt .f32 (i : Int)) 1115684864
def dzN (z : Nat) : Nat := farith .quo .f32 (ofInt .f32 (z : Int)) 1090519040
def baN (b : Nat) : Nat := ofInt .f32 (b : Int)
theorem tu_tab : ((List.range 17).all fun i => (List.range 11).all fun j => farith .mul .f32 (tuN i) (ofInt .f32 (j : Int)) == x64 (i * j)) = true := by decide +kernel
theorem tu_mul {i j : Nat} (hi : i < 17) (hj : j < 11) : farith .mul .f32 (tuN i) (ofInt .f32 (j : Int)) = x64 (i * j) := by
  have h1 := List.all_eq_true.1 tu_tab i (List.mem_range.2 hi)
  exact eq_of_beq (List.all_eq_true.1 h1 j (List.mem_range.2 hj))
def hU (z : Nat) : Nat := farith .quo .f32 (ofInt .f32 (((z * 1048577 : Nat)) : Int)) 1258291200
def lo1 (z : Nat) : Nat := farith .quo .f32 (ofInt .f32 (((8388608 - z * 1048577 : Nat)) : Int)) 1258291200
def hi1 (z : Nat) : Nat := farith .quo .f32 (ofInt .f32 (((8388608 + z * 1048577 : Nat)) : Int)) 1258291200
theorem tr_1 : ∀ z : Nat, z < 5 → (Fn .f32 (hU z) ∧ Fn .f32 (fneg .f32 (hU z)) ∧ sval .f32 (fneg .f32 (hU z)) = -sval .f32 (hU z)) ∧ (Fn .f32 (dzN z) ∧ Fn .f32 (fneg .f32 (dzN z)) ∧ sval .f32 (fneg .f32 (dzN z)) = -sval .f32 (dzN z) ∧ 0 ≤ sval .f32 (dzN z)) ∧
    sval .f32 (dzN z) * sval .f32 1065353224 ≤ sval .f32 (hU z) * one_ .f32 ∧ (Fn .f32 (lo1 z) ∧ Fn .f32 (hi1 z) ∧ sval .f32 (lo1 z) = sval .f32 1065353216 - sval .f32 (hU z) ∧ sval .f32 (hi1 z) = sval .f32 1065353216 + sval .f32 (hU z)) := by decide +kernel
def loY (b z : Nat) : Nat := farith .mul .f32 (baN b) (lo1 z) - 1
def hiY (b z : Nat) : Nat := farith .mul .f32 (baN b) (hi1 z) + 1
theorem tr_2 : ∀ b : Nat, b < 9 → 1 ≤ b → ∀ z : Nat, z < 5 → (Fn .f32 (baN b) ∧ 0 ≤ sval .f32 (baN b)) ∧ (Fn .f32 (loY b z) ∧ Fn .f32 (hiY b z)) ∧ sval .f32 (loY b z) * one_ .f32 ≤ sval .f32 (baN b) * sval .f32 (lo1 z) ∧ sval .f32 (baN b) * sval .f32 (hi1 z) ≤ sval .f32 (hiY b z) * one_ .f32 := by decide +kernel
def tolB (b z : Nat) : Nat := farith .add .f64 (farith .mul .f64 (conv .f32 .f64 (dzN z)) (conv .f32 .f64 (baN b))) 4562254508917369340
theorem tr_3 : ∀ b : Nat, b < 9 → 1 ≤ b → ∀ z : Nat, z < 5 → (Fn .f64 (tolB b z) ∧ Fn .f64 (fneg .f64 (tolB b z)) ∧ sval .f64 (fneg .f64 (tolB b z)) = -sval .f64 (tolB b z)) ∧ sval .f64 (conv .f32 .f64 (hiY b z)) - sval .f64 (conv .f32 .f64 (baN b)) ≤ sval .f64 (tolB b z) ∧ sval .f64 (conv .f32 .f64 (baN b)) - sval .f64 (conv .f32 .f64 (loY b z)) ≤ sval .f64 (tolB b z) := by decide +kernel
theorem tr_4 : ∀ b : Nat, b < 9 → 1 ≤ b → ∀ z : Nat, z < 5 → fcmp .neq .f32 (farith .mul .f32 (baN b) (farith .add .f32 1065353216 (farith .mul .f32 (dzN z) (sinN (x64 0))))) (baN b) = false := by decide +kernel
theorem tr_5 : (∀ b : Nat, b < 9 → fin (baN b) = true) ∧ (∀ z : Nat, z < 5 → fin (dzN z) = true) ∧ (∀ i : Nat, i < 17 → fin (tuN i) = true) := by decide +kernel
end Go.Vx

namespace Go.Vx
open Ieee Go.RowKit
theorem v_B : sval .f32 3212836872 = -sval .f32 1065353224 := by decide +kernel
section
attribute [local irreducible] farith fcmp sval one_ Fn sinN ofInt
theorem tr_num {b z i j : Nat} (hb : 1 ≤ b ∧ b < 9) (hz : z < 5) (hi : i < 17) (hj : j < 11) : Jv (loY b z) (hiY b z) (trembG (baN b) (dzN z) (tuN i) j) := by
  obtain ⟨⟨a1, a2, a3⟩, ⟨b1, b2, b3, b4⟩, c1, d1, d2, d3, d4⟩ := tr_1 z hz
  obtain ⟨⟨e1, e2⟩, ⟨f1, f2⟩, g1', g2'⟩ := tr_2 b hb.2 hb.1 z hz
  have hij : i * j ≤ 160 := Nat.le_trans (Nat.mul_le_mul (show i ≤ 16 by omega) (show j ≤ 10 by omega)) (by decide)
  have hs := sn_all hij
  have e : trembG (baN b) (dzN z) (tuN i) j = farith .mul .f32 (baN b) (farith .add .f32 1065353216 (farith .mul .f32 (dzN z) (sinN (x64 (i * j))))) := by
    unfold trembG; rw [tu_mul hi hj]
  rw [e]
  have v := v_B
  generalize sinN (x64 (i * j)) = u at *
  have ht : Jv (fneg .f32 (hU z)) (hU z) (farith .mul .f32 (dzN z) u) := Jv.mul (a := dzN z) (na := fneg .f32 (dzN z)) ⟨b1, by omega, Int.le_refl _⟩ hs b3 v a3 a2 a1 c1
  have ha : Jv (lo1 z) (hi1 z) (farith .add .f32 1065353216 (farith .mul .f32 (dzN z) u)) := add_bd fn_o ht.1 d1 d2 (by rw [d3, Int.sub_eq_add_neg, ← a3]; exact Int.add_le_add_left ht.2.1 _) (by rw [d4]; exact Int.add_le_add_left ht.2.2 _)
  exact mul_bd e1 ha.1 f1 f2 (Int.le_trans g1' (Int.mul_le_mul_of_nonneg_left ha.2.1 e2)) (Int.le_trans (Int.mul_le_mul_of_nonneg_left ha.2.2 e2) g2')
theorem tr_gap {b z i j : Nat} (hb : 1 ≤ b ∧ b < 9) (hz : z < 5) (hi : i < 17) (hj : j < 11) : fcmp .gtr .f64 (gapW (conv .f32 .f64 (trembG (baN b) (dzN z) (tuN i) j)) (conv .f32 .f64 (baN b))) (farith .add .f64 (farith .mul .f64 (conv .f32 .f64 (dzN z)) (conv .f32 .f64 (baN b))) 4562254508917369340) = false := by
  have hv := tr_num hb hz hi hj
  obtain ⟨⟨e1, e2⟩, ⟨f1, f2⟩, _⟩ := tr_2 b hb.2 hb.1 z hz
  obtain ⟨⟨t1, t2, t3⟩, t4, t5⟩ := tr_3 b hb.2 hb.1 z hz
  change fcmp .gtr .f64 (gapW (conv .f32 .f64 (trembG (baN b) (dzN z) (tuN i) j)) (conv .f32 .f64 (baN b))) (tolB b z) = false
  generalize trembG (baN b) (dzN z) (tuN i) j = v at *
  have hw : 0 ≤ wid := Int.le_of_lt wid_pos
  obtain ⟨w1, w2⟩ := wide_val hv.1
  obtain ⟨p1, p2⟩ := wide_val e1
  obtain ⟨l1, l2⟩ := wide_val f1
  obtain ⟨u1, u2⟩ := wide_val f2
  have m1 := Int.mul_le_mul_of_nonneg_right hv.2.1 hw
  have m2 := Int.mul_le_mul_of_nonneg_right hv.2.2 hw
  rw [← l2, ← w2] at m1
  rw [← u2, ← w2] at m2
  have hg : Fn .f64 (gapW (conv .f32 .f64 v) (conv .f32 .f64 (baN b))) ∧ sval .f64 (gapW (conv .f32 .f64 v) (conv .f32 .f64 (baN b))) ≤ sval .f64 (tolB b z) := by
    unfold gapW
    split
    · have := sub_bd (k := .f64) p1 w1 t2 t1 (by rw [t3]; omega) (by omega)
      exact ⟨this.1, this.2.2⟩
    · have := sub_bd (k := .f64) w1 p1 t2 t1 (by rw [t3]; omega) (by omega)
      exact ⟨this.1, this.2.2⟩
  exact cmp_gt_not hg.1 t1 hg.2
end
theorem tr_first {b z i : Nat} (hb : 1 ≤ b ∧ b < 9) (hz : z < 5) (hi : i < 17) : fcmp .neq .f32 (trembG (baN b) (dzN z) (tuN i) 0) (baN b) = false := by
  have e : trembG (baN b) (dzN z) (tuN i) 0 = farith .mul .f32 (baN b) (farith .add .f32 1065353216 (farith .mul .f32 (dzN z) (sinN (x64 0)))) := by
    unfold trembG; rw [tu_mul hi (by decide), Nat.mul_zero]
  rw [e]
  exact tr_4 b hb.2 hb.1 z hz
theorem tr_ok {b z i : Nat} {m : Nat} (hb : 1 ≤ b ∧ b < 9) (hz : z < 5) (hi : i < 17) (hm : 1 ≤ m ∧ m ≤ 11) : (trembB (baN b) (dzN z) (tuN i) (m : Int) && allB (m : Int).toNat (fun j => fin (trembG (baN b) (dzN z) (tuN i) j))) = true := by
  obtain ⟨a, b', c⟩ := tr_5
  have h1 : allB (m : Int).toNat (fun j => fin (trembG (baN b) (dzN z) (tuN i) j)) = true := allB_true.2 fun j hj => (tr_num hb hz hi (by rw [Int.toNat_natCast] at hj; omega)).fin
  rw [h1]
  unfold trembB
  rw [a b hb.2, b' z hz, c i hi]
  simp only [iin, Bool.true_and, Bool.and_true, Bool.and_eq_true, decide_eq_true_eq]
  omega
end Go.Vx

namespace Go.Vx
open Ieee Go.RowKit
/-! ### Glides -/
def shr (d j : Nat) : Nat := farith .quo .f32 (ofInt .f32 (j : Int)) (ofInt .f32 (d : Int))
theorem sh_tab1 : ((List.range 10).all fun d => (List.range 11).all fun j => decide (d + 1 < j) || decide (Fn .f32 (shr (d + 1) j) ∧ 0 ≤ sval .f32 (shr (d + 1) j) ∧ sval .f32 (shr (d + 1) j) ≤ one_ .f32)) = true := by decide +kernel
theorem sh_tab2 : ((List.range 10).all fun d => (List.range 11).all fun j => decide (d + 1 ≤ j) || decide (sval .f32 (shr (d + 1) j) ≤ sval .f32 (shr (d + 1) (j + 1)))) = true := by decide +kernel
theorem sh_end : ∀ d : Nat, d < 11 → 1 ≤ d → shr d 0 = 0 ∧ shr d d = 1065353216 := by decide +kernel
theorem sh_in {d j : Nat} (hd : 1 ≤ d ∧ d < 11) (hj : j ≤ d) : Fn .f32 (shr d j) ∧ 0 ≤ sval .f32 (shr d j) ∧ sval .f32 (shr d j) ≤ one_ .f32 := by
  have h1 := List.all_eq_true.1 sh_tab1 (d - 1) (List.mem_range.2 (by omega))
  have h2 := List.all_eq_true.1 h1 j (List.mem_range.2 (by omega))
  rw [show d - 1 + 1 = d by omega, decide_eq_false (by omega : ¬ d < j), Bool.false_or] at h2
  exact of_decide_eq_true h2
theorem sh_up {d j : Nat} (hd : 1 ≤ d ∧ d < 11) (hj : j < d) : sval .f32 (shr d j) ≤ sval .f32 (shr d (j + 1)) := by
  have h1 := List.all_eq_true.1 sh_tab2 (d - 1) (List.mem_range.2 (by omega))
  have h2 := List.all_eq_true.1 h1 j (List.mem_range.2 (by omega))
  rw [show d - 1 + 1 = d by omega, decide_eq_false (by omega : ¬ d ≤ j), Bool.false_or] at h2
  exact of_decide_eq_true h2
theorem mul_pair2 {a b c d : Int} (h1 : a ≤ b) (h2 : c ≤ d) (ha : 0 ≤ c) (hb : 0 ≤ b) : a * c ≤ b * d := Int.le_trans (Int.mul_le_mul_of_nonneg_right h1 ha) (Int.mul_le_mul_of_nonneg_left h2 hb)
theorem gv_rng {T s l : Int} (hT : 0 < T) (h0 : 0 ≤ s) (h1 : s ≤ T) (l1 : -(3 * T) ≤ l) (l2 : l ≤ 3 * T) : -(4 * T) * T ≤ s * l ∧ s * l < 4 * T * T := by
  have := prod_bd (x := s) (y := l) (X := T) (Y := 3 * T) (by omega) h1 l1 l2
  have e : T * (3 * T) = 3 * (T * T) := Int.mul_left_comm ..
  have hTT := Int.mul_pos hT hT
  rw [e] at this
  rw [Int.neg_mul, Int.mul_assoc]
  omega
theorem gv_alg {T s t l x y g : Int} (hT : 0 < T) (m : x * T ≤ s * l + 4 * g * T ∧ s * l ≤ x * T + 4 * g * T) (p : y * T ≤ t * l + 4 * g * T ∧ t * l ≤ y * T + 4 * g * T) (hst : s ≤ t) : (0 ≤ l → x - y ≤ 8 * g) ∧ (l ≤ 0 → y - x ≤ 8 * g) := by
  have e3 : 8 * g * T = 4 * g * T + 4 * g * T := by rw [← Int.add_mul]; congr 1; omega
  constructor
  · intro h0
    have := Int.mul_le_mul_of_nonneg_right hst h0
    refine div_le hT ?_
    rw [Int.sub_mul, e3]; omega
  · intro h0
    have := Int.mul_le_mul_of_nonpos_right hst h0
    refine div_le hT ?_
    rw [Int.sub_mul, e3]; omega
theorem half_tab : ∀ a : Nat, a < 17 → 1 ≤ a → ((Fn .f32 (halfN a) ∧ 0 < sval .f32 (halfN a) ∧ sval .f32 (halfN a) ≤ 8 * one_ .f32) ∧ (fin (halfN a) = true ∧ fcmp .leq .f32 (halfN a) 0 = false)) ∧ fcmp .gtr .f64 (gapW (conv .f32 .f64 (farith .mul .f32 (halfN a) 1065353216)) (conv .f32 .f64 (halfN a))) 4562254508917369340 = false := by decide +kernel
theorem half_ord : ∀ a : Nat, a < 17 → 1 ≤ a → ∀ b : Nat, b < 17 → 1 ≤ b → (fcmp .leq .f32 (halfN a) (halfN b) = decide (a ≤ b) ∧ fcmp .geq .f32 (halfN a) (halfN b) = decide (b ≤ a)) := by decide +kernel
theorem rat_tab : ∀ a : Nat, a < 17 → 1 ≤ a → ∀ b : Nat, b < 17 → 1 ≤ b → ((fcmp .neq .f32 (farith .quo .f32 (halfN b) (halfN a)) (farith .quo .f32 (halfN b) (halfN a)) || fcmp .lss .f32 (farith .quo .f32 (halfN b) (halfN a)) 0) = false ∧ fcmp .eql .f32 (farith .quo .f32 (halfN b) (halfN a)) 0 = false ∧ fin (farith .quo .f32 (halfN b) (halfN a)) = true) := by decide +kernel
theorem ex_zero : exN 0 = 1065353216 ∧ exN 2147483648 = 1065353216 := by decide +kernel
theorem neg_cs : sval .f32 3212836864 = -sval .f32 1065353216 ∧ 0 ≤ sval .f32 1065353216 ∧ Fn .f32 3224580915 ∧ Fn .f32 1077097267 := by decide +kernel
theorem r4_cs : 1082130432 < FloatKind.f32.format.infRung ∧ gapU .f32 1082130432 = 4 * g1 ∧ topU .f32 1082130432 = 4 * one_ .f32 := by decide +kernel
theorem tw_cs : Fn .f32 1101004800 ∧ sval .f64 4625949975457229541 ≤ sval .f32 1101004800 * wid ∧ sval .f32 1101004800 = 20 * one_ .f32 ∧ sval .f32 0 * wid = 0 := by decide +kernel
def gvX (l d j : Nat) : Nat := farith .mul .f32 (shr d j) l
section
attribute [local irreducible] farith sval one_ Fn expW fcmp ofInt wid g1
theorem gv_xb {l d j : Nat} (hl : Xb l) (hd : 1 ≤ d ∧ d < 11) (hj : j ≤ d) : Xb (gvX l d j) := by
  obtain ⟨n1, n2, n3, n4⟩ := neg_cs
  obtain ⟨_, _, c1, _⟩ := x_c2
  obtain ⟨s1, s2, s3⟩ := sh_in hd hj
  have k3 : sval .f32 1065353216 = one_ .f32 := one_32
  have hs : Jv 3212836864 1065353216 (shr d j) := ⟨s1, by omega, by omega⟩
  exact hs.mul hl n1 c1 c1 n3 n4 (by rw [k3, Int.mul_comm]; exact Int.le_refl _)
theorem gv_ord {l d j : Nat} (hl : Xb l) (hd : 1 ≤ d ∧ d < 11) (hj : j < d) : (0 ≤ sval .f32 l → sval .f32 (gvX l d j) - sval .f32 (gvX l d (j + 1)) ≤ 8 * g1) ∧ (sval .f32 l ≤ 0 → sval .f32 (gvX l d (j + 1)) - sval .f32 (gvX l d j) ≤ 8 * g1) := by
  obtain ⟨r1, r2, r3⟩ := r4_cs
  obtain ⟨s1, s2, s3⟩ := sh_in hd (Nat.le_of_lt hj)
  obtain ⟨t1, t2, t3⟩ := sh_in hd hj
  have hst := sh_up hd hj
  have hT := one_pos .f32
  obtain ⟨l1, l2, l3⟩ := hl
  obtain ⟨_, _, c1, _, c3, _⟩ := x_c2
  have w1 : -(3 * one_ .f32) ≤ sval .f32 l := by omega
  have w2 : sval .f32 l ≤ 3 * one_ .f32 := by omega
  have m := mul_er 1082130432 r1 s1 l1 (by rw [r3]; exact (gv_rng hT s2 s3 w1 w2).1) (by rw [r3]; exact (gv_rng hT s2 s3 w1 w2).2)
  have p := mul_er 1082130432 r1 t1 l1 (by rw [r3]; exact (gv_rng hT t2 t3 w1 w2).1) (by rw [r3]; exact (gv_rng hT t2 t3 w1 w2).2)
  rw [r2] at m p
  exact gv_alg hT m.2 p.2 hst
theorem ex_num {x : Nat} (h : Xb x) : fits .f64 .f32 (expW (conv .f32 .f64 x)) = true ∧ Fn .f32 (exN x) ∧ 0 ≤ sval .f32 (exN x) ∧ sval .f32 (exN x) ≤ 20 * one_ .f32 := by
  obtain ⟨t1, t2, t3, t4⟩ := tw_cs
  have hg := g1_pos
  obtain ⟨⟨⟨i1, i2, i3⟩, _⟩, _⟩ := expW_ord h h (by omega)
  have z0 := u_z
  have k0 := v0_32
  have := narrow_bd i1 fn_z t1 (by rw [t4]; omega) (by omega)
  rw [k0, t3] at this
  exact this
theorem ex_ord {x1 x2 : Nat} (h1 : Xb x1) (h2 : Xb x2) (hd : sval .f32 x1 - sval .f32 x2 ≤ 8 * g1) : 10 * (sval .f32 (exN x1) - sval .f32 (exN x2)) ≤ 16850 * g1 := by
  obtain ⟨⟨r1, r2, r3⟩, _⟩ := r_cs
  obtain ⟨t1, t2, t3, t4⟩ := tw_cs
  obtain ⟨⟨⟨i1, i2, i3⟩, ⟨j1, j2, j3⟩⟩, hz⟩ := expW_ord h1 h2 hd
  have z0 := u_z
  have hw := wid_pos
  have ho := one_pos .f32
  have how := Int.mul_pos ho hw
  have e1 : topU .f32 R32s * wid = 32 * (one_ .f32 * wid) := by rw [r3, Int.mul_assoc]
  rw [t3, Int.mul_assoc] at t2
  obtain ⟨_, a1, a2⟩ := narrow_er R32s r1 i1 (by rw [Int.neg_mul, e1]; omega) (by rw [e1]; omega)
  obtain ⟨_, b1, b2⟩ := narrow_er R32s r1 j1 (by rw [Int.neg_mul, e1]; omega) (by rw [e1]; omega)
  rw [r2, Int.mul_assoc] at a1 a2 b1 b2
  refine div_le hw ?_
  unfold exN
  rw [Int.mul_assoc, Int.sub_mul, Int.mul_assoc]
  omega
theorem gl_num {a x : Nat} (ha : 1 ≤ a ∧ a < 17) (h : Xb x) : Fn .f32 (farith .mul .f32 (halfN a) (exN x)) ∧ sval .f32 (farith .mul .f32 (halfN a) (exN x)) * one_ .f32 ≤ sval .f32 (halfN a) * sval .f32 (exN x) + 256 * g1 * one_ .f32 ∧ sval .f32 (halfN a) * sval .f32 (exN x) ≤ sval .f32 (farith .mul .f32 (halfN a) (exN x)) * one_ .f32 + 256 * g1 * one_ .f32 := by
  obtain ⟨_, r1, r2, r3⟩ := r_cs
  obtain ⟨⟨⟨f1, f2, f3⟩, _⟩, _⟩ := half_tab a ha.2 ha.1
  obtain ⟨_, e1, e2, e3⟩ := ex_num h
  have hT := one_pos .f32
  have hTT := Int.mul_pos hT hT
  have e4 : topU .f32 R256s * one_ .f32 = 256 * (one_ .f32 * one_ .f32) := by rw [r3, Int.mul_assoc]
  have hp : sval .f32 (halfN a) * sval .f32 (exN x) ≤ 8 * one_ .f32 * (20 * one_ .f32) := mul_pair2 f3 e3 e2 (by omega)
  have hp0 : 0 ≤ sval .f32 (halfN a) * sval .f32 (exN x) := Int.mul_nonneg (by omega) e2
  have e5 : 8 * one_ .f32 * (20 * one_ .f32) = 160 * (one_ .f32 * one_ .f32) := by rw [Int.mul_assoc, Int.mul_left_comm (one_ .f32), ← Int.mul_assoc]; rfl
  rw [e5] at hp
  have m := mul_er R256s r1 f1 e1 (by rw [Int.neg_mul, e4]; omega) (by rw [e4]; omega)
  rw [r2] at m
  exact m
theorem gl_ord {a x1 x2 : Nat} (ha : 1 ≤ a ∧ a < 17) (h1 : Xb x1) (h2 : Xb x2) (hd : sval .f32 x1 - sval .f32 x2 ≤ 8 * g1) : sval .f32 (farith .mul .f32 (halfN a) (exN x1)) - sval .f32 (farith .mul .f32 (halfN a) (exN x2)) ≤ 14000 * g1 := by
  have hS := ex_ord h1 h2 hd
  obtain ⟨_, a1, a2⟩ := gl_num ha h1
  obtain ⟨_, b1, b2⟩ := gl_num ha h2
  obtain ⟨⟨⟨f1, f2, f3⟩, _⟩, _⟩ := half_tab a ha.2 ha.1
  have hT := one_pos .f32
  have hg := g1_pos
  have h3 := Int.mul_le_mul_of_nonneg_left hS (Int.le_of_lt f2)
  have h4 : sval .f32 (halfN a) * (16850 * g1) ≤ 8 * one_ .f32 * (16850 * g1) := Int.mul_le_mul_of_nonneg_right f3 (by omega)
  have e1 : sval .f32 (halfN a) * (10 * (sval .f32 (exN x1) - sval .f32 (exN x2))) = 10 * (sval .f32 (halfN a) * sval .f32 (exN x1)) - 10 * (sval .f32 (halfN a) * sval .f32 (exN x2)) := by rw [Int.mul_left_comm, Int.mul_sub, Int.mul_sub]
  have e2 : 8 * one_ .f32 * (16850 * g1) = 134800 * (g1 * one_ .f32) := by rw [Int.mul_assoc, Int.mul_left_comm (one_ .f32), ← Int.mul_assoc, Int.mul_comm (one_ .f32)]; rfl
  rw [e1] at h3
  rw [e2] at h4
  rw [Int.mul_assoc] at a1 a2 b1 b2
  refine div_le hT ?_
  rw [Int.sub_mul, Int.mul_assoc 14000]
  have hgT := Int.mul_pos hg hT
  omega
end
end Go.Vx

namespace Go.Vx
open Ieee Go.RowKit
def glV (a l d j : Nat) : Nat := farith .mul .f32 (halfN a) (exN (gvX l d j))
theorem lim_cs : (Fn .f32 1128792064 ∧ sval .f32 1077097267 ≤ sval .f32 1128792064) ∧ (Fn .f32 3276275712 ∧ sval .f32 3276275712 ≤ sval .f32 3224580915) := by decide +kernel
theorem edge_cs : (Fn .f64 4643211215818981376 ∧ Fn .f64 13830554455654793216 ∧ sval .f64 13830554455654793216 = -one_ .f64) ∧ 256 * g1 * wid + sval .f64 4562254508917369340 ≤ one_ .f64 := by decide +kernel
theorem top_cs : 160 * one_ .f32 * wid + sval .f64 4562254508917369340 + 256 * g1 * wid ≤ sval .f64 4643211215818981376 ∧ 0 ≤ sval .f64 4562254508917369340 ∧ 256 * g1 * wid ≤ sval .f64 4562254508917369340 := by decide +kernel
section
attribute [local irreducible] farith sval one_ Fn expW fcmp ofInt wid g1 exN
theorem gl_fin {a l d j : Nat} (ha : 1 ≤ a ∧ a < 17) (hl : Xb l) (hd : 1 ≤ d ∧ d < 11) (hj : j ≤ d) : fin (glV a l d j) = true := fn_fin.1 (gl_num ha (gv_xb hl hd hj)).1
theorem gl_e1 {l d j : Nat} (hl : Xb l) (hd : 1 ≤ d ∧ d < 11) (hj : j ≤ d) : fcmp .gtr .f32 (gvX l d j) 1128792064 = false := by
  obtain ⟨⟨a1, a2⟩, _⟩ := lim_cs
  obtain ⟨f, b1, b2⟩ := gv_xb hl hd hj
  exact cmp_gt_not f a1 (by omega)
theorem gl_e2 {l d j : Nat} (hl : Xb l) (hd : 1 ≤ d ∧ d < 11) (hj : j ≤ d) : fcmp .lss .f32 (gvX l d j) 3276275712 = false := by
  obtain ⟨_, a1, a2⟩ := lim_cs
  obtain ⟨f, b1, b2⟩ := gv_xb hl hd hj
  exact cmp_lt_not f a1 (by omega)
theorem gl_first {a l d : Nat} (ha : 1 ≤ a ∧ a < 17) (hd : 1 ≤ d ∧ d < 11) (h0 : farith .mul .f32 0 l = 0 ∨ farith .mul .f32 0 l = 2147483648) : fcmp .gtr .f64 (gapW (conv .f32 .f64 (glV a l d 0)) (conv .f32 .f64 (halfN a))) 4562254508917369340 = false := by
  obtain ⟨e0, _⟩ := sh_end d hd.2 hd.1
  obtain ⟨x0, x1⟩ := ex_zero
  have e : glV a l d 0 = farith .mul .f32 (halfN a) 1065353216 := by
    unfold glV gvX
    rw [e0]
    rcases h0 with h | h <;> rw [h]
    · rw [x0]
    · rw [x1]
  rw [e]
  exact (half_tab a ha.2 ha.1).2
theorem gl_last {a b l d : Nat} (hd : 1 ≤ d ∧ d < 11) (h1 : farith .mul .f32 1065353216 l = l) (h : fcmp .gtr .f64 (gapW (conv .f32 .f64 (farith .mul .f32 (halfN a) (exN l))) (conv .f32 .f64 (halfN b))) 4576918229304087675 = false) : fcmp .gtr .f64 (gapW (conv .f32 .f64 (glV a l d d)) (conv .f32 .f64 (halfN b))) 4576918229304087675 = false := by
  obtain ⟨_, e1⟩ := sh_end d hd.2 hd.1
  unfold glV gvX
  rw [e1, h1]; exact h
theorem gl_pos {a l d j : Nat} (ha : 1 ≤ a ∧ a < 17) (hl : Xb l) (hd : 1 ≤ d ∧ d < 11) (hj : j ≤ d) : Fn .f32 (glV a l d j) ∧ -(256 * g1) ≤ sval .f32 (glV a l d j) ∧ sval .f32 (glV a l d j) ≤ 160 * one_ .f32 + 256 * g1 := by
  obtain ⟨f, a1, a2⟩ := gl_num ha (gv_xb hl hd hj)
  obtain ⟨⟨⟨f1, f2, f3⟩, _⟩, _⟩ := half_tab a ha.2 ha.1
  obtain ⟨_, e1, e2, e3⟩ := ex_num (gv_xb hl hd hj)
  have hT := one_pos .f32
  have hp : sval .f32 (halfN a) * sval .f32 (exN (gvX l d j)) ≤ 8 * one_ .f32 * (20 * one_ .f32) := mul_pair2 f3 e3 e2 (by omega)
  have hp0 : 0 ≤ sval .f32 (halfN a) * sval .f32 (exN (gvX l d j)) := Int.mul_nonneg (by omega) e2
  have e5 : 8 * one_ .f32 * (20 * one_ .f32) = 160 * one_ .f32 * one_ .f32 := by rw [Int.mul_assoc, Int.mul_left_comm (one_ .f32), ← Int.mul_assoc, ← Int.mul_assoc]; rfl
  rw [e5] at hp
  refine ⟨f, div_le hT ?_, div_le hT ?_⟩
  · rw [Int.neg_mul]; unfold glV; omega
  · rw [Int.add_mul]; unfold glV; omega
theorem up_not {x y : Nat} (hx : Fn .f32 x) (hy : Fn .f32 y) (hy0 : -(256 * g1) ≤ sval .f32 y) (h : sval .f32 y - sval .f32 x ≤ 14000 * g1) : fcmp .lss .f64 (conv .f32 .f64 x) (farith .sub .f64 (conv .f32 .f64 y) 4562254508917369340) = false := by
  obtain ⟨m1, m2, m3, m4⟩ := milli_g
  obtain ⟨_, c2, c3⟩ := top_cs
  obtain ⟨x1, x2⟩ := wide_val hx
  obtain ⟨y1, y2⟩ := wide_val hy
  have hw := wid_pos
  have a := Int.mul_le_mul_of_nonneg_right h (Int.le_of_lt hw)
  rw [Int.sub_mul, ← x2, ← y2] at a
  have b := Int.mul_le_mul_of_nonneg_right hy0 (Int.le_of_lt hw)
  rw [← y2, Int.neg_mul] at b
  obtain ⟨⟨_, d2, d3⟩, d4⟩ := edge_cs
  have hs := sub_bd (k := .f64) y1 m2 d2 x1 (by rw [d3]; omega) (by omega)
  exact cmp_lt_not x1 hs.1 hs.2.2
theorem dn_not {x y : Nat} (hx : Fn .f32 x) (hy : Fn .f32 y) (hy1 : sval .f32 y ≤ 160 * one_ .f32 + 256 * g1) (h : sval .f32 x - sval .f32 y ≤ 14000 * g1) : fcmp .gtr .f64 (conv .f32 .f64 x) (farith .add .f64 (conv .f32 .f64 y) 4562254508917369340) = false := by
  obtain ⟨m1, m2, m3, m4⟩ := milli_g
  obtain ⟨c1, c2, c3⟩ := top_cs
  obtain ⟨x1, x2⟩ := wide_val hx
  obtain ⟨y1, y2⟩ := wide_val hy
  have hw := wid_pos
  have a := Int.mul_le_mul_of_nonneg_right h (Int.le_of_lt hw)
  rw [Int.sub_mul, ← x2, ← y2] at a
  have b := Int.mul_le_mul_of_nonneg_right hy1 (Int.le_of_lt hw)
  rw [← y2, Int.add_mul] at b
  obtain ⟨⟨d1, _, _⟩, _⟩ := edge_cs
  have hs := add_bd (k := .f64) y1 m2 x1 d1 (by omega) (by omega)
  exact cmp_gt_not x1 hs.1 hs.2.1
theorem gl_mono {a b l d k : Nat} (ha : 1 ≤ a ∧ a < 17) (hb : 1 ≤ b ∧ b < 17) (hl : Xb l) (h1 : a ≤ b → 0 ≤ sval .f32 l) (h2 : b ≤ a → sval .f32 l ≤ 0) (hd : 1 ≤ d ∧ d < 11) (hk : k ≤ d) :
    (icmp .gtr (k : Int) 0 && ((fcmp .leq .f32 (halfN a) (halfN b) && fcmp .lss .f64 (conv .f32 .f64 (glV a l d k)) (farith .sub .f64 (conv .f32 .f64 (glV a l d ((k : Int) - 1).toNat)) 4562254508917369340)) || (fcmp .geq .f32 (halfN a) (halfN b) && fcmp .gtr .f64 (conv .f32 .f64 (glV a l d k)) (farith .add .f64 (conv .f32 .f64 (glV a l d ((k : Int) - 1).toNat)) 4562254508917369340)))) = false := by
  by_cases h0 : k = 0
  · have : icmp .gtr (k : Int) 0 = false := by simp [icmp]; omega
    rw [this, Bool.false_and]
  · obtain ⟨j, rfl⟩ : ∃ j, k = j + 1 := ⟨k - 1, by omega⟩
    have e : (((j + 1 : Nat) : Int) - 1).toNat = j := by omega
    obtain ⟨o1, o2⟩ := half_ord a ha.2 ha.1 b hb.2 hb.1
    obtain ⟨q1, q2⟩ := gv_ord hl hd (show j < d by omega)
    obtain ⟨x1, x2, x3⟩ := gl_pos ha hl hd hk
    obtain ⟨y1, y2, y3⟩ := gl_pos ha hl hd (show j ≤ d by omega)
    have X := gv_xb hl hd hk
    have Y := gv_xb hl hd (show j ≤ d by omega)
    rw [e, o1, o2]
    have c1 : (decide (a ≤ b) && fcmp .lss .f64 (conv .f32 .f64 (glV a l d (j + 1))) (farith .sub .f64 (conv .f32 .f64 (glV a l d j)) 4562254508917369340)) = false := by
      by_cases hab : a ≤ b
      · rw [up_not x1 y1 y2 (gl_ord ha Y X (q1 (h1 hab))), Bool.and_false]
      · rw [decide_eq_false hab, Bool.false_and]
    have c2 : (decide (b ≤ a) && fcmp .gtr .f64 (conv .f32 .f64 (glV a l d (j + 1))) (farith .add .f64 (conv .f32 .f64 (glV a l d j)) 4562254508917369340)) = false := by
      by_cases hab : b ≤ a
      · rw [dn_not x1 y1 y3 (gl_ord ha X Y (q2 (h2 hab))), Bool.and_false]
      · rw [decide_eq_false hab, Bool.false_and]
    rw [c1, c2, Bool.or_false, Bool.and_false]
end
theorem gl_all {a l d : Nat} (ha : 1 ≤ a ∧ a < 17) (hl : Xb l) (hd : 1 ≤ d ∧ d < 11) : allB (d + 1) (fun j => fin (glV a l d j)) = true := allB_true.2 fun _ hj => gl_fin ha hl hd (by omega)
/-! ### The law's questions -/
theorem gl_c0 {a b d : Nat} (ha : 1 ≤ a ∧ a < 17) (hb : 1 ≤ b ∧ b < 17) (hd : 1 ≤ d ∧ d < 11) : (((!iin ((d + 1 : Nat) : Int) 2 256 || !allB 2 (fun j => fin ([halfN a, halfN b].getD j 0))) || fcmp .leq .f32 (halfN a) 0) || fcmp .leq .f32 (halfN b) 0) = false := by
  obtain ⟨⟨_, f1, f2⟩, _⟩ := half_tab a ha.2 ha.1
  obtain ⟨⟨_, g1, g2⟩, _⟩ := half_tab b hb.2 hb.1
  have e2 : iin ((d + 1 : Nat) : Int) 2 256 = true := by simp only [iin, Bool.and_eq_true, decide_eq_true_eq]; omega
  have e1 : allB 2 (fun j => fin ([halfN a, halfN b].getD j 0)) = true := allB_true.2 fun j hj => by
    have : j = 0 ∨ j = 1 := by omega
    rcases this with rfl | rfl
    · exact f1
    · exact g1
  rw [e1, e2, f2, g2]; rfl
theorem rates_c1 {h : Nat} (hh : h < 97) {x y : Int} : ((((((!true || !true) || !true) || !true) || fcmp .gtr .f64 (gapW (conv .f32 .f64 (noteN (farith .add .f32 (halfH h) 1094713344))) (farith .mul .f64 4611686018427387904 (conv .f32 .f64 (noteN (halfH h))))) (farith .mul .f64 4562254508917369340 (conv .f32 .f64 (noteN (farith .add .f32 (halfH h) 1094713344))))) || icmp .neq x x) || icmp .neq y y) = false := by
  rw [(note_all hh).2]; simp [icmp]
theorem rates_c2 {a b l d c z i : Nat} (ha : 1 ≤ a ∧ a < 17) (hd : 1 ≤ d ∧ d < 11) (h0 : farith .mul .f32 0 l = 0 ∨ farith .mul .f32 0 l = 2147483648) (h1 : farith .mul .f32 1065353216 l = l) (h : fcmp .gtr .f64 (gapW (conv .f32 .f64 (farith .mul .f32 (halfN a) (exN l))) (conv .f32 .f64 (halfN b))) 4576918229304087675 = false) (hc : 1 ≤ c ∧ c < 9) (hz : z < 5) (hi : i < 17) :
    ((fcmp .gtr .f64 (gapW (conv .f32 .f64 (glV a l d 0)) (conv .f32 .f64 (halfN a))) 4562254508917369340 || fcmp .gtr .f64 (gapW (conv .f32 .f64 (glV a l d (((d + 1 : Nat) : Int) - 1).toNat)) (conv .f32 .f64 (halfN b))) 4576918229304087675) || fcmp .neq .f32 (trembG (baN c) (dzN z) (tuN i) 0) (baN c)) = false := by
  rw [show (((d + 1 : Nat) : Int) - 1).toNat = d by omega, gl_first ha hd h0, gl_last hd h1 h, tr_first hc hz hi]; rfl
theorem guard_gt {X Y : Int} (h : (true && icmp .gtr X Y == true) = true) : X > Y := by
  simp only [Bool.true_and, beq_true] at h
  exact of_decide_eq_true h
theorem guard_gt1 {X Y : Int} {b : Bool} (h : ((true && icmp .gtr X Y == true) && b) = true) : X > Y := guard_gt (Bool.and_eq_true_iff.1 h).1
theorem guard_gt2 {X Y : Int} {b c : Bool} (h : (((true && icmp .gtr X Y == true) && b) && c) = true) : X > Y := guard_gt1 (Bool.and_eq_true_iff.1 h).1
end Go.Vx
