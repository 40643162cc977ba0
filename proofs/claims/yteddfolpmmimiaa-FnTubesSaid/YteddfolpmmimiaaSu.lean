/- Laws on tubes. -/
import Derived.Test.YteddfolpmmimiaaSq
namespace Go.Vx
open Ieee Go.RowKit
section
variable {P : Program} {ops : Array Oper} {l : List Oper} {F : Frm} {w0 : World} {old : Nat → Prop} {H : List HFact} {n : Nat} {Q : Exit → Act → World → Prop}
/-- A row has room for what it has. -/
theorem jl_cap (i : Nat) {e : TypeId} {A : Option Addr} {c N : Nat} {g : Nat → Nat} (hH : H[i]? = some (.vec e A c (tab N g))) (hl : 0 < N) (h : N ≤ c → JL P n w0 old ops l F H Q) : JL P n w0 old ops l F H Q := fun a w hs hI => by
  obtain ⟨xs, ⟨h1, h2⟩, h3⟩ := hI.facts _ (List.mem_of_getElem? hH)
  have hN : N ≤ c := by
    rcases h2 with ⟨_, h2⟩ | ⟨g', cap, cur, hv, _, _, hle, _⟩
    · rw [tab_length] at h2; omega
    · injection hv with _ _ e3
      rw [tab_length] at hle; omega
  exact h hN a w hs hI
theorem freshG_at {w : World} {v f g : HFact} (i j : Nat) (hi : H[i]? = some f) (ho : f.isOwn = true) (hj : H[j]? = some g) (hg : g.foot = v.foot) (hij : i ≠ j) (h : HInv w0 (footOf v) H w) : Fresh w0 w [f] :=
  fresh_one (h.facts f (List.mem_of_getElem? hi)) fun k hk => by
    rcases h.new f (List.mem_of_getElem? hi) ho k hk with h1 | h1
    · exact h1
    · exact absurd (hg.trans h1) (h.offAt hi hj hij (by rw [ho]; rfl) k hk)
theorem jq_retW0 {fn : Func} {en : Exit} {e : TypeId} {A : Option Addr} {cap i : Nat} {cs' : List Value} (he : en = .ret ∨ en = .normal) (hr : fn.results = #[]) (hH : H[i]? = some (.vec e A cap cs')) :
    JQ n w0 (rowOf A) en F H (bodyPost P fn (EndsW e A cap cs' (.tuple #[]) w0)) := by
  intro a w hF hI
  have : a.defers = [] ∧ ∃ v, (results fn a.tmps).run P w = .ok v w ∧ EndsW e A cap cs' (.tuple #[]) w0 (.returned v) w :=
    ⟨hF.1, _, results_none hr _ P w, _, rfl, ⟨#[], rfl, trivial⟩, hI.facts _ (List.mem_of_getElem? hH), hI.os, hI.tape, hI.output, hI.size, fun k hk hne => hI.frame k hk hne⟩
  rcases he with rfl | rfl <;> exact this
end
theorem hA_vecTS {w0 : World} {old : Nat → Prop} {H : List HFact} {e : TypeId} {A : Option Addr} {cap N k : Nat} {g : Nat → Nat} {v : Value} (h : HFact.vec e A cap ((tab N g).set k v) ∈ H) : ∀ w, HInv w0 old H w → A = none → N = 0 := fun w hI hA => by
  have := hA_vec h w hI hA
  rwa [List.length_set, tab_length] at this
/-- A row whose outer cells have changed places. -/
def rvP (N i : Nat) (g : Nat → Nat) : Nat → Nat := fun j => if j < i ∨ N - 1 - j < i then g (N - 1 - j) else g j
theorem rvP_0 {N : Nat} {g : Nat → Nat} : tab N (rvP N 0 g) = tab N g := tab_congr fun j _ => by unfold rvP; rw [if_neg (by omega)]
theorem rvP_end {N i : Nat} {g : Nat → Nat} (h : (N : Int) - 1 - (i : Int) ≤ (i : Int)) : tab N (rvP N i g) = tab N (fun j => g (N - 1 - j)) := tab_congr fun j hj => by
  unfold rvP
  split
  · rfl
  · rename_i h2
    rw [show N - 1 - j = j by omega]
theorem rvP_set {N i : Nat} {g : Nat → Nat} (h : (i : Int) < (N : Int) - 1 - (i : Int)) : ((tab N (rvP N i g)).set i (F (rvP N i g (N - 1 - i)))).set (N - 1 - i) (F (rvP N i g i)) = tab N (rvP N (i + 1) g) := by
  rw [tab_set, tab_set]
  refine tab_congr fun j hj => ?_
  have e1 : rvP N i g (N - 1 - i) = g (N - 1 - i) := by unfold rvP; rw [if_neg (by omega)]
  have e2 : rvP N i g i = g i := by unfold rvP; rw [if_neg (by omega)]
  rw [e1, e2]
  by_cases h1 : j = N - 1 - i
  · rw [if_pos h1]; unfold rvP; rw [if_pos (by omega), show N - 1 - j = i by omega]
  · rw [if_neg h1]
    by_cases h2 : j = i
    · rw [if_pos h2]; unfold rvP; rw [if_pos (by omega), h2]
    · rw [if_neg h2]
      unfold rvP
      by_cases h3 : j < i ∨ N - 1 - j < i
      · rw [if_pos h3, if_pos (by omega)]
      · rw [if_neg h3, if_neg (by omega)]
/-! ### Drawn tubes -/
def qA (k : Nat) : Nat := farith .quo .f32 (ofInt .f32 (k : Int)) 1082130432
def areaN (x : Nat) : Prop := ∃ k : Nat, (1 ≤ k ∧ k ≤ 24) ∧ x = qA k
theorem area_of {s : Int × Int} (h : 0 ≤ s.1 ∧ s.1 < 24) : areaN (farith .quo .f32 (ofInt .f32 (1 + s.1)) 1082130432) :=
  ⟨(1 + s.1).toNat, by omega, by unfold qA; rw [show (((1 + s.1).toNat : Nat) : Int) = 1 + s.1 by omega]⟩
theorem area_all {p : Nat → Bool} (h : ((List.range 24).all fun k => p (qA (k + 1))) = true) {x : Nat} (hx : areaN x) : p x = true := by
  obtain ⟨k, hk, rfl⟩ := hx
  have := List.all_eq_true.1 h (k - 1) (List.mem_range.2 (by omega))
  rwa [show k - 1 + 1 = k by omega] at this
theorem area_all2 {p : Nat → Nat → Bool} (h : ((List.range 24).all fun k => (List.range 24).all fun m => p (qA (k + 1)) (qA (m + 1))) = true) {x y : Nat} (hx : areaN x) (hy : areaN y) : p x y = true := by
  obtain ⟨k, hk, rfl⟩ := hx
  have h2 := List.all_eq_true.1 h (k - 1) (List.mem_range.2 (by omega))
  have := area_all (p := fun y => p (qA (k - 1 + 1)) y) h2 hy
  rwa [show k - 1 + 1 = k by omega] at this
theorem area_above {x : Nat} (h : areaN x) : above x = true := area_all (p := above) (by decide +kernel) h
theorem area_fn {x : Nat} (h : areaN x) : Fn .f32 x := of_decide_eq_true (area_all (p := fun x => decide (Fn .f32 x)) (by decide +kernel) h)
def Tq (n : Nat) (g : Nat → Nat) : Prop := (1 ≤ n ∧ n ≤ 4) ∧ ∀ j, j < n → areaN (g j)
theorem tq_len {n : Nat} {g : Nat → Nat} (h : Tq n g) : 1 ≤ n ∧ n ≤ 4 := h.1
theorem tube_of {n t p : Nat} {g : Nat → Nat} (hn : 1 ≤ n ∧ n ≤ 16) (h : ∀ j, j < n → above (g j) = true) (ht : endB t = true) (hp : endB p = true) : tubeB n g 1065353216 t p = true := by
  unfold tubeB areasB
  rw [allB_true.2 h, ht, hp]
  have e1 : fcmp .gtr .f32 1065353216 0 = true := by decide +kernel
  have e2 : fcmp .leq .f32 1065353216 1065353216 = true := by decide +kernel
  rw [e1, e2]
  simp only [iin, Bool.and_true, Bool.and_eq_true, decide_eq_true_eq]
  omega
theorem end_t : endB 1061158912 = true := by decide +kernel
theorem end_p : endB 3210739712 = true := by decide +kernel
theorem tq_ok {n : Nat} {g : Nat → Nat} (h : Tq n g) : tubeB n g 1065353216 1061158912 3210739712 = true := tube_of (by have := h.1; omega) (fun j hj => area_above (h.2 j hj)) end_t end_p
theorem tq_ok2 {n : Nat} {g : Nat → Nat} (h : Tq n g) : tubeB n g 1065353216 3210739712 1061158912 = true := tube_of (by have := h.1; omega) (fun j hj => area_above (h.2 j hj)) end_p end_t
/-- The other way round. -/
def rvT (n : Nat) (g : Nat → Nat) : Nat → Nat := fun j => g (n - 1 - j)
theorem tq_rv {n : Nat} {g : Nat → Nat} (h : Tq n g) : Tq n (rvT n g) := ⟨h.1, fun _ _ => h.2 _ (by have := h.1; omega)⟩
theorem rv_rv {n j : Nat} {g : Nat → Nat} (hj : j < n) : rvT n (rvT n g) j = g j := by
  unfold rvT; rw [show n - 1 - (n - 1 - j) = j by omega]
theorem tab_rv {n : Nat} {g : Nat → Nat} : tab n (rvT n (rvT n g)) = tab n g := tab_congr fun _ hj => rv_rv hj
/-! What is reflected -/
def rfl2 (a b : Nat) : Nat := farith .quo .f32 (farith .sub .f32 a b) (farith .add .f32 a b)
theorem refl_2 {g : Nat → Nat} {i : Nat} : reflG g i = rfl2 (g i) (g (i + 1)) := rfl
def gapM (x y : Nat) : Nat := maxF .f64 (farith .sub .f64 x y) (farith .sub .f64 y x)
def okR (a b : Nat) : Bool := ((fin (rfl2 a b) && fcmp .gtr .f32 (rfl2 a b) 3212836864) && fcmp .lss .f32 (rfl2 a b) 1065353216) && ((!fcmp .leq .f32 (rfl2 a b) 3212836864) && !fcmp .geq .f32 (rfl2 a b) 1065353216)
theorem okR_all {a b : Nat} (ha : areaN a) (hb : areaN b) : okR a b = true := area_all2 (by decide +kernel) ha hb
theorem gapR_all {a b : Nat} (ha : areaN a) (hb : areaN b) : fcmp .gtr .f64 (gapM (conv .f32 .f64 (rfl2 a b)) (fneg .f64 (conv .f32 .f64 (rfl2 b a)))) 4547007122018943789 = false := by
  have := area_all2 (p := fun a b => !fcmp .gtr .f64 (gapM (conv .f32 .f64 (rfl2 a b)) (fneg .f64 (conv .f32 .f64 (rfl2 b a)))) 4547007122018943789) (by decide +kernel) ha hb
  exact (Bool.not_eq_true' _).mp this
end Go.Vx

namespace Go.Vx
open Ieee Go.RowKit
/-! ### Areas out of reflections -/
def q2 (r : Nat) : Nat := farith .quo .f32 (farith .sub .f32 1065353216 r) (farith .add .f32 1065353216 r)
def arF (x : Nat) (r : Nat → Nat) (i : Nat) : Nat := fold i x fun j s => farith .mul .f32 s (q2 (r j))
theorem arF_succ {x i : Nat} {r : Nat → Nat} : arF x r (i + 1) = farith .mul .f32 (arF x r i) (q2 (r i)) := rfl
def U29 : Int := ((2 ^ 129 : Nat) : Int)
/-- Numbers a little beside a quarter. -/
def gr (m : Nat) (e : Int) : Nat := farith .quo .f32 (ofInt .f32 ((m : Int) * (262144 + e))) 1233125376
def grOk (m : Nat) (e : Int) : Bool := decide (Fn .f32 (gr m e) ∧ sval .f32 (gr m e) = (m : Int) * (262144 + e) * U29)
theorem gr_all : ((List.range 25).all fun m => (List.range 4).all fun i => grOk m (8 * (i : Int)) && grOk m (-(8 * (i : Int)))) = true := by decide +kernel
theorem gr_val {m i : Nat} (hm : m < 25) (hi : i < 4) : (Fn .f32 (gr m (8 * (i : Int))) ∧ sval .f32 (gr m (8 * (i : Int))) = (m : Int) * (262144 + 8 * (i : Int)) * U29) ∧ (Fn .f32 (gr m (-(8 * (i : Int)))) ∧ sval .f32 (gr m (-(8 * (i : Int)))) = (m : Int) * (262144 + -(8 * (i : Int))) * U29) := by
  have h1 := List.all_eq_true.1 gr_all m (List.mem_range.2 hm)
  have h2 := List.all_eq_true.1 h1 i (List.mem_range.2 hi)
  rw [Bool.and_eq_true] at h2
  exact ⟨of_decide_eq_true h2.1, of_decide_eq_true h2.2⟩
def q2Ok (k m : Nat) : Bool := frc (q2 (rfl2 (qA (k + 1)) (qA (m + 1)))) fun q => decide (Fn .f32 q ∧ 0 ≤ sval .f32 q ∧ ((m : Int) + 1) * one_ .f32 * 1048560 ≤ sval .f32 q * ((k : Int) + 1) * 1048576 ∧ sval .f32 q * ((k : Int) + 1) * 1048576 ≤ ((m : Int) + 1) * one_ .f32 * 1048592)
theorem q2_all : ((List.range 24).all fun k => (List.range 24).all fun m => q2Ok k m) = true := by decide +kernel
theorem q2_val {k m : Nat} (hk : 1 ≤ k ∧ k ≤ 24) (hm : 1 ≤ m ∧ m ≤ 24) : Fn .f32 (q2 (rfl2 (qA k) (qA m))) ∧ 0 ≤ sval .f32 (q2 (rfl2 (qA k) (qA m))) ∧ (m : Int) * one_ .f32 * 1048560 ≤ sval .f32 (q2 (rfl2 (qA k) (qA m))) * (k : Int) * 1048576 ∧ sval .f32 (q2 (rfl2 (qA k) (qA m))) * (k : Int) * 1048576 ≤ (m : Int) * one_ .f32 * 1048592 := by
  have h1 := List.all_eq_true.1 q2_all (k - 1) (List.mem_range.2 (by omega))
  have h2 := List.all_eq_true.1 h1 (m - 1) (List.mem_range.2 (by omega))
  unfold q2Ok at h2
  rw [frc_eq] at h2
  have h3 := of_decide_eq_true h2
  rw [show k - 1 + 1 = k by omega, show m - 1 + 1 = m by omega, show ((k - 1 : Nat) : Int) + 1 = k by omega, show ((m - 1 : Nat) : Int) + 1 = m by omega] at h3
  exact h3
theorem mul_pair {a b c d : Int} (h1 : a ≤ b) (h2 : c ≤ d) (ha : 0 ≤ c) (hb : 0 ≤ b) : a * c ≤ b * d := Int.le_trans (Int.mul_le_mul_of_nonneg_right h1 ha) (Int.mul_le_mul_of_nonneg_left h2 hb)
theorem ar_lo {k m A B U X o q : Int} (hk : 0 < k) (hm : 0 ≤ m) (hA : 0 ≤ A ∧ A ≤ 262200) (hB : B + 8 = A) (hU : 0 < U) (ho : 0 < o) (x2 : k * A * U ≤ X) (q3 : m * o * 1048560 ≤ q * k * 1048576) : m * B * U * o ≤ X * q := by
  have hT : 0 ≤ k * U * m * o := Int.mul_nonneg (Int.mul_nonneg (Int.mul_nonneg (by omega) (by omega)) hm) (by omega)
  have h0 : 0 ≤ k * A * U := Int.mul_nonneg (Int.mul_nonneg (by omega) hA.1) (by omega)
  have hc : B * 1048576 ≤ A * 1048560 := by omega
  have h1 := Int.mul_le_mul_of_nonneg_left hc hT
  have hp := mul_pair x2 q3 (Int.mul_nonneg (Int.mul_nonneg hm (by omega)) (by omega)) (Int.le_trans h0 x2)
  refine Int.le_of_mul_le_mul_right (a := k * 1048576) ?_ (by omega)
  have e1 : m * B * U * o * (k * 1048576) = k * U * m * o * (B * 1048576) := by ac_rfl
  have e2 : k * A * U * (m * o * 1048560) = k * U * m * o * (A * 1048560) := by ac_rfl
  have e3 : X * q * (k * 1048576) = X * (q * k * 1048576) := by ac_rfl
  rw [e1, e3]
  rw [e2] at hp
  exact Int.le_trans h1 hp
theorem ar_hi {k m A B U X o q : Int} (hk : 0 < k) (hm : 0 ≤ m) (hA : (0 ≤ A ∧ A ≤ 262200) ∧ A + 8 = B) (hU : 0 < U) (ho : 0 < o) (hq : 0 ≤ q) (x3 : X ≤ k * A * U) (q4 : q * k * 1048576 ≤ m * o * 1048592) : X * q ≤ m * B * U * o := by
  have hT : 0 ≤ k * U * m * o := Int.mul_nonneg (Int.mul_nonneg (Int.mul_nonneg (by omega) (by omega)) hm) (by omega)
  have h0 : 0 ≤ k * A * U := Int.mul_nonneg (Int.mul_nonneg (by omega) hA.1.1) (by omega)
  have hc : A * 1048592 ≤ B * 1048576 := by omega
  have h1 := Int.mul_le_mul_of_nonneg_left hc hT
  have hp := mul_pair x3 q4 (Int.mul_nonneg (Int.mul_nonneg hq (by omega)) (by omega)) h0
  refine Int.le_of_mul_le_mul_right (a := k * 1048576) ?_ (by omega)
  have e1 : m * B * U * o * (k * 1048576) = k * U * m * o * (B * 1048576) := by ac_rfl
  have e2 : k * A * U * (m * o * 1048592) = k * U * m * o * (A * 1048592) := by ac_rfl
  have e3 : X * q * (k * 1048576) = X * (q * k * 1048576) := by ac_rfl
  rw [e1, e3]
  rw [e2] at hp
  exact Int.le_trans hp h1
section
attribute [local irreducible] farith fcmp sval one_ Fn ofInt q2 U29
theorem ar_step {x k m i : Nat} (hk : 1 ≤ k ∧ k ≤ 24) (hm : 1 ≤ m ∧ m ≤ 24) (hi : i < 3) (hx : Jv (gr k (-(8 * (i : Int)))) (gr k (8 * (i : Int))) x) :
    Jv (gr m (-(8 * ((i + 1 : Nat) : Int)))) (gr m (8 * ((i + 1 : Nat) : Int))) (farith .mul .f32 x (q2 (rfl2 (qA k) (qA m)))) := by
  obtain ⟨⟨_, a1⟩, _, a2⟩ := gr_val (m := k) (i := i) (by omega) (by omega)
  obtain ⟨⟨b1, b2⟩, b3, b4⟩ := gr_val (m := m) (i := i + 1) (by omega) (by omega)
  obtain ⟨q1, q1', q3, q4⟩ := q2_val hk hm
  obtain ⟨x1, x2, x3⟩ := hx
  rw [a2] at x2
  rw [a1] at x3
  have ho := one_pos .f32
  have hU : 0 < U29 := by unfold U29; decide +kernel
  have hkk : (0 : Int) < (k : Int) := by omega
  refine mul_bd x1 q1 b3 b1 ?_ ?_
  · rw [b4]
    exact ar_lo (k := (k : Int)) (m := (m : Int)) hkk (by omega) (by omega) (by omega) (by omega) (by omega) x2 q3
  · rw [b2]
    exact ar_hi (k := (k : Int)) (m := (m : Int)) hkk (by omega) (by omega) (by omega) (by omega) q1' x3 q4
end
theorem qA_tab : ((List.range 100).all fun k => decide ((Fn .f32 (qA k) ∧ sval .f32 (qA k) = (k : Int) * 262144 * U29) ∧ fcmp .neq .f32 (qA k) (qA k) = false)) = true := by decide +kernel
theorem qA_val {k : Nat} (hk : k < 100) : (Fn .f32 (qA k) ∧ sval .f32 (qA k) = (k : Int) * 262144 * U29) ∧ fcmp .neq .f32 (qA k) (qA k) = false := of_decide_eq_true (List.all_eq_true.1 qA_tab k (List.mem_range.2 hk))
theorem tq_k {n : Nat} {g : Nat → Nat} (h : Tq n g) : ∃ κ : Nat → Nat, ∀ j, j < n → (1 ≤ κ j ∧ κ j ≤ 24) ∧ g j = qA (κ j) := by
  refine ⟨fun j => if hj : j < n then (h.2 j hj).choose else 0, fun j hj => ?_⟩
  simp only [dif_pos hj]
  exact (h.2 j hj).choose_spec
theorem lss_no {x y : Nat} (hx : Fn .f32 x) (hy : Fn .f32 y) (h : fcmp .lss .f32 x y = false) : sval .f32 y ≤ sval .f32 x := by
  have := geq_lss hx hy
  rw [h] at this
  exact cmp_ge hx hy this
theorem gtr_yes {x y : Nat} (hx : Fn .f32 x) (hy : Fn .f32 y) (h : sval .f32 y < sval .f32 x) : fcmp .gtr .f32 x y = true := by
  unfold fcmp
  rw [order_sval hx hy, Int.compare_eq_gt.2 h]; rfl
theorem maxF_or {k : FloatKind} {x y : Nat} (hx : Fn k x) (hy : Fn k y) : maxF k x y = x ∨ maxF k x y = y := by
  unfold maxF
  rw [order_sval hx hy]
  rcases Int.lt_trichotomy (sval k x) (sval k y) with g | g | g
  · rw [Int.compare_eq_lt.2 g]; exact .inr rfl
  · rw [Int.compare_eq_eq.2 g]; dsimp only; split
    · exact .inr rfl
    · exact .inl rfl
  · rw [Int.compare_eq_gt.2 g]; exact .inl rfl
def tolT (k : Nat) : Nat := farith .mul .f64 4562254508917369340 (conv .f32 .f64 (qA k))
theorem tol_tab : ((List.range 25).all fun k => decide ((Fn .f64 (tolT k) ∧ Fn .f64 (fneg .f64 (tolT k))) ∧ sval .f64 (fneg .f64 (tolT k)) = -sval .f64 (tolT k) ∧ (k : Int) * 24 * U29 * wid ≤ sval .f64 (tolT k))) = true := by decide +kernel
theorem tol_val {k : Nat} (hk : k < 25) : (Fn .f64 (tolT k) ∧ Fn .f64 (fneg .f64 (tolT k))) ∧ sval .f64 (fneg .f64 (tolT k)) = -sval .f64 (tolT k) ∧ (k : Int) * 24 * U29 * wid ≤ sval .f64 (tolT k) := of_decide_eq_true (List.all_eq_true.1 tol_tab k (List.mem_range.2 hk))
theorem U29_pos : 0 < U29 := by decide +kernel
section
attribute [local irreducible] farith fcmp sval one_ Fn ofInt q2 U29
theorem ar_chain {n : Nat} {g κ : Nat → Nat} (hn : n ≤ 4) (hκ : ∀ j, j < n → (1 ≤ κ j ∧ κ j ≤ 24) ∧ g j = qA (κ j)) : ∀ i, i < n → Jv (gr (κ i) (-(8 * (i : Int)))) (gr (κ i) (8 * (i : Int))) (arF (g 0) (reflG g) i)
  | 0, hi => by
    obtain ⟨hk, e⟩ := hκ 0 hi
    obtain ⟨⟨f, v⟩, _⟩ := qA_val (k := κ 0) (by omega)
    obtain ⟨⟨_, a1⟩, _, a2⟩ := gr_val (m := κ 0) (i := 0) (by omega) (by omega)
    have e0 : arF (g 0) (reflG g) 0 = qA (κ 0) := e
    rw [e0]
    refine ⟨f, ?_, ?_⟩
    · rw [a2, v]; exact Int.le_of_eq (by simp)
    · rw [a1, v]; exact Int.le_of_eq (by simp)
  | i + 1, hi => by
    have ih := ar_chain hn hκ i (by omega)
    obtain ⟨hk, e⟩ := hκ i (by omega)
    obtain ⟨hm, e2⟩ := hκ (i + 1) hi
    rw [arF_succ, refl_2, e, e2]
    exact ar_step hk hm (by omega) ih
theorem ar_wide {n i : Nat} {g κ : Nat → Nat} (hn : n ≤ 4) (hκ : ∀ j, j < n → (1 ≤ κ j ∧ κ j ≤ 24) ∧ g j = qA (κ j)) (hi : i < n) :
    Fn .f32 (arF (g 0) (reflG g) i) ∧ (κ i : Int) * 262120 * U29 ≤ sval .f32 (arF (g 0) (reflG g) i) ∧ sval .f32 (arF (g 0) (reflG g) i) ≤ (κ i : Int) * 262168 * U29 := by
  obtain ⟨f, a, b⟩ := ar_chain hn hκ i hi
  obtain ⟨hk, _⟩ := hκ i hi
  obtain ⟨⟨_, a1⟩, _, a2⟩ := gr_val (m := κ i) (i := i) (by omega) (by omega)
  rw [a2] at a
  rw [a1] at b
  have hU := U29_pos
  refine ⟨f, Int.le_trans (Int.mul_le_mul_of_nonneg_right (Int.mul_le_mul_of_nonneg_left (by omega) (by omega)) (by omega)) a, Int.le_trans b (Int.mul_le_mul_of_nonneg_right (Int.mul_le_mul_of_nonneg_left (by omega) (by omega)) (by omega))⟩
theorem ar_above {n i : Nat} {g : Nat → Nat} (h : Tq n g) (hi : i < n) : above (arF (g 0) (reflG g) i) = true := by
  obtain ⟨κ, hκ⟩ := tq_k h
  obtain ⟨f, a, _⟩ := ar_wide h.1.2 hκ hi
  obtain ⟨hk, _⟩ := hκ i hi
  have hU := U29_pos
  have k4 := v0_32
  have hp : 0 < (κ i : Int) * 262120 * U29 := Int.mul_pos (by omega) hU
  unfold above
  rw [fn_fin.1 f, gtr_yes f fn_z (by omega)]; rfl
theorem ar_gap {n i : Nat} {g : Nat → Nat} (h : Tq n g) (hi : i < n) : fcmp .gtr .f64 (gapM (conv .f32 .f64 (arF (g 0) (reflG g) i)) (conv .f32 .f64 (g i))) (farith .mul .f64 4562254508917369340 (conv .f32 .f64 (g i))) = false := by
  obtain ⟨κ, hκ⟩ := tq_k h
  obtain ⟨f, a, b⟩ := ar_wide h.1.2 hκ hi
  obtain ⟨hk, e⟩ := hκ i hi
  obtain ⟨⟨t1, t2⟩, t3, t4⟩ := tol_val (k := κ i) (by omega)
  obtain ⟨⟨fa, va⟩, _⟩ := qA_val (k := κ i) (by omega)
  obtain ⟨x1, x2⟩ := wide_val f
  rw [← e] at fa va
  obtain ⟨y1, y2⟩ := wide_val fa
  have et : farith .mul .f64 4562254508917369340 (conv .f32 .f64 (g i)) = tolT (κ i) := by rw [e]; rfl
  rw [et]
  have hw : (0 : Int) ≤ wid := by unfold wid; exact Int.natCast_nonneg _
  have d1 : sval .f32 (arF (g 0) (reflG g) i) - sval .f32 (g i) ≤ (κ i : Int) * 24 * U29 := by
    rw [va]
    have : (κ i : Int) * 262168 * U29 = (κ i : Int) * 262144 * U29 + (κ i : Int) * 24 * U29 := by rw [← Int.add_mul, ← Int.mul_add]; rfl
    omega
  have d2 : sval .f32 (g i) - sval .f32 (arF (g 0) (reflG g) i) ≤ (κ i : Int) * 24 * U29 := by
    rw [va]
    have : (κ i : Int) * 262144 * U29 = (κ i : Int) * 262120 * U29 + (κ i : Int) * 24 * U29 := by rw [← Int.add_mul, ← Int.mul_add]; rfl
    omega
  have w1 := Int.mul_le_mul_of_nonneg_right d1 hw
  have w2 := Int.mul_le_mul_of_nonneg_right d2 hw
  rw [Int.sub_mul, ← x2, ← y2] at w1
  rw [Int.sub_mul, ← x2, ← y2] at w2
  have s1 := sub_bd (k := .f64) x1 y1 t2 t1 (by rw [t3]; omega) (by omega)
  have s2 := sub_bd (k := .f64) y1 x1 t2 t1 (by rw [t3]; omega) (by omega)
  unfold gapM
  rcases maxF_or s1.1 s2.1 with h' | h' <;> rw [h']
  · exact cmp_gt_not s1.1 t1 s1.2.2
  · exact cmp_gt_not s2.1 t1 s2.2.2
end
theorem sub_num {k : FloatKind} {x y : Nat} (hx : Fn k x) (hy : Fn k y) : isN k (farith .sub k x y) = false := by
  obtain ⟨s, m, e, e1, _⟩ := sub_val hx hy
  show isN k (fsub k x y) = false
  rw [e1, nearest_word]
  exact notN_word (rungOf_le ..)
end Go.Vx

namespace Go.Vx
open Ieee Go.RowKit
/-! ### Volumes -/
def volF (g : Nat → Nat) (i : Nat) : Nat := fold i 0 fun j s => farith .add .f32 s (g j)
def sumK (κ : Nat → Nat) (i : Nat) : Nat := fold i 0 fun j s => s + κ j
theorem vol_tab : ((List.range 73).all fun s => (List.range 24).all fun k => farith .add .f32 (qA s) (qA (k + 1)) == qA (s + (k + 1))) = true := by decide +kernel
theorem vol_add {s k : Nat} (hs : s ≤ 72) (hk : 1 ≤ k ∧ k ≤ 24) : farith .add .f32 (qA s) (qA k) = qA (s + k) := by
  have h1 := List.all_eq_true.1 vol_tab s (List.mem_range.2 (by omega))
  have h2 := List.all_eq_true.1 h1 (k - 1) (List.mem_range.2 (by omega))
  rw [show k - 1 + 1 = k by omega] at h2
  exact eq_of_beq h2
theorem qA_0 : qA 0 = 0 := by decide +kernel
theorem vol_val {n : Nat} {g κ : Nat → Nat} (hn : n ≤ 4) (hκ : ∀ j, j < n → (1 ≤ κ j ∧ κ j ≤ 24) ∧ g j = qA (κ j)) : ∀ i, i ≤ n → volF g i = qA (sumK κ i) ∧ sumK κ i ≤ 24 * i
  | 0, _ => ⟨qA_0.symm, Nat.zero_le _⟩
  | i + 1, hi => by
    obtain ⟨ih, ih2⟩ := vol_val hn hκ i (by omega)
    obtain ⟨hk, e⟩ := hκ i (by omega)
    have e1 : volF g (i + 1) = farith .add .f32 (volF g i) (g i) := rfl
    have e2 : sumK κ (i + 1) = sumK κ i + κ i := rfl
    rw [e1, e2, ih, e]
    exact ⟨vol_add (by omega) hk, by omega⟩
theorem sum_rv {n : Nat} {κ : Nat → Nat} (h1 : 1 ≤ n) (hn : n ≤ 4) : sumK (fun j => κ (n - 1 - j)) n = sumK κ n := by
  have : n = 1 ∨ n = 2 ∨ n = 3 ∨ n = 4 := by omega
  rcases this with rfl | rfl | rfl | rfl <;> simp only [sumK, fold, Nat.reduceSub] <;> omega
theorem vol_fin {n : Nat} {g : Nat → Nat} (h : Tq n g) : fin (volF g n) = true := by
  obtain ⟨κ, hκ⟩ := tq_k h
  obtain ⟨e, hs⟩ := vol_val h.1.2 hκ n (Nat.le_refl _)
  rw [e]
  exact fn_fin.1 (qA_val (by have := h.1; omega)).1.1
theorem vol_same {n : Nat} {g : Nat → Nat} (h : Tq n g) : fcmp .neq .f32 (volF g n) (volF (rvT n g) n) = false := by
  obtain ⟨κ, hκ⟩ := tq_k h
  obtain ⟨e, hs⟩ := vol_val h.1.2 hκ n (Nat.le_refl _)
  have hκ2 : ∀ j, j < n → (1 ≤ (fun j => κ (n - 1 - j)) j ∧ (fun j => κ (n - 1 - j)) j ≤ 24) ∧ rvT n g j = qA ((fun j => κ (n - 1 - j)) j) := fun j hj => hκ (n - 1 - j) (by have := h.1; omega)
  obtain ⟨e2, _⟩ := vol_val h.1.2 hκ2 n (Nat.le_refl _)
  rw [e, e2, sum_rv h.1.1 h.1.2]
  exact (qA_val (by have := h.1; omega)).2
/-! ### The narrowest section -/
def nrF (g : Nat → Nat) (i : Nat) : Nat := fold i 0 fun j b => if fcmp .lss .f32 (g j) (g b) = true then j else b
theorem nrF_1 {g : Nat → Nat} {i : Nat} (h : fcmp .lss .f32 (g i) (g (nrF g i)) = true) : i = nrF g (i + 1) := by
  show i = if fcmp .lss .f32 (g i) (g (nrF g i)) = true then i else nrF g i
  rw [if_pos h]
theorem nrF_0 {g : Nat → Nat} {i : Nat} (h : fcmp .lss .f32 (g i) (g (nrF g i)) = false) : nrF g i = nrF g (i + 1) := by
  show nrF g i = if fcmp .lss .f32 (g i) (g (nrF g i)) = true then i else nrF g i
  rw [if_neg (by rw [h]; exact Bool.false_ne_true)]
theorem nrF_lt {g : Nat → Nat} {n : Nat} (hn : 0 < n) : ∀ i, i ≤ n → nrF g i < n
  | 0, _ => hn
  | i + 1, h => by
    have ih := nrF_lt (g := g) hn i (by omega)
    show (if fcmp .lss .f32 (g i) (g (nrF g i)) = true then i else nrF g i) < n
    split
    · omega
    · exact ih
theorem nrF_min {g : Nat → Nat} {n : Nat} (hn : 0 < n) (hf : ∀ j, j < n → Fn .f32 (g j)) : ∀ i, i ≤ n → ∀ j, j < i → sval .f32 (g (nrF g i)) ≤ sval .f32 (g j)
  | 0, _, j, hj => by omega
  | i + 1, h, j, hj => by
    have ih := nrF_min hn hf i (by omega)
    have hl := nrF_lt (g := g) hn i (by omega)
    show sval .f32 (g (if fcmp .lss .f32 (g i) (g (nrF g i)) = true then i else nrF g i)) ≤ _
    split
    · rename_i hlt
      have := lss_le (hf i (by omega)) (hf _ hl) hlt
      by_cases e : j = i
      · rw [e]; exact Int.le_refl _
      · exact Int.le_trans this (ih j (by omega))
    · rename_i hlt
      have := lss_no (hf i (by omega)) (hf _ hl) (Bool.eq_false_iff.2 hlt)
      by_cases e : j = i
      · rw [e]; exact this
      · exact ih j (by omega)
theorem nr_ok {n j : Nat} {g : Nat → Nat} (h : Tq n g) (hj : j < n) : fcmp .lss .f32 (g j) (g (nrF g n)) = false := by
  have hn : 0 < n := by have := h.1; omega
  exact cmp_lt_not (area_fn (h.2 j hj)) (area_fn (h.2 _ (nrF_lt hn n (Nat.le_refl _)))) (nrF_min hn (fun j hj => area_fn (h.2 j hj)) n (Nat.le_refl _) j hj)
theorem nr_in {n : Nat} {g : Nat → Nat} (h : Tq n g) : nrF g n < n := nrF_lt (by have := h.1; omega) n (Nat.le_refl _)
/-! ### Tubes out of tubes -/
theorem half_same {x : Nat} (h : areaN x) : farith .add .f32 x (farith .mul .f32 1056964608 (farith .sub .f32 x x)) = x := eq_of_beq (area_all (p := fun x => farith .add .f32 x (farith .mul .f32 1056964608 (farith .sub .f32 x x)) == x) (by decide +kernel) h)
theorem twice_ab {x : Nat} (h : areaN x) : above (farith .mul .f32 x 1073741824) = true := area_all (p := fun x => above (farith .mul .f32 x 1073741824)) (by decide +kernel) h
theorem twice_eq {x : Nat} (h : areaN x) : fcmp .neq .f32 (farith .mul .f32 x 1073741824) (farith .mul .f32 1073741824 x) = false := (Bool.not_eq_true' _).mp (area_all (p := fun x => !fcmp .neq .f32 (farith .mul .f32 x 1073741824) (farith .mul .f32 1073741824 x)) (by decide +kernel) h)
theorem quart_ab {x : Nat} (h : areaN x) : above (farith .mul .f32 x 1048576000) = true := area_all (p := fun x => above (farith .mul .f32 x 1048576000)) (by decide +kernel) h
theorem root_ab {x : Nat} (h : areaN x) : above (farith .mul .f32 x (rootN 1048576000)) = true := area_all (p := fun x => above (farith .mul .f32 x (rootN 1048576000))) (by decide +kernel) h
theorem quart_eq {x : Nat} (h : areaN x) : fcmp .neq .f32 (farith .mul .f32 x 1048576000) (farith .quo .f32 x 1082130432) = false := (Bool.not_eq_true' _).mp (area_all (p := fun x => !fcmp .neq .f32 (farith .mul .f32 x 1048576000) (farith .quo .f32 x 1082130432)) (by decide +kernel) h)
theorem self_eq {x : Nat} (h : areaN x) : fcmp .neq .f32 x x = false := (Bool.not_eq_true' _).mp (area_all (p := fun x => !fcmp .neq .f32 x x) (by decide +kernel) h)
theorem self_same {x : Nat} (h : areaN x) : sameN x x = true := area_all (p := fun x => sameN x x) (by decide +kernel) h
theorem same_cs : sameN 1065353216 1065353216 = true ∧ sameN 1061158912 1061158912 = true ∧ sameN 3210739712 3210739712 = true := by decide +kernel
def mixH (g : Nat → Nat) : Nat → Nat := fun j => farith .add .f32 (g j) (farith .mul .f32 1056964608 (farith .sub .f32 (g j) (g j)))
theorem mixH_tab {n : Nat} {g : Nat → Nat} (h : Tq n g) : tab n (mixH g) = tab n g := tab_congr fun j hj => half_same (h.2 j hj)
theorem mixH_ok {n : Nat} {g : Nat → Nat} (h : Tq n g) : ((((tubeB n g 1065353216 1061158912 3210739712 && tubeB n g 1065353216 1061158912 3210739712) && decide (n = n)) && btw 1056964608 0 1065353216) && tubeB n (fun j => farith .add .f32 (g j) (farith .mul .f32 1056964608 (farith .sub .f32 (g j) (g j)))) 1065353216 1061158912 3210739712) = true := by
  have e : btw 1056964608 0 1065353216 = true := by decide +kernel
  rw [tq_ok h, e, tube_of (by have := h.1; omega) (fun j hj => by rw [half_same (h.2 j hj)]; exact area_above (h.2 j hj)) end_t end_p, decide_eq_true rfl]; rfl
theorem twice_ok {n : Nat} {g : Nat → Nat} (h : Tq n g) : (tubeB n g 1065353216 1061158912 3210739712 && tubeB n (fun j => farith .mul .f32 (g j) 1073741824) 1065353216 1061158912 3210739712) = true := by
  rw [tq_ok h, tube_of (by have := h.1; omega) (fun j hj => twice_ab (h.2 j hj)) end_t end_p]; rfl
theorem cat_ok {n : Nat} {g : Nat → Nat} (h : Tq n g) : ((tubeB n g 1065353216 1061158912 3210739712 && tubeB n (rvT n g) 1065353216 3210739712 1061158912) && tubeB (n + n) (catG n g (rvT n g)) 1065353216 1061158912 1061158912) = true := by
  rw [tq_ok h, tq_ok2 (tq_rv h), tube_of (by have := h.1; omega) (fun j hj => ?_) end_t end_t]
  · rfl
  · unfold catG
    split
    · rename_i hj2; exact area_above (h.2 j hj2)
    · exact area_above ((tq_rv h).2 _ (by omega))
theorem cat_l {n j : Nat} {g : Nat → Nat} (hj : j < n) : catG n g (rvT n g) j = g j := by unfold catG; rw [if_pos hj]
theorem cat_r {n j : Nat} {g : Nat → Nat} (hj : j < n) : catG n g (rvT n g) (2 * n - 1 - j) = g j := by
  unfold catG rvT
  rw [if_neg (by omega), show n - 1 - (2 * n - 1 - j - n) = j by omega]
theorem pin_ok {n m : Nat} {g : Nat → Nat} (h : Tq n g) (hm : m < n) : pinB n g 1065353216 1061158912 3210739712 (m : Int) 1048576000 = true := by
  have e : above 1048576000 = true := by decide +kernel
  unfold pinB
  rw [tq_ok h, e, tube_of (g := pinG (m : Int) 1048576000 g) (by have := h.1; omega) (fun j hj => ?_) end_t end_p]
  · simp only [iin, Bool.true_and, Bool.and_true, Bool.and_eq_true, decide_eq_true_eq]; omega
  · unfold pinG pinY
    split
    · exact quart_ab (h.2 j hj)
    · split
      · exact root_ab (h.2 j hj)
      · exact area_above (h.2 j hj)
theorem pin_at {n m : Nat} {g : Nat → Nat} (h : Tq n g) (hm : m < n) : fcmp .neq .f32 (pinG (m : Int) 1048576000 g m) (farith .quo .f32 (g m) 1082130432) = false := by
  have e : pinG (m : Int) 1048576000 g m = farith .mul .f32 (g m) 1048576000 := by
    unfold pinG pinY; rw [if_pos (by omega)]
  rw [e]; exact quart_eq (h.2 m hm)
/-! ### Even ones and horns -/
theorem ev_two : above 1073741824 = true := by decide +kernel
theorem evN_n {n : Nat} (hn : 1 ≤ n ∧ n ≤ 4) : evN (n : Int) = n := by
  have : iin (n : Int) 1 16 = true := by simp only [iin, Bool.and_eq_true, decide_eq_true_eq]; omega
  unfold evN; rw [if_pos this, Int.toNat_natCast]
theorem even_ok {n : Nat} (hn : 1 ≤ n ∧ n ≤ 4) : (iin (n : Int) 1 16 && tubeB (evN (n : Int)) (fun _ => 1073741824) 1065353216 1061158912 3210739712) = true := by
  rw [evN_n hn, tube_of (by omega) (fun _ _ => ev_two) end_t end_p]
  simp only [iin, Bool.and_true, Bool.and_eq_true, decide_eq_true_eq]; omega
theorem even_t {n : Nat} (hn : 1 ≤ n ∧ n ≤ 4) : tubeB n (fun _ => 1073741824) 1065353216 1061158912 3210739712 = true := tube_of (by omega) (fun _ _ => ev_two) end_t end_p
theorem even_r {j : Nat} : reflG (fun _ => 1073741824) j = 0 := by
  have : farith .quo .f32 (farith .sub .f32 1073741824 1073741824) (farith .add .f32 1073741824 1073741824) = 0 := by decide +kernel
  exact this
theorem even_rf {n : Nat} : allB (n - 1) (fun j => fin (reflG (fun _ => 1073741824) j)) = true := allB_true.2 fun j _ => by rw [even_r]; decide +kernel
theorem zero_eq : fcmp .neq .f32 0 0 = false := by decide +kernel
def hornF (n k : Nat) : Nat := farith .add .f32 1065353216 (farith .mul .f32 (farith .sub .f32 1077936128 1065353216) (farith .quo .f32 (ofInt .f32 (k : Int)) (ofInt .f32 (n : Int))))
theorem horn_tab : ((List.range 4).all fun n => (List.range (n + 2)).all fun k => above (hornF (n + 1) k)) = true := by decide +kernel
theorem horn_ab {n k : Nat} (hn : 1 ≤ n ∧ n ≤ 4) (hk : k ≤ n) : above (hornF n k) = true := by
  have h1 := List.all_eq_true.1 horn_tab (n - 1) (List.mem_range.2 (by omega))
  have h2 := List.all_eq_true.1 h1 k (List.mem_range.2 (by omega))
  rwa [show n - 1 + 1 = n by omega] at h2
theorem horn_ends : ∀ n : Nat, n < 5 → 1 ≤ n → fcmp .neq .f32 (hornF n 0) 1065353216 = false ∧ fcmp .neq .f32 (hornF n n) 1077936128 = false := by decide +kernel
theorem horn_ok {n : Nat} (hn : 1 ≤ n ∧ n ≤ 4) : tubeB (n + 1) (hornF n) 1065353216 1061158912 3210739712 = true := tube_of (by omega) (fun k hk => horn_ab hn (by omega)) end_t end_p
/-! ### What is reflected -/
theorem refl_fin {n : Nat} {g : Nat → Nat} (h : Tq n g) : allB (n - 1) (fun j => fin (reflG g j)) = true := allB_true.2 fun j hj => by
  have := okR_all (h.2 j (by omega)) (h.2 (j + 1) (by omega))
  unfold okR at this
  simp only [Bool.and_eq_true] at this
  exact this.1.1.1
theorem refl_step {n j : Nat} {g : Nat → Nat} (h : Tq n g) (hj : j + 1 < n) : (fcmp .gtr .f32 (reflG g j) 3212836864 && fcmp .lss .f32 (reflG g j) 1065353216) = true := by
  have := okR_all (h.2 j (by omega)) (h.2 (j + 1) (by omega))
  unfold okR at this
  simp only [Bool.and_eq_true] at this
  exact Bool.and_eq_true_iff.2 ⟨this.1.1.2, this.1.2⟩
theorem refl_edge {n j : Nat} {g : Nat → Nat} (h : Tq n g) (hj : j + 1 < n) : fcmp .leq .f32 (reflG g j) 3212836864 = false ∧ fcmp .geq .f32 (reflG g j) 1065353216 = false := by
  have := okR_all (h.2 j (by omega)) (h.2 (j + 1) (by omega))
  unfold okR at this
  simp only [Bool.and_eq_true, Bool.not_eq_true'] at this
  exact this.2
theorem refl_gap {n j : Nat} {g : Nat → Nat} (h : Tq n g) (hj : j + 1 < n) : fcmp .gtr .f64 (gapM (conv .f32 .f64 (reflG g j)) (fneg .f64 (conv .f32 .f64 (reflG (rvT n g) (n - 2 - j))))) 4547007122018943789 = false := by
  have e : reflG (rvT n g) (n - 2 - j) = rfl2 (g (j + 1)) (g j) := by
    rw [refl_2]; unfold rvT
    rw [show n - 1 - (n - 2 - j) = j + 1 by omega, show n - 1 - (n - 2 - j + 1) = j by omega]
  rw [e]
  exact gapR_all (h.2 j (by omega)) (h.2 (j + 1) (by omega))
theorem not_yes {b : Bool} (h : b = true) : (!b) = false := by rw [h]; rfl
theorem not_above {x : Nat} (h : above x = true) : (!fin x || fcmp .leq .f32 x 0) = false := by rw [above_eq, h]; rfl
theorem horn_c {n : Nat} (hn : 1 ≤ n ∧ n ≤ 4) : (!iin ((n : Int) + 1) 2 16 || !allB 2 (fun j => fin ([1065353216, 1077936128].getD j 0))) = false := by
  have e : allB 2 (fun j => fin ([1065353216, 1077936128].getD j 0)) = true := by decide +kernel
  have e2 : iin ((n : Int) + 1) 2 16 = true := by simp only [iin, Bool.and_eq_true, decide_eq_true_eq]; omega
  rw [e, e2]; rfl
theorem ar_w {n i : Nat} {g : Nat → Nat} (h : Tq n g) (hi : i < n) : Fn .f64 (conv .f32 .f64 (arF (g 0) (reflG g) i)) := by
  obtain ⟨κ, hκ⟩ := tq_k h
  exact (wide_val (ar_wide h.1.2 hκ hi).1).1
theorem area_w {x : Nat} (h : areaN x) : Fn .f64 (conv .f32 .f64 x) := (wide_val (area_fn h)).1
theorem refl_w {n j : Nat} {g : Nat → Nat} (h : Tq n g) (hj : j + 1 < n) : Fn .f64 (conv .f32 .f64 (reflG g j)) := (wide_val (fn_fin.2 (allB_true.1 (refl_fin h) j (by omega)))).1
theorem refl_n {n j : Nat} {g : Nat → Nat} (h : Tq n g) (hj : j + 1 < n) : Fn .f64 (fneg .f64 (conv .f32 .f64 (reflG g j))) := (fneg_abs (refl_w h hj)).1
def sameQ (n : Nat) (g h : Nat → Nat) : Bool := ((((decide (n = n) && allB n (fun j => sameN (g j) (h j))) && sameN 1065353216 1065353216) && sameN 1061158912 1061158912) && sameN 3210739712 3210739712)
theorem same_q {n : Nat} {g h : Nat → Nat} (hg : ∀ j, j < n → sameN (g j) (h j) = true) : sameQ n g h = true := by
  obtain ⟨a, b, c⟩ := same_cs
  unfold sameQ
  rw [allB_true.2 hg, a, b, c, decide_eq_true rfl]; rfl
theorem int_pred {n : Nat} (h : 1 ≤ n) : icmp .neq ((n - 1 : Nat) : Int) ((n : Int) - 1) = false := by simp [icmp]; omega
theorem int_self {x : Int} : icmp .neq x x = false := by simp [icmp]
theorem int_dbl {n : Nat} : icmp .neq ((n + n : Nat) : Int) (2 * (n : Int)) = false := by simp [icmp]; omega
theorem tub_c1 {n : Nat} {g : Nat → Nat} (h : Tq n g) : (((((((((((!true || !true) || !true) || !true) || !true) || !true) || !true) || icmp .neq ((n - 1 : Nat) : Int) ((n : Int) - 1)) || icmp .neq (n : Int) (n : Int)) || icmp .neq ((n - 1 : Nat) : Int) ((n - 1 : Nat) : Int)) || !sameQ n (rvT n (rvT n g)) g) || fcmp .neq .f32 (volF g n) (volF (rvT n g) n)) = false := by
  rw [int_pred h.1.1, int_self, int_self, vol_same h, same_q fun j hj => ?_]
  · rfl
  · rw [rv_rv hj]; exact self_same (h.2 j hj)
theorem tub_c2 {n k : Nat} {g : Nat → Nat} (h : Tq n g) (hk : k < n) : (icmp .lss ((k : Int) + 1) (n : Int) && ((fcmp .gtr .f64 (gapM (conv .f32 .f64 (reflG g k)) (fneg .f64 (conv .f32 .f64 (reflG (rvT n g) ((n : Int) - 2 - (k : Int)).toNat)))) 4547007122018943789 || fcmp .leq .f32 (reflG g k) 3212836864) || fcmp .geq .f32 (reflG g k) 1065353216)) = false := by
  by_cases hk1 : k + 1 < n
  · have e : ((n : Int) - 2 - (k : Int)).toNat = n - 2 - k := by omega
    obtain ⟨a, b⟩ := refl_edge h hk1
    rw [e, refl_gap h hk1, a, b, Bool.or_self, Bool.or_self, Bool.and_false]
  · have : icmp .lss ((k : Int) + 1) (n : Int) = false := by simp [icmp]; omega
    rw [this, Bool.false_and]
theorem tub_c3 {n : Nat} {g : Nat → Nat} (h : Tq n g) : ((((((((!true || !true) || !true) || !true) || !true) || !sameQ n (mixH g) g) || icmp .neq ((n + n : Nat) : Int) (2 * (n : Int))) || fcmp .neq .f32 (pinG (nrF g n : Int) 1048576000 g (nrF g n)) (farith .quo .f32 (g (nrF g n)) 1082130432)) || fcmp .neq .f32 (g (nrF g n)) (g (nrF g n))) = false := by
  rw [int_dbl, pin_at h (nr_in h), self_eq (h.2 _ (nr_in h)), same_q fun j hj => ?_]
  · rfl
  · have : mixH g j = g j := half_same (h.2 j hj)
    rw [this]; exact self_same (h.2 j hj)
theorem tub_c4 {n k : Nat} {g : Nat → Nat} (h : Tq n g) (hk : k < n) : (((fcmp .lss .f32 (g k) (g (nrF g n)) || fcmp .neq .f32 (farith .mul .f32 (g k) 1073741824) (farith .mul .f32 1073741824 (g k))) || fcmp .neq .f32 (catG n g (rvT n g) k) (g k)) || fcmp .neq .f32 (catG n g (rvT n g) (2 * (n : Int) - 1 - (k : Int)).toNat) (g k)) = false := by
  have e : (2 * (n : Int) - 1 - (k : Int)).toNat = 2 * n - 1 - k := by omega
  rw [e, cat_l hk, cat_r hk, nr_ok h hk, twice_eq (h.2 k hk), self_eq (h.2 k hk)]; rfl
theorem tub_c5 {n : Nat} {g : Nat → Nat} (h : Tq n g) : ((((!true || !true) || !true) || fcmp .neq .f32 (hornF n 0) 1065353216) || fcmp .neq .f32 (hornF n n) 1077936128) = false := by
  obtain ⟨a, b⟩ := horn_ends n (by have := h.1; omega) h.1.1
  rw [a, b]; rfl
theorem tub_c6 {k : Nat} : fcmp .neq .f32 (reflG (fun _ => 1073741824) k) 0 = false := by rw [even_r]; exact zero_eq
theorem guard_lt {X Y : Int} (h : (true && icmp .lss X Y == true) = true) : X < Y := by
  simp only [Bool.true_and, beq_true] at h
  exact of_decide_eq_true h
theorem guard_lt1 {X Y : Int} {b : Bool} (h : ((true && icmp .lss X Y == true) && b) = true) : X < Y := guard_lt (Bool.and_eq_true_iff.1 h).1
theorem guard_lt2 {X Y : Int} {b c : Bool} (h : (((true && icmp .lss X Y == true) && b) && c) = true) : X < Y := guard_lt1 (Bool.and_eq_true_iff.1 h).1
theorem all_updA {p : Nat → Prop} {h : Nat → Nat} {i x : Nat} (ha : 0 < i → ∀ j, p (h j)) (hx : p x) : 0 < i + 1 → ∀ j, p (upd h i x j) := fun _ j => by
  unfold upd
  split
  · exact ha (by omega) j
  · exact hx
def TqA (n : Nat) (g : Nat → Nat) : Prop := Tq n g ∧ ∀ j, areaN (g j)
theorem tqA_of {n : Nat} {g : Nat → Nat} (hn : 1 ≤ n ∧ n ≤ 4) (h : 0 < n → ∀ j, areaN (g j)) : TqA n g := ⟨⟨hn, fun j _ => h (by omega) j⟩, fun j => h (by omega) j⟩
theorem refl_wA {g : Nat → Nat} (h : ∀ j, areaN (g j)) {j : Nat} : Fn .f64 (conv .f32 .f64 (reflG g j)) := by
  have := okR_all (h j) (h (j + 1))
  unfold okR at this
  simp only [Bool.and_eq_true] at this
  exact (wide_val (fn_fin.2 this.1.1.1)).1
theorem refl_nA {g : Nat → Nat} (h : ∀ j, areaN (g j)) {j : Nat} : Fn .f64 (fneg .f64 (conv .f32 .f64 (reflG g j))) := (fneg_abs (refl_wA h)).1
theorem rv_all {n : Nat} {g : Nat → Nat} (h : ∀ j, areaN (g j)) : ∀ j, areaN (rvT n g j) := fun _ => h _
end Go.Vx
