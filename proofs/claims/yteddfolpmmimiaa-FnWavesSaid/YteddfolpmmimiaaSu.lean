/- Laws on tubes. -/
import Derived.Test.YteddfolpmmimiaaSq
namespace Go.Vx
open Ieee Go.RowKit
section
variable {P : Program} {ops : Array Oper} {l : List Oper} {F : Frm} {w0 : World} {old : Nat → Prop} {H : List HFact} {n : Nat} {Q : Exit → Act → World → Prop}
/-- A row has room for what it has. -/
theorem jl_cap (i : Nat) {e : TypeId} {A : Option Addr} {c N : Nat} {g : Nat → Nat} (hH : H[i]? = some (.vec e A c (tab N g))) (hl : 0 < N) (h : N ≤ c → JL P n w0 old ops l F H Q) : JL P n w0 old ops l F H Q := fun a w hs hI => by
  obtain ⟨xs, ⟨h1, h2⟩, h3⟩ := hI.facts _ (List.mem_of_getElem? hH)
  have hN : N ≤ c := by
    rcases h2 with ⟨_, h2⟩ | ⟨g', cap, cur, hv, _, _, hle, _⟩
    · rw [tab_length] at h2; omega
    · injection hv with _ _ e3
      rw [tab_length] at hle; omega
  exact h hN a w hs hI
theorem freshG_at {w : World} {v f g : HFact} (i j : Nat) (hi : H[i]? = some f) (ho : f.isOwn = true) (hj : H[j]? = some g) (hg : g.foot = v.foot) (hij : i ≠ j) (h : HInv w0 (footOf v) H w) : Fresh w0 w [f] :=
  fresh_one (h.facts f (List.mem_of_getElem? hi)) fun k hk => by
    rcases h.new f (List.mem_of_getElem? hi) ho k hk with h1 | h1
    · exact h1
    · exact absurd (hg.trans h1) (h.offAt hi hj hij (by rw [ho]; rfl) k hk)
end
/-! ### Drawn tubes -/
def qA (k : Nat) : Nat := farith .quo .f32 (ofInt .f32 (k : Int)) 1082130432
def areaN (x : Nat) : Prop := ∃ k : Nat, (1 ≤ k ∧ k ≤ 24) ∧ x = qA k
theorem area_of {s : Int × Int} (h : 0 ≤ s.1 ∧ s.1 < 24) : areaN (farith .quo .f32 (ofInt .f32 (1 + s.1)) 1082130432) :=
  ⟨(1 + s.1).toNat, by omega, by unfold qA; rw [show (((1 + s.1).toNat : Nat) : Int) = 1 + s.1 by omega]⟩
theorem area_all {p : Nat → Bool} (h : ((List.range 24).all fun k => p (qA (k + 1))) = true) {x : Nat} (hx : areaN x) : p x = true := by
  obtain ⟨k, hk, rfl⟩ := hx
  have := List.all_eq_true.1 h (k - 1) (List.mem_range.2 (by omega))
  rwa [show k - 1 + 1 = k by omega] at this
theorem area_all2 {p : Nat → Nat → Bool} (h : ((List.range 24).all fun k => (List.range 24).all fun m => p (qA (k + 1)) (qA (m + 1))) = true) {x y : Nat} (hx : areaN x) (hy : areaN y) : p x y = true := by
  obtain ⟨k, hk, rfl⟩ := hx
  have h2 := List.all_eq_true.1 h (k - 1) (List.mem_range.2 (by omega))
  have := area_all (p := fun y => p (qA (k - 1 + 1)) y) h2 hy
  rwa [show k - 1 + 1 = k by omega] at this
theorem area_above {x : Nat} (h : areaN x) : above x = true := area_all (p := above) (by decide +kernel) h
def Tq (n : Nat) (g : Nat → Nat) : Prop := (1 ≤ n ∧ n ≤ 4) ∧ ∀ j, j < n → areaN (g j)
theorem tube_of {n t p : Nat} {g : Nat → Nat} (hn : 1 ≤ n ∧ n ≤ 16) (h : ∀ j, j < n → above (g j) = true) (ht : endB t = true) (hp : endB p = true) : tubeB n g 1065353216 t p = true := by
  unfold tubeB areasB
  rw [allB_true.2 h, ht, hp]
  have e1 : fcmp .gtr .f32 1065353216 0 = true := by decide +kernel
  have e2 : fcmp .leq .f32 1065353216 1065353216 = true := by decide +kernel
  rw [e1, e2]
  simp only [iin, Bool.and_true, Bool.and_eq_true, decide_eq_true_eq]
  omega
theorem end_t : endB 1061158912 = true := by decide +kernel
theorem end_p : endB 3210739712 = true := by decide +kernel
theorem tq_ok {n : Nat} {g : Nat → Nat} (h : Tq n g) : tubeB n g 1065353216 1061158912 3210739712 = true := tube_of (by have := h.1; omega) (fun j hj => area_above (h.2 j hj)) end_t end_p
/-! What is reflected -/
def rfl2 (a b : Nat) : Nat := farith .quo .f32 (farith .sub .f32 a b) (farith .add .f32 a b)
theorem refl_2 {g : Nat → Nat} {i : Nat} : reflG g i = rfl2 (g i) (g (i + 1)) := rfl
def gapM (x y : Nat) : Nat := maxF .f64 (farith .sub .f64 x y) (farith .sub .f64 y x)
def okR (a b : Nat) : Bool := ((fin (rfl2 a b) && fcmp .gtr .f32 (rfl2 a b) 3212836864) && fcmp .lss .f32 (rfl2 a b) 1065353216) && ((!fcmp .leq .f32 (rfl2 a b) 3212836864) && !fcmp .geq .f32 (rfl2 a b) 1065353216)
theorem okR_all {a b : Nat} (ha : areaN a) (hb : areaN b) : okR a b = true := area_all2 (by decide +kernel) ha hb
end Go.Vx

namespace Go.Vx
open Ieee Go.RowKit
/-! ### Areas out of reflections -/
def q2 (r : Nat) : Nat := farith .quo .f32 (farith .sub .f32 1065353216 r) (farith .add .f32 1065353216 r)
def U29 : Int := ((2 ^ 129 : Nat) : Int)
/-- Numbers a little beside a quarter. -/
def gr (m : Nat) (e : Int) : Nat := farith .quo .f32 (ofInt .f32 ((m : Int) * (262144 + e))) 1233125376
section
attribute [local irreducible] farith fcmp sval one_ Fn ofInt q2 U29
end
theorem qA_tab : ((List.range 100).all fun k => decide ((Fn .f32 (qA k) ∧ sval .f32 (qA k) = (k : Int) * 262144 * U29) ∧ fcmp .neq .f32 (qA k) (qA k) = false)) = true := by decide +kernel
theorem qA_val {k : Nat} (hk : k < 100) : (Fn .f32 (qA k) ∧ sval .f32 (qA k) = (k : Int) * 262144 * U29) ∧ fcmp .neq .f32 (qA k) (qA k) = false := of_decide_eq_true (List.all_eq_true.1 qA_tab k (List.mem_range.2 hk))
theorem maxF_or {k : FloatKind} {x y : Nat} (hx : Fn k x) (hy : Fn k y) : maxF k x y = x ∨ maxF k x y = y := by
  unfold maxF
  rw [order_sval hx hy]
  rcases Int.lt_trichotomy (sval k x) (sval k y) with g | g | g
  · rw [Int.compare_eq_lt.2 g]; exact .inr rfl
  · rw [Int.compare_eq_eq.2 g]; dsimp only; split
    · exact .inr rfl
    · exact .inl rfl
  · rw [Int.compare_eq_gt.2 g]; exact .inl rfl
section
attribute [local irreducible] farith fcmp sval one_ Fn ofInt q2 U29
end
theorem sub_num {k : FloatKind} {x y : Nat} (hx : Fn k x) (hy : Fn k y) : isN k (farith .sub k x y) = false := by
  obtain ⟨s, m, e, e1, _⟩ := sub_val hx hy
  show isN k (fsub k x y) = false
  rw [e1, nearest_word]
  exact notN_word (rungOf_le ..)
end Go.Vx

namespace Go.Vx
open Ieee Go.RowKit
/-! ### Volumes -/
/-! ### The narrowest section -/
/-! ### Tubes out of tubes -/
/-! ### Even ones and horns -/
/-! ### What is reflected -/
theorem all_updA {p : Nat → Prop} {h : Nat → Nat} {i x : Nat} (ha : 0 < i → ∀ j, p (h j)) (hx : p x) : 0 < i + 1 → ∀ j, p (upd h i x j) := fun _ j => by
  unfold upd
  split
  · exact ha (by omega) j
  · exact hx
def TqA (n : Nat) (g : Nat → Nat) : Prop := Tq n g ∧ ∀ j, areaN (g j)
theorem tqA_of {n : Nat} {g : Nat → Nat} (hn : 1 ≤ n ∧ n ≤ 4) (h : 0 < n → ∀ j, areaN (g j)) : TqA n g := ⟨⟨hn, fun j _ => h (by omega) j⟩, fun j => h (by omega) j⟩
end Go.Vx
