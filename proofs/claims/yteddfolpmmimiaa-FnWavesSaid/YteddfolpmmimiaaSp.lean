/- What the functions compute, in plain words, and the plain laws on floats. -/
import Derived.Test.YteddfolpmmimiaaVz
namespace Go.Vx

/-! ### What the functions compute, told in plain words -/
def fin (x : Nat) : Bool := fcmp .eql .f32 (fsub .f32 x x) 0
def btw (x lo hi : Nat) : Bool := fcmp .geq .f32 x lo && fcmp .leq .f32 x hi
def iin (n lo hi : Int) : Bool := decide (n ≥ lo) && decide (n ≤ hi)
def above (x : Nat) : Bool := fin x && fcmp .gtr .f32 x 0
def least (x : Nat) : Bool := fin x && fcmp .geq .f32 x 0
def signb (x : Nat) : Bool := decide (IntKind.i64.wrap (x : Int) < 0)
def sameN (a b : Nat) : Bool :=
  if (fcmp .neq .f32 a a || fcmp .neq .f32 b b) = true then fcmp .neq .f32 a a && fcmp .neq .f32 b b
  else fcmp .eql .f32 a b && (signb (conv .f32 .f64 a) == signb (conv .f32 .f64 b))
def F (x : Nat) : Value := .float .f32 x
end Go.Vx

namespace Go.Vx

/-- The datum of a 32-bit number. -/
abbrev rd (x : Nat) : Ieee.Datum := FloatKind.f32.format.read x

theorem nan_iff (k : FloatKind) (x : Nat) : isN k x = true ↔ ∃ s f, k.format.read x = .nan s f := by
  constructor
  · exact read_nan k x
  · rintro ⟨s, f, h⟩
    by_cases hn : isN k x = true
    · exact hn
    · have := read_num k x (by simpa using hn)
      rw [h] at this
      cases this

theorem order_qnan_l (k : FloatKind) (y : Nat) : k.format.order (qnan k) y = none := order_nan_l (isN_qnan k)
theorem sum_opp (s : Bool) (m : Nat) (e : Int) : (Ieee.Datum.number s m e).sum (Ieee.Datum.number s m e).opposite = some (.number false 0 e) := by
  simp only [Ieee.Datum.opposite, Ieee.Datum.sum, Int.min_self, Int.sub_self, Int.toNat_zero]
  cases s
  · have h : (m : Int) + -(m : Int) = 0 := by omega
    simp [Ieee.signed, h]
  · have h : -(m : Int) + (m : Int) = 0 := by omega
    simp [Ieee.signed, h]

theorem fin_num {x : Nat} {s : Bool} {m : Nat} {e : Int} (h : rd x = .number s m e) : fin x = true := by
  have h0 : fsub .f32 x x = 0 := by
    unfold fsub Ieee.Format.sub
    rw [show FloatKind.f32.format.read x = _ from h, sum_opp]
    rfl
  unfold fin
  rw [h0]
  rfl
theorem fin_inf {x : Nat} {s : Bool} (h : rd x = .infinity s) : fin x = false := by
  have h0 : fsub .f32 x x = qnan .f32 := by
    unfold fsub Ieee.Format.sub
    rw [show FloatKind.f32.format.read x = _ from h]
    cases s <;> rfl
  unfold fin fcmp
  rw [h0, order_qnan_l]
  rfl
theorem fin_nan {x : Nat} (h : isN .f32 x = true) : fin x = false := by
  have h0 : fsub .f32 x x = qnan .f32 := by
    unfold fsub
    rw [sub_nan_l h, oc_none]
  unfold fin fcmp
  rw [h0, order_qnan_l]
  rfl
theorem fin_iff (x : Nat) : fin x = true ↔ ∃ s m e, rd x = .number s m e := by
  constructor
  · intro h
    cases hr : rd x with
    | number s m e => exact ⟨s, m, e, rfl⟩
    | infinity s => rw [fin_inf hr] at h; cases h
    | nan s f => rw [fin_nan ((nan_iff .f32 x).2 ⟨s, f, hr⟩)] at h; cases h
  · rintro ⟨s, m, e, h⟩
    exact fin_num h

end Go.Vx

namespace Go.Vx
/-! ### What is no not-a-number -/
theorem notN_self {k : FloatKind} {x : Nat} (h : fcmp .neq k x x = false) : isN k x = false := by
  by_cases hn : isN k x = true
  · simp [fcmp, order_nan_l hn] at h
  · simpa using hn
theorem notN_l {k : FloatKind} {x y : Nat} (h : (fcmp .neq k x x || fcmp .neq k y y) = false) : isN k x = false := notN_self ((Bool.or_eq_false_iff.1 h).1)
theorem notN_r {k : FloatKind} {x y : Nat} (h : (fcmp .neq k x x || fcmp .neq k y y) = false) : isN k y = false := notN_self ((Bool.or_eq_false_iff.1 h).2)
theorem notN_word {k : FloatKind} {s : Bool} {r : Nat} (h : r ≤ k.format.infRung) : isN k (k.format.word s r) = false := by
  unfold Ieee.Format.word
  cases k
  · have h1 : FloatKind.f32.format.signWeight = 2147483648 := rfl
    have h3 : FloatKind.f32.format.infRung = 2139095040 := rfl
    rw [h3] at h
    simp only [isN, h1, decide_eq_false_iff_not]
    split <;> omega
  · have h1 : FloatKind.f64.format.signWeight = 9223372036854775808 := rfl
    have h3 : FloatKind.f64.format.infRung = 9218868437227405312 := rfl
    rw [h3] at h
    simp only [isN, h1, decide_eq_false_iff_not]
    split <;> omega
theorem notN_write {k : FloatKind} {d : Ieee.Datum} (h : d.isNaN = false) : isN k (k.format.write d) = false := by
  cases d with
  | nan s f => cases h
  | infinity s => exact notN_word (Nat.le_refl _)
  | number s m e =>
    simp only [Ieee.Format.write, Ieee.Format.nearest]
    split
    · exact notN_word (Nat.zero_le _)
    · exact notN_word (Nat.min_le_right _ _)
theorem notN_conv {s d : FloatKind} {x : Nat} (h : isN s x = false) : isN d (conv s d x) = false := by
  unfold conv
  by_cases e : s = d
  · subst e; rw [if_pos rfl]; exact h
  · rw [if_neg e]
    have := read_num s x h
    cases hr : s.format.read x with
    | nan b f => rw [hr] at this; cases this
    | infinity b => simp only [isN_cn]; exact notN_write rfl
    | number b m p => simp only [isN_cn]; exact notN_write rfl
theorem isN_conv (s d : FloatKind) (x : Nat) : isN d (conv s d x) = isN s x := by
  cases h : isN s x
  · exact notN_conv h
  · unfold conv
    by_cases e : s = d
    · subst e; rw [if_pos rfl]; exact h
    · rw [if_neg e]
      obtain ⟨b, f, h1⟩ := read_nan s x h
      rw [h1]
      exact isN_qnan d

/-! ### The same number as itself -/
end Go.Vx

namespace Go.Vx
open Ieee

/-! ### Rungs and what they stand for -/
/-- What a rung stands for, counted in the format's least units. -/
def mg (B r : Nat) : Nat := if r < B then r else (B + r % B) <<< (r / B - 1)

theorem mg_lt {B : Nat} (hB : 0 < B) {r t : Nat} (h : r < t) : mg B r < mg B t := by
  unfold mg
  by_cases h1 : r < B
  · by_cases h2 : t < B
    · simp [h1, h2, h]
    · simp only [h1, h2, if_true, if_false, Nat.shiftLeft_eq]
      have : B + t % B ≤ (B + t % B) * 2 ^ (t / B - 1) := Nat.le_mul_of_pos_right _ (Nat.two_pow_pos _)
      omega
  · have h2 : ¬ t < B := by omega
    simp only [h1, h2, if_false, Nat.shiftLeft_eq]
    have hr := Nat.mod_lt r hB
    have ht := Nat.mod_lt t hB
    have er := Nat.div_add_mod r B
    have et := Nat.div_add_mod t B
    have hr1 : 1 ≤ r / B := (Nat.one_le_div_iff hB).2 (by omega)
    have hle : r / B ≤ t / B := Nat.div_le_div_right (by omega)
    rcases Nat.eq_or_lt_of_le hle with e | hlt
    · rw [e]
      refine Nat.mul_lt_mul_of_pos_right ?_ (Nat.two_pow_pos _)
      rw [e] at er
      omega
    · have e2 : t / B - 1 = (r / B - 1) + 1 + (t / B - r / B - 1) := by omega
      rw [e2, Nat.pow_add, Nat.pow_add]
      have hp := Nat.two_pow_pos (r / B - 1)
      have hq := Nat.two_pow_pos (t / B - r / B - 1)
      calc (B + r % B) * 2 ^ (r / B - 1) < (B + B) * 2 ^ (r / B - 1) := Nat.mul_lt_mul_of_pos_right (by omega) hp
        _ = B * (2 ^ (r / B - 1) * 2 ^ 1) := by rw [Nat.pow_one, ← Nat.two_mul, Nat.mul_comm 2 B, Nat.mul_assoc, Nat.mul_comm 2]
        _ ≤ (B + t % B) * (2 ^ (r / B - 1) * 2 ^ 1) := Nat.mul_le_mul_right _ (by omega)
        _ ≤ (B + t % B) * (2 ^ (r / B - 1) * 2 ^ 1 * 2 ^ (t / B - r / B - 1)) := Nat.mul_le_mul_left _ (Nat.le_mul_of_pos_right _ hq)
theorem mg_inj {B : Nat} (hB : 0 < B) {r t : Nat} (h : mg B r = mg B t) : r = t := by
  rcases Nat.lt_trichotomy r t with h1 | h1 | h1
  · have := mg_lt hB h1; omega
  · exact h1
  · have := mg_lt hB h1; omega
theorem mg_le {B : Nat} (hB : 0 < B) {r t : Nat} (h : r ≤ t) : mg B r ≤ mg B t := by
  rcases Nat.eq_or_lt_of_le h with e | h1
  · rw [e]; exact Nat.le_refl _
  · exact Nat.le_of_lt (mg_lt hB h1)
theorem mg_zero {B : Nat} (hB : 0 < B) : mg B 0 = 0 := by simp [mg, hB]

theorem binade_pos (f : Format) : 0 < f.binade := Nat.two_pow_pos _

/-- The sign and the rung of a word. -/
def sg (k : FloatKind) (x : Nat) : Bool := x / k.format.signWeight % 2 == 1
def rg (k : FloatKind) (x : Nat) : Nat := x % k.format.signWeight

theorem read_fin {k : FloatKind} {x : Nat} (h : rg k x < k.format.infRung) : ∃ m e, k.format.read x = .number (sg k x) m e ∧ k.format.leastPlace ≤ e ∧ m <<< (e - k.format.leastPlace).toNat = mg k.format.binade (rg k x) := by
  unfold Format.read
  simp only [rg, sg] at *
  by_cases h1 : x % k.format.signWeight < k.format.binade
  · rw [if_pos h1]
    refine ⟨_, _, rfl, Int.le_refl _, ?_⟩
    simp [mg, h1]
  · rw [if_neg h1, if_pos h]
    refine ⟨_, _, rfl, by omega, ?_⟩
    simp only [mg, if_neg h1]
    congr 1
    omega
theorem read_inf {k : FloatKind} {x : Nat} (h : rg k x = k.format.infRung) : k.format.read x = .infinity (sg k x) := by
  unfold Format.read
  simp only [rg, sg] at *
  have hb : k.format.binade ≤ k.format.infRung := by cases k <;> decide
  rw [if_neg (by omega), if_neg (by omega), if_pos h]
theorem notN_rg {k : FloatKind} {x : Nat} : isN k x = decide (k.format.infRung < rg k x) := by cases k <;> rfl

/-- The value of a finite number, in the format's least units. -/
def sval (k : FloatKind) (x : Nat) : Int := if sg k x then -(mg k.format.binade (rg k x) : Nat) else (mg k.format.binade (rg k x) : Nat)

theorem signed_shift (s : Bool) (m a b : Nat) : signed s m (a + b) = signed s m a * (2 ^ b : Nat) := by
  unfold signed
  cases s <;> simp [Nat.shiftLeft_eq, Int.neg_mul, Int.pow_add, Int.mul_assoc]
theorem compare_mul {a b : Int} {c : Nat} (hc : 0 < c) : compare (a * c) (b * c) = compare a b := by
  have hc' : (0 : Int) < c := by omega
  rcases Int.lt_trichotomy a b with h | h | h
  · rw [Int.compare_eq_lt.2 h, Int.compare_eq_lt.2 (Int.mul_lt_mul_of_pos_right h hc')]
  · subst h; simp
  · rw [Int.compare_eq_gt.2 h, Int.compare_eq_gt.2 (Int.mul_lt_mul_of_pos_right h hc')]

/-- Finite numbers stand to each other as their values do. -/
theorem order_sval {k : FloatKind} {x y : Nat} (hx : rg k x < k.format.infRung) (hy : rg k y < k.format.infRung) : k.format.order x y = some (compare (sval k x) (sval k y)) := by
  obtain ⟨m, e, h1, h2, h3⟩ := read_fin hx
  obtain ⟨n, j, g1, g2, g3⟩ := read_fin hy
  unfold Format.order
  rw [h1, g1]
  simp only [Datum.order, Option.some.injEq]
  generalize hL : k.format.leastPlace = L at *
  have hm : L ≤ min e j := by omega
  have e1 : sval k x = signed (sg k x) m ((e - min e j).toNat + (min e j - L).toNat) := by
    rw [show (e - min e j).toNat + (min e j - L).toNat = (e - L).toNat by omega]
    unfold signed sval
    rw [← h3]
  have e2 : sval k y = signed (sg k y) n ((j - min e j).toNat + (min e j - L).toNat) := by
    rw [show (j - min e j).toNat + (min e j - L).toNat = (j - L).toNat by omega]
    unfold signed sval
    rw [← g3]
  rw [e1, e2, signed_shift, signed_shift, compare_mul (Nat.two_pow_pos _)]

theorem sg_word {k : FloatKind} {s : Bool} {r : Nat} (h : r < k.format.signWeight) : sg k (k.format.word s r) = s := by
  unfold sg Format.word
  cases s
  · simp [Nat.div_eq_of_lt h]
  · have hs : 0 < k.format.signWeight := by omega
    simp [Nat.add_div_left _ hs, Nat.div_eq_of_lt h]
theorem rg_word {k : FloatKind} {s : Bool} {r : Nat} (h : r < k.format.signWeight) : rg k (k.format.word s r) = r := by
  unfold rg Format.word
  cases s
  · simpa using Nat.mod_eq_of_lt h
  · simp only [if_true, Nat.add_mod_left]; exact Nat.mod_eq_of_lt h
theorem inf_lt_sign (k : FloatKind) : k.format.infRung < k.format.signWeight := by cases k <;> decide

end Go.Vx

namespace Go.Vx
open Go.RowKit

/-! ### Lists told by their numbers -/
/-- The first 'N' of some numbers. -/
def tab (N : Nat) (g : Nat → Nat) : List Value := (List.range N).map fun j => F (g j)
/-- A row of 'N' cells of which the first 'i' are set. -/
def part (N i : Nat) (g h : Nat → Nat) : List Value := (List.range N).map fun j => F (if j < i then g j else h j)
def tabI (N : Nat) (g : Nat → Int) : List Value := (List.range N).map fun j => .int .i64 (g j)
/-- All of the first 'N'. -/
def allB (N : Nat) (p : Nat → Bool) : Bool := (List.range N).all p
/-- Something told round by round. -/
def fold {α : Type} (N : Nat) (a : α) (f : Nat → α → α) : α := match N with | 0 => a | i + 1 => f i (fold i a f)

/-- A list that is a sound. -/
def sound (N : Nat) (g : Nat → Nat) : Bool := icmp .leq (N : Int) 256 && allB N (fun j => fin (g j))

/-- A row of 'N' cells of which the first 'i' are set. -/
def partI (N i : Nat) (g h : Nat → Int) : List Value := (List.range N).map fun j => .int .i64 (if j < i then g j else h j)
theorem tab_length (N : Nat) (g : Nat → Nat) : (tab N g).length = N := by simp [tab]
theorem tabI_length (N : Nat) (g : Nat → Int) : (tabI N g).length = N := by simp [tabI]
theorem part_length (N i : Nat) (g h : Nat → Nat) : (part N i g h).length = N := by simp [part]
theorem tab_get {N i : Nat} {g : Nat → Nat} (h : i < N) : (tab N g)[i]? = some (F (g i)) := by simp [tab, List.getElem?_range h]
theorem tabI_get {N i : Nat} {g : Nat → Int} (h : i < N) : (tabI N g)[i]? = some (.int .i64 (g i)) := by simp [tabI, List.getElem?_range h]
theorem part_get {N i j : Nat} {g h : Nat → Nat} (hj : j < N) : (part N i g h)[j]? = some (F (if j < i then g j else h j)) := by simp [part, List.getElem?_range hj]
theorem tab_succ (i : Nat) (g : Nat → Nat) : tab i g ++ [F (g i)] = tab (i + 1) g := by simp [tab, List.range_succ]
theorem tab_congr {N : Nat} {g g' : Nat → Nat} (h : ∀ j, j < N → g j = g' j) : tab N g = tab N g' := by
  unfold tab
  refine List.map_congr_left fun j hj => ?_
  rw [h j (List.mem_range.1 hj)]
theorem part_zero (N : Nat) (g h : Nat → Nat) : part N 0 g h = tab N h := by simp [part, tab]
theorem part_all (N : Nat) (g h : Nat → Nat) : part N N g h = tab N g := by
  unfold part tab
  refine List.map_congr_left fun j hj => ?_
  rw [if_pos (List.mem_range.1 hj)]
theorem tab_replicate (N x : Nat) : List.replicate N (F x) = tab N (fun _ => x) := by simp [tab, List.map_const']
theorem part_set {N i : Nat} {g h : Nat → Nat} : (part N i g h).set i (F (g i)) = part N (i + 1) g h := by
  apply List.ext_getElem?
  intro j
  by_cases hj : j < N
  · rw [part_get hj, List.getElem?_set]
    by_cases e : i = j
    · subst e
      rw [if_pos rfl, if_pos (by rw [part_length]; exact hj), if_pos (by omega)]
    · rw [if_neg e, part_get hj]
      by_cases h1 : j < i
      · rw [if_pos h1, if_pos (by omega)]
      · rw [if_neg h1, if_neg (by omega)]
  · rw [List.getElem?_eq_none (by simp [part_length]; omega), List.getElem?_eq_none (by simp [part_length]; omega)]
theorem tab_sub (N l m : Nat) (g : Nat → Nat) (h : l + m ≤ N) : ((tab N g).drop l).take m = tab m (fun j => g (l + j)) := by
  apply List.ext_getElem?
  intro j
  rw [List.getElem?_take]
  by_cases hj : j < m
  · rw [if_pos hj, List.getElem?_drop, tab_get (by omega), tab_get hj]
  · rw [if_neg hj, List.getElem?_eq_none (by simp [tab_length]; omega)]
theorem partI_length (N i : Nat) (g h : Nat → Int) : (partI N i g h).length = N := by simp [partI]
theorem partI_get {N i j : Nat} {g h : Nat → Int} (hj : j < N) : (partI N i g h)[j]? = some (.int .i64 (if j < i then g j else h j)) := by simp [partI, List.getElem?_range hj]
theorem partI_all (N : Nat) (g h : Nat → Int) : partI N N g h = tabI N g := by
  unfold partI tabI
  refine List.map_congr_left fun j hj => ?_
  rw [if_pos (List.mem_range.1 hj)]
theorem allB_true {N : Nat} {p : Nat → Bool} : allB N p = true ↔ ∀ j, j < N → p j = true := by simp [allB]
theorem allB_false {N j : Nat} {p : Nat → Bool} (hj : j < N) (h : p j = false) : allB N p = false := by
  rw [Bool.eq_false_iff]
  intro h1
  rw [allB_true.1 h1 j hj] at h
  cases h
section
variable {P : Program} {ops : Array Oper} {o : Oper} {rest : List Oper} {F' : Frm} {w0 w : World} {old : Nat → Prop} {H : List HFact} {n : Nat} {c : Bool} {Q : Exit → Act → World → Prop}
theorem j_condOrLt {t : Nat} {X Y Z : Int} {x y : Code} (hc : Frm.get F' t = some (true, .bool (icmp .lss X Y || icmp .lss X Z))) (kx : (X < Y ∨ X < Z) → J P n w0 old x F' H Q) (ky : ¬ (X < Y ∨ X < Z) → J P n w0 old y F' H Q) : J P n w0 old (.cond (.tmp t) x y) F' H Q :=
  j_cond hc (fun h => kx (by simpa [icmp] using h)) (fun h => ky (by simpa [icmp] using h))
theorem sub_tab {A : Option Addr} {N l m cap : Nat} {g : Nat → Nat} (h : (HFact.ro A (tab N g)).holds w) (hc : N ≤ cap) (hm : l + m ≤ N) : (HFact.ro (subA A l cap) (tab m (fun j => g (l + j)))).holds w := by
  have := sub_holds (l := l) (m := m) h (cap := cap) (by rw [tab_length]; exact hc)
  rwa [tab_sub _ _ _ _ hm] at this
theorem hA_roT {A : Option Addr} {N : Nat} {g : Nat → Nat} (h : HFact.ro A (tab N g) ∈ H) : ∀ w, HInv w0 old H w → A = none → N = 0 := fun w hI hA => by
  have := hA_ro h w hI hA
  rwa [tab_length] at this
theorem hA_vecT {e : TypeId} {A : Option Addr} {cap N : Nat} {g : Nat → Nat} (h : HFact.vec e A cap (tab N g) ∈ H) : ∀ w, HInv w0 old H w → A = none → N = 0 := fun w hI hA => by
  have := hA_vec h w hI hA
  rwa [tab_length] at this
theorem hA_vecP {e : TypeId} {A : Option Addr} {cap N i : Nat} {g g' : Nat → Nat} (h : HFact.vec e A cap (part N i g g') ∈ H) : ∀ w, HInv w0 old H w → A = none → N = 0 := fun w hI hA => by
  have := hA_vec h w hI hA
  rwa [part_length] at this
theorem hA_roI {A : Option Addr} {N : Nat} {g : Nat → Int} (h : HFact.ro A (tabI N g) ∈ H) : ∀ w, HInv w0 old H w → A = none → N = 0 := fun w hI hA => by
  have := hA_ro h w hI hA
  rwa [tabI_length] at this
theorem hA_vecI {e : TypeId} {A : Option Addr} {cap N : Nat} {g : Nat → Int} (h : HFact.vec e A cap (tabI N g) ∈ H) : ∀ w, HInv w0 old H w → A = none → N = 0 := fun w hI hA => by
  have := hA_vec h w hI hA
  rwa [tabI_length] at this
theorem hA_vecPI {e : TypeId} {A : Option Addr} {cap N i : Nat} {g g' : Nat → Int} (h : HFact.vec e A cap (partI N i g g') ∈ H) : ∀ w, HInv w0 old H w → A = none → N = 0 := fun w hI hA => by
  have := hA_vec h w hI hA
  rwa [partI_length] at this
theorem hA_some {a : Addr} {N : Nat} : ∀ w, HInv w0 old H w → some a = none → N = 0 := fun _ _ h => by cases h

/-! ### Conditions on integers -/
theorem j_condLt {t : Nat} {X Y : Int} {x y : Code} (hc : Frm.get F' t = some (true, .bool (icmp .lss X Y))) (kx : X < Y → J P n w0 old x F' H Q) (ky : ¬ X < Y → J P n w0 old y F' H Q) : J P n w0 old (.cond (.tmp t) x y) F' H Q :=
  j_cond hc (fun h => kx (of_decide_eq_true h)) (fun h => ky (of_decide_eq_false h))
theorem j_condLe {t : Nat} {X Y : Int} {x y : Code} (hc : Frm.get F' t = some (true, .bool (icmp .leq X Y))) (kx : X ≤ Y → J P n w0 old x F' H Q) (ky : ¬ X ≤ Y → J P n w0 old y F' H Q) : J P n w0 old (.cond (.tmp t) x y) F' H Q :=
  j_cond hc (fun h => kx (of_decide_eq_true h)) (fun h => ky (of_decide_eq_false h))
theorem j_condGt {t : Nat} {X Y : Int} {x y : Code} (hc : Frm.get F' t = some (true, .bool (icmp .gtr X Y))) (kx : X > Y → J P n w0 old x F' H Q) (ky : ¬ X > Y → J P n w0 old y F' H Q) : J P n w0 old (.cond (.tmp t) x y) F' H Q :=
  j_cond hc (fun h => kx (of_decide_eq_true h)) (fun h => ky (of_decide_eq_false h))
theorem j_condGe {t : Nat} {X Y : Int} {x y : Code} (hc : Frm.get F' t = some (true, .bool (icmp .geq X Y))) (kx : X ≥ Y → J P n w0 old x F' H Q) (ky : ¬ X ≥ Y → J P n w0 old y F' H Q) : J P n w0 old (.cond (.tmp t) x y) F' H Q :=
  j_cond hc (fun h => kx (of_decide_eq_true h)) (fun h => ky (of_decide_eq_false h))
theorem j_condNe {t : Nat} {X Y : Int} {x y : Code} (hc : Frm.get F' t = some (true, .bool (icmp .neq X Y))) (kx : X ≠ Y → J P n w0 old x F' H Q) (ky : X = Y → J P n w0 old y F' H Q) : J P n w0 old (.cond (.tmp t) x y) F' H Q :=
  j_cond hc (fun h => kx (by simpa [icmp] using h)) (fun h => ky (by simpa [icmp] using h))
theorem j_condEq {t : Nat} {X Y : Int} {x y : Code} (hc : Frm.get F' t = some (true, .bool (icmp .eql X Y))) (kx : X = Y → J P n w0 old x F' H Q) (ky : X ≠ Y → J P n w0 old y F' H Q) : J P n w0 old (.cond (.tmp t) x y) F' H Q :=
  j_cond hc (fun h => kx (by simpa [icmp] using h)) (fun h => ky (by simpa [icmp] using h))
end

/-! ### Numbers that a law marks -/
end Go.Vx

namespace Go.Vx
section
variable {P : Program} {ops : Array Oper} {o : Oper} {rest : List Oper} {F' : Frm} {w0 w : World} {old : Nat → Prop} {H : List HFact} {n : Nat} {c : Bool} {Q : Exit → Act → World → Prop}
theorem fresh_at (i : Nat) {f : HFact} (hi : H[i]? = some f) (ho : f.isOwn = true) (h : HInv w0 (fun _ => False) H w) : Fresh w0 w [f] :=
  fresh_one (h.facts f (List.mem_of_getElem? hi)) fun k hk => by
    rcases h.new f (List.mem_of_getElem? hi) ho k hk with h1 | h1
    · exact h1
    · exact h1.elim
theorem fresh_nilrow {e : TypeId} : Fresh w0 w [.vec e none 0 []] := fresh_one ⟨[], ⟨rfl, .inl ⟨rfl, rfl⟩⟩, trivial⟩ fun k hk => by cases hk
end
end Go.Vx

namespace Go.Vx
section
variable {P : Program} {F' : Frm} {w0 w : World} {H : List HFact} {n : Nat}
/-- What lies in 'Hc' is read only. -/
theorem HInv.tail {old : Nat → Prop} {Hc Ha : List HFact} (h : HInv w0 old (Ha ++ Hc) w) (ho : ∀ f ∈ Hc, f.isOwn = false) : RoS Hc w := fun f hf => ⟨ho f hf, h.facts f (List.mem_append_right _ hf)⟩
end
end Go.Vx

namespace Go.Vx
section
variable {P : Program} {F' : Frm} {w0 w : World} {old : Nat → Prop} {H : List HFact} {n : Nat} {Q : Exit → Act → World → Prop} {x : Code}
/-- A row whose cells have all been set. -/
theorem j_part {e : TypeId} {A : Option Addr} {cap N i : Nat} {g h : Nat → Nat} (hi : i = N) (k : J P n w0 old x F' (.vec e A cap (tab N g) :: H) Q) : J P n w0 old x F' (.vec e A cap (part N i g h) :: H) Q := by
  subst hi
  rw [part_all]
  exact k
end
end Go.Vx

namespace Go.Vx
section
variable {P : Program} {F' : Frm} {w0 w : World} {old : Nat → Prop} {H : List HFact} {n : Nat} {Q : Exit → Act → World → Prop} {x : Code}
theorem j_partI {e : TypeId} {A : Option Addr} {cap N i : Nat} {g h : Nat → Int} (hi : i = N) (k : J P n w0 old x F' (.vec e A cap (tabI N g) :: H) Q) : J P n w0 old x F' (.vec e A cap (partI N i g h) :: H) Q := by
  subst hi
  rw [partI_all]
  exact k
end
end Go.Vx

namespace Go.Vx
section
variable {P : Program} {ops : Array Oper} {o : Oper} {rest : List Oper} {F' : Frm} {w0 w : World} {old : Nat → Prop} {H : List HFact} {n : Nat} {Q : Exit → Act → World → Prop}
end
end Go.Vx

namespace Go.Vx
section
variable {P : Program} {F' : Frm} {w0 w : World} {H : List HFact} {n : Nat}
end
end Go.Vx

namespace Go.Vx
open Ieee

/-! ### Rounding -/
theorem mg_unit {B a x : Nat} (hB : 0 < B) (hx : x ≤ 2 * B) (ha : a = 0 ∨ B ≤ x) : mg B (a * B + x) = x * 2 ^ a := by
  by_cases h1 : x < B
  · have : a = 0 := by rcases ha with h | h; exact h; omega
    subst this
    simp [mg, h1]
  · have hge : B ≤ x := by omega
    have hlt : ¬ a * B + x < B := by
      have : 0 ≤ a * B := Nat.zero_le _
      omega
    unfold mg
    rw [if_neg hlt, Nat.shiftLeft_eq]
    rcases Nat.eq_or_lt_of_le hx with h2 | h2
    · subst h2
      have e1 : a * B + 2 * B = (a + 2) * B := by rw [Nat.add_mul]
      rw [e1, Nat.mul_mod_left, Nat.mul_div_cancel _ hB, show a + 2 - 1 = a + 1 by omega, Nat.add_zero, Nat.pow_succ]
      rw [Nat.mul_comm (2 ^ a) 2, ← Nat.mul_assoc, Nat.mul_comm B 2]
    · obtain ⟨y, rfl⟩ : ∃ y, x = B + y := ⟨x - B, by omega⟩
      have hy : y < B := by omega
      have e1 : a * B + (B + y) = y + (a + 1) * B := by rw [Nat.add_mul, Nat.one_mul]; omega
      rw [e1, Nat.add_mul_mod_self_right, Nat.add_mul_div_right _ _ hB, Nat.mod_eq_of_lt hy, Nat.div_eq_of_lt hy, Nat.zero_add, Nat.add_sub_cancel]

theorem cut_even (s : Bool) (n d : Nat) : Toward.even.cut s n d = n / 2 ^ d ∨ (Toward.even.cut s n d = n / 2 ^ d + 1 ∧ n / 2 ^ d * 2 ^ d < n) := by
  unfold Toward.cut
  simp only [Nat.shiftLeft_eq, Nat.one_mul]
  by_cases hd : d ≤ n.log2 + 2
  · rw [Nat.min_eq_left hd]
    have hdm := Nat.div_add_mod n (2 ^ d)
    have hlt := Nat.mod_lt n (Nat.two_pow_pos d)
    have hpos := Nat.two_pow_pos d
    by_cases hr : n % 2 ^ d = 0
    · left
      have h1 : decide (2 ^ d < 2 * (n % 2 ^ d)) = false := by rw [hr]; simp
      have h2 : (2 ^ d == 2 * (n % 2 ^ d)) = false := by rw [hr]; simp
      rw [h1, h2]
      rfl
    · cases hb : (decide (2 ^ d < 2 * (n % 2 ^ d)) || 2 ^ d == 2 * (n % 2 ^ d) && n / 2 ^ d % 2 == 1)
      · left; simp
      · right
        refine ⟨by simp, ?_⟩
        rw [Nat.mul_comm]
        omega
  · left
    have hmin : min d (n.log2 + 2) = n.log2 + 2 := Nat.min_eq_right (by omega)
    rw [hmin]
    have hn : n < 2 ^ (n.log2 + 1) := Nat.lt_log2_self
    have h2 : 2 ^ (n.log2 + 2) = 2 * 2 ^ (n.log2 + 1) := by rw [Nat.pow_succ]; omega
    have hle : 2 ^ (n.log2 + 1) ≤ 2 ^ d := Nat.pow_le_pow_right (by omega) (by omega)
    have hd0 : n / 2 ^ d = 0 := Nat.div_eq_of_lt (by omega)
    have hl0 : n / 2 ^ (n.log2 + 2) = 0 := Nat.div_eq_of_lt (by omega)
    have hm0 : n % 2 ^ (n.log2 + 2) = n := Nat.mod_eq_of_lt (by omega)
    rw [hd0, hl0, hm0]
    have h3 : decide (2 ^ (n.log2 + 2) < 2 * n) = false := by simp; omega
    have h4 : (2 ^ (n.log2 + 2) == 2 * n) = false := by simp; omega
    rw [h3, h4]
    rfl

/-- The rung that a number is written as. -/
def rungOf (k : FloatKind) (m : Nat) (e : Int) : Nat := rg k (k.format.nearest false m e)

/-- A number, its rung, and what lies beside it: 'V' is the number in a unit small enough. -/
theorem near (k : FloatKind) {m : Nat} {e c : Int} (hm : m ≠ 0) (hc1 : c ≤ e) (hc2 : c ≤ k.format.leastPlace) :
    ∃ a q kept, rungOf k m e = min (a * k.format.binade + kept) k.format.infRung ∧ q < 2 * k.format.binade ∧ (a = 0 ∨ k.format.binade ≤ q) ∧
      q * 2 ^ a * 2 ^ (k.format.leastPlace - c).toNat ≤ m * 2 ^ (e - c).toNat ∧ m * 2 ^ (e - c).toNat < (q + 1) * 2 ^ a * 2 ^ (k.format.leastPlace - c).toNat ∧
      (kept = q ∨ (kept = q + 1 ∧ q * 2 ^ a * 2 ^ (k.format.leastPlace - c).toNat < m * 2 ^ (e - c).toNat)) := by
  have hB : k.format.binade = 2 ^ k.format.fractionBits := rfl
  generalize hL : k.format.leastPlace = L at *
  generalize hfb : k.format.fractionBits = fb at *
  rw [hB]
  let last : Int := max (e + (m.log2 : Int) - fb) L
  have hlast : L ≤ last := Int.le_max_right _ _
  have hlast2 : e + (m.log2 : Int) - fb ≤ last := Int.le_max_left _ _
  have hmlt : m < 2 ^ (m.log2 + 1) := Nat.lt_log2_self
  have hmge : 2 ^ m.log2 ≤ m := Nat.log2_self_le hm
  have hI := inf_lt_sign k
  have hrung : ∀ kept, Toward.even.cut false (m <<< (e - last).toNat) (last - e).toNat = kept → rungOf k m e = min ((last - L).toNat * 2 ^ fb + kept) k.format.infRung := by
    intro kept hk
    unfold rungOf Format.nearest
    rw [if_neg hm]
    simp only [hL, hfb]
    rw [show max (e + (m.log2 : Int) - (fb : Int)) L = last from rfl, hk, hB]
    exact rg_word (Nat.lt_of_le_of_lt (Nat.min_le_right _ _) hI)
  refine ⟨(last - L).toNat, ?_⟩
  have hunit : ∀ x : Nat, x * 2 ^ (last - L).toNat * 2 ^ (L - c).toNat = x * 2 ^ (last - c).toNat := by
    intro x
    rw [Nat.mul_assoc, ← Nat.pow_add]
    congr 2
    omega
  rcases Int.le_total last e with hle | hle
  · -- nothing is cut off
    have h0 : (last - e).toNat = 0 := by omega
    have hk : Toward.even.cut false (m <<< (e - last).toNat) (last - e).toNat = m * 2 ^ (e - last).toNat := by
      rw [h0, cut_zero, Nat.shiftLeft_eq]
    have hV : m * 2 ^ (e - last).toNat * 2 ^ (last - c).toNat = m * 2 ^ (e - c).toNat := by
      rw [Nat.mul_assoc, ← Nat.pow_add]
      congr 2
      omega
    have hpos := Nat.two_pow_pos (last - c).toNat
    refine ⟨m * 2 ^ (e - last).toNat, m * 2 ^ (e - last).toNat, hrung _ hk, ?_, ?_, ?_, ?_, .inl rfl⟩
    · calc m * 2 ^ (e - last).toNat < 2 ^ (m.log2 + 1) * 2 ^ (e - last).toNat := Nat.mul_lt_mul_of_pos_right hmlt (Nat.two_pow_pos _)
        _ = 2 ^ (m.log2 + 1 + (e - last).toNat) := (Nat.pow_add ..).symm
        _ ≤ 2 ^ (fb + 1) := Nat.pow_le_pow_right (by omega) (by omega)
        _ = 2 * 2 ^ fb := by rw [Nat.pow_succ]; omega
    · by_cases hq : last = L
      · left; omega
      · right
        have : last = e + (m.log2 : Int) - fb := by
          have : last = max (e + (m.log2 : Int) - fb) L := rfl
          omega
        calc 2 ^ fb = 2 ^ (m.log2 + (e - last).toNat) := by congr 1; omega
          _ = 2 ^ m.log2 * 2 ^ (e - last).toNat := Nat.pow_add ..
          _ ≤ m * 2 ^ (e - last).toNat := Nat.mul_le_mul_right _ hmge
    · rw [hunit, hV]; exact Nat.le_refl _
    · rw [hunit, Nat.add_mul, hV]; omega
  · -- the last digits are cut off
    have h0 : (e - last).toNat = 0 := by omega
    have hsh : m <<< (e - last).toNat = m := by rw [h0, Nat.shiftLeft_zero]
    let d := (last - e).toNat
    have hd : (last - e).toNat = d := rfl
    have hV : ∀ x : Nat, x * 2 ^ (last - c).toNat = x * 2 ^ d * 2 ^ (e - c).toNat := by
      intro x
      rw [Nat.mul_assoc, ← Nat.pow_add]
      congr 2
      omega
    have hpe := Nat.two_pow_pos (e - c).toNat
    have hdm := Nat.div_add_mod m (2 ^ d)
    have hmod := Nat.mod_lt m (Nat.two_pow_pos d)
    have hqm : m / 2 ^ d * 2 ^ d ≤ m := Nat.div_mul_le_self _ _
    have hqm1 : m < (m / 2 ^ d + 1) * 2 ^ d := by rw [Nat.add_mul, Nat.one_mul, Nat.mul_comm (m / 2 ^ d)]; omega
    refine ⟨m / 2 ^ d, Toward.even.cut false m d, hrung _ (by rw [hsh, hd]), ?_, ?_, ?_, ?_, ?_⟩
    · rw [Nat.div_lt_iff_lt_mul (Nat.two_pow_pos d)]
      calc m < 2 ^ (m.log2 + 1) := hmlt
        _ ≤ 2 ^ (fb + 1 + d) := Nat.pow_le_pow_right (by omega) (by omega)
        _ = 2 * 2 ^ fb * 2 ^ d := by rw [Nat.pow_add, Nat.pow_succ]; congr 1; omega
    · by_cases hq : last = L
      · left; omega
      · right
        have : last = e + (m.log2 : Int) - fb := by
          have : last = max (e + (m.log2 : Int) - fb) L := rfl
          omega
        rw [Nat.le_div_iff_mul_le (Nat.two_pow_pos d), ← Nat.pow_add]
        refine Nat.le_trans (Nat.pow_le_pow_right (by omega) ?_) hmge
        omega
    · rw [hunit, hV]; exact Nat.mul_le_mul_right _ hqm
    · rw [hunit, hV]; exact Nat.mul_lt_mul_of_pos_right hqm1 hpe
    · rcases cut_even false m d with h1 | ⟨h1, h2⟩
      · exact .inl h1
      · refine .inr ⟨h1, ?_⟩
        rw [hunit, hV]
        exact Nat.mul_lt_mul_of_pos_right h2 hpe

/-- A number that is no greater than a rung's is written as no higher a rung. -/
theorem rung_le {k : FloatKind} {m r : Nat} {e c : Int} (hm : m ≠ 0) (hc1 : c ≤ e) (hc2 : c ≤ k.format.leastPlace) (h : m * 2 ^ (e - c).toNat ≤ mg k.format.binade r * 2 ^ (k.format.leastPlace - c).toNat) : rungOf k m e ≤ r := by
  obtain ⟨a, q, kept, h1, h2, h3, h4, h5, h6⟩ := near k hm hc1 hc2
  have hB := binade_pos k.format
  have hp := Nat.two_pow_pos (k.format.leastPlace - c).toNat
  rw [h1]
  refine Nat.le_trans (Nat.min_le_left _ _) ?_
  have hq := mg_unit (a := a) (x := q) hB (by omega) h3
  rcases h6 with rfl | ⟨rfl, h7⟩
  · refine Nat.le_of_not_lt fun hlt => ?_
    have h8 := mg_lt hB hlt
    rw [hq] at h8
    have := Nat.mul_lt_mul_of_pos_right h8 hp
    omega
  · have h8 : a * k.format.binade + q < r := by
      refine Nat.lt_of_not_le fun hle => ?_
      have h9 := mg_le hB hle
      rw [hq] at h9
      have := Nat.mul_le_mul_right (2 ^ (k.format.leastPlace - c).toNat) h9
      omega
    omega
/-- A number that is no less than a rung's is written as no lower a rung. -/
theorem rung_ge {k : FloatKind} {m r : Nat} {e c : Int} (hm : m ≠ 0) (hc1 : c ≤ e) (hc2 : c ≤ k.format.leastPlace) (hr : r ≤ k.format.infRung) (h : mg k.format.binade r * 2 ^ (k.format.leastPlace - c).toNat ≤ m * 2 ^ (e - c).toNat) : r ≤ rungOf k m e := by
  obtain ⟨a, q, kept, h1, h2, h3, h4, h5, h6⟩ := near k hm hc1 hc2
  have hB := binade_pos k.format
  have hp := Nat.two_pow_pos (k.format.leastPlace - c).toNat
  rw [h1]
  refine Nat.le_min.2 ⟨?_, hr⟩
  have hq1 := mg_unit (a := a) (x := q + 1) hB (by omega) (by rcases h3 with h | h; exact .inl h; exact .inr (by omega))
  have h8 : r < a * k.format.binade + (q + 1) := by
    refine Nat.lt_of_not_le fun hle => ?_
    have h9 := mg_le hB hle
    rw [hq1] at h9
    have := Nat.mul_le_mul_right (2 ^ (k.format.leastPlace - c).toNat) h9
    omega
  rcases h6 with rfl | ⟨rfl, _⟩ <;> omega
end Go.Vx

namespace Go.Vx
open Ieee

theorem fin_rg {x : Nat} : fin x = true ↔ rg .f32 x < FloatKind.f32.format.infRung := by
  rw [fin_iff]
  constructor
  · rintro ⟨s, m, e, h⟩
    rcases Nat.lt_trichotomy (rg .f32 x) FloatKind.f32.format.infRung with h1 | h1 | h1
    · exact h1
    · have := read_inf h1
      rw [show FloatKind.f32.format.read x = _ from h] at this
      cases this
    · have hn : isN .f32 x = true := by rw [notN_rg]; simpa using h1
      have := read_nan .f32 x hn
      obtain ⟨s', f, h2⟩ := this
      rw [show FloatKind.f32.format.read x = _ from h] at h2
      cases h2
  · intro h
    obtain ⟨m, e, h1, _⟩ := read_fin h
    exact ⟨_, m, e, h1⟩
theorem nearest_word (k : FloatKind) (s : Bool) (m : Nat) (e : Int) : k.format.nearest s m e = k.format.word s (rungOf k m e) := by
  have hI := inf_lt_sign k
  unfold rungOf Format.nearest
  split
  · rw [rg_word (by omega)]
  · rw [rg_word (Nat.lt_of_le_of_lt (Nat.min_le_right _ _) hI)]
    rfl
theorem rungOf_zero (k : FloatKind) (e : Int) : rungOf k 0 e = 0 := by
  have hI := inf_lt_sign k
  unfold rungOf Format.nearest
  rw [if_pos rfl, rg_word (by omega)]
theorem rungOf_le (k : FloatKind) (m : Nat) (e : Int) : rungOf k m e ≤ k.format.infRung := by
  by_cases hm : m = 0
  · subst hm; rw [rungOf_zero]; exact Nat.zero_le _
  · obtain ⟨a, q, kept, h1, _⟩ := near k (e := e) (c := min e k.format.leastPlace) hm (by omega) (by omega)
    rw [h1]
    exact Nat.min_le_right _ _

/-- What a rung stands for is written as that rung. -/
theorem rung_exact {k : FloatKind} {m r : Nat} {e c : Int} (hc1 : c ≤ e) (hc2 : c ≤ k.format.leastPlace) (hr : r ≤ k.format.infRung) (h : m * 2 ^ (e - c).toNat = mg k.format.binade r * 2 ^ (k.format.leastPlace - c).toNat) : rungOf k m e = r := by
  have hB := binade_pos k.format
  by_cases hm : m = 0
  · subst hm
    rw [rungOf_zero]
    rw [Nat.zero_mul] at h
    have h0 : mg k.format.binade r = 0 := by
      rcases Nat.mul_eq_zero.1 h.symm with h1 | h1
      · exact h1
      · have := Nat.two_pow_pos (k.format.leastPlace - c).toNat; omega
    refine (mg_inj hB (r := 0) ?_)
    rw [h0, mg_zero hB]
  · exact Nat.le_antisymm (rung_le hm hc1 hc2 (Nat.le_of_eq h)) (rung_ge hm hc1 hc2 hr (Nat.le_of_eq h.symm))

/-! ### A 32-bit number, widened, and narrowed again -/
theorem wide_rung {x : Nat} (h : fin x = true) : ∃ r', r' < FloatKind.f64.format.infRung ∧ conv .f32 .f64 x = FloatKind.f64.format.word (sg .f32 x) r' ∧ mg FloatKind.f64.format.binade r' = mg FloatKind.f32.format.binade (rg .f32 x) * 2 ^ 925 := by
  rw [fin_rg] at h
  obtain ⟨m, e, h1, h2, h3⟩ := read_fin h
  have hB : FloatKind.f64.format.binade = 2 ^ 52 := rfl
  have hL : FloatKind.f64.format.leastPlace = -1074 := rfl
  have hL3 : FloatKind.f32.format.leastPlace = -149 := rfl
  have hI : FloatKind.f64.format.infRung = 2047 * 2 ^ 52 := rfl
  rw [hL3] at h2 h3
  obtain ⟨hm, _, he⟩ := read_single (x := x) h1
  have key : ∃ r', r' < FloatKind.f64.format.infRung ∧ mg FloatKind.f64.format.binade r' = m * 2 ^ (e + 1074).toNat := by
    by_cases h0 : m = 0
    · subst h0
      refine ⟨0, by rw [hI]; omega, ?_⟩
      rw [mg_zero (by rw [hB]; decide), Nat.zero_mul]
    · have hl : m.log2 ≤ 23 := by
        have := (Nat.log2_lt h0).2 (show m < 2 ^ 24 by omega)
        omega
      have hge : 2 ^ m.log2 ≤ m := Nat.log2_self_le h0
      have hlt : m < 2 ^ (m.log2 + 1) := Nat.lt_log2_self
      have h4 : 2 ^ 52 ≤ m * 2 ^ (52 - m.log2) := by
        calc 2 ^ 52 = 2 ^ (m.log2 + (52 - m.log2)) := by congr 1; omega
          _ = 2 ^ m.log2 * 2 ^ (52 - m.log2) := Nat.pow_add ..
          _ ≤ _ := Nat.mul_le_mul_right _ hge
      have h5 : m * 2 ^ (52 - m.log2) < 2 * 2 ^ 52 := by
        calc m * 2 ^ (52 - m.log2) < 2 ^ (m.log2 + 1) * 2 ^ (52 - m.log2) := Nat.mul_lt_mul_of_pos_right hlt (Nat.two_pow_pos _)
          _ = 2 ^ (m.log2 + 1 + (52 - m.log2)) := (Nat.pow_add ..).symm
          _ = 2 ^ 53 := by congr 1; omega
          _ = 2 * 2 ^ 52 := by decide
      refine ⟨(e + 1074 - (52 - m.log2)).toNat * 2 ^ 52 + m * 2 ^ (52 - m.log2), ?_, ?_⟩
      · rw [hI]
        have h6 : (e + 1074 - (52 - m.log2)).toNat ≤ 1178 := by omega
        have := Nat.mul_le_mul_right (2 ^ 52) h6
        omega
      · rw [hB, mg_unit (by decide) (Nat.le_of_lt h5) (.inr h4), Nat.mul_assoc, ← Nat.pow_add]
        congr 2
        omega
  obtain ⟨r', h4, h5⟩ := key
  refine ⟨r', h4, ?_, ?_⟩
  · unfold conv
    rw [if_neg (by decide), h1]
    simp only [Format.write]
    have h6 : rungOf .f64 m e = r' := rung_exact (c := -1074) (by omega) (by rw [hL]; omega) (Nat.le_of_lt h4) (by
      rw [hL, h5]
      simp only [Int.sub_neg, Int.add_left_neg, Int.toNat_zero, Nat.pow_zero, Nat.mul_one])
    rw [nearest_word, h6, read_cn (notN_word (Nat.le_of_lt h4))]
  · have hsum : (e + 1074).toNat = (e - -149).toNat + 925 := by omega
    rw [h5, ← h3, Nat.shiftLeft_eq, hsum, Nat.pow_add, Nat.mul_assoc]

/-! ### How great a number is -/
end Go.Vx

namespace Go.Vx
open Go.RowKit
section
variable {P : Program} {ops : Array Oper} {o : Oper} {F' : Frm} {w0 : World} {old : Nat → Prop} {H : List HFact} {c : Bool}
end
end Go.Vx

namespace Go.Vx
/-! ### Where a list is greatest -/
end Go.Vx

namespace Go.Vx
open Ieee Go.RowKit
/-! ### The greatest of some numbers -/
/-- 'max(x, y)' of numbers. -/
def maxF (k : FloatKind) (x y : Nat) : Nat := match k.format.order x y with
  | some .lt => y
  | some .gt => x
  | some .eq => if (k.format.read x).neg then y else x
  | none => qnan k
section
variable {P : Program} {ops : Array Oper} {o : Oper} {F' : Frm} {w0 : World} {old : Nat → Prop} {H : List HFact} {c : Bool}
theorem v_maxF {T : TypeId} {ts : Array TypeId} {x y : Operand} {gx gy : Bool} {k : FloatKind} {X Y : Nat} (ho : o.op = .call { callee := .builtin .max, args := #[x, y], argTypes := ts }) (_hT : o.type = T) (hx : ev F' x = some (gx, .float k X)) (hy : ev F' y = some (gy, .float k Y))
    (hcx : c = true → gx = true) (hcy : c = true → gy = true) (hX : c = true → isN k X = false) (hY : c = true → isN k Y = false) : VOp P ops w0 old o F' H c (.float k (maxF k X Y)) := by
  intro a w hl _ hcc
  obtain ⟨b1, h1, l1, e1⟩ := ab_flt (ev_ab (a := a) hl (by simp [ho, Op.operands, Call.operands]) hx (hcx hcc))
  obtain ⟨b2, h2, l2, e2⟩ := ab_flt (ev_ab (a := a) hl (by simp [ho, Op.operands, Call.operands]) hy (hcy hcc))
  have f1 : b1 = X := by rw [← e1]; exact (cn_not (by rw [e1]; exact hX hcc)).symm
  have f2 : b2 = Y := by rw [← e2]; exact (cn_not (by rw [e2]; exact hY hcc)).symm
  subst f1 f2
  have g1 := read_num k b1 (hX hcc)
  have g2 := read_num k b2 (hY hcc)
  have hn : k.format.order b1 b2 ≠ none := by
    unfold Format.order
    cases hr1 : k.format.read b1 <;> cases hr2 : k.format.read b2 <;> simp [hr1, hr2, Datum.isNaN] at g1 g2 <;> simp [Datum.order]
  have hrun : (Builtin.max_ ts o.type #[.float k b1, .float k b2]).run P w = .ok (.float k (maxF k b1 b2)) w := by
    unfold maxF
    simp only [Builtin.max_, Builtin.max2, List.foldlM_cons, List.foldlM_nil, Sem.run_bind]
    cases ho' : k.format.order b1 b2 with
    | none => exact absurd ho' hn
    | some v => cases v <;> rfl
  have hlt : maxF k b1 b2 < 2 ^ k.format.width := by
    unfold maxF
    split
    · exact l2
    · exact l1
    · split
      · exact l2
      · exact l1
    · cases k <;> decide
  have hcn : cn k (maxF k b1 b2) = maxF k b1 b2 := by
    have h3 := read_cn (hX hcc)
    have h4 := read_cn (hY hcc)
    unfold maxF
    split
    · exact h4
    · exact h3
    · split
      · exact h4
      · exact h3
    · rw [cn_nan (isN_qnan k)]
  simp only [OpV, execOp, ho, resolve, invoke, builtin, List.map_toArray, List.map_cons, List.map_nil, h1, h2, Sem.run_bind, Sem.run_pure, Result.andThen_ok, hrun, yieldsUpon]
  exact ⟨below_self w, _, rfl, hlt, hcn⟩
end
end Go.Vx

namespace Go.Vx
open Ieee
end Go.Vx

namespace Go.Vx
theorem part_get_ge {N i j : Nat} {g h : Nat → Nat} (hi : i ≤ j) (hj : j < N) : (part N i g h)[j]? = some (F (h j)) := by
  rw [part_get hj, if_neg (by omega)]
theorem part_set_get {N i j : Nat} {g h : Nat → Nat} {v : Value} (hj : j < N) : ((part N i g h).set j v)[j]? = some v := by
  rw [List.getElem?_set_self (by rw [part_length]; exact hj)]
end Go.Vx

namespace Go.Vx
theorem hA_vecPS {w0 : World} {old : Nat → Prop} {H : List HFact} {e : TypeId} {A : Option Addr} {cap N i k : Nat} {g g' : Nat → Nat} {v : Value} (h : HFact.vec e A cap ((part N i g g').set k v) ∈ H) : ∀ w, HInv w0 old H w → A = none → N = 0 := fun w hI hA => by
  have := hA_vec h w hI hA
  rwa [List.length_set, part_length] at this
end Go.Vx

namespace Go.Vx
end Go.Vx

namespace Go.Vx
/-! ### The first of some -/
end Go.Vx

namespace Go.Vx
theorem j_condAndLt {P : Program} {F' : Frm} {w0 : World} {old : Nat → Prop} {H : List HFact} {n : Nat} {Q : Exit → Act → World → Prop} {t : Nat} {X Y Z W : Int} {x y : Code} (hc : Frm.get F' t = some (true, .bool (icmp .lss X Y && icmp .leq Z W))) (kx : (X < Y ∧ Z ≤ W) → J P n w0 old x F' H Q) (ky : ¬ (X < Y ∧ Z ≤ W) → J P n w0 old y F' H Q) : J P n w0 old (.cond (.tmp t) x y) F' H Q :=
  j_cond hc (fun h => kx (by simpa [icmp] using h)) (fun h => ky (by simpa [icmp] using h))
end Go.Vx

namespace Go.Vx
theorem j_condAndGe {P : Program} {F' : Frm} {w0 : World} {old : Nat → Prop} {H : List HFact} {n : Nat} {Q : Exit → Act → World → Prop} {t : Nat} {X Y Z W : Int} {x y : Code} (hc : Frm.get F' t = some (true, .bool (icmp .lss X Y && icmp .geq Z W))) (kx : (X < Y ∧ Z ≥ W) → J P n w0 old x F' H Q) (ky : ¬ (X < Y ∧ Z ≥ W) → J P n w0 old y F' H Q) : J P n w0 old (.cond (.tmp t) x y) F' H Q :=
  j_cond hc (fun h => kx (by simpa [icmp] using h)) (fun h => ky (by simpa [icmp] using h))
end Go.Vx

namespace Go.Vx
/-- A number and whether there is one. -/
def numV (b : Bool) (v : Nat) : Value := .tuple #[.float .f32 (bif b then v else 0), .bool b]
theorem num_no {b : Bool} {v z : Nat} (h : b = false) (hz : z = 0) : Value.tuple #[.float .f32 z, .bool false] = numV b v := by subst h hz; rfl
theorem num_yes {b c : Bool} {v : Nat} (h : b = c) : Value.tuple #[.float .f32 (bif c then v else 0), .bool c] = numV b v := by subst h; rfl
end Go.Vx

namespace Go.Vx
theorem g_gt {c : Bool} {X Y : Int} (h : (c && (icmp .gtr X Y == true)) = true) : X > Y := by
  simp only [Bool.and_eq_true, beq_iff_eq] at h
  exact of_decide_eq_true h.2
end Go.Vx

namespace Go.Vx
end Go.Vx

namespace Go.Vx
open Ieee

/-! ### The values of what operations give: bounds -/
theorem sval_word {k : FloatKind} {s : Bool} {r : Nat} (h : r < k.format.signWeight) : sval k (k.format.word s r) = if s then -((mg k.format.binade r : Nat) : Int) else ((mg k.format.binade r : Nat) : Int) := by
  unfold sval; rw [sg_word h, rg_word h]
theorem rung_lt_sign (k : FloatKind) (m : Nat) (e : Int) : rungOf k m e < k.format.signWeight := Nat.lt_of_le_of_lt (rungOf_le k m e) (inf_lt_sign k)
theorem sval_nearest (k : FloatKind) (s : Bool) (m : Nat) (e : Int) : sval k (k.format.nearest s m e) = if s then -((mg k.format.binade (rungOf k m e) : Nat) : Int) else ((mg k.format.binade (rungOf k m e) : Nat) : Int) := by
  rw [nearest_word, sval_word (rung_lt_sign k m e)]
theorem rg_nearest (k : FloatKind) (s : Bool) (m : Nat) (e : Int) : rg k (k.format.nearest s m e) = rungOf k m e := by
  rw [nearest_word, rg_word (rung_lt_sign k m e)]
theorem signed_eq (s : Bool) (m a : Nat) : signed s m a = if s then -((m * 2 ^ a : Nat) : Int) else ((m * 2 ^ a : Nat) : Int) := by
  unfold signed; rw [Nat.shiftLeft_eq]

/-- What is no greater than a value of the format is written as no more. -/
theorem nearest_hi {k : FloatKind} {s : Bool} {m : Nat} {e c : Int} {b : Nat} (hc1 : c ≤ e) (hc2 : c ≤ k.format.leastPlace) (hb : rg k b ≤ k.format.infRung)
    (h : signed s m (e - c).toNat ≤ sval k b * (2 ^ (k.format.leastPlace - c).toNat : Nat)) : sval k (k.format.nearest s m e) ≤ sval k b := by
  have hB := binade_pos k.format
  rw [sval_nearest]
  rw [signed_eq] at h
  by_cases hm : m = 0
  · subst hm
    rw [rungOf_zero, mg_zero hB]
    simp only [Nat.zero_mul, Int.natCast_zero, Int.neg_zero, ite_self] at h ⊢
    have hp : (0 : Int) < (2 ^ (k.format.leastPlace - c).toNat : Nat) := by have := Nat.two_pow_pos (k.format.leastPlace - c).toNat; omega
    exact Int.le_of_mul_le_mul_right (by simpa using h) hp
  · unfold sval at h ⊢
    cases s <;> cases hs : sg k b <;> simp only [hs, if_true, if_false, Bool.false_eq_true] at h ⊢
    · have h' : m * 2 ^ (e - c).toNat ≤ mg k.format.binade (rg k b) * 2 ^ (k.format.leastPlace - c).toNat := by exact_mod_cast h
      have := mg_le hB (rung_le hm hc1 hc2 h')
      omega
    · exfalso
      have h1 : 0 < m * 2 ^ (e - c).toNat := Nat.mul_pos (by omega) (Nat.two_pow_pos _)
      have h2 : (0 : Int) ≤ (mg k.format.binade (rg k b) : Nat) * (2 ^ (k.format.leastPlace - c).toNat : Nat) := Int.mul_nonneg (Int.natCast_nonneg _) (Int.natCast_nonneg _)
      rw [Int.neg_mul] at h
      omega
    · omega
    · rw [Int.neg_mul] at h
      have h' : mg k.format.binade (rg k b) * 2 ^ (k.format.leastPlace - c).toNat ≤ m * 2 ^ (e - c).toNat := by
        have := Int.neg_le_neg_iff.1 h
        exact_mod_cast this
      have := mg_le hB (rung_ge hm hc1 hc2 hb h')
      omega
/-- What is no less than a value of the format is written as no less. -/
theorem nearest_lo {k : FloatKind} {s : Bool} {m : Nat} {e c : Int} {b : Nat} (hc1 : c ≤ e) (hc2 : c ≤ k.format.leastPlace) (hb : rg k b ≤ k.format.infRung)
    (h : sval k b * (2 ^ (k.format.leastPlace - c).toNat : Nat) ≤ signed s m (e - c).toNat) : sval k b ≤ sval k (k.format.nearest s m e) := by
  have hB := binade_pos k.format
  rw [sval_nearest]
  rw [signed_eq] at h
  by_cases hm : m = 0
  · subst hm
    rw [rungOf_zero, mg_zero hB]
    simp only [Nat.zero_mul, Int.natCast_zero, Int.neg_zero, ite_self] at h ⊢
    have hp : (0 : Int) < (2 ^ (k.format.leastPlace - c).toNat : Nat) := by have := Nat.two_pow_pos (k.format.leastPlace - c).toNat; omega
    exact Int.le_of_mul_le_mul_right (by simpa using h) hp
  · unfold sval at h ⊢
    cases s <;> cases hs : sg k b <;> simp only [hs, if_true, if_false, Bool.false_eq_true] at h ⊢
    · have h' : mg k.format.binade (rg k b) * 2 ^ (k.format.leastPlace - c).toNat ≤ m * 2 ^ (e - c).toNat := by exact_mod_cast h
      have := mg_le hB (rung_ge hm hc1 hc2 hb h')
      omega
    · omega
    · exfalso
      have h1 : 0 < m * 2 ^ (e - c).toNat := Nat.mul_pos (by omega) (Nat.two_pow_pos _)
      have h2 : (0 : Int) ≤ (mg k.format.binade (rg k b) : Nat) * (2 ^ (k.format.leastPlace - c).toNat : Nat) := Int.mul_nonneg (Int.natCast_nonneg _) (Int.natCast_nonneg _)
      omega
    · rw [Int.neg_mul] at h
      have h' : m * 2 ^ (e - c).toNat ≤ mg k.format.binade (rg k b) * 2 ^ (k.format.leastPlace - c).toNat := by
        have := Int.neg_le_neg_iff.1 h
        exact_mod_cast this
      have := mg_le hB (rung_le hm hc1 hc2 h')
      omega

/-- A finite number. -/
def Fn (k : FloatKind) (x : Nat) : Prop := rg k x < k.format.infRung
theorem fn_fin {x : Nat} : Fn .f32 x ↔ fin x = true := fin_rg.symm
/-- The datum of a finite number. -/
theorem read_val {k : FloatKind} {x : Nat} (h : Fn k x) : ∃ s m e, k.format.read x = .number s m e ∧ k.format.leastPlace ≤ e ∧ signed s m (e - k.format.leastPlace).toNat = sval k x := by
  obtain ⟨m, e, h1, h2, h3⟩ := read_fin h
  refine ⟨_, m, e, h1, h2, ?_⟩
  unfold signed sval
  rw [h3]
theorem oc_nearest (k : FloatKind) (s : Bool) (m : Nat) (e : Int) : oc k (some (k.format.nearest s m e)) = k.format.nearest s m e := by
  rw [oc_some, nearest_word, read_cn (notN_word (rungOf_le _ _ _))]
/-- What is written lies between what bounds it. -/
theorem near_fn {k : FloatKind} {s : Bool} {m : Nat} {e c : Int} {lo hi : Nat} (hc1 : c ≤ e) (hc2 : c ≤ k.format.leastPlace) (hlo : Fn k lo) (hhi : Fn k hi)
    (h1 : sval k lo * (2 ^ (k.format.leastPlace - c).toNat : Nat) ≤ signed s m (e - c).toNat) (h2 : signed s m (e - c).toNat ≤ sval k hi * (2 ^ (k.format.leastPlace - c).toNat : Nat)) :
    Fn k (k.format.nearest s m e) ∧ sval k lo ≤ sval k (k.format.nearest s m e) ∧ sval k (k.format.nearest s m e) ≤ sval k hi := by
  have a1 := nearest_lo hc1 hc2 (Nat.le_of_lt hlo) h1
  have a2 := nearest_hi hc1 hc2 (Nat.le_of_lt hhi) h2
  refine ⟨?_, a1, a2⟩
  have hB := binade_pos k.format
  unfold Fn at *
  rw [rg_nearest]
  refine Nat.lt_of_not_le fun hle => ?_
  have e1 : rungOf k m e = k.format.infRung := Nat.le_antisymm (rungOf_le _ _ _) hle
  rw [sval_nearest, e1] at a1 a2
  have b1 := mg_lt hB hlo
  have b2 := mg_lt hB hhi
  unfold sval at a1 a2
  cases s <;> simp only [if_true, if_false, Bool.false_eq_true] at a1 a2
  · split at a2 <;> omega
  · split at a1 <;> omega

theorem signed_add (s : Bool) (m a b : Nat) : signed s m (a + b) = signed s m a * (2 ^ b : Nat) := signed_shift s m a b
theorem signed_of_nat (t : Int) (z : Bool) (hz : z = decide (t < 0) ∨ t = 0) : signed z t.natAbs 0 = t := by
  rw [signed_eq]
  rcases hz with h | h
  · subst h
    by_cases ht : t < 0 <;> simp [ht] <;> omega
  · subst h; cases z <;> simp
theorem add_val {k : FloatKind} {x y : Nat} (hx : Fn k x) (hy : Fn k y) : ∃ s m e, fadd k x y = k.format.nearest s m e ∧ k.format.leastPlace ≤ e ∧ signed s m (e - k.format.leastPlace).toNat = sval k x + sval k y := by
  obtain ⟨s, m, i, h1, h2, h3⟩ := read_val hx
  obtain ⟨t, n, j, g1, g2, g3⟩ := read_val hy
  unfold fadd Format.add
  rw [h1, g1]
  simp only [Datum.sum, Option.map_some, Format.write, oc_nearest]
  generalize hL : k.format.leastPlace = L at *
  refine ⟨_, _, _, rfl, by omega, ?_⟩
  have e1 : (i - L).toNat = (i - min i j).toNat + (min i j - L).toNat := by omega
  have e2 : (j - L).toNat = (j - min i j).toNat + (min i j - L).toNat := by omega
  rw [e1, signed_add] at h3
  rw [e2, signed_add] at g3
  rw [← h3, ← g3, ← Int.add_mul]
  rw [show (min i j - L).toNat = 0 + (min i j - L).toNat by omega, signed_add, signed_of_nat]
  · rw [show 0 + (min i j - L).toNat = (min i j - L).toNat by omega]
  · by_cases h0 : signed s m (i - min i j).toNat + signed t n (j - min i j).toNat = 0
    · exact .inr h0
    · left; rw [if_neg h0]
theorem signed_not (s : Bool) (m a : Nat) : signed (!s) m a = -signed s m a := by
  cases s <;> simp [signed]
theorem sub_val {k : FloatKind} {x y : Nat} (hx : Fn k x) (hy : Fn k y) : ∃ s m e, fsub k x y = k.format.nearest s m e ∧ k.format.leastPlace ≤ e ∧ signed s m (e - k.format.leastPlace).toNat = sval k x - sval k y := by
  obtain ⟨s, m, i, h1, h2, h3⟩ := read_val hx
  obtain ⟨t, n, j, g1, g2, g3⟩ := read_val hy
  unfold fsub Format.sub
  rw [h1, g1]
  simp only [Datum.opposite, Datum.sum, Option.map_some, Format.write, oc_nearest]
  generalize hL : k.format.leastPlace = L at *
  refine ⟨_, _, _, rfl, by omega, ?_⟩
  have e1 : (i - L).toNat = (i - min i j).toNat + (min i j - L).toNat := by omega
  have e2 : (j - L).toNat = (j - min i j).toNat + (min i j - L).toNat := by omega
  rw [e1, signed_add] at h3
  rw [e2, signed_add] at g3
  rw [← h3, ← g3, ← Int.sub_mul, show signed s m (i - min i j).toNat - signed t n (j - min i j).toNat = signed s m (i - min i j).toNat + signed (!t) n (j - min i j).toNat by rw [signed_not]; omega]
  rw [show (min i j - L).toNat = 0 + (min i j - L).toNat by omega, signed_add, signed_of_nat]
  · rw [show 0 + (min i j - L).toNat = (min i j - L).toNat by omega]
  · by_cases h0 : signed s m (i - min i j).toNat + signed (!t) n (j - min i j).toNat = 0
    · exact .inr h0
    · left; rw [if_neg h0]
theorem signed_mul (s t : Bool) (m n a b : Nat) : signed (s ^^ t) (m * n) (a + b) = signed s m a * signed t n b := by
  simp only [signed_eq]
  rw [Nat.pow_add, show m * n * (2 ^ a * 2 ^ b) = m * 2 ^ a * (n * 2 ^ b) by rw [Nat.mul_assoc, Nat.mul_assoc]; congr 1; rw [← Nat.mul_assoc, Nat.mul_comm n, Nat.mul_assoc]]
  generalize m * 2 ^ a = p
  generalize n * 2 ^ b = q
  cases s <;> cases t <;> simp [Int.neg_mul, Int.mul_neg]
theorem mul_val {k : FloatKind} {x y : Nat} (hx : Fn k x) (hy : Fn k y) : ∃ s m e, fmul k x y = k.format.nearest s m e ∧ k.format.leastPlace + k.format.leastPlace ≤ e ∧ signed s m (e - (k.format.leastPlace + k.format.leastPlace)).toNat = sval k x * sval k y := by
  obtain ⟨s, m, i, h1, h2, h3⟩ := read_val hx
  obtain ⟨t, n, j, g1, g2, g3⟩ := read_val hy
  unfold fmul Format.mul
  rw [h1, g1]
  simp only [Datum.product, Option.map_some, Format.write, oc_nearest]
  generalize hL : k.format.leastPlace = L at *
  refine ⟨_, _, _, rfl, by omega, ?_⟩
  rw [show (i + j - (L + L)).toNat = (i - L).toNat + (j - L).toNat by omega, signed_mul, h3, g3]

theorem least_neg (k : FloatKind) : k.format.leastPlace ≤ 0 := by cases k <;> decide
/-- What a unit is worth, upside down. -/
def one_ (k : FloatKind) : Int := (2 ^ (-k.format.leastPlace).toNat : Nat)

theorem add_bd {k : FloatKind} {x y lo hi : Nat} (hx : Fn k x) (hy : Fn k y) (hlo : Fn k lo) (hhi : Fn k hi) (h1 : sval k lo ≤ sval k x + sval k y) (h2 : sval k x + sval k y ≤ sval k hi) :
    Fn k (farith .add k x y) ∧ sval k lo ≤ sval k (farith .add k x y) ∧ sval k (farith .add k x y) ≤ sval k hi := by
  obtain ⟨s, m, e, e1, e2, e3⟩ := add_val hx hy
  show Fn k (fadd k x y) ∧ _ ≤ sval k (fadd k x y) ∧ sval k (fadd k x y) ≤ _
  rw [e1]
  exact near_fn (c := k.format.leastPlace) e2 (Int.le_refl _) hlo hhi (by simpa [e3] using h1) (by simpa [e3] using h2)
theorem sub_bd {k : FloatKind} {x y lo hi : Nat} (hx : Fn k x) (hy : Fn k y) (hlo : Fn k lo) (hhi : Fn k hi) (h1 : sval k lo ≤ sval k x - sval k y) (h2 : sval k x - sval k y ≤ sval k hi) :
    Fn k (farith .sub k x y) ∧ sval k lo ≤ sval k (farith .sub k x y) ∧ sval k (farith .sub k x y) ≤ sval k hi := by
  obtain ⟨s, m, e, e1, e2, e3⟩ := sub_val hx hy
  show Fn k (fsub k x y) ∧ _ ≤ sval k (fsub k x y) ∧ sval k (fsub k x y) ≤ _
  rw [e1]
  exact near_fn (c := k.format.leastPlace) e2 (Int.le_refl _) hlo hhi (by simpa [e3] using h1) (by simpa [e3] using h2)
theorem mul_bd {k : FloatKind} {x y lo hi : Nat} (hx : Fn k x) (hy : Fn k y) (hlo : Fn k lo) (hhi : Fn k hi) (h1 : sval k lo * one_ k ≤ sval k x * sval k y) (h2 : sval k x * sval k y ≤ sval k hi * one_ k) :
    Fn k (farith .mul k x y) ∧ sval k lo ≤ sval k (farith .mul k x y) ∧ sval k (farith .mul k x y) ≤ sval k hi := by
  obtain ⟨s, m, e, e1, e2, e3⟩ := mul_val hx hy
  have hL := least_neg k
  show Fn k (fmul k x y) ∧ _ ≤ sval k (fmul k x y) ∧ sval k (fmul k x y) ≤ _
  rw [e1]
  have hq : (k.format.leastPlace - (k.format.leastPlace + k.format.leastPlace)).toNat = (-k.format.leastPlace).toNat := by omega
  exact near_fn (c := k.format.leastPlace + k.format.leastPlace) e2 (by omega) hlo hhi (by rw [hq, e3]; exact h1) (by rw [hq, e3]; exact h2)
end Go.Vx

namespace Go.Vx
open Ieee

theorem scale_le {a b p q p' q' : Nat} (h : a * 2 ^ p ≤ b * 2 ^ q) (e : p + q' = p' + q) : a * 2 ^ p' ≤ b * 2 ^ q' := by
  have h1 := Nat.mul_le_mul_right (2 ^ q') h
  rw [Nat.mul_assoc, Nat.mul_assoc, ← Nat.pow_add, ← Nat.pow_add, e, Nat.pow_add, Nat.add_comm q, Nat.pow_add, ← Nat.mul_assoc, ← Nat.mul_assoc] at h1
  exact Nat.le_of_mul_le_mul_right h1 (Nat.two_pow_pos q)
theorem mg_form (fb r : Nat) : ∃ sig a, mg (2 ^ fb) r = sig * 2 ^ a ∧ sig < 2 ^ (fb + 1) := by
  unfold mg
  have hp := Nat.two_pow_pos fb
  split
  · exact ⟨r, 0, by simp, by rw [Nat.pow_succ]; omega⟩
  · refine ⟨2 ^ fb + r % 2 ^ fb, r / 2 ^ fb - 1, Nat.shiftLeft_eq .., ?_⟩
    have := Nat.mod_lt r hp
    rw [Nat.pow_succ]; omega
/-- The quotient of two magnitudes, told with one digit more. -/
def quoM (fb m n : Nat) : Nat := 2 * ((m <<< (fb + 2 + n.log2 - m.log2)) / n) + ((m <<< (fb + 2 + n.log2 - m.log2)) % n != 0).toNat
theorem quo_core {fb m n G A sig a B : Nat} (hm : m ≠ 0) (hn : n ≠ 0) (hG : G = sig * 2 ^ (a + B)) (hs : sig < 2 ^ (fb + 1)) (hA : 1 ≤ A) :
    (m * 2 ^ (fb + 2 + n.log2 - m.log2) * 2 ^ A ≤ n * G → quoM fb m n * 2 ^ (A - 1) ≤ G) ∧ (n * G ≤ m * 2 ^ (fb + 2 + n.log2 - m.log2) * 2 ^ A → G ≤ quoM fb m n * 2 ^ (A - 1)) ∧ quoM fb m n ≠ 0 := by
  unfold quoM
  rw [Nat.shiftLeft_eq]
  generalize hD : m * 2 ^ (fb + 2 + n.log2 - m.log2) = D
  have hn0 : 0 < n := by omega
  have hq : 2 ^ (fb + 1) ≤ D / n := by
    rw [Nat.le_div_iff_mul_le hn0]
    have h1 : n < 2 ^ (n.log2 + 1) := Nat.lt_log2_self
    calc 2 ^ (fb + 1) * n ≤ 2 ^ (fb + 1) * 2 ^ (n.log2 + 1) := Nat.mul_le_mul_left _ (Nat.le_of_lt h1)
      _ = 2 ^ (fb + 2 + n.log2) := by rw [← Nat.pow_add]; congr 1; omega
      _ ≤ 2 ^ (m.log2 + (fb + 2 + n.log2 - m.log2)) := Nat.pow_le_pow_right (by omega) (by omega)
      _ = 2 ^ m.log2 * 2 ^ (fb + 2 + n.log2 - m.log2) := Nat.pow_add ..
      _ ≤ D := by rw [← hD]; exact Nat.mul_le_mul_right _ (Nat.log2_self_le hm)
  have hdm := Nat.div_add_mod D n
  have hml := Nat.mod_lt D hn0
  have hP : 2 ^ A = 2 * 2 ^ (A - 1) := by rw [← Nat.pow_succ']; congr 1; omega
  have hA0 := Nat.two_pow_pos (A - 1)
  have hAp := Nat.two_pow_pos A
  have hst : (D % n != 0).toNat ≤ 1 := Bool.toNat_le _
  refine ⟨fun h => ?_, fun h => ?_, ?_⟩
  · by_cases hr : D % n = 0
    · rw [hr]
      simp only [bne_self_eq_false, Bool.toNat_false, Nat.add_zero]
      rw [hr, Nat.add_zero] at hdm
      rw [← hdm, Nat.mul_assoc] at h
      have := Nat.le_of_mul_le_mul_left h hn0
      rw [hP] at this
      rw [Nat.mul_comm 2, Nat.mul_assoc]
      exact this
    · have h1 : D / n * 2 ^ A < G := by
        have h2 : n * (D / n) * 2 ^ A < n * G := by
          refine Nat.lt_of_lt_of_le ?_ h
          exact Nat.mul_lt_mul_of_pos_right (by omega) hAp
        rw [Nat.mul_assoc] at h2
        exact Nat.lt_of_mul_lt_mul_left h2
      have hle : A ≤ a + B := by
        refine Nat.le_of_not_lt fun hlt => ?_
        have h3 : G ≤ D / n * 2 ^ A := by
          rw [hG]
          exact Nat.mul_le_mul (Nat.le_trans (Nat.le_of_lt hs) hq) (Nat.pow_le_pow_right (by omega) (by omega))
        omega
      have hG' : G = sig * 2 ^ (a + B - A) * 2 ^ A := by rw [hG, Nat.mul_assoc, ← Nat.pow_add]; congr 2; omega
      rw [hG', ← Nat.mul_assoc] at h
      have h4 := Nat.le_of_mul_le_mul_right h hAp
      have h5 : D / n + 1 ≤ sig * 2 ^ (a + B - A) := by
        refine Nat.lt_of_mul_lt_mul_left (a := n) ?_
        omega
      calc (2 * (D / n) + (D % n != 0).toNat) * 2 ^ (A - 1) ≤ (2 * (D / n + 1)) * 2 ^ (A - 1) := Nat.mul_le_mul_right _ (by omega)
        _ = (D / n + 1) * 2 ^ A := by rw [hP, Nat.mul_comm 2, Nat.mul_assoc]
        _ ≤ _ := by rw [hG']; exact Nat.mul_le_mul_right _ h5
  · have hz : D / n * 2 ^ A ≤ (2 * (D / n) + (D % n != 0).toNat) * 2 ^ (A - 1) := by
      rw [hP, ← Nat.mul_assoc, Nat.mul_comm (D / n) 2]
      exact Nat.mul_le_mul_right _ (by omega)
    refine Nat.le_trans ?_ hz
    by_cases hle : A ≤ a + B
    · have hG' : G = sig * 2 ^ (a + B - A) * 2 ^ A := by rw [hG, Nat.mul_assoc, ← Nat.pow_add]; congr 2; omega
      rw [hG', ← Nat.mul_assoc] at h
      have h4 := Nat.le_of_mul_le_mul_right h hAp
      rw [hG']
      refine Nat.mul_le_mul_right _ ?_
      rw [Nat.le_div_iff_mul_le hn0, Nat.mul_comm]
      exact h4
    · rw [hG]
      exact Nat.mul_le_mul (Nat.le_trans (Nat.le_of_lt hs) hq) (Nat.pow_le_pow_right (by omega) (by omega))
  · have := Nat.two_pow_pos (fb + 1)
    omega
/-- The rung of a quotient of magnitudes, 'r' beside it. -/
theorem quo_rung {k : FloatKind} {m n r : Nat} {i j : Int} (hm : m ≠ 0) (hn : n ≠ 0) (hi : k.format.leastPlace ≤ i) (hj : k.format.leastPlace ≤ j) :
    (m * 2 ^ (i - k.format.leastPlace).toNat * 2 ^ (-k.format.leastPlace).toNat ≤ mg k.format.binade r * (n * 2 ^ (j - k.format.leastPlace).toNat) →
      rungOf k (quoM k.format.fractionBits m n) (i - j - (k.format.fractionBits + 2 + n.log2 - m.log2 : Nat) - 1) ≤ r) ∧
    (r ≤ k.format.infRung → mg k.format.binade r * (n * 2 ^ (j - k.format.leastPlace).toNat) ≤ m * 2 ^ (i - k.format.leastPlace).toNat * 2 ^ (-k.format.leastPlace).toNat →
      r ≤ rungOf k (quoM k.format.fractionBits m n) (i - j - (k.format.fractionBits + 2 + n.log2 - m.log2 : Nat) - 1)) := by
  have hB : k.format.binade = 2 ^ k.format.fractionBits := rfl
  have hL0 := least_neg k
  obtain ⟨sig, a, hmg, hsig⟩ := mg_form k.format.fractionBits r
  generalize hmo : k.format.fractionBits + 2 + n.log2 - m.log2 = more at *
  have hcore := fun c (hc1 : c ≤ i - j - (more : Nat) - 1) (hc2 : c ≤ k.format.leastPlace) => quo_core (fb := k.format.fractionBits) (m := m) (n := n) (G := mg k.format.binade r * 2 ^ (k.format.leastPlace - c).toNat) (A := (i - j - (more : Nat) - c).toNat) (sig := sig) (a := a) (B := (k.format.leastPlace - c).toNat) hm hn (by rw [hB, hmg, Nat.mul_assoc, ← Nat.pow_add]) hsig (by omega)
  rw [hmo] at hcore
  let c : Int := min (i - j - (more : Nat) - 1) k.format.leastPlace
  have hc1 : c ≤ i - j - (more : Nat) - 1 := Int.min_le_left _ _
  have hc2 : c ≤ k.format.leastPlace := Int.min_le_right _ _
  obtain ⟨c1, c2, c3⟩ := hcore c hc1 hc2
  have hA1 : (i - j - (more : Nat) - c).toNat - 1 = (i - j - (more : Nat) - 1 - c).toNat := by omega
  rw [hA1] at c1 c2
  have hx : n * (mg k.format.binade r * 2 ^ (k.format.leastPlace - c).toNat) = mg k.format.binade r * n * 2 ^ (k.format.leastPlace - c).toNat := by
    rw [← Nat.mul_assoc, Nat.mul_comm n]
  have hy : m * 2 ^ more * 2 ^ (i - j - (more : Nat) - c).toNat = m * 2 ^ (more + (i - j - (more : Nat) - c).toNat) := by rw [Nat.mul_assoc, ← Nat.pow_add]
  rw [hx, hy] at c1 c2
  refine ⟨fun h => ?_, fun hr h => ?_⟩
  · refine rung_le c3 hc1 hc2 (c1 ?_)
    rw [Nat.mul_assoc m, ← Nat.pow_add, ← Nat.mul_assoc] at h
    exact scale_le h (by omega)
  · refine rung_ge c3 hc1 hc2 hr (c2 ?_)
    rw [Nat.mul_assoc m, ← Nat.pow_add, ← Nat.mul_assoc] at h
    exact scale_le h (by omega)
theorem rungOf_of_zero {k : FloatKind} {m : Nat} {e : Int} (h : m = 0) : rungOf k m e = 0 := by rw [h, rungOf_zero]
/-- A quotient lies between what bounds it. -/
theorem div_bd {k : FloatKind} {x y lo hi : Nat} (hx : Fn k x) (hy : Fn k y) (hy0 : 0 < sval k y) (hlo : Fn k lo) (hhi : Fn k hi) (h1 : sval k lo * sval k y ≤ sval k x * one_ k) (h2 : sval k x * one_ k ≤ sval k hi * sval k y) :
    Fn k (farith .quo k x y) ∧ sval k lo ≤ sval k (farith .quo k x y) ∧ sval k (farith .quo k x y) ≤ sval k hi := by
  have hB := binade_pos k.format
  obtain ⟨s, m, i, a1, a2, a3⟩ := read_val hx
  obtain ⟨t, n, j, b1, b2, b3⟩ := read_val hy
  have ht : t = false := by
    cases t
    · rfl
    · rw [signed_eq] at b3; simp only [if_true] at b3; omega
  subst ht
  have hn : n ≠ 0 := by rintro rfl; rw [signed_eq] at b3; simp at b3; omega
  have hv : farith .quo k x y = k.format.nearest s (quoM k.format.fractionBits m n) (i - j - (k.format.fractionBits + 2 + n.log2 - m.log2 : Nat) - 1) := by
    show fdiv k x y = _
    unfold fdiv Format.div
    rw [a1, b1]
    simp only [Datum.quotient, if_neg hn, Option.map_some, Format.write, Bool.xor_false]
    exact oc_nearest _ _ _ _
  rw [signed_eq] at a3 b3
  simp only [Bool.false_eq_true, if_false] at b3
  -- magnitudes
  have key : ∀ r, (0 < m → m * 2 ^ (i - k.format.leastPlace).toNat * 2 ^ (-k.format.leastPlace).toNat ≤ mg k.format.binade r * (n * 2 ^ (j - k.format.leastPlace).toNat)) → rungOf k (quoM k.format.fractionBits m n) (i - j - (k.format.fractionBits + 2 + n.log2 - m.log2 : Nat) - 1) ≤ r := by
    intro r hr
    by_cases hm : m = 0
    · subst hm
      rw [rungOf_of_zero (by unfold quoM; simp)]
      exact Nat.zero_le _
    · exact (quo_rung hm hn a2 b2).1 (hr (by omega))
  have key2 : ∀ r, r ≤ k.format.infRung → mg k.format.binade r * (n * 2 ^ (j - k.format.leastPlace).toNat) ≤ m * 2 ^ (i - k.format.leastPlace).toNat * 2 ^ (-k.format.leastPlace).toNat → r ≤ rungOf k (quoM k.format.fractionBits m n) (i - j - (k.format.fractionBits + 2 + n.log2 - m.log2 : Nat) - 1) := by
    intro r hr hh
    by_cases hm : m = 0
    · subst hm
      simp only [Nat.zero_mul, Nat.le_zero_eq] at hh
      have hnp : n * 2 ^ (j - k.format.leastPlace).toNat ≠ 0 := Nat.mul_ne_zero hn (Nat.pos_iff_ne_zero.1 (Nat.two_pow_pos _))
      rcases Nat.mul_eq_zero.1 hh with h0 | h0
      · have : r = 0 := mg_inj hB (by rw [h0, mg_zero hB])
        omega
      · exact absurd h0 hnp
    · exact (quo_rung hm hn a2 b2).2 hr hh
  rw [hv]
  have hlo' : rg k lo ≤ k.format.infRung := Nat.le_of_lt hlo
  have hhi' : rg k hi ≤ k.format.infRung := Nat.le_of_lt hhi
  unfold one_ at h1 h2
  rw [← a3, ← b3] at h1 h2
  generalize hP : m * 2 ^ (i - k.format.leastPlace).toNat = X at *
  generalize hN : n * 2 ^ (j - k.format.leastPlace).toNat = Y at *
  generalize hO : 2 ^ (-k.format.leastPlace).toNat = O at *
  have hO0 : 0 < O := by rw [← hO]; exact Nat.two_pow_pos _
  have hY0 : 0 < Y := by omega
  have z1 : sval k lo ≤ sval k (k.format.nearest s (quoM k.format.fractionBits m n) (i - j - (k.format.fractionBits + 2 + n.log2 - m.log2 : Nat) - 1)) := by
    rw [sval_nearest]
    unfold sval at h1 ⊢
    cases s <;> cases hs : sg k lo <;> simp only [hs, if_true, if_false, Bool.false_eq_true] at h1 ⊢
    · have := mg_le hB (key2 _ hlo' (by exact_mod_cast h1))
      omega
    · omega
    · have h3 : mg k.format.binade (rg k lo) * Y = 0 := by
        have e1 : (0 : Int) ≤ (mg k.format.binade (rg k lo) : Nat) * (Y : Int) := Int.mul_nonneg (Int.natCast_nonneg _) (Int.natCast_nonneg _)
        have e2 : (0 : Int) ≤ (X : Int) * (O : Int) := Int.mul_nonneg (Int.natCast_nonneg _) (Int.natCast_nonneg _)
        rw [Int.neg_mul] at h1
        have : ((mg k.format.binade (rg k lo) * Y : Nat) : Int) = 0 := by rw [Int.natCast_mul]; omega
        exact_mod_cast this
      have h4 : X * O = 0 := by
        have e1 : ((mg k.format.binade (rg k lo) * Y : Nat) : Int) = 0 := by rw [h3]; rfl
        rw [Int.natCast_mul] at e1
        rw [Int.neg_mul] at h1
        have : ((X * O : Nat) : Int) ≤ 0 := by rw [Int.natCast_mul]; omega
        omega
      have h5 : rungOf k (quoM k.format.fractionBits m n) (i - j - (k.format.fractionBits + 2 + n.log2 - m.log2 : Nat) - 1) ≤ 0 := key 0 (fun _ => by omega)
      have h6 : rungOf k (quoM k.format.fractionBits m n) (i - j - (k.format.fractionBits + 2 + n.log2 - m.log2 : Nat) - 1) = 0 := by omega
      rw [h6, mg_zero hB]
      have h7 : mg k.format.binade (rg k lo) = 0 := by
        rcases Nat.mul_eq_zero.1 h3 with h | h
        · exact h
        · omega
      omega
    · have h3 : X * O ≤ mg k.format.binade (rg k lo) * Y := by
        rw [Int.neg_mul, Int.neg_mul] at h1
        have := Int.neg_le_neg_iff.1 h1
        exact_mod_cast this
      have := mg_le hB (key _ fun _ => h3)
      omega
  have z2 : sval k (k.format.nearest s (quoM k.format.fractionBits m n) (i - j - (k.format.fractionBits + 2 + n.log2 - m.log2 : Nat) - 1)) ≤ sval k hi := by
    rw [sval_nearest]
    unfold sval at h2 ⊢
    cases s <;> cases hs : sg k hi <;> simp only [hs, if_true, if_false, Bool.false_eq_true] at h2 ⊢
    · have := mg_le hB (key (rg k hi) fun _ => by exact_mod_cast h2)
      omega
    · have e1 : (0 : Int) ≤ (mg k.format.binade (rg k hi) : Nat) * (Y : Int) := Int.mul_nonneg (Int.natCast_nonneg _) (Int.natCast_nonneg _)
      have e2 : (0 : Int) ≤ (X : Int) * (O : Int) := Int.mul_nonneg (Int.natCast_nonneg _) (Int.natCast_nonneg _)
      rw [Int.neg_mul] at h2
      have h4 : X * O = 0 := by
        have : ((X * O : Nat) : Int) = 0 := by rw [Int.natCast_mul]; omega
        exact_mod_cast this
      have h3 : mg k.format.binade (rg k hi) * Y = 0 := by
        have : ((mg k.format.binade (rg k hi) * Y : Nat) : Int) = 0 := by rw [Int.natCast_mul]; omega
        exact_mod_cast this
      have h5 : rungOf k (quoM k.format.fractionBits m n) (i - j - (k.format.fractionBits + 2 + n.log2 - m.log2 : Nat) - 1) ≤ 0 := key 0 (fun _ => by omega)
      have h6 : rungOf k (quoM k.format.fractionBits m n) (i - j - (k.format.fractionBits + 2 + n.log2 - m.log2 : Nat) - 1) = 0 := by omega
      rw [h6, mg_zero hB]
      have h7 : mg k.format.binade (rg k hi) = 0 := by
        rcases Nat.mul_eq_zero.1 h3 with h | h
        · exact h
        · omega
      omega
    · omega
    · have h3 : mg k.format.binade (rg k hi) * Y ≤ X * O := by
        rw [Int.neg_mul, Int.neg_mul] at h2
        have := Int.neg_le_neg_iff.1 h2
        exact_mod_cast this
      have := mg_le hB (key2 _ hhi' h3)
      omega
  refine ⟨?_, z1, z2⟩
  unfold Fn at *
  rw [rg_nearest]
  refine Nat.lt_of_not_le fun hle => ?_
  have e1 := Nat.le_antisymm (rungOf_le k (quoM k.format.fractionBits m n) (i - j - (k.format.fractionBits + 2 + n.log2 - m.log2 : Nat) - 1)) hle
  rw [sval_nearest, e1] at z1 z2
  have b1 := mg_lt hB hlo
  have b2 := mg_lt hB hhi
  unfold sval at z1 z2
  cases s <;> simp only [if_true, if_false, Bool.false_eq_true] at z1 z2
  · split at z2 <;> omega
  · split at z1 <;> omega
end Go.Vx

namespace Go.Vx
open Ieee
section
variable {P : Program}
/-- The square root. -/
def fsqrt (k : FloatKind) (x : Nat) : Nat := oc k (k.format.sqrt x)
end
theorem fits_nan {y : Nat} (hy : isN .f64 y = true) : fits .f64 .f32 y = true := by
  obtain ⟨s, f, h⟩ := read_nan .f64 y hy
  unfold fits
  rw [if_neg (by decide), h]
theorem fits_inf {y : Nat} (hy : rg .f64 y = FloatKind.f64.format.infRung) : fits .f64 .f32 y = true := by
  unfold fits
  rw [if_neg (by decide), read_inf hy]
instance (k : FloatKind) (x : Nat) : Decidable (Fn k x) := inferInstanceAs (Decidable (_ < _))
/-- How many of the least units of a double one are one of a single one. -/
def wid : Int := ((2 ^ 925 : Nat) : Int)
theorem two_places : (FloatKind.f32.format.leastPlace - FloatKind.f64.format.leastPlace).toNat = 925 := by decide
/-- A number is narrowed to no more and no less than what bounds it. -/
theorem narrow_bd {y lo hi : Nat} (hy : Fn .f64 y) (hlo : Fn .f32 lo) (hhi : Fn .f32 hi) (h1 : sval .f32 lo * wid ≤ sval .f64 y) (h2 : sval .f64 y ≤ sval .f32 hi * wid) :
    fits .f64 .f32 y = true ∧ Fn .f32 (conv .f64 .f32 y) ∧ sval .f32 lo ≤ sval .f32 (conv .f64 .f32 y) ∧ sval .f32 (conv .f64 .f32 y) ≤ sval .f32 hi := by
  obtain ⟨s, m, e, e1, e2, e3⟩ := read_val hy
  have hc : conv .f64 .f32 y = FloatKind.f32.format.nearest s m e := by
    unfold conv
    rw [if_neg (by decide), e1]
    exact oc_nearest .f32 s m e
  have hb := near_fn (k := .f32) (c := FloatKind.f64.format.leastPlace) (s := s) (m := m) e2 (by decide) hlo hhi (by rw [two_places, e3]; exact h1) (by rw [two_places, e3]; exact h2)
  rw [hc]
  refine ⟨?_, hb⟩
  unfold fits
  rw [if_neg (by decide), e1]
  obtain ⟨m', e', hr, _⟩ := read_fin hb.1
  simp only [Format.write, hr, Datum.isInfinity, Bool.not_false]
/-- A number made wide. -/
theorem wide_val {x : Nat} (h : Fn .f32 x) : Fn .f64 (conv .f32 .f64 x) ∧ sval .f64 (conv .f32 .f64 x) = sval .f32 x * wid := by
  obtain ⟨r', h1, h2, h3⟩ := wide_rung (fin_rg.2 h)
  have hS := inf_lt_sign .f64
  rw [h2]
  refine ⟨by unfold Fn; rw [rg_word (by omega)]; exact h1, ?_⟩
  rw [sval_word (by omega), h3]
  unfold sval wid
  generalize 2 ^ 925 = U
  rw [Int.natCast_mul]
  cases sg .f32 x <;> simp [Int.neg_mul]
theorem rootFrom_sq (n : Nat) : ∀ (todo root : Nat), root * root ≤ n → Datum.rootFrom n todo root * Datum.rootFrom n todo root ≤ n
  | 0, root, h => h
  | todo + 1, root, h => by
    unfold Datum.rootFrom
    refine rootFrom_sq n todo _ ?_
    split
    · assumption
    · exact h
theorem mul_pow_lt {a p : Nat} (q : Nat) (h : a < 2 ^ p) : a * 2 ^ q < 2 ^ (p + q) := by rw [Nat.pow_add]; exact Nat.mul_lt_mul_of_pos_right h (Nat.two_pow_pos _)
theorem scale_le1 {a p q p' q' : Nat} (h : a * 2 ^ p ≤ 2 ^ q) (e : p + q' = p' + q) : a * 2 ^ p' ≤ 2 ^ q' := by
  have h1 : a * 2 ^ p ≤ 1 * 2 ^ q := by rw [Nat.one_mul]; exact h
  have h2 := scale_le h1 e
  rw [Nat.one_mul] at h2
  exact h2
theorem lt_of_sq {a b : Nat} (h : a * a < b * b) : a < b := Nat.lt_of_not_le fun hle => by
  have := Nat.mul_le_mul hle hle
  omega
theorem mg_top : mg FloatKind.f32.format.binade FloatKind.f32.format.infRung ≤ 2 ^ 277 := by decide +kernel
theorem v64_hi : sval .f64 4895412794951729152 = ((2 ^ 1138 : Nat) : Int) := by decide +kernel
theorem v64_lo : sval .f32 1602224128 * wid = ((2 ^ 1138 : Nat) : Int) := by decide +kernel
/-- The square root of a single number fits into a single one. -/
theorem fits_sqrt (x : Nat) : fits .f64 .f32 (fsqrt .f64 (conv .f32 .f64 x)) = true := by
  have hnone : ∀ y, FloatKind.f64.format.sqrt y = none → fits .f64 .f32 (fsqrt .f64 y) = true := fun y hy => by
    unfold fsqrt
    rw [hy, oc_none]
    exact fits_nan (isN_qnan _)
  rcases Nat.lt_trichotomy (rg .f32 x) FloatKind.f32.format.infRung with h | h | h
  · -- a finite number
    obtain ⟨r', h1, h2, h3⟩ := wide_rung (fin_rg.2 h)
    generalize hy : conv .f32 .f64 x = y at *
    have hS := inf_lt_sign .f64
    have hFn : rg .f64 y < FloatKind.f64.format.infRung := by rw [h2, rg_word (by omega)]; exact h1
    obtain ⟨m, i, e1, e2, e3⟩ := read_fin hFn
    rw [h2, rg_word (by omega)] at e3
    rw [h3] at e3
    have hL : FloatKind.f64.format.leastPlace = -1074 := rfl
    rw [hL] at e2 e3
    have hmg : mg FloatKind.f32.format.binade (rg .f32 x) < 2 ^ 277 := Nat.lt_of_lt_of_le (mg_lt (binade_pos _) h) mg_top
    have hm : m * 2 ^ (i + 1074).toNat < 2 ^ 1202 := by
      have : m * 2 ^ (i - -1074).toNat = m <<< (i - -1074).toNat := (Nat.shiftLeft_eq ..).symm
      rw [show (i + 1074).toNat = (i - -1074).toNat by omega, this, e3]
      have h8 := mul_pow_lt 925 hmg
      have h9 : (277 + 925 : Nat) = 1202 := rfl
      rw [h9] at h8
      exact h8
    by_cases hm0 : m = 0
    · have : FloatKind.f64.format.sqrt y = some (FloatKind.f64.format.word (sg .f64 y) 0) := by
        unfold Format.sqrt
        rw [e1]
        simp [Datum.root, hm0, Format.write, Format.nearest]
      unfold fsqrt
      rw [this]
      cases sg .f64 y <;> decide
    · cases hs : sg .f64 y with
      | true => exact hnone _ (by unfold Format.sqrt; rw [e1, hs]; simp [Datum.root, hm0])
      | false =>
        have hi128 : i < 128 := by
          refine Int.lt_of_not_ge fun hge => ?_
          have : 2 ^ 1202 ≤ m * 2 ^ (i + 1074).toNat := by
            calc 2 ^ 1202 ≤ 2 ^ (i + 1074).toNat := Nat.pow_le_pow_right (by omega) (by omega)
              _ ≤ _ := Nat.le_mul_of_pos_left _ (by omega)
          omega
        let more0 := 2 * (FloatKind.f64.format.fractionBits + 2) - m.log2
        let more := more0 + ((i - more0) % 2).toNat
        have hm00 : more0 ≤ 108 := by show 2 * (52 + 2) - m.log2 ≤ 108; omega
        have hmo : more ≤ 109 := by show more0 + ((i - (more0 : Int)) % 2).toNat ≤ 109; omega
        let whole := Datum.rootFrom (m <<< more) ((m <<< more).log2 / 2 + 1) 0
        have hsq : FloatKind.f64.format.sqrt y = some (FloatKind.f64.format.nearest false (2 * whole + (whole * whole != m <<< more).toNat) ((i - more) / 2 - 1)) := by
          unfold Format.sqrt
          rw [e1, hs]
          simp only [Datum.root, if_neg hm0, Bool.false_eq_true, if_false, Option.map_some, Format.write]
          rfl
        have heven : (i - (more : Int)) % 2 = 0 := by
          show (i - ((more0 + ((i - (more0 : Int)) % 2).toNat : Nat) : Int)) % 2 = 0
          omega
        have hw2 : whole * whole ≤ m <<< more := rootFrom_sq _ _ 0 (by simp)
        generalize hwh : whole = W at *
        generalize hmr : more = M at *
        obtain ⟨E, hE⟩ : ∃ E : Int, i - (M : Int) = E + E := ⟨(i - (M : Int)) / 2, by omega⟩
        have hE2 : (i - (M : Int)) / 2 = E := by omega
        rw [hE2] at hsq
        -- the root is less than 2 ^ 64
        have hw : W * 2 ^ (E + 2000).toNat < 2 ^ 2064 := by
          refine lt_of_sq ?_
          have e5 : W * 2 ^ (E + 2000).toNat * (W * 2 ^ (E + 2000).toNat) = W * W * 2 ^ (E + E + 4000).toNat := by
            rw [Nat.mul_mul_mul_comm, ← Nat.pow_add]
            congr 2
            omega
          have e6 : m <<< M * 2 ^ (E + E + 4000).toNat = m * 2 ^ (i + 1074).toNat * 2 ^ 2926 := by
            have a1 : M + (E + E + 4000).toNat = (i + 1074).toNat + 2926 := by omega
            have a2 := Nat.pow_add 2 (i + 1074).toNat 2926
            rw [Nat.shiftLeft_eq, Nat.mul_assoc, ← Nat.pow_add, a1, Nat.mul_assoc]
            exact congrArg (m * ·) a2
          have e7 : m <<< M * 2 ^ (E + E + 4000).toNat < 2 ^ (2064 + 2064) := by
            have h8 := mul_pow_lt 2926 hm
            have h9 : (1202 + 2926 : Nat) = 2064 + 2064 := rfl
            rw [h9] at h8
            rw [e6]; exact h8
          have a3 := Nat.pow_add 2 2064 2064
          rw [e5, ← a3]
          exact Nat.lt_of_le_of_lt (Nat.mul_le_mul_right _ hw2) e7
        have hK : (E + 2000).toNat ≤ 2064 := by omega
        have hw1 : (W + 1) * 2 ^ (E + 2000).toNat ≤ 2 ^ 2064 := by
          have e7 : 2 ^ 2064 = 2 ^ (2064 - (E + 2000).toNat) * 2 ^ (E + 2000).toNat := by rw [← Nat.pow_add]; congr 1; omega
          rw [e7] at hw ⊢
          have := Nat.lt_of_mul_lt_mul_right hw
          exact Nat.mul_le_mul_right _ this
        have hw3 : (W + 1) * 2 ^ (E + 1074).toNat ≤ 2 ^ 1138 := scale_le1 (a := W + 1) (p := (E + 2000).toNat) (q := 2064) (p' := (E + 1074).toNat) (q' := 1138) hw1 (by omega)
        have hz : (2 * W + (W * W != m <<< M).toNat) * 2 ^ (E - 1 + 1074).toNat ≤ 2 ^ 1138 := by
          have hb : (W * W != m <<< M).toNat ≤ 1 := Bool.toNat_le _
          calc _ ≤ (2 * (W + 1)) * 2 ^ (E - 1 + 1074).toNat := Nat.mul_le_mul_right _ (by omega)
            _ = (W + 1) * 2 ^ (E + 1074).toNat := by
              rw [show (E + 1074).toNat = (E - 1 + 1074).toNat + 1 by omega, Nat.pow_succ, Nat.mul_comm 2, Nat.mul_assoc, Nat.mul_comm 2]
            _ ≤ _ := hw3
        have hb := near_fn (k := .f64) (s := false) (m := 2 * W + (W * W != m <<< M).toNat) (e := E - 1) (c := -1074) (lo := 0) (hi := 4895412794951729152) (by omega) (by rw [hL]; omega) (by decide) (by decide)
          (by rw [signed_eq, show sval .f64 0 = 0 from rfl, Int.zero_mul]; exact Int.natCast_nonneg _)
          (by
            rw [signed_eq, v64_hi, hL]
            rw [show ((-1074 : Int) - -1074).toNat = 0 from rfl, Nat.pow_zero, Int.natCast_one, Int.mul_one, if_neg (by decide), show (E - 1 - -1074).toNat = (E - 1 + 1074).toNat by omega]
            exact Int.ofNat_le.2 hz)
        unfold fsqrt
        rw [hsq, oc_nearest]
        exact (narrow_bd (lo := 0) (hi := 1602224128) hb.1 (by decide) (by decide) (by rw [show sval .f32 0 = 0 from rfl, Int.zero_mul]; exact hb.2.1) (by rw [v64_lo, ← v64_hi]; exact hb.2.2)).1
  · have hc : conv .f32 .f64 x = FloatKind.f64.format.word (sg .f32 x) FloatKind.f64.format.infRung := by
      unfold conv
      rw [if_neg (by decide), read_inf h]
      cases sg .f32 x <;> decide
    rw [hc]
    cases sg .f32 x
    · exact fits_inf (by decide)
    · exact hnone _ (by decide)
  · have hn : isN .f64 (conv .f32 .f64 x) = true := by rw [isN_conv, notN_rg]; simpa using h
    exact hnone _ (by
      obtain ⟨s, f, h1⟩ := read_nan .f64 _ hn
      unfold Format.sqrt; rw [h1]; rfl)
end Go.Vx

namespace Go.Vx
section
variable {P : Program} {F' : Frm} {w0 w : World} {H : List HFact} {n : Nat}
end

section
variable {P : Program} {F' : Frm} {w0 w : World} {H : List HFact} {n : Nat}
/-- Two facts on what is new. -/
theorem fresh_two (i j : Nat) {f g : HFact} (hi : H[i]? = some f) (hj : H[j]? = some g) (hij : Nat.beq i j = false) (o1 : f.isOwn = true) (o2 : g.isOwn = true) (h : HInv w0 (fun _ => False) H w) : Fresh w0 w [f, g] := by
  have h1 := fresh_at i hi o1 h
  have h2 := fresh_at j hj o2 h
  refine ⟨fun x hx => ?_, .cons (fun y hy => ?_) (.cons (fun _ h => (by cases h)) .nil)⟩
  · rcases mem2 hx with rfl | rfl
    · exact h1.1 _ (.head _)
    · exact h2.1 _ (.head _)
  · rw [List.mem_singleton] at hy
    subst hy
    exact h.offAt hi hj fun e => by subst e; simp at hij
/-- Two lists in a struct, and whether there are. -/
def str2V (B : Bool) (N M : Nat) : (Option Addr × Nat) × (Option Addr × Nat) → Value := fun s => .tuple #[.agg #[.slice s.1.1 (bif B then N else 0) s.1.2, .slice s.2.1 (bif B then M else 0) s.2.2], .bool B]
def str2K (E : TypeId) (B : Bool) (N M : Nat) (g h : Nat → Nat) : (Option Addr × Nat) × (Option Addr × Nat) → List HFact := fun s => [.vec E s.1.1 s.1.2 (tab (bif B then N else 0) g), .vec E s.2.1 s.2.2 (tab (bif B then M else 0) h)]
theorem fresh_nilrows {e : TypeId} : Fresh w0 w [.vec e none 0 [], .vec e none 0 []] :=
  ⟨fun f hf => (by rcases mem2 hf with rfl | rfl <;> exact fresh_nilrow.1 _ (.head _)), .cons (fun y hy => by rw [List.mem_singleton] at hy; subst hy; intro _ k hk; cases hk) (.cons (fun _ h => (by cases h)) .nil)⟩
theorem retW_no (i : Nat) {fn : Func} {p u : Tmp} {T T' : TypeId} {d : TypeDesc} {b : Nat} {E : TypeId} {B : Bool} {N M : Nat} {g h : Nat → Nat} (hr : fn.results = #[.cell p T, .tmp u]) (hp : Frm.get F' p = some (true, .pointer (some ⟨b, 0, none⟩)))
    (hi : H[i]? = some (.box b T' [.slice none 0 0, .slice none 0 0])) (hu : Frm.get F' u = some (true, .bool false)) (hT : P.underlying T = some d) (hd : aggT d = true) (hs : (P.info? T).map (·.size) = some 2) (hB : B = false) :
    JQ n w0 (fun _ => False) .ret F' H (bodyPost P fn (EndsM (str2V B N M) (str2K E B N M g h) w0)) := by
  subst hB
  exact jq_retMM ((none, 0), (none, 0)) (.inl rfl) hr (ret_cell hp hi hT hd hs (ret_tmp hu rfl ret_nil)) rfl rfl (fun w h => fresh_nilrows)
theorem retW_yes (i j1 j2 : Nat) {fn : Func} {p u : Tmp} {T T' : TypeId} {d : TypeDesc} {b : Nat} {E : TypeId} {A1 A2 : Option Addr} {c1 c2 : Nat} {bb B : Bool} {N M : Nat} {g h : Nat → Nat} {cs1 cs2 : List Value} (hr : fn.results = #[.cell p T, .tmp u]) (hp : Frm.get F' p = some (true, .pointer (some ⟨b, 0, none⟩)))
    (hi : H[i]? = some (.box b T' [.slice (bif bb then A1 else none) (bif bb then N else 0) (bif bb then c1 else 0), .slice (bif bb then A2 else none) (bif bb then M else 0) (bif bb then c2 else 0)])) (hu : Frm.get F' u = some (true, .bool bb)) (hT : P.underlying T = some d) (hd : aggT d = true) (hs : (P.info? T).map (·.size) = some 2)
    (h1 : H[j1]? = some (.vec E A1 c1 cs1)) (h2 : H[j2]? = some (.vec E A2 c2 cs2)) (hj : Nat.beq j1 j2 = false) (e1 : cs1 = tab N g) (e2 : cs2 = tab M h) (hB : B = bb) :
    JQ n w0 (fun _ => False) .ret F' H (bodyPost P fn (EndsM (str2V B N M) (str2K E B N M g h) w0)) := by
  subst hB e1 e2
  refine jq_retMM ((bif B then A1 else none, bif B then c1 else 0), (bif B then A2 else none, bif B then c2 else 0)) (.inl rfl) hr (ret_cell hp hi hT hd hs (ret_tmp hu rfl ret_nil)) rfl rfl (fun w hh => ?_)
  cases B
  · exact fresh_nilrows
  · exact fresh_two j1 j2 h1 h2 hj rfl rfl hh
theorem retW_true (i j1 j2 : Nat) {fn : Func} {p u : Tmp} {T T' : TypeId} {d : TypeDesc} {b : Nat} {E : TypeId} {A1 A2 : Option Addr} {c1 c2 : Nat} {B : Bool} {N M : Nat} {g h : Nat → Nat} {cs1 cs2 : List Value} (hr : fn.results = #[.cell p T, .tmp u]) (hp : Frm.get F' p = some (true, .pointer (some ⟨b, 0, none⟩)))
    (hi : H[i]? = some (.box b T' [.slice A1 N c1, .slice A2 M c2])) (hu : Frm.get F' u = some (true, .bool true)) (hT : P.underlying T = some d) (hd : aggT d = true) (hs : (P.info? T).map (·.size) = some 2)
    (h1 : H[j1]? = some (.vec E A1 c1 cs1)) (h2 : H[j2]? = some (.vec E A2 c2 cs2)) (hj : Nat.beq j1 j2 = false) (e1 : cs1 = tab N g) (e2 : cs2 = tab M h) (hB : B = true) :
    JQ n w0 (fun _ => False) .ret F' H (bodyPost P fn (EndsM (str2V B N M) (str2K E B N M g h) w0)) :=
  retW_yes i j1 j2 (bb := true) hr hp hi hu hT hd hs h1 h2 hj e1 e2 hB
end

section
variable {P : Program} {F' : Frm} {w0 w : World} {old : Nat → Prop} {H : List HFact} {n : Nat} {Q : Exit → Act → World → Prop} {x : Code}
/-- A row behind another fact whose cells have all been set. -/
theorem j_part1 {f : HFact} {e : TypeId} {A : Option Addr} {cap N i : Nat} {g h : Nat → Nat} (hi : i = N) (k : J P n w0 old x F' (f :: .vec e A cap (tab N g) :: H) Q) : J P n w0 old x F' (f :: .vec e A cap (part N i g h) :: H) Q := by
  subst hi
  rw [part_all]
  exact k
end

end Go.Vx

namespace Go.Vx
/-! ### Tubes -/
def areasB (N : Nat) (g : Nat → Nat) : Bool := iin (N : Int) 1 16 && allB N (fun j => above (g j))
def endB (x : Nat) : Bool := btw x 3212836864 1065353216
def tubeB (N : Nat) (g : Nat → Nat) (l t p : Nat) : Bool := (((areasB N g && fcmp .gtr .f32 l 0) && fcmp .leq .f32 l 1065353216) && endB t) && endB p
theorem leq_gtr {x : Nat} (h : fin x = true) : fcmp .leq .f32 x 0 = !fcmp .gtr .f32 x 0 := by
  have h0 : rg .f32 0 < FloatKind.f32.format.infRung := by decide
  have := order_sval (k := .f32) (fin_rg.1 h) h0
  unfold fcmp
  rw [this]
  cases compare (sval .f32 x) (sval .f32 0) <;> rfl
theorem above_of {x : Nat} (h : (!fin x || fcmp .leq .f32 x 0) = false) : above x = true := by
  simp only [Bool.or_eq_false_iff, Bool.not_eq_false'] at h
  have := h.2
  rw [leq_gtr h.1] at this
  simp only [Bool.not_eq_false'] at this
  simp [above, h.1, this]
theorem above_not {x : Nat} (h : (!fin x || fcmp .leq .f32 x 0) = true) : above x = false := by
  cases hf : fin x
  · simp [above, hf]
  · rw [hf, leq_gtr hf] at h
    simp only [Bool.not_true, Bool.false_or, Bool.not_eq_true'] at h
    simp [above, h]
theorem tube_len {N l t p : Nat} {g : Nat → Nat} (h : (!tubeB N g l t p) = false) : 1 ≤ N ∧ N ≤ 16 := by
  simp only [Bool.not_eq_false', tubeB, areasB, Bool.and_eq_true, iin, decide_eq_true_eq] at h
  omega
theorem tube_no1 {N l t p : Nat} {g : Nat → Nat} (h : (!iin (N : Int) 1 16) = true) : false = tubeB N g l t p := by
  simp only [Bool.not_eq_true'] at h
  simp [tubeB, areasB, h]
theorem tube_no2 {N i l t p : Nat} {g : Nat → Nat} (hi : i < N) (h : above (g i) = false) : false = tubeB N g l t p := by
  unfold tubeB areasB
  rw [allB_false hi h]
  simp
theorem tube_yes {N l t p : Nat} {g : Nat → Nat} (h : (!iin (N : Int) 1 16) = false) (hi : ∀ j, j < N → above (g j) = true) : (((fcmp .gtr .f32 l 0 && fcmp .leq .f32 l 1065353216) && btw t 3212836864 1065353216) && btw p 3212836864 1065353216) = tubeB N g l t p := by
  simp only [Bool.not_eq_false'] at h
  unfold tubeB areasB
  rw [allB_true.2 hi, h]
  simp [endB]
/-- Waves of a tube. -/
def wavesB (N : Nat) (g : Nat → Nat) (l t p R : Nat) (r : Nat → Nat) (M : Nat) (q : Nat → Nat) : Bool := (((tubeB N g l t p && icmp .eql (R : Int) (N : Int)) && icmp .eql (M : Int) (N : Int)) && allB R (fun j => fin (r j))) && allB M (fun j => fin (q j))
theorem waves_len {N l t p R M : Nat} {g r q : Nat → Nat} (h : (!wavesB N g l t p R r M q) = false) : (1 ≤ N ∧ N ≤ 16) ∧ R = N ∧ M = N := by
  simp only [Bool.not_eq_false', wavesB, Bool.and_eq_true] at h
  have h1 := tube_len (N := N) (l := l) (t := t) (p := p) (g := g) (by rw [h.1.1.1.1]; rfl)
  have h2 := h.1.1.1.2
  have h3 := h.1.1.2
  simp [icmp] at h2 h3
  omega
/-- The energy of waves. -/
def enS (g r q : Nat → Nat) (i : Nat) : Nat := fold i 0 fun j s => farith .add .f32 s (farith .mul .f32 (g j) (farith .add .f32 (farith .mul .f32 (r j) (r j)) (farith .mul .f32 (q j) (q j))))
theorem waves2_no {a b d : Bool} (h : (!a || !b) = true) : ((a && b) && d) = false := by cases a <;> cases b <;> simp_all
theorem waves2_yes {a b d e : Bool} (h : (!a || !b) = false) (hd : d = e) : ((a && b) && d) = e := by cases a <;> cases b <;> simp_all
theorem waves2_len {N l t p R M R2 M2 : Nat} {g r q r2 q2 : Nat → Nat} (h : (!wavesB N g l t p R r M q || !wavesB N g l t p R2 r2 M2 q2) = false) : (1 ≤ N ∧ N ≤ 16) ∧ R = N ∧ M = N ∧ R2 = N ∧ M2 = N := by
  obtain ⟨h1, h2⟩ := Bool.or_eq_false_iff.1 h
  have a := waves_len h1
  have b := waves_len h2
  omega
end Go.Vx
