/- What the functions compute, in plain words, and the plain laws on floats. -/
import Derived.Test.YteddfolpmmimiaaVz
namespace Go.Vx

/-! ### What the functions compute, told in plain words -/
def fin (x : Nat) : Bool := fcmp .eql .f32 (fsub .f32 x x) 0
def btw (x lo hi : Nat) : Bool := fcmp .geq .f32 x lo && fcmp .leq .f32 x hi
def iin (n lo hi : Int) : Bool := decide (n ≥ lo) && decide (n ≤ hi)
def phase (x : Nat) : Bool := fcmp .geq .f32 x 0 && fcmp .lss .f32 x 1065353216
def above (x : Nat) : Bool := fin x && fcmp .gtr .f32 x 0
def least (x : Nat) : Bool := fin x && fcmp .geq .f32 x 0
def throatI (p o c b s : Nat) : Bool :=
  (((((btw p 1073741824 1148846080 && fcmp .gtr .f32 o 0) && fcmp .gtr .f32 c 0) && fcmp .leq .f32 (fadd .f32 o c) 1065353216) && fin b) && fcmp .geq .f32 b 0) && btw s 0 1056964608
def throatS (p o c b s : Nat) : Bool :=
  ((((((fcmp .geq .f32 p 1073741824 && fcmp .leq .f32 p 1148846080) && above o) && above c) && fcmp .leq .f32 (fadd .f32 o c) 1065353216) && least b) && fcmp .geq .f32 s 0) && fcmp .leq .f32 s 1056964608
def voiceV (p n : Nat) (s : Int) : Bool := ((phase p && fin n) && fcmp .geq .f32 n 1065353216) && iin s 0 2147483647
def bitsOf (x : Nat) : Int := if fcmp .neq .f32 x x = true then 2143289344 else IntKind.i64.wrap (x : Int)
def sameS (a b : Nat) : Bool := bitsOf a == bitsOf b
def signb (x : Nat) : Bool := decide (IntKind.i64.wrap (x : Int) < 0)
def sameN (a b : Nat) : Bool :=
  if (fcmp .neq .f32 a a || fcmp .neq .f32 b b) = true then fcmp .neq .f32 a a && fcmp .neq .f32 b b
  else fcmp .eql .f32 a b && (signb (conv .f32 .f64 a) == signb (conv .f32 .f64 b))
def sameF (a b : Nat) : Bool :=
  if (fcmp .neq .f64 a a || fcmp .neq .f64 b b) = true then fcmp .neq .f64 a a && fcmp .neq .f64 b b
  else if (fcmp .eql .f64 a 0 && fcmp .eql .f64 b 0) = true then fcmp .gtr .f64 (fdiv .f64 4607182418800017408 a) 0 == fcmp .gtr .f64 (fdiv .f64 4607182418800017408 b) 0
  else fcmp .eql .f64 a b
def F (x : Nat) : Value := .float .f32 x
def throatC (p o c b s : Nat) : List Value := [.float .f32 p, .float .f32 o, .float .f32 c, .float .f32 b, .float .f32 s]
def voiceC (p n : Nat) (s : Int) : List Value := [.float .f32 p, .float .f32 n, .int .i64 s]
def newVal (v : Bool) (p : Nat) (s : Int) : Value := .tuple #[.agg (voiceC 0 (bif v then p else 0) (bif v then s else 0)).toArray, .bool v]
end Go.Vx

namespace Go.Vx

/-- The datum of a 32-bit number. -/
abbrev rd (x : Nat) : Ieee.Datum := FloatKind.f32.format.read x

theorem nan_iff (k : FloatKind) (x : Nat) : isN k x = true ↔ ∃ s f, k.format.read x = .nan s f := by
  constructor
  · exact read_nan k x
  · rintro ⟨s, f, h⟩
    by_cases hn : isN k x = true
    · exact hn
    · have := read_num k x (by simpa using hn)
      rw [h] at this
      cases this

theorem order_qnan_l (k : FloatKind) (y : Nat) : k.format.order (qnan k) y = none := order_nan_l (isN_qnan k)
theorem order_qnan_r (k : FloatKind) (y : Nat) : k.format.order y (qnan k) = none := order_nan_r (isN_qnan k)

theorem sum_opp (s : Bool) (m : Nat) (e : Int) : (Ieee.Datum.number s m e).sum (Ieee.Datum.number s m e).opposite = some (.number false 0 e) := by
  simp only [Ieee.Datum.opposite, Ieee.Datum.sum, Int.min_self, Int.sub_self, Int.toNat_zero]
  cases s
  · have h : (m : Int) + -(m : Int) = 0 := by omega
    simp [Ieee.signed, h]
  · have h : -(m : Int) + (m : Int) = 0 := by omega
    simp [Ieee.signed, h]

theorem fin_num {x : Nat} {s : Bool} {m : Nat} {e : Int} (h : rd x = .number s m e) : fin x = true := by
  have h0 : fsub .f32 x x = 0 := by
    unfold fsub Ieee.Format.sub
    rw [show FloatKind.f32.format.read x = _ from h, sum_opp]
    rfl
  unfold fin
  rw [h0]
  rfl
theorem fin_inf {x : Nat} {s : Bool} (h : rd x = .infinity s) : fin x = false := by
  have h0 : fsub .f32 x x = qnan .f32 := by
    unfold fsub Ieee.Format.sub
    rw [show FloatKind.f32.format.read x = _ from h]
    cases s <;> rfl
  unfold fin fcmp
  rw [h0, order_qnan_l]
  rfl
theorem fin_nan {x : Nat} (h : isN .f32 x = true) : fin x = false := by
  have h0 : fsub .f32 x x = qnan .f32 := by
    unfold fsub
    rw [sub_nan_l h, oc_none]
  unfold fin fcmp
  rw [h0, order_qnan_l]
  rfl
theorem fin_iff (x : Nat) : fin x = true ↔ ∃ s m e, rd x = .number s m e := by
  constructor
  · intro h
    cases hr : rd x with
    | number s m e => exact ⟨s, m, e, rfl⟩
    | infinity s => rw [fin_inf hr] at h; cases h
    | nan s f => rw [fin_nan ((nan_iff .f32 x).2 ⟨s, f, hr⟩)] at h; cases h
  · rintro ⟨s, m, e, h⟩
    exact fin_num h

/-- A number greater than 0 is a finite one, or infinity. -/
theorem gt0_cases {x : Nat} (h : fcmp .gtr .f32 x 0 = true) : (∃ m e, rd x = .number false m e) ∨ rd x = .infinity false := by
  unfold fcmp at h
  simp only [Ieee.Format.order] at h
  have h0 : FloatKind.f32.format.read 0 = .number false 0 (-149) := rfl
  rw [h0] at h
  cases hr : rd x with
  | number s m e =>
    left
    rw [show FloatKind.f32.format.read x = _ from hr] at h
    cases s with
    | false => exact ⟨m, e, rfl⟩
    | true =>
      exfalso
      simp only [Ieee.Datum.order, Ieee.signed, beq_iff_eq, Option.some.injEq] at h
      rw [Int.compare_eq_gt] at h
      simp only [Nat.zero_shiftLeft, if_true, Bool.false_eq_true, if_false] at h
      generalize m <<< (e - min e (-149)).toNat = q at h
      omega
  | infinity s =>
    right
    rw [show FloatKind.f32.format.read x = _ from hr] at h
    cases s with
    | false => rfl
    | true => exfalso; simp [Ieee.Datum.order] at h
  | nan s f =>
    exfalso
    rw [show FloatKind.f32.format.read x = _ from hr] at h
    simp [Ieee.Datum.order] at h

theorem inf_not_leq (y : Nat) (h : fcmp .leq .f32 (oc .f32 (some (FloatKind.f32.format.write (.infinity false)))) y = true) (hy : ∃ s m e, rd y = .number s m e) : False := by
  obtain ⟨s, m, e, hy⟩ := hy
  have e1 : oc .f32 (some (FloatKind.f32.format.write (.infinity false))) = 2139095040 := rfl
  rw [e1] at h
  unfold fcmp Ieee.Format.order at h
  rw [show FloatKind.f32.format.read y = _ from hy, show FloatKind.f32.format.read 2139095040 = .infinity false from rfl] at h
  simp [Ieee.Datum.order] at h

theorem throat_same (p o c b s : Nat) : throatI p o c b s = throatS p o c b s := by
  have key : fcmp .gtr .f32 o 0 = true → fcmp .gtr .f32 c 0 = true → fcmp .leq .f32 (fadd .f32 o c) 1065353216 = true → fin o = true ∧ fin c = true := by
    intro ho hc hs
    have h1 : ∃ s m e, rd 1065353216 = .number s m e := ⟨_, _, _, rfl⟩
    have hadd : fadd .f32 o c = oc .f32 (((rd o).sum (rd c)).map FloatKind.f32.format.write) := rfl
    rcases gt0_cases ho with ⟨m, e, ro⟩ | ro <;> rcases gt0_cases hc with ⟨m', e', rc⟩ | rc
    · exact ⟨fin_num ro, fin_num rc⟩
    · exfalso; rw [hadd, ro, rc] at hs; exact inf_not_leq _ hs h1
    · exfalso; rw [hadd, ro, rc] at hs; exact inf_not_leq _ hs h1
    · exfalso; rw [hadd, ro, rc] at hs; exact inf_not_leq _ hs h1
  unfold throatI throatS above least btw
  generalize fcmp .geq .f32 p 1073741824 = a1
  generalize fcmp .leq .f32 p 1148846080 = a2
  generalize fcmp .gtr .f32 o 0 = a3 at *
  generalize fcmp .gtr .f32 c 0 = a4 at *
  generalize fcmp .leq .f32 (fadd .f32 o c) 1065353216 = a5 at *
  generalize fin o = a6 at *
  generalize fin c = a7 at *
  generalize fin b = a8
  generalize fcmp .geq .f32 b 0 = a9
  generalize fcmp .geq .f32 s 0 = a10
  generalize fcmp .leq .f32 s 1056964608 = a11
  revert key
  cases a1 <;> cases a2 <;> cases a3 <;> cases a4 <;> cases a5 <;> simp <;> (intro h1 h2; subst h1 h2; simp [Bool.and_assoc])
end Go.Vx

namespace Go.Vx
/-- A 32-bit number's bits, of which a not-a-number has told ones. -/
def Can (x : Nat) : Prop := x < 4294967296 ∧ cn .f32 x = x
theorem can_cn {b : Nat} (h : b < 4294967296) : Can (cn .f32 b) := by
  refine ⟨?_, cn_cn _ _⟩
  rw [cn_eq]
  split
  · decide
  · exact h

/-! ### What is no not-a-number -/
theorem notN_self {k : FloatKind} {x : Nat} (h : fcmp .neq k x x = false) : isN k x = false := by
  by_cases hn : isN k x = true
  · simp [fcmp, order_nan_l hn] at h
  · simpa using hn
theorem notN_l {k : FloatKind} {x y : Nat} (h : (fcmp .neq k x x || fcmp .neq k y y) = false) : isN k x = false := notN_self ((Bool.or_eq_false_iff.1 h).1)
theorem notN_r {k : FloatKind} {x y : Nat} (h : (fcmp .neq k x x || fcmp .neq k y y) = false) : isN k y = false := notN_self ((Bool.or_eq_false_iff.1 h).2)
theorem neq_self_nan {k : FloatKind} {x : Nat} (h : isN k x = true) : fcmp .neq k x x = true := by simp [fcmp, order_nan_l h]

theorem order_self_num {d : Ieee.Datum} (h : d.isNaN = false) : d.order d = some .eq := by
  cases d with
  | nan s f => cases h
  | infinity s => cases s <;> simp [Ieee.Datum.order]
  | number s m e => simp [Ieee.Datum.order]
theorem neq_self_num {k : FloatKind} {x : Nat} (h : isN k x = false) : fcmp .neq k x x = false := by
  unfold fcmp Ieee.Format.order
  rw [order_self_num (read_num k x h)]
  rfl
theorem neq_self (k : FloatKind) (x : Nat) : fcmp .neq k x x = isN k x := by
  cases h : isN k x
  · exact neq_self_num h
  · exact neq_self_nan h

theorem notN_word {k : FloatKind} {s : Bool} {r : Nat} (h : r ≤ k.format.infRung) : isN k (k.format.word s r) = false := by
  unfold Ieee.Format.word
  cases k
  · have h1 : FloatKind.f32.format.signWeight = 2147483648 := rfl
    have h3 : FloatKind.f32.format.infRung = 2139095040 := rfl
    rw [h3] at h
    simp only [isN, h1, decide_eq_false_iff_not]
    split <;> omega
  · have h1 : FloatKind.f64.format.signWeight = 9223372036854775808 := rfl
    have h3 : FloatKind.f64.format.infRung = 9218868437227405312 := rfl
    rw [h3] at h
    simp only [isN, h1, decide_eq_false_iff_not]
    split <;> omega
theorem notN_write {k : FloatKind} {d : Ieee.Datum} (h : d.isNaN = false) : isN k (k.format.write d) = false := by
  cases d with
  | nan s f => cases h
  | infinity s => exact notN_word (Nat.le_refl _)
  | number s m e =>
    simp only [Ieee.Format.write, Ieee.Format.nearest]
    split
    · exact notN_word (Nat.zero_le _)
    · exact notN_word (Nat.min_le_right _ _)
theorem notN_conv {s d : FloatKind} {x : Nat} (h : isN s x = false) : isN d (conv s d x) = false := by
  unfold conv
  by_cases e : s = d
  · subst e; rw [if_pos rfl]; exact h
  · rw [if_neg e]
    have := read_num s x h
    cases hr : s.format.read x with
    | nan b f => rw [hr] at this; cases this
    | infinity b => simp only [isN_cn]; exact notN_write rfl
    | number b m p => simp only [isN_cn]; exact notN_write rfl
theorem isN_conv (s d : FloatKind) (x : Nat) : isN d (conv s d x) = isN s x := by
  cases h : isN s x
  · exact notN_conv h
  · unfold conv
    by_cases e : s = d
    · subst e; rw [if_pos rfl]; exact h
    · rw [if_neg e]
      obtain ⟨b, f, h1⟩ := read_nan s x h
      rw [h1]
      exact isN_qnan d

/-! ### The same number as itself -/
theorem feq_self {k : FloatKind} {x : Nat} (h : isN k x = false) : fcmp .eql k x x = true := by
  unfold fcmp Ieee.Format.order
  rw [order_self_num (read_num k x h)]
  rfl
theorem sameF_self (x : Nat) : sameF x x = true := by
  unfold sameF
  rw [neq_self, Bool.or_self, Bool.and_self]
  split
  · assumption
  · rename_i h
    split
    · simp
    · exact feq_self (by simpa using h)
end Go.Vx

namespace Go.Vx
open Ieee

/-! ### Rungs and what they stand for -/
/-- What a rung stands for, counted in the format's least units. -/
def mg (B r : Nat) : Nat := if r < B then r else (B + r % B) <<< (r / B - 1)

theorem mg_lt {B : Nat} (hB : 0 < B) {r t : Nat} (h : r < t) : mg B r < mg B t := by
  unfold mg
  by_cases h1 : r < B
  · by_cases h2 : t < B
    · simp [h1, h2, h]
    · simp only [h1, h2, if_true, if_false, Nat.shiftLeft_eq]
      have : B + t % B ≤ (B + t % B) * 2 ^ (t / B - 1) := Nat.le_mul_of_pos_right _ (Nat.two_pow_pos _)
      omega
  · have h2 : ¬ t < B := by omega
    simp only [h1, h2, if_false, Nat.shiftLeft_eq]
    have hr := Nat.mod_lt r hB
    have ht := Nat.mod_lt t hB
    have er := Nat.div_add_mod r B
    have et := Nat.div_add_mod t B
    have hr1 : 1 ≤ r / B := (Nat.one_le_div_iff hB).2 (by omega)
    have hle : r / B ≤ t / B := Nat.div_le_div_right (by omega)
    rcases Nat.eq_or_lt_of_le hle with e | hlt
    · rw [e]
      refine Nat.mul_lt_mul_of_pos_right ?_ (Nat.two_pow_pos _)
      rw [e] at er
      omega
    · have e2 : t / B - 1 = (r / B - 1) + 1 + (t / B - r / B - 1) := by omega
      rw [e2, Nat.pow_add, Nat.pow_add]
      have hp := Nat.two_pow_pos (r / B - 1)
      have hq := Nat.two_pow_pos (t / B - r / B - 1)
      calc (B + r % B) * 2 ^ (r / B - 1) < (B + B) * 2 ^ (r / B - 1) := Nat.mul_lt_mul_of_pos_right (by omega) hp
        _ = B * (2 ^ (r / B - 1) * 2 ^ 1) := by rw [Nat.pow_one, ← Nat.two_mul, Nat.mul_comm 2 B, Nat.mul_assoc, Nat.mul_comm 2]
        _ ≤ (B + t % B) * (2 ^ (r / B - 1) * 2 ^ 1) := Nat.mul_le_mul_right _ (by omega)
        _ ≤ (B + t % B) * (2 ^ (r / B - 1) * 2 ^ 1 * 2 ^ (t / B - r / B - 1)) := Nat.mul_le_mul_left _ (Nat.le_mul_of_pos_right _ hq)
theorem mg_inj {B : Nat} (hB : 0 < B) {r t : Nat} (h : mg B r = mg B t) : r = t := by
  rcases Nat.lt_trichotomy r t with h1 | h1 | h1
  · have := mg_lt hB h1; omega
  · exact h1
  · have := mg_lt hB h1; omega
theorem mg_le {B : Nat} (hB : 0 < B) {r t : Nat} (h : r ≤ t) : mg B r ≤ mg B t := by
  rcases Nat.eq_or_lt_of_le h with e | h1
  · rw [e]; exact Nat.le_refl _
  · exact Nat.le_of_lt (mg_lt hB h1)
theorem mg_zero {B : Nat} (hB : 0 < B) : mg B 0 = 0 := by simp [mg, hB]

theorem binade_pos (f : Format) : 0 < f.binade := Nat.two_pow_pos _

/-- The sign and the rung of a word. -/
def sg (k : FloatKind) (x : Nat) : Bool := x / k.format.signWeight % 2 == 1
def rg (k : FloatKind) (x : Nat) : Nat := x % k.format.signWeight

theorem read_fin {k : FloatKind} {x : Nat} (h : rg k x < k.format.infRung) : ∃ m e, k.format.read x = .number (sg k x) m e ∧ k.format.leastPlace ≤ e ∧ m <<< (e - k.format.leastPlace).toNat = mg k.format.binade (rg k x) := by
  unfold Format.read
  simp only [rg, sg] at *
  by_cases h1 : x % k.format.signWeight < k.format.binade
  · rw [if_pos h1]
    refine ⟨_, _, rfl, Int.le_refl _, ?_⟩
    simp [mg, h1]
  · rw [if_neg h1, if_pos h]
    refine ⟨_, _, rfl, by omega, ?_⟩
    simp only [mg, if_neg h1]
    congr 1
    omega
theorem read_inf {k : FloatKind} {x : Nat} (h : rg k x = k.format.infRung) : k.format.read x = .infinity (sg k x) := by
  unfold Format.read
  simp only [rg, sg] at *
  have hb : k.format.binade ≤ k.format.infRung := by cases k <;> decide
  rw [if_neg (by omega), if_neg (by omega), if_pos h]
theorem notN_rg {k : FloatKind} {x : Nat} : isN k x = decide (k.format.infRung < rg k x) := by cases k <;> rfl

/-- The value of a finite number, in the format's least units. -/
def sval (k : FloatKind) (x : Nat) : Int := if sg k x then -(mg k.format.binade (rg k x) : Nat) else (mg k.format.binade (rg k x) : Nat)

theorem signed_shift (s : Bool) (m a b : Nat) : signed s m (a + b) = signed s m a * (2 ^ b : Nat) := by
  unfold signed
  cases s <;> simp [Nat.shiftLeft_eq, Int.neg_mul, Int.pow_add, Int.mul_assoc]
theorem compare_mul {a b : Int} {c : Nat} (hc : 0 < c) : compare (a * c) (b * c) = compare a b := by
  have hc' : (0 : Int) < c := by omega
  rcases Int.lt_trichotomy a b with h | h | h
  · rw [Int.compare_eq_lt.2 h, Int.compare_eq_lt.2 (Int.mul_lt_mul_of_pos_right h hc')]
  · subst h; simp
  · rw [Int.compare_eq_gt.2 h, Int.compare_eq_gt.2 (Int.mul_lt_mul_of_pos_right h hc')]

/-- Finite numbers stand to each other as their values do. -/
theorem order_sval {k : FloatKind} {x y : Nat} (hx : rg k x < k.format.infRung) (hy : rg k y < k.format.infRung) : k.format.order x y = some (compare (sval k x) (sval k y)) := by
  obtain ⟨m, e, h1, h2, h3⟩ := read_fin hx
  obtain ⟨n, j, g1, g2, g3⟩ := read_fin hy
  unfold Format.order
  rw [h1, g1]
  simp only [Datum.order, Option.some.injEq]
  generalize hL : k.format.leastPlace = L at *
  have hm : L ≤ min e j := by omega
  have e1 : sval k x = signed (sg k x) m ((e - min e j).toNat + (min e j - L).toNat) := by
    rw [show (e - min e j).toNat + (min e j - L).toNat = (e - L).toNat by omega]
    unfold signed sval
    rw [← h3]
  have e2 : sval k y = signed (sg k y) n ((j - min e j).toNat + (min e j - L).toNat) := by
    rw [show (j - min e j).toNat + (min e j - L).toNat = (j - L).toNat by omega]
    unfold signed sval
    rw [← g3]
  rw [e1, e2, signed_shift, signed_shift, compare_mul (Nat.two_pow_pos _)]

theorem word_parts {k : FloatKind} {x : Nat} (h : x < 2 ^ k.format.width) : x = k.format.word (sg k x) (rg k x) := by
  have hw : 2 ^ k.format.width = 2 * k.format.signWeight := by cases k <;> rfl
  have hd := Nat.div_add_mod x k.format.signWeight
  have hs : 0 < k.format.signWeight := by cases k <;> decide
  have hq : x / k.format.signWeight < 2 := by rw [Nat.div_lt_iff_lt_mul hs]; omega
  unfold Format.word sg rg
  have : x / k.format.signWeight = 0 ∨ x / k.format.signWeight = 1 := by
    generalize x / k.format.signWeight = q at hq
    omega
  rcases this with h0 | h0
  · rw [h0] at hd ⊢
    simp only [Nat.mul_zero, Nat.zero_add] at hd
    simpa using hd.symm
  · rw [h0] at hd ⊢
    simp only [Nat.mul_one] at hd
    simpa using hd.symm
theorem sg_word {k : FloatKind} {s : Bool} {r : Nat} (h : r < k.format.signWeight) : sg k (k.format.word s r) = s := by
  unfold sg Format.word
  cases s
  · simp [Nat.div_eq_of_lt h]
  · have hs : 0 < k.format.signWeight := by omega
    simp [Nat.add_div_left _ hs, Nat.div_eq_of_lt h]
theorem rg_word {k : FloatKind} {s : Bool} {r : Nat} (h : r < k.format.signWeight) : rg k (k.format.word s r) = r := by
  unfold rg Format.word
  cases s
  · simpa using Nat.mod_eq_of_lt h
  · simp only [if_true, Nat.add_mod_left]; exact Nat.mod_eq_of_lt h
theorem inf_lt_sign (k : FloatKind) : k.format.infRung < k.format.signWeight := by cases k <;> decide

theorem sg_nearest {k : FloatKind} {s : Bool} {m : Nat} {e : Int} : sg k (k.format.nearest s m e) = s := by
  have := inf_lt_sign k
  unfold Format.nearest
  split
  · exact sg_word (by omega)
  · exact sg_word (Nat.lt_of_le_of_lt (Nat.min_le_right _ _) this)

/-- Numbers that are equal have the same rung, and the same sign unless they are nothing. -/
theorem eq_parts {k : FloatKind} {x y : Nat} (hx : isN k x = false) (hy : isN k y = false) : fcmp .eql k x y = true ↔ rg k x = rg k y ∧ (sg k x = sg k y ∨ rg k x = 0) := by
  have hB := binade_pos k.format
  rw [notN_rg] at hx hy
  simp only [decide_eq_false_iff_not, Nat.not_lt] at hx hy
  have hI : 0 < k.format.infRung := by cases k <;> decide
  unfold fcmp
  simp only [beq_iff_eq]
  rcases Nat.lt_or_ge (rg k x) k.format.infRung with h1 | h1
  · rcases Nat.lt_or_ge (rg k y) k.format.infRung with h2 | h2
    · rw [order_sval h1 h2]
      simp only [Option.some.injEq]
      rw [Int.compare_eq_eq]
      unfold sval
      constructor
      · intro h
        cases hs : sg k x <;> cases ht : sg k y <;> simp only [hs, ht, if_true, Bool.false_eq_true, if_false] at h
        · exact ⟨mg_inj hB (by omega), .inl rfl⟩
        · have e1 : mg k.format.binade (rg k x) = 0 := by omega
          have e2 : mg k.format.binade (rg k y) = 0 := by omega
          have e3 : rg k x = 0 := mg_inj hB (by rw [e1, mg_zero hB])
          have e4 : rg k y = 0 := mg_inj hB (by rw [e2, mg_zero hB])
          exact ⟨by rw [e3, e4], .inr e3⟩
        · have e1 : mg k.format.binade (rg k x) = 0 := by omega
          have e2 : mg k.format.binade (rg k y) = 0 := by omega
          have e3 : rg k x = 0 := mg_inj hB (by rw [e1, mg_zero hB])
          have e4 : rg k y = 0 := mg_inj hB (by rw [e2, mg_zero hB])
          exact ⟨by rw [e3, e4], .inr e3⟩
        · exact ⟨mg_inj hB (by omega), .inl rfl⟩
      · rintro ⟨h, h' | h'⟩
        · rw [h, h']
        · rw [← h, h', mg_zero hB]; simp
    · have e2 := Nat.le_antisymm hy h2
      obtain ⟨m, e, h3, _⟩ := read_fin h1
      unfold Format.order
      rw [h3, read_inf e2]
      simp only [Datum.order, Option.some.injEq]
      constructor
      · intro h; exfalso; revert h; cases sg k y <;> intro h <;> cases h
      · rintro ⟨h, _⟩; omega
  · have e1 := Nat.le_antisymm hx h1
    rcases Nat.lt_or_ge (rg k y) k.format.infRung with h2 | h2
    · obtain ⟨m, e, h3, _⟩ := read_fin h2
      unfold Format.order
      rw [h3, read_inf e1]
      simp only [Datum.order, Option.some.injEq]
      constructor
      · intro h; exfalso; revert h; cases sg k x <;> intro h <;> cases h
      · rintro ⟨h, _⟩; omega
    · have e2 := Nat.le_antisymm hy h2
      unfold Format.order
      rw [read_inf e1, read_inf e2]
      simp only [Datum.order, Option.some.injEq]
      constructor
      · intro h
        refine ⟨by omega, .inl ?_⟩
        cases hs : sg k x <;> cases ht : sg k y <;> simp [hs, ht] at h <;> rfl
      · rintro ⟨_, h | h⟩
        · rw [h]; simp
        · omega

theorem wrap_small {x : Nat} (h : x < 4294967296) : IntKind.i64.wrap (x : Int) = x := IntWalk.i64_in _ (by omega)

theorem signb_conv {x : Nat} (h : isN .f32 x = false) : signb (conv .f32 .f64 x) = sg .f32 x := by
  have key : ∀ s r, r ≤ FloatKind.f64.format.infRung → signb (cn .f64 (FloatKind.f64.format.word s r)) = s := by
    intro s r hr
    rw [read_cn (notN_word hr)]
    have h1 : FloatKind.f64.format.signWeight = 9223372036854775808 := rfl
    have h2 : FloatKind.f64.format.infRung = 9218868437227405312 := rfl
    rw [h2] at hr
    unfold signb Format.word
    rw [h1]
    cases s
    · simp only [Bool.false_eq_true, if_false]
      rw [IntWalk.i64_in _ (by omega)]
      simp only [decide_eq_false_iff_not]
      omega
    · simp only [if_true, decide_eq_true_eq]
      have : IntKind.i64.wrap ((9223372036854775808 + r : Nat) : Int) = (r : Int) - 9223372036854775808 := by
        simp only [IntKind.wrap, IntKind.bits, IntKind.signed]
        simp
        omega
      rw [this]
      omega
  unfold conv
  rw [if_neg (by decide)]
  rw [notN_rg] at h
  simp only [decide_eq_false_iff_not, Nat.not_lt] at h
  rcases Nat.lt_or_ge (rg .f32 x) FloatKind.f32.format.infRung with h1 | h1
  · obtain ⟨m, e, h2, _⟩ := read_fin h1
    rw [h2]
    simp only [Format.write, Format.nearest]
    split
    · exact key _ _ (Nat.zero_le _)
    · exact key _ _ (Nat.min_le_right _ _)
  · rw [read_inf (Nat.le_antisymm h h1)]
    exact key _ _ (Nat.le_refl _)

/-- Two ways to tell whether two numbers are the same. -/
theorem same_ways {a b : Nat} (ha : Can a) (hb : Can b) : sameN a b = sameS a b := by
  have ew : ∀ {x : Nat}, Can x → isN .f32 x = true → x = 2143289344 := fun h hn => by rw [← h.2, cn_nan hn]; rfl
  have e32 : ∀ {x : Nat}, Can x → x = FloatKind.f32.format.word (sg .f32 x) (rg .f32 x) := fun h => word_parts (k := .f32) h.1
  unfold sameN sameS bitsOf
  rw [neq_self, neq_self]
  cases hna : isN .f32 a <;> cases hnb : isN .f32 b
  · simp only [Bool.or_self, Bool.false_eq_true, if_false, signb_conv hna, signb_conv hnb]
    rw [wrap_small ha.1, wrap_small hb.1, Bool.eq_iff_iff]
    simp only [Bool.and_eq_true, eq_parts hna hnb, beq_iff_eq]
    constructor
    · rintro ⟨⟨h1, _⟩, h3⟩
      rw [e32 ha, e32 hb, h1, h3]
    · intro h
      have : a = b := by omega
      subst this
      exact ⟨⟨rfl, .inl rfl⟩, rfl⟩
  · have := ew hb hnb
    simp only [Bool.or_true, if_true, Bool.false_and, Bool.false_eq_true, if_false]
    rw [wrap_small ha.1]
    symm
    simp only [beq_eq_false_iff_ne]
    intro h
    have : a = 2143289344 := by omega
    subst this
    cases hna
  · have := ew ha hna
    simp only [Bool.or_false, if_true, Bool.true_and, Bool.false_eq_true, if_false]
    rw [wrap_small hb.1]
    symm
    simp only [beq_eq_false_iff_ne]
    intro h
    have : b = 2143289344 := by omega
    subst this
    cases hnb
  · simp
end Go.Vx

namespace Go.Vx
open Go.RowKit

/-! ### Lists told by their numbers -/
/-- The first 'N' of some numbers. -/
def tab (N : Nat) (g : Nat → Nat) : List Value := (List.range N).map fun j => F (g j)
/-- A row of 'N' cells of which the first 'i' are set. -/
def part (N i : Nat) (g h : Nat → Nat) : List Value := (List.range N).map fun j => F (if j < i then g j else h j)
def tabI (N : Nat) (g : Nat → Int) : List Value := (List.range N).map fun j => .int .i64 (g j)
/-- All of the first 'N'. -/
def allB (N : Nat) (p : Nat → Bool) : Bool := (List.range N).all p
def anyB (N : Nat) (p : Nat → Bool) : Bool := (List.range N).any p
/-- Something told round by round. -/
def fold {α : Type} (N : Nat) (a : α) (f : Nat → α → α) : α := match N with | 0 => a | i + 1 => f i (fold i a f)

/-- A list that is a sound. -/
def sound (N : Nat) (g : Nat → Nat) : Bool := icmp .leq (N : Int) 256 && allB N (fun j => fin (g j))

/-- A sound behind some rounds of its echo. -/
def echoF (d : Int) (x : Nat) (g : Nat → Nat) (i : Nat) : Nat → Nat := fold i g fun j f q => if q = (d + (j : Int)).toNat then farith .add .f32 (f (d + (j : Int)).toNat) (farith .mul .f32 x (f (d + (j : Int) - d).toNat)) else f q

/-- The sum of two lists, of which the shorter one is followed by nothing. -/
def addG (N M : Nat) (g h : Nat → Nat) (j : Nat) : Nat := farith .add .f32 (if j < N then g j else 0) (if j < M then h j else 0)

/-- Whether a number is greater than those beside it. -/
def pk (g : Nat → Nat) (j : Nat) : Bool := fcmp .gtr .f32 (g (1 + (j : Int)).toNat) (g (1 + (j : Int) - 1).toNat) && fcmp .gtr .f32 (g (1 + (j : Int)).toNat) (g (1 + (j : Int) + 1).toNat)
/-- Where they are: how many, and which. -/
def pkS (g : Nat → Nat) (i : Nat) : Nat × (Nat → Int) := fold i (0, fun _ => 0) fun j s => if pk g j = true then (s.1 + 1, fun q => if q = s.1 then 1 + (j : Int) else s.2 q) else s
/-- A row of 'N' cells of which the first 'i' are set. -/
def partI (N i : Nat) (g h : Nat → Int) : List Value := (List.range N).map fun j => .int .i64 (if j < i then g j else h j)
/-- The same list of whole numbers. -/
def sameI (N M : Nat) (g h : Nat → Int) : Bool := decide (N = M) && allB N (fun j => g j == h j)

/-- Two lists, joined over 'd' numbers: how one of these goes over into the other one. -/
def mixJ (N : Nat) (d : Int) (g h : Nat → Nat) (i : Nat) : Nat := farith .add .f32 (g ((N : Int) - d + (i : Int)).toNat) (farith .mul .f32 (farith .quo .f32 (ofInt .f32 ((i : Int) + 1)) (ofInt .f32 (d + 1))) (farith .sub .f32 (h i) (g ((N : Int) - d + (i : Int)).toNat)))
def joinG (N : Nat) (d : Int) (g h : Nat → Nat) (j : Nat) : Nat := if j < ((N : Int) - d).toNat then g j else if j < N then mixJ N d g h (j - ((N : Int) - d).toNat) else h (d.toNat + (j - N))

theorem fold_succ {α : Type} (i : Nat) (a : α) (f : Nat → α → α) : fold (i + 1) a f = f i (fold i a f) := rfl
theorem fold_congr {α : Type} {N : Nat} {a : α} {f f' : Nat → α → α} (h : ∀ j x, j < N → f j x = f' j x) : fold N a f = fold N a f' := by
  induction N with
  | zero => rfl
  | succ i ih => rw [fold_succ, fold_succ, ih (fun j x hj => h j x (by omega)), h i _ (by omega)]
theorem tab_length (N : Nat) (g : Nat → Nat) : (tab N g).length = N := by simp [tab]
theorem tabI_length (N : Nat) (g : Nat → Int) : (tabI N g).length = N := by simp [tabI]
theorem part_length (N i : Nat) (g h : Nat → Nat) : (part N i g h).length = N := by simp [part]
theorem tab_get {N i : Nat} {g : Nat → Nat} (h : i < N) : (tab N g)[i]? = some (F (g i)) := by simp [tab, List.getElem?_range h]
theorem tabI_get {N i : Nat} {g : Nat → Int} (h : i < N) : (tabI N g)[i]? = some (.int .i64 (g i)) := by simp [tabI, List.getElem?_range h]
theorem part_get {N i j : Nat} {g h : Nat → Nat} (hj : j < N) : (part N i g h)[j]? = some (F (if j < i then g j else h j)) := by simp [part, List.getElem?_range hj]
theorem tab_succ (i : Nat) (g : Nat → Nat) : tab i g ++ [F (g i)] = tab (i + 1) g := by simp [tab, List.range_succ]
theorem tabI_succ (i : Nat) (g : Nat → Int) : tabI i g ++ [.int .i64 (g i)] = tabI (i + 1) g := by simp [tabI, List.range_succ]
theorem tab_congr {N : Nat} {g g' : Nat → Nat} (h : ∀ j, j < N → g j = g' j) : tab N g = tab N g' := by
  unfold tab
  refine List.map_congr_left fun j hj => ?_
  rw [h j (List.mem_range.1 hj)]
theorem tab_ext {N : Nat} {g g' : Nat → Nat} (h : tab N g = tab N g') {j : Nat} (hj : j < N) : g j = g' j := by
  have h1 : (tab N g)[j]? = (tab N g')[j]? := by rw [h]
  rw [tab_get hj, tab_get hj] at h1
  simpa [F] using h1
theorem part_zero (N : Nat) (g h : Nat → Nat) : part N 0 g h = tab N h := by simp [part, tab]
theorem part_all (N : Nat) (g h : Nat → Nat) : part N N g h = tab N g := by
  unfold part tab
  refine List.map_congr_left fun j hj => ?_
  rw [if_pos (List.mem_range.1 hj)]
theorem tab_replicate (N x : Nat) : List.replicate N (F x) = tab N (fun _ => x) := by simp [tab, List.map_const']
theorem tabI_replicate (N : Nat) (x : Int) : List.replicate N (.int .i64 x) = tabI N (fun _ => x) := by simp [tabI, List.map_const']
theorem part_set {N i : Nat} {g h : Nat → Nat} : (part N i g h).set i (F (g i)) = part N (i + 1) g h := by
  apply List.ext_getElem?
  intro j
  by_cases hj : j < N
  · rw [part_get hj, List.getElem?_set]
    by_cases e : i = j
    · subst e
      rw [if_pos rfl, if_pos (by rw [part_length]; exact hj), if_pos (by omega)]
    · rw [if_neg e, part_get hj]
      by_cases h1 : j < i
      · rw [if_pos h1, if_pos (by omega)]
      · rw [if_neg h1, if_neg (by omega)]
  · rw [List.getElem?_eq_none (by simp [part_length]; omega), List.getElem?_eq_none (by simp [part_length]; omega)]
/-- One cell turned. -/
theorem tab_set {N i x : Nat} {g : Nat → Nat} : (tab N g).set i (F x) = tab N (fun j => if j = i then x else g j) := by
  apply List.ext_getElem?
  intro j
  by_cases hj : j < N
  · rw [tab_get hj, List.getElem?_set]
    by_cases e : i = j
    · subst e
      rw [if_pos rfl, if_pos (by rw [tab_length]; exact hj), if_pos rfl]
    · rw [if_neg e, tab_get hj, if_neg (fun h => e h.symm)]
  · rw [List.getElem?_eq_none (by simp [tab_length]; omega), List.getElem?_eq_none (by simp [tab_length]; omega)]
theorem echo_set {N i x : Nat} {d : Int} {g : Nat → Nat} : (tab N (echoF d x g i)).set (d + (i : Int)).toNat (F (farith .add .f32 (echoF d x g i (d + (i : Int)).toNat) (farith .mul .f32 x (echoF d x g i (d + (i : Int) - d).toNat)))) = tab N (echoF d x g (i + 1)) := tab_set
theorem addG_11 {N M j : Nat} {g h : Nat → Nat} (h1 : j < N) (h2 : j < M) : addG N M g h j = farith .add .f32 (g j) (h j) := by simp [addG, h1, h2]
theorem addG_10 {N M j : Nat} {g h : Nat → Nat} (h1 : j < N) (h2 : ¬ j < M) : addG N M g h j = farith .add .f32 (g j) 0 := by simp [addG, h1, h2]
theorem addG_01 {N M j : Nat} {g h : Nat → Nat} (h1 : ¬ j < N) (h2 : j < M) : addG N M g h j = farith .add .f32 0 (h j) := by simp [addG, h1, h2]
theorem addG_00 {N M j : Nat} {g h : Nat → Nat} (h1 : ¬ j < N) (h2 : ¬ j < M) : addG N M g h j = farith .add .f32 0 0 := by simp [addG, h1, h2]
theorem tab_append (N M : Nat) (g h : Nat → Nat) : tab N g ++ tab M h = tab (N + M) (fun j => if j < N then g j else h (j - N)) := by
  unfold tab
  rw [List.range_add, List.map_append]
  congr 1
  · refine List.map_congr_left fun j hj => ?_
    have := List.mem_range.1 hj
    simp [this]
  · rw [List.map_map]
    refine List.map_congr_left fun j _ => ?_
    have : ¬ N + j < N := by omega
    simp [this]
theorem tab_sub (N l m : Nat) (g : Nat → Nat) (h : l + m ≤ N) : ((tab N g).drop l).take m = tab m (fun j => g (l + j)) := by
  apply List.ext_getElem?
  intro j
  rw [List.getElem?_take]
  by_cases hj : j < m
  · rw [if_pos hj, List.getElem?_drop, tab_get (by omega), tab_get hj]
  · rw [if_neg hj, List.getElem?_eq_none (by simp [tab_length]; omega)]
theorem joinG_lo {N : Nat} {d : Int} {g h : Nat → Nat} {j : Nat} (hj : j < ((N : Int) - d).toNat) : joinG N d g h j = g j := by simp [joinG, hj]
theorem joinG_mix {N : Nat} {d : Int} {g h : Nat → Nat} {i : Nat} (h1 : d ≤ N) (hi : (i : Int) < d) : joinG N d g h (((N : Int) - d).toNat + i) = mixJ N d g h i := by
  unfold joinG
  rw [if_neg (by omega), if_pos (by omega)]
  congr 1
  omega
theorem join_end {N M : Nat} {d : Int} {g h : Nat → Nat} (h0 : 0 ≤ d) : tab N (joinG N d g h) ++ tab (M - d.toNat) (fun j => h (d.toNat + j)) = tab (N + (M - d.toNat)) (joinG N d g h) := by
  rw [tab_append]
  refine tab_congr fun j hj => ?_
  by_cases hjn : j < N
  · rw [if_pos hjn]
  · rw [if_neg hjn]
    unfold joinG
    rw [if_neg (by omega), if_neg hjn]
theorem part_same {N i : Nat} {g h : Nat → Nat} (e : ∀ j, j < i → g j = h j) : part N i g h = tab N h := by
  unfold part tab
  refine List.map_congr_left fun j _ => ?_
  by_cases hj : j < i
  · rw [if_pos hj, e j hj]
  · rw [if_neg hj]
theorem part_set' {N i k : Nat} {g h : Nat → Nat} (hk : k = i) : (part N i g h).set k (F (g i)) = part N (i + 1) g h := by
  subst hk; exact part_set
/-- A row of nothing into which a list has been copied. -/
theorem copied {N M : Nat} {g : Nat → Nat} (h : N ≤ M) : tab N g ++ (List.replicate M (F 0)).drop (tab N g).length = tab M (fun j => if j < N then g j else 0) := by
  rw [tab_replicate, tab_length]
  have := tab_sub M N (M - N) (fun _ => 0) (by omega)
  rw [List.take_of_length_le (by simp [tab_length])] at this
  rw [this, tab_append, show N + (M - N) = M by omega]
theorem tabI_snoc (N : Nat) (x : Int) (f : Nat → Int) : tabI N f ++ [.int .i64 x] = tabI (N + 1) (fun q => if q = N then x else f q) := by
  rw [← tabI_succ]
  congr 1
  · unfold tabI
    refine List.map_congr_left fun j hj => ?_
    have := List.mem_range.1 hj
    simp [Nat.ne_of_lt this]
  · simp
theorem pkS_le (g : Nat → Nat) : ∀ i, (pkS g i).1 ≤ i
  | 0 => Nat.le_refl _
  | i + 1 => by
    have := pkS_le g i
    unfold pkS
    rw [fold_succ]
    split
    · exact Nat.succ_le_succ this
    · exact Nat.le_succ_of_le this
theorem pkS_yes {g : Nat → Nat} {i : Nat} (h : pk g i = true) : pkS g (i + 1) = ((pkS g i).1 + 1, fun q => if q = (pkS g i).1 then 1 + (i : Int) else (pkS g i).2 q) := by
  unfold pkS
  rw [fold_succ, if_pos h]
theorem pkS_no {g : Nat → Nat} {i : Nat} (h : pk g i = false) : pkS g (i + 1) = pkS g i := by
  unfold pkS
  rw [fold_succ, if_neg (by rw [h]; decide)]
theorem partI_length (N i : Nat) (g h : Nat → Int) : (partI N i g h).length = N := by simp [partI]
theorem partI_zero (N : Nat) (g h : Nat → Int) : partI N 0 g h = tabI N h := by simp [partI, tabI]
theorem partI_get {N i j : Nat} {g h : Nat → Int} (hj : j < N) : (partI N i g h)[j]? = some (.int .i64 (if j < i then g j else h j)) := by simp [partI, List.getElem?_range hj]
theorem partI_all (N : Nat) (g h : Nat → Int) : partI N N g h = tabI N g := by
  unfold partI tabI
  refine List.map_congr_left fun j hj => ?_
  rw [if_pos (List.mem_range.1 hj)]
theorem partI_set {N i : Nat} {g h : Nat → Int} : (partI N i g h).set i (.int .i64 (g i)) = partI N (i + 1) g h := by
  apply List.ext_getElem?
  intro j
  by_cases hj : j < N
  · rw [partI_get hj, List.getElem?_set]
    by_cases e : i = j
    · subst e
      rw [if_pos rfl, if_pos (by rw [partI_length]; exact hj), if_pos (by omega)]
    · rw [if_neg e, partI_get hj]
      by_cases h1 : j < i
      · rw [if_pos h1, if_pos (by omega)]
      · rw [if_neg h1, if_neg (by omega)]
  · rw [List.getElem?_eq_none (by simp [partI_length]; omega), List.getElem?_eq_none (by simp [partI_length]; omega)]
theorem allB_true {N : Nat} {p : Nat → Bool} : allB N p = true ↔ ∀ j, j < N → p j = true := by simp [allB]
theorem allB_false {N j : Nat} {p : Nat → Bool} (hj : j < N) (h : p j = false) : allB N p = false := by
  rw [Bool.eq_false_iff]
  intro h1
  rw [allB_true.1 h1 j hj] at h
  cases h
theorem allB_congr {N : Nat} {p q : Nat → Bool} (h : ∀ j, j < N → p j = q j) : allB N p = allB N q := by
  rw [Bool.eq_iff_iff, allB_true, allB_true]
  exact ⟨fun h1 j hj => by rw [← h j hj]; exact h1 j hj, fun h1 j hj => by rw [h j hj]; exact h1 j hj⟩
theorem allB_two (p : Nat → Bool) : allB 2 p = (p 0 && p 1) := by simp [allB, List.range, List.range.loop]
theorem allB_five (p : Nat → Bool) : allB 5 p = ((((p 0 && p 1) && p 2) && p 3) && p 4) := by simp [allB, List.range, List.range.loop, Bool.and_assoc]
theorem anyB_true {N : Nat} {p : Nat → Bool} : anyB N p = true ↔ ∃ j, j < N ∧ p j = true := by simp [anyB]
theorem anyB_not {N : Nat} {p : Nat → Bool} : anyB N p = !allB N (fun j => !p j) := by
  simp [anyB, allB, List.not_all_eq_any_not]

section
variable {P : Program} {ops : Array Oper} {o : Oper} {rest : List Oper} {F' : Frm} {w0 w : World} {old : Nat → Prop} {H : List HFact} {n : Nat} {c : Bool} {Q : Exit → Act → World → Prop}
theorem j_condOrLt {t : Nat} {X Y Z : Int} {x y : Code} (hc : Frm.get F' t = some (true, .bool (icmp .lss X Y || icmp .lss X Z))) (kx : (X < Y ∨ X < Z) → J P n w0 old x F' H Q) (ky : ¬ (X < Y ∨ X < Z) → J P n w0 old y F' H Q) : J P n w0 old (.cond (.tmp t) x y) F' H Q :=
  j_cond hc (fun h => kx (by simpa [icmp] using h)) (fun h => ky (by simpa [icmp] using h))
theorem sub_tab {A : Option Addr} {N l m cap : Nat} {g : Nat → Nat} (h : (HFact.ro A (tab N g)).holds w) (hc : N ≤ cap) (hm : l + m ≤ N) : (HFact.ro (subA A l cap) (tab m (fun j => g (l + j)))).holds w := by
  have := sub_holds (l := l) (m := m) h (cap := cap) (by rw [tab_length]; exact hc)
  rwa [tab_sub _ _ _ _ hm] at this
theorem hA_roT {A : Option Addr} {N : Nat} {g : Nat → Nat} (h : HFact.ro A (tab N g) ∈ H) : ∀ w, HInv w0 old H w → A = none → N = 0 := fun w hI hA => by
  have := hA_ro h w hI hA
  rwa [tab_length] at this
theorem hA_vecT {e : TypeId} {A : Option Addr} {cap N : Nat} {g : Nat → Nat} (h : HFact.vec e A cap (tab N g) ∈ H) : ∀ w, HInv w0 old H w → A = none → N = 0 := fun w hI hA => by
  have := hA_vec h w hI hA
  rwa [tab_length] at this
theorem hA_vecP {e : TypeId} {A : Option Addr} {cap N i : Nat} {g g' : Nat → Nat} (h : HFact.vec e A cap (part N i g g') ∈ H) : ∀ w, HInv w0 old H w → A = none → N = 0 := fun w hI hA => by
  have := hA_vec h w hI hA
  rwa [part_length] at this
theorem hA_roI {A : Option Addr} {N : Nat} {g : Nat → Int} (h : HFact.ro A (tabI N g) ∈ H) : ∀ w, HInv w0 old H w → A = none → N = 0 := fun w hI hA => by
  have := hA_ro h w hI hA
  rwa [tabI_length] at this
theorem hA_vecI {e : TypeId} {A : Option Addr} {cap N : Nat} {g : Nat → Int} (h : HFact.vec e A cap (tabI N g) ∈ H) : ∀ w, HInv w0 old H w → A = none → N = 0 := fun w hI hA => by
  have := hA_vec h w hI hA
  rwa [tabI_length] at this
theorem hA_vecPI {e : TypeId} {A : Option Addr} {cap N i : Nat} {g g' : Nat → Int} (h : HFact.vec e A cap (partI N i g g') ∈ H) : ∀ w, HInv w0 old H w → A = none → N = 0 := fun w hI hA => by
  have := hA_vec h w hI hA
  rwa [partI_length] at this
theorem hA_some {a : Addr} {N : Nat} : ∀ w, HInv w0 old H w → some a = none → N = 0 := fun _ _ h => by cases h

/-! ### Conditions on integers -/
theorem j_condLt {t : Nat} {X Y : Int} {x y : Code} (hc : Frm.get F' t = some (true, .bool (icmp .lss X Y))) (kx : X < Y → J P n w0 old x F' H Q) (ky : ¬ X < Y → J P n w0 old y F' H Q) : J P n w0 old (.cond (.tmp t) x y) F' H Q :=
  j_cond hc (fun h => kx (of_decide_eq_true h)) (fun h => ky (of_decide_eq_false h))
theorem j_condLe {t : Nat} {X Y : Int} {x y : Code} (hc : Frm.get F' t = some (true, .bool (icmp .leq X Y))) (kx : X ≤ Y → J P n w0 old x F' H Q) (ky : ¬ X ≤ Y → J P n w0 old y F' H Q) : J P n w0 old (.cond (.tmp t) x y) F' H Q :=
  j_cond hc (fun h => kx (of_decide_eq_true h)) (fun h => ky (of_decide_eq_false h))
theorem j_condGt {t : Nat} {X Y : Int} {x y : Code} (hc : Frm.get F' t = some (true, .bool (icmp .gtr X Y))) (kx : X > Y → J P n w0 old x F' H Q) (ky : ¬ X > Y → J P n w0 old y F' H Q) : J P n w0 old (.cond (.tmp t) x y) F' H Q :=
  j_cond hc (fun h => kx (of_decide_eq_true h)) (fun h => ky (of_decide_eq_false h))
theorem j_condGe {t : Nat} {X Y : Int} {x y : Code} (hc : Frm.get F' t = some (true, .bool (icmp .geq X Y))) (kx : X ≥ Y → J P n w0 old x F' H Q) (ky : ¬ X ≥ Y → J P n w0 old y F' H Q) : J P n w0 old (.cond (.tmp t) x y) F' H Q :=
  j_cond hc (fun h => kx (of_decide_eq_true h)) (fun h => ky (of_decide_eq_false h))
theorem j_condNe {t : Nat} {X Y : Int} {x y : Code} (hc : Frm.get F' t = some (true, .bool (icmp .neq X Y))) (kx : X ≠ Y → J P n w0 old x F' H Q) (ky : X = Y → J P n w0 old y F' H Q) : J P n w0 old (.cond (.tmp t) x y) F' H Q :=
  j_cond hc (fun h => kx (by simpa [icmp] using h)) (fun h => ky (by simpa [icmp] using h))
theorem j_condEq {t : Nat} {X Y : Int} {x y : Code} (hc : Frm.get F' t = some (true, .bool (icmp .eql X Y))) (kx : X = Y → J P n w0 old x F' H Q) (ky : X ≠ Y → J P n w0 old y F' H Q) : J P n w0 old (.cond (.tmp t) x y) F' H Q :=
  j_cond hc (fun h => kx (by simpa [icmp] using h)) (fun h => ky (by simpa [icmp] using h))
end

/-! ### Numbers that a law marks -/
theorem ofInt_num (k : FloatKind) (n : Int) : isN k (ofInt k n) = false := by
  unfold ofInt
  rw [isN_cn]
  exact notN_write (d := .number (decide (n < 0)) n.natAbs 0) rfl
theorem ofInt_self (k : FloatKind) (n : Int) : fcmp .neq k (ofInt k n) (ofInt k n) = false := neq_self_num (ofInt_num k n)
/-- The same list of numbers. -/
def sameT (N M : Nat) (g h : Nat → Nat) : Bool := decide (N = M) && allB N (fun j => sameF (conv .f32 .f64 (g j)) (conv .f32 .f64 (h j)))
theorem sameT_self (N : Nat) (g : Nat → Nat) : sameT N N g g = true := by simp [sameT, allB, sameF_self]
theorem sameI_self (N : Nat) (g : Nat → Int) : sameI N N g g = true := by simp [sameI, allB]
theorem sameT_of {N : Nat} {g h : Nat → Nat} (e : ∀ j, j < N → g j = h j) : sameT N N g h = true := by
  simp only [sameT, decide_true, Bool.true_and]
  rw [allB_true]
  intro j hj
  rw [e j hj]
  exact sameF_self _
end Go.Vx

namespace Go.Vx
section
variable {P : Program} {ops : Array Oper} {o : Oper} {rest : List Oper} {F' : Frm} {w0 w : World} {old : Nat → Prop} {H : List HFact} {n : Nat} {c : Bool} {Q : Exit → Act → World → Prop}
theorem fresh_at (i : Nat) {f : HFact} (hi : H[i]? = some f) (ho : f.isOwn = true) (h : HInv w0 (fun _ => False) H w) : Fresh w0 w [f] :=
  fresh_one (h.facts f (List.mem_of_getElem? hi)) fun k hk => by
    rcases h.new f (List.mem_of_getElem? hi) ho k hk with h1 | h1
    · exact h1
    · exact h1.elim
theorem fresh_nilrow {e : TypeId} : Fresh w0 w [.vec e none 0 []] := fresh_one ⟨[], ⟨rfl, .inl ⟨rfl, rfl⟩⟩, trivial⟩ fun k hk => by cases hk
/-- A list that is handed on if it is in order. -/
theorem fresh_bif (i : Nat) {e : TypeId} {A : Option Addr} {cap N : Nat} {g : Nat → Nat} (b : Bool) (hi : H[i]? = some (.vec e A cap (tab N g))) (h : HInv w0 (fun _ => False) H w) : Fresh w0 w [.vec e (bif b then A else none) (bif b then cap else 0) (tab (bif b then N else 0) g)] := by
  cases b
  · exact fresh_nilrow
  · exact fresh_at i hi rfl h

/-- An operation under a guard that yields something new. -/
theorem jl_xg {σ : Type} {V : σ → Value} {f : σ → HFact} {d : Nat} (s0 : σ) (hd : o.dst = some d) (hdn : Nat.blt d n = true) (hg : GOp F' ops o c) (hx : c = true → XOp P ops w0 old o F' H V (fun s => [f s]))
    (k : ∀ s, c = true → JL P n w0 old ops rest ((d, c, V s) :: F') (f s :: H) Q) (k' : c = false → JL P n w0 old ops rest ((d, c, V s0) :: F') H Q) : JL P n w0 old ops (o :: rest) F' H Q := by
  intro a w hF hH
  have hw := hg.wanted (hF.looks (ops := ops) (o := o))
  refine wpList_step fun K hK => ?_
  cases c with
  | true =>
    rw [if_pos hw]
    refine (hx rfl a w hF.looks hH).wp fun v w' ⟨h1, s, h2, h3⟩ => hK _ _ (k s rfl _ _ ?_ (hH.addFresh h1 h3))
    rw [hd]
    exact hF.put hdn ⟨fun _ => h2, fun h => (by cases h)⟩
  | false =>
    rw [if_neg (by rw [hw]; exact Bool.false_ne_true)]
    refine hK _ _ (k' rfl _ _ ?_ hH)
    rw [hd]
    exact hF.put hdn ⟨fun h => (by cases h), fun _ => rfl⟩
end
end Go.Vx

namespace Go.Vx
section
variable {P : Program} {F' : Frm} {w0 w : World} {H : List HFact} {n : Nat}
theorem bif_le {b : Bool} {N M : Nat} (h : N ≤ M) : (bif b then N else 0) ≤ M := by cases b <;> simp [h]
theorem bif_leK {b : Bool} {N : Nat} {k M : Int} (h : k + (N : Int) ≤ M) : k + ((bif b then N else 0 : Nat) : Int) ≤ M := by cases b <;> simp <;> omega
/-- A list and whether there is one: what such a call gives. -/
def listV (B : Bool) (N : Nat) : Option Addr × Nat → Value := fun s => .tuple #[.slice s.1 (bif B then N else 0) s.2, .bool B]
def listK (E : TypeId) (B : Bool) (N : Nat) (g : Nat → Nat) : Option Addr × Nat → List HFact := fun s => [.vec E s.1 s.2 (tab (bif B then N else 0) g)]
/-- No list. -/
theorem ret_no {fn : Func} {t u : Tmp} {E : TypeId} {B : Bool} {N : Nat} {g : Nat → Nat} (hr : fn.results = #[.tmp t, .tmp u]) (ht : Frm.get F' t = some (true, .slice none 0 0)) (hu : Frm.get F' u = some (true, .bool false)) (hB : B = false) :
    JQ n w0 (fun _ => False) .ret F' H (bodyPost P fn (EndsM (listV B N) (listK E B N g) w0)) := by
  subst hB
  exact jq_retMM (none, 0) (.inl rfl) hr (ret_tmp ht rfl (ret_tmp hu rfl ret_nil)) rfl rfl (fun w h => fresh_nilrow)
/-- A list that has been looked at. -/
theorem ret_yes (i : Nat) {fn : Func} {t u : Tmp} {E : TypeId} {A : Option Addr} {cap : Nat} {b B : Bool} {N : Nat} {g : Nat → Nat} (hr : fn.results = #[.tmp t, .tmp u]) (ht : Frm.get F' t = some (true, .slice (bif b then A else none) (bif b then N else 0) (bif b then cap else 0))) (hu : Frm.get F' u = some (true, .bool b))
    (hH : H[i]? = some (.vec E A cap (tab N g))) (hB : B = b) : JQ n w0 (fun _ => False) .ret F' H (bodyPost P fn (EndsM (listV B N) (listK E B N g) w0)) := by
  subst hB
  exact jq_retMM (bif B then A else none, bif B then cap else 0) (.inl rfl) hr (ret_tmp ht rfl (ret_tmp hu rfl ret_nil)) rfl rfl (fun w h => fresh_bif i B hH h)
/-- A list of another call's. -/
theorem ret_pass (i : Nat) {fn : Func} {t u : Tmp} {E : TypeId} {s : Option Addr × Nat} {b B : Bool} {N : Nat} {g : Nat → Nat} (hr : fn.results = #[.tmp t, .tmp u]) (ht : Frm.get F' t = some (true, .slice s.1 (bif b then N else 0) s.2)) (hu : Frm.get F' u = some (true, .bool b))
    (hH : H[i]? = some (.vec E s.1 s.2 (tab (bif b then N else 0) g))) (hB : B = b) : JQ n w0 (fun _ => False) .ret F' H (bodyPost P fn (EndsM (listV B N) (listK E B N g) w0)) := by
  subst hB
  exact jq_retMM s (.inl rfl) hr (ret_tmp ht rfl (ret_tmp hu rfl ret_nil)) rfl rfl (fun w h => fresh_at i hH rfl h)
/-- What lies in 'Hc' is read only. -/
theorem HInv.tail {old : Nat → Prop} {Hc Ha : List HFact} (h : HInv w0 old (Ha ++ Hc) w) (ho : ∀ f ∈ Hc, f.isOwn = false) : RoS Hc w := fun f hf => ⟨ho f hf, h.facts f (List.mem_append_right _ hf)⟩
end
end Go.Vx

namespace Go.Vx
section
variable {P : Program} {F' : Frm} {w0 w : World} {old : Nat → Prop} {H : List HFact} {n : Nat} {Q : Exit → Act → World → Prop} {x : Code}
/-- What is known, told otherwise. -/
theorem j_weak {H' : List HFact} (h : ∀ w, HInv w0 old H w → HInv w0 old H' w) (k : J P n w0 old x F' H' Q) : J P n w0 old x F' H Q := fun a w hF hH => k a w hF (h w hH)
/-- A row whose cells have all been set. -/
theorem j_part {e : TypeId} {A : Option Addr} {cap N i : Nat} {g h : Nat → Nat} (hi : i = N) (k : J P n w0 old x F' (.vec e A cap (tab N g) :: H) Q) : J P n w0 old x F' (.vec e A cap (part N i g h) :: H) Q := by
  subst hi
  rw [part_all]
  exact k
end
end Go.Vx

namespace Go.Vx
section
variable {P : Program} {F' : Frm} {w0 w : World} {old : Nat → Prop} {H : List HFact} {n : Nat} {Q : Exit → Act → World → Prop} {x : Code}
theorem j_partI {e : TypeId} {A : Option Addr} {cap N i : Nat} {g h : Nat → Int} (hi : i = N) (k : J P n w0 old x F' (.vec e A cap (tabI N g) :: H) Q) : J P n w0 old x F' (.vec e A cap (partI N i g h) :: H) Q := by
  subst hi
  rw [partI_all]
  exact k
def listIV (B : Bool) (N : Nat) : Option Addr × Nat → Value := fun s => .tuple #[.slice s.1 (bif B then N else 0) s.2, .bool B]
def listIK (E : TypeId) (B : Bool) (N : Nat) (g : Nat → Int) : Option Addr × Nat → List HFact := fun s => [.vec E s.1 s.2 (tabI (bif B then N else 0) g)]
theorem retI_no {fn : Func} {t u : Tmp} {E : TypeId} {B : Bool} {N : Nat} {g : Nat → Int} (hr : fn.results = #[.tmp t, .tmp u]) (ht : Frm.get F' t = some (true, .slice none 0 0)) (hu : Frm.get F' u = some (true, .bool false)) (hB : B = false) :
    JQ n w0 (fun _ => False) .ret F' H (bodyPost P fn (EndsM (listIV B N) (listIK E B N g) w0)) := by
  subst hB
  exact jq_retMM (none, 0) (.inl rfl) hr (ret_tmp ht rfl (ret_tmp hu rfl ret_nil)) rfl rfl (fun w h => fresh_nilrow)
theorem retI_yes (i : Nat) {fn : Func} {t u : Tmp} {E : TypeId} {A : Option Addr} {cap : Nat} {B : Bool} {N : Nat} {g : Nat → Int} (hr : fn.results = #[.tmp t, .tmp u]) (ht : Frm.get F' t = some (true, .slice A N cap)) (hu : Frm.get F' u = some (true, .bool true))
    (hH : H[i]? = some (.vec E A cap (tabI N g))) (hB : B = true) : JQ n w0 (fun _ => False) .ret F' H (bodyPost P fn (EndsM (listIV B N) (listIK E B N g) w0)) := by
  subst hB
  exact jq_retMM (A, cap) (.inl rfl) hr (ret_tmp ht rfl (ret_tmp hu rfl ret_nil)) rfl rfl (fun w h => fresh_at i hH rfl h)
end
end Go.Vx

namespace Go.Vx
section
variable {P : Program} {ops : Array Oper} {o : Oper} {rest : List Oper} {F' : Frm} {w0 w : World} {old : Nat → Prop} {H : List HFact} {n : Nat} {Q : Exit → Act → World → Prop}
/-- A part of a list is appended. -/
theorem jl_appendSub {T e : TypeId} {s x : Operand} {by' d i : Nat} {z Z : Value} {A B : Option Addr} {N M N' l capB cap cx : Nat} {cs : List Value} {g : Nat → Nat} (ho : o.op = .call { callee := .builtin .append, args := #[s, x], argTypes := #[T, T] }) (hd : o.dst = some d) (hdn : Nat.blt d n = true) (hg : o.guard = none)
    (hT : P.underlying T = some (.slice e)) (he : (P.info? e).map (·.size) = some 1) (hz : (P.info? e).map (·.zero) = some (some z)) (hZ : can0 z = some Z) (hby : (P.info? e).map (·.bytes) = some by') (hb8 : Nat.ble by' 64 = true)
    (hs : ev F' s = some (true, .slice A N cap)) (hx : ev F' x = some (true, .slice (subA B l capB) M cx)) (hH : H[i]? = some (.vec e A cap cs)) (hR : HFact.ro B (tab N' g) ∈ H) (hN : N = cs.length) (hlm : l + M ≤ N') (hcap : N' ≤ capB) (hNM : N + M ≤ 4294967296)
    (k : ∀ A' cap', JL P n w0 old ops rest ((d, true, .slice A' (N + M) cap') :: F') (H.set i (.vec e A' cap' (cs ++ tab M (fun j => g (l + j))))) Q) : JL P n w0 old ops (o :: rest) F' H Q :=
  jl_append ho hd hdn hg hT he hz hZ hby hb8 hs hx hH (fun _ hI => sub_tab (hI.roRo hR) hcap hlm) hN (tab_length _ _).symm hNM k
end
end Go.Vx

namespace Go.Vx
section
variable {P : Program} {F' : Frm} {w0 w : World} {H : List HFact} {n : Nat}
/-- A list that is there. -/
theorem ret_true (i : Nat) {fn : Func} {t u : Tmp} {E : TypeId} {A : Option Addr} {cap : Nat} {B : Bool} {N : Nat} {g : Nat → Nat} (hr : fn.results = #[.tmp t, .tmp u]) (ht : Frm.get F' t = some (true, .slice A N cap)) (hu : Frm.get F' u = some (true, .bool true))
    (hH : H[i]? = some (.vec E A cap (tab N g))) (hB : B = true) : JQ n w0 (fun _ => False) .ret F' H (bodyPost P fn (EndsM (listV B N) (listK E B N g) w0)) := by
  subst hB
  exact jq_retMM (A, cap) (.inl rfl) hr (ret_tmp ht rfl (ret_tmp hu rfl ret_nil)) rfl rfl (fun w h => fresh_at i hH rfl h)
end
end Go.Vx

namespace Go.Vx
open Ieee

/-! ### Rounding -/
theorem mg_unit {B a x : Nat} (hB : 0 < B) (hx : x ≤ 2 * B) (ha : a = 0 ∨ B ≤ x) : mg B (a * B + x) = x * 2 ^ a := by
  by_cases h1 : x < B
  · have : a = 0 := by rcases ha with h | h; exact h; omega
    subst this
    simp [mg, h1]
  · have hge : B ≤ x := by omega
    have hlt : ¬ a * B + x < B := by
      have : 0 ≤ a * B := Nat.zero_le _
      omega
    unfold mg
    rw [if_neg hlt, Nat.shiftLeft_eq]
    rcases Nat.eq_or_lt_of_le hx with h2 | h2
    · subst h2
      have e1 : a * B + 2 * B = (a + 2) * B := by rw [Nat.add_mul]
      rw [e1, Nat.mul_mod_left, Nat.mul_div_cancel _ hB, show a + 2 - 1 = a + 1 by omega, Nat.add_zero, Nat.pow_succ]
      rw [Nat.mul_comm (2 ^ a) 2, ← Nat.mul_assoc, Nat.mul_comm B 2]
    · obtain ⟨y, rfl⟩ : ∃ y, x = B + y := ⟨x - B, by omega⟩
      have hy : y < B := by omega
      have e1 : a * B + (B + y) = y + (a + 1) * B := by rw [Nat.add_mul, Nat.one_mul]; omega
      rw [e1, Nat.add_mul_mod_self_right, Nat.add_mul_div_right _ _ hB, Nat.mod_eq_of_lt hy, Nat.div_eq_of_lt hy, Nat.zero_add, Nat.add_sub_cancel]

theorem cut_even (s : Bool) (n d : Nat) : Toward.even.cut s n d = n / 2 ^ d ∨ (Toward.even.cut s n d = n / 2 ^ d + 1 ∧ n / 2 ^ d * 2 ^ d < n) := by
  unfold Toward.cut
  simp only [Nat.shiftLeft_eq, Nat.one_mul]
  by_cases hd : d ≤ n.log2 + 2
  · rw [Nat.min_eq_left hd]
    have hdm := Nat.div_add_mod n (2 ^ d)
    have hlt := Nat.mod_lt n (Nat.two_pow_pos d)
    have hpos := Nat.two_pow_pos d
    by_cases hr : n % 2 ^ d = 0
    · left
      have h1 : decide (2 ^ d < 2 * (n % 2 ^ d)) = false := by rw [hr]; simp
      have h2 : (2 ^ d == 2 * (n % 2 ^ d)) = false := by rw [hr]; simp
      rw [h1, h2]
      rfl
    · cases hb : (decide (2 ^ d < 2 * (n % 2 ^ d)) || 2 ^ d == 2 * (n % 2 ^ d) && n / 2 ^ d % 2 == 1)
      · left; simp
      · right
        refine ⟨by simp, ?_⟩
        rw [Nat.mul_comm]
        omega
  · left
    have hmin : min d (n.log2 + 2) = n.log2 + 2 := Nat.min_eq_right (by omega)
    rw [hmin]
    have hn : n < 2 ^ (n.log2 + 1) := Nat.lt_log2_self
    have h2 : 2 ^ (n.log2 + 2) = 2 * 2 ^ (n.log2 + 1) := by rw [Nat.pow_succ]; omega
    have hle : 2 ^ (n.log2 + 1) ≤ 2 ^ d := Nat.pow_le_pow_right (by omega) (by omega)
    have hd0 : n / 2 ^ d = 0 := Nat.div_eq_of_lt (by omega)
    have hl0 : n / 2 ^ (n.log2 + 2) = 0 := Nat.div_eq_of_lt (by omega)
    have hm0 : n % 2 ^ (n.log2 + 2) = n := Nat.mod_eq_of_lt (by omega)
    rw [hd0, hl0, hm0]
    have h3 : decide (2 ^ (n.log2 + 2) < 2 * n) = false := by simp; omega
    have h4 : (2 ^ (n.log2 + 2) == 2 * n) = false := by simp; omega
    rw [h3, h4]
    rfl

/-- The rung that a number is written as. -/
def rungOf (k : FloatKind) (m : Nat) (e : Int) : Nat := rg k (k.format.nearest false m e)

/-- A number, its rung, and what lies beside it: 'V' is the number in a unit small enough. -/
theorem near (k : FloatKind) {m : Nat} {e c : Int} (hm : m ≠ 0) (hc1 : c ≤ e) (hc2 : c ≤ k.format.leastPlace) :
    ∃ a q kept, rungOf k m e = min (a * k.format.binade + kept) k.format.infRung ∧ q < 2 * k.format.binade ∧ (a = 0 ∨ k.format.binade ≤ q) ∧
      q * 2 ^ a * 2 ^ (k.format.leastPlace - c).toNat ≤ m * 2 ^ (e - c).toNat ∧ m * 2 ^ (e - c).toNat < (q + 1) * 2 ^ a * 2 ^ (k.format.leastPlace - c).toNat ∧
      (kept = q ∨ (kept = q + 1 ∧ q * 2 ^ a * 2 ^ (k.format.leastPlace - c).toNat < m * 2 ^ (e - c).toNat)) := by
  have hB : k.format.binade = 2 ^ k.format.fractionBits := rfl
  generalize hL : k.format.leastPlace = L at *
  generalize hfb : k.format.fractionBits = fb at *
  rw [hB]
  let last : Int := max (e + (m.log2 : Int) - fb) L
  have hlast : L ≤ last := Int.le_max_right _ _
  have hlast2 : e + (m.log2 : Int) - fb ≤ last := Int.le_max_left _ _
  have hmlt : m < 2 ^ (m.log2 + 1) := Nat.lt_log2_self
  have hmge : 2 ^ m.log2 ≤ m := Nat.log2_self_le hm
  have hI := inf_lt_sign k
  have hrung : ∀ kept, Toward.even.cut false (m <<< (e - last).toNat) (last - e).toNat = kept → rungOf k m e = min ((last - L).toNat * 2 ^ fb + kept) k.format.infRung := by
    intro kept hk
    unfold rungOf Format.nearest
    rw [if_neg hm]
    simp only [hL, hfb]
    rw [show max (e + (m.log2 : Int) - (fb : Int)) L = last from rfl, hk, hB]
    exact rg_word (Nat.lt_of_le_of_lt (Nat.min_le_right _ _) hI)
  refine ⟨(last - L).toNat, ?_⟩
  have hunit : ∀ x : Nat, x * 2 ^ (last - L).toNat * 2 ^ (L - c).toNat = x * 2 ^ (last - c).toNat := by
    intro x
    rw [Nat.mul_assoc, ← Nat.pow_add]
    congr 2
    omega
  rcases Int.le_total last e with hle | hle
  · -- nothing is cut off
    have h0 : (last - e).toNat = 0 := by omega
    have hk : Toward.even.cut false (m <<< (e - last).toNat) (last - e).toNat = m * 2 ^ (e - last).toNat := by
      rw [h0, cut_zero, Nat.shiftLeft_eq]
    have hV : m * 2 ^ (e - last).toNat * 2 ^ (last - c).toNat = m * 2 ^ (e - c).toNat := by
      rw [Nat.mul_assoc, ← Nat.pow_add]
      congr 2
      omega
    have hpos := Nat.two_pow_pos (last - c).toNat
    refine ⟨m * 2 ^ (e - last).toNat, m * 2 ^ (e - last).toNat, hrung _ hk, ?_, ?_, ?_, ?_, .inl rfl⟩
    · calc m * 2 ^ (e - last).toNat < 2 ^ (m.log2 + 1) * 2 ^ (e - last).toNat := Nat.mul_lt_mul_of_pos_right hmlt (Nat.two_pow_pos _)
        _ = 2 ^ (m.log2 + 1 + (e - last).toNat) := (Nat.pow_add ..).symm
        _ ≤ 2 ^ (fb + 1) := Nat.pow_le_pow_right (by omega) (by omega)
        _ = 2 * 2 ^ fb := by rw [Nat.pow_succ]; omega
    · by_cases hq : last = L
      · left; omega
      · right
        have : last = e + (m.log2 : Int) - fb := by
          have : last = max (e + (m.log2 : Int) - fb) L := rfl
          omega
        calc 2 ^ fb = 2 ^ (m.log2 + (e - last).toNat) := by congr 1; omega
          _ = 2 ^ m.log2 * 2 ^ (e - last).toNat := Nat.pow_add ..
          _ ≤ m * 2 ^ (e - last).toNat := Nat.mul_le_mul_right _ hmge
    · rw [hunit, hV]; exact Nat.le_refl _
    · rw [hunit, Nat.add_mul, hV]; omega
  · -- the last digits are cut off
    have h0 : (e - last).toNat = 0 := by omega
    have hsh : m <<< (e - last).toNat = m := by rw [h0, Nat.shiftLeft_zero]
    let d := (last - e).toNat
    have hd : (last - e).toNat = d := rfl
    have hV : ∀ x : Nat, x * 2 ^ (last - c).toNat = x * 2 ^ d * 2 ^ (e - c).toNat := by
      intro x
      rw [Nat.mul_assoc, ← Nat.pow_add]
      congr 2
      omega
    have hpe := Nat.two_pow_pos (e - c).toNat
    have hdm := Nat.div_add_mod m (2 ^ d)
    have hmod := Nat.mod_lt m (Nat.two_pow_pos d)
    have hqm : m / 2 ^ d * 2 ^ d ≤ m := Nat.div_mul_le_self _ _
    have hqm1 : m < (m / 2 ^ d + 1) * 2 ^ d := by rw [Nat.add_mul, Nat.one_mul, Nat.mul_comm (m / 2 ^ d)]; omega
    refine ⟨m / 2 ^ d, Toward.even.cut false m d, hrung _ (by rw [hsh, hd]), ?_, ?_, ?_, ?_, ?_⟩
    · rw [Nat.div_lt_iff_lt_mul (Nat.two_pow_pos d)]
      calc m < 2 ^ (m.log2 + 1) := hmlt
        _ ≤ 2 ^ (fb + 1 + d) := Nat.pow_le_pow_right (by omega) (by omega)
        _ = 2 * 2 ^ fb * 2 ^ d := by rw [Nat.pow_add, Nat.pow_succ]; congr 1; omega
    · by_cases hq : last = L
      · left; omega
      · right
        have : last = e + (m.log2 : Int) - fb := by
          have : last = max (e + (m.log2 : Int) - fb) L := rfl
          omega
        rw [Nat.le_div_iff_mul_le (Nat.two_pow_pos d), ← Nat.pow_add]
        refine Nat.le_trans (Nat.pow_le_pow_right (by omega) ?_) hmge
        omega
    · rw [hunit, hV]; exact Nat.mul_le_mul_right _ hqm
    · rw [hunit, hV]; exact Nat.mul_lt_mul_of_pos_right hqm1 hpe
    · rcases cut_even false m d with h1 | ⟨h1, h2⟩
      · exact .inl h1
      · refine .inr ⟨h1, ?_⟩
        rw [hunit, hV]
        exact Nat.mul_lt_mul_of_pos_right h2 hpe

/-- A number that is no greater than a rung's is written as no higher a rung. -/
theorem rung_le {k : FloatKind} {m r : Nat} {e c : Int} (hm : m ≠ 0) (hc1 : c ≤ e) (hc2 : c ≤ k.format.leastPlace) (h : m * 2 ^ (e - c).toNat ≤ mg k.format.binade r * 2 ^ (k.format.leastPlace - c).toNat) : rungOf k m e ≤ r := by
  obtain ⟨a, q, kept, h1, h2, h3, h4, h5, h6⟩ := near k hm hc1 hc2
  have hB := binade_pos k.format
  have hp := Nat.two_pow_pos (k.format.leastPlace - c).toNat
  rw [h1]
  refine Nat.le_trans (Nat.min_le_left _ _) ?_
  have hq := mg_unit (a := a) (x := q) hB (by omega) h3
  rcases h6 with rfl | ⟨rfl, h7⟩
  · refine Nat.le_of_not_lt fun hlt => ?_
    have h8 := mg_lt hB hlt
    rw [hq] at h8
    have := Nat.mul_lt_mul_of_pos_right h8 hp
    omega
  · have h8 : a * k.format.binade + q < r := by
      refine Nat.lt_of_not_le fun hle => ?_
      have h9 := mg_le hB hle
      rw [hq] at h9
      have := Nat.mul_le_mul_right (2 ^ (k.format.leastPlace - c).toNat) h9
      omega
    omega
/-- A number that is no less than a rung's is written as no lower a rung. -/
theorem rung_ge {k : FloatKind} {m r : Nat} {e c : Int} (hm : m ≠ 0) (hc1 : c ≤ e) (hc2 : c ≤ k.format.leastPlace) (hr : r ≤ k.format.infRung) (h : mg k.format.binade r * 2 ^ (k.format.leastPlace - c).toNat ≤ m * 2 ^ (e - c).toNat) : r ≤ rungOf k m e := by
  obtain ⟨a, q, kept, h1, h2, h3, h4, h5, h6⟩ := near k hm hc1 hc2
  have hB := binade_pos k.format
  have hp := Nat.two_pow_pos (k.format.leastPlace - c).toNat
  rw [h1]
  refine Nat.le_min.2 ⟨?_, hr⟩
  have hq1 := mg_unit (a := a) (x := q + 1) hB (by omega) (by rcases h3 with h | h; exact .inl h; exact .inr (by omega))
  have h8 : r < a * k.format.binade + (q + 1) := by
    refine Nat.lt_of_not_le fun hle => ?_
    have h9 := mg_le hB hle
    rw [hq1] at h9
    have := Nat.mul_le_mul_right (2 ^ (k.format.leastPlace - c).toNat) h9
    omega
  rcases h6 with rfl | ⟨rfl, _⟩ <;> omega
end Go.Vx

namespace Go.Vx
open Ieee

theorem fin_rg {x : Nat} : fin x = true ↔ rg .f32 x < FloatKind.f32.format.infRung := by
  rw [fin_iff]
  constructor
  · rintro ⟨s, m, e, h⟩
    rcases Nat.lt_trichotomy (rg .f32 x) FloatKind.f32.format.infRung with h1 | h1 | h1
    · exact h1
    · have := read_inf h1
      rw [show FloatKind.f32.format.read x = _ from h] at this
      cases this
    · have hn : isN .f32 x = true := by rw [notN_rg]; simpa using h1
      have := read_nan .f32 x hn
      obtain ⟨s', f, h2⟩ := this
      rw [show FloatKind.f32.format.read x = _ from h] at h2
      cases h2
  · intro h
    obtain ⟨m, e, h1, _⟩ := read_fin h
    exact ⟨_, m, e, h1⟩
theorem notN_fin {x : Nat} (h : fin x = true) : isN .f32 x = false := by
  rw [fin_rg] at h
  rw [notN_rg]
  simp
  omega

theorem nearest_word (k : FloatKind) (s : Bool) (m : Nat) (e : Int) : k.format.nearest s m e = k.format.word s (rungOf k m e) := by
  have hI := inf_lt_sign k
  unfold rungOf Format.nearest
  split
  · rw [rg_word (by omega)]
  · rw [rg_word (Nat.lt_of_le_of_lt (Nat.min_le_right _ _) hI)]
    rfl
theorem rungOf_zero (k : FloatKind) (e : Int) : rungOf k 0 e = 0 := by
  have hI := inf_lt_sign k
  unfold rungOf Format.nearest
  rw [if_pos rfl, rg_word (by omega)]
theorem rungOf_le (k : FloatKind) (m : Nat) (e : Int) : rungOf k m e ≤ k.format.infRung := by
  by_cases hm : m = 0
  · subst hm; rw [rungOf_zero]; exact Nat.zero_le _
  · obtain ⟨a, q, kept, h1, _⟩ := near k (e := e) (c := min e k.format.leastPlace) hm (by omega) (by omega)
    rw [h1]
    exact Nat.min_le_right _ _

/-- What a rung stands for is written as that rung. -/
theorem rung_exact {k : FloatKind} {m r : Nat} {e c : Int} (hc1 : c ≤ e) (hc2 : c ≤ k.format.leastPlace) (hr : r ≤ k.format.infRung) (h : m * 2 ^ (e - c).toNat = mg k.format.binade r * 2 ^ (k.format.leastPlace - c).toNat) : rungOf k m e = r := by
  have hB := binade_pos k.format
  by_cases hm : m = 0
  · subst hm
    rw [rungOf_zero]
    rw [Nat.zero_mul] at h
    have h0 : mg k.format.binade r = 0 := by
      rcases Nat.mul_eq_zero.1 h.symm with h1 | h1
      · exact h1
      · have := Nat.two_pow_pos (k.format.leastPlace - c).toNat; omega
    refine (mg_inj hB (r := 0) ?_)
    rw [h0, mg_zero hB]
  · exact Nat.le_antisymm (rung_le hm hc1 hc2 (Nat.le_of_eq h)) (rung_ge hm hc1 hc2 hr (Nat.le_of_eq h.symm))

/-! ### A 32-bit number, widened, and narrowed again -/
theorem wide_rung {x : Nat} (h : fin x = true) : ∃ r', r' < FloatKind.f64.format.infRung ∧ conv .f32 .f64 x = FloatKind.f64.format.word (sg .f32 x) r' ∧ mg FloatKind.f64.format.binade r' = mg FloatKind.f32.format.binade (rg .f32 x) * 2 ^ 925 := by
  rw [fin_rg] at h
  obtain ⟨m, e, h1, h2, h3⟩ := read_fin h
  have hB : FloatKind.f64.format.binade = 2 ^ 52 := rfl
  have hL : FloatKind.f64.format.leastPlace = -1074 := rfl
  have hL3 : FloatKind.f32.format.leastPlace = -149 := rfl
  have hI : FloatKind.f64.format.infRung = 2047 * 2 ^ 52 := rfl
  rw [hL3] at h2 h3
  obtain ⟨hm, _, he⟩ := read_single (x := x) h1
  have key : ∃ r', r' < FloatKind.f64.format.infRung ∧ mg FloatKind.f64.format.binade r' = m * 2 ^ (e + 1074).toNat := by
    by_cases h0 : m = 0
    · subst h0
      refine ⟨0, by rw [hI]; omega, ?_⟩
      rw [mg_zero (by rw [hB]; decide), Nat.zero_mul]
    · have hl : m.log2 ≤ 23 := by
        have := (Nat.log2_lt h0).2 (show m < 2 ^ 24 by omega)
        omega
      have hge : 2 ^ m.log2 ≤ m := Nat.log2_self_le h0
      have hlt : m < 2 ^ (m.log2 + 1) := Nat.lt_log2_self
      have h4 : 2 ^ 52 ≤ m * 2 ^ (52 - m.log2) := by
        calc 2 ^ 52 = 2 ^ (m.log2 + (52 - m.log2)) := by congr 1; omega
          _ = 2 ^ m.log2 * 2 ^ (52 - m.log2) := Nat.pow_add ..
          _ ≤ _ := Nat.mul_le_mul_right _ hge
      have h5 : m * 2 ^ (52 - m.log2) < 2 * 2 ^ 52 := by
        calc m * 2 ^ (52 - m.log2) < 2 ^ (m.log2 + 1) * 2 ^ (52 - m.log2) := Nat.mul_lt_mul_of_pos_right hlt (Nat.two_pow_pos _)
          _ = 2 ^ (m.log2 + 1 + (52 - m.log2)) := (Nat.pow_add ..).symm
          _ = 2 ^ 53 := by congr 1; omega
          _ = 2 * 2 ^ 52 := by decide
      refine ⟨(e + 1074 - (52 - m.log2)).toNat * 2 ^ 52 + m * 2 ^ (52 - m.log2), ?_, ?_⟩
      · rw [hI]
        have h6 : (e + 1074 - (52 - m.log2)).toNat ≤ 1178 := by omega
        have := Nat.mul_le_mul_right (2 ^ 52) h6
        omega
      · rw [hB, mg_unit (by decide) (Nat.le_of_lt h5) (.inr h4), Nat.mul_assoc, ← Nat.pow_add]
        congr 2
        omega
  obtain ⟨r', h4, h5⟩ := key
  refine ⟨r', h4, ?_, ?_⟩
  · unfold conv
    rw [if_neg (by decide), h1]
    simp only [Format.write]
    have h6 : rungOf .f64 m e = r' := rung_exact (c := -1074) (by omega) (by rw [hL]; omega) (Nat.le_of_lt h4) (by
      rw [hL, h5]
      simp only [Int.sub_neg, Int.add_left_neg, Int.toNat_zero, Nat.pow_zero, Nat.mul_one])
    rw [nearest_word, h6, read_cn (notN_word (Nat.le_of_lt h4))]
  · have hsum : (e + 1074).toNat = (e - -149).toNat + 925 := by omega
    rw [h5, ← h3, Nat.shiftLeft_eq, hsum, Nat.pow_add, Nat.mul_assoc]

theorem narrow_back {x r' : Nat} {s : Bool} (h : fin x = true) (hr : r' < FloatKind.f64.format.infRung) (hm : mg FloatKind.f64.format.binade r' = mg FloatKind.f32.format.binade (rg .f32 x) * 2 ^ 925) :
    conv .f64 .f32 (FloatKind.f64.format.word s r') = FloatKind.f32.format.word s (rg .f32 x) ∧ fits .f64 .f32 (FloatKind.f64.format.word s r') = true := by
  have h' := fin_rg.1 h
  have hS := inf_lt_sign .f64
  have hrg : rg .f64 (FloatKind.f64.format.word s r') = r' := rg_word (by omega)
  have hsg : sg .f64 (FloatKind.f64.format.word s r') = s := sg_word (by omega)
  obtain ⟨m, e, h1, h2, h3⟩ := read_fin (k := .f64) (x := FloatKind.f64.format.word s r') (by rw [hrg]; exact hr)
  rw [hrg] at h3
  rw [hsg] at h1
  have hL : FloatKind.f64.format.leastPlace = -1074 := rfl
  have hL3 : FloatKind.f32.format.leastPlace = -149 := rfl
  rw [hL] at h2 h3
  have h6 : rungOf .f32 m e = rg .f32 x := rung_exact (c := -1074) (by omega) (by rw [hL3]; omega) (Nat.le_of_lt h') (by
    rw [← Nat.shiftLeft_eq, h3, hm, hL3, show ((-149 : Int) - -1074).toNat = 925 from by decide])
  have hw : FloatKind.f32.format.write (.number s m e) = FloatKind.f32.format.word s (rg .f32 x) := by
    simp only [Format.write]
    rw [nearest_word, h6]
  constructor
  · unfold conv
    rw [if_neg (by decide), h1]
    simp only
    rw [hw, read_cn (notN_word (Nat.le_of_lt h'))]
  · unfold fits
    rw [if_neg (by decide), h1]
    simp only [hw, Bool.not_eq_true']
    have hS3 := inf_lt_sign .f32
    obtain ⟨m2, e2, h7, _⟩ := read_fin (k := .f32) (x := FloatKind.f32.format.word s (rg .f32 x)) (by rw [rg_word (by omega)]; exact h')
    rw [h7]
    rfl

/-! ### How great a number is -/
/-- 'float32(math.Abs(float64(x)))' -/
def absF (x : Nat) : Nat := conv .f64 .f32 (conv .f32 .f64 x % 9223372036854775808)
/-- The reference's. -/
def sizeS (x : Nat) : Nat := if fcmp .leq .f32 x 0 = true then farith .sub .f32 0 x else x

theorem abs_rg {x : Nat} (h : fin x = true) : absF x = rg .f32 x ∧ fits .f64 .f32 (conv .f32 .f64 x % 9223372036854775808) = true := by
  obtain ⟨r', h1, h2, h3⟩ := wide_rung h
  have hS := inf_lt_sign .f64
  have e1 : conv .f32 .f64 x % 9223372036854775808 = FloatKind.f64.format.word false r' := by
    rw [h2]
    have := rg_word (k := .f64) (s := sg .f32 x) (r := r') (by omega)
    unfold rg at this
    rw [show FloatKind.f64.format.signWeight = 9223372036854775808 from rfl] at this
    rw [this]
    rfl
  have := narrow_back (s := false) h h1 h3
  unfold absF
  rw [e1]
  exact ⟨this.1, this.2⟩

theorem size_rg {x : Nat} (hc : Can x) (h : fin x = true) : sizeS x = rg .f32 x := by
  have h' := fin_rg.1 h
  have hx := word_parts (k := .f32) hc.1
  have h0 : rg .f32 0 < FloatKind.f32.format.infRung := by decide
  have hord := order_sval h' h0
  have hs0 : sval .f32 0 = 0 := by decide
  unfold sizeS
  by_cases hle : fcmp .leq .f32 x 0 = true
  · rw [if_pos hle]
    obtain ⟨m, e, h1, h2, h3⟩ := read_fin h'
    have hr0 : FloatKind.f32.format.read 0 = .number false 0 (-149) := rfl
    have hL : FloatKind.f32.format.leastPlace = -149 := rfl
    rw [hL] at h2 h3
    have hmin : min (-149 : Int) e = -149 := by omega
    unfold fcmp at hle
    rw [hord, hs0] at hle
    have hsv : sval .f32 x ≤ 0 := by
      rcases Int.lt_trichotomy (sval .f32 x) 0 with h4 | h4 | h4
      · omega
      · omega
      · rw [Int.compare_eq_gt.2 h4] at hle; cases hle
    have hneg : sg .f32 x = true ∨ mg FloatKind.f32.format.binade (rg .f32 x) = 0 := by
      unfold sval at hsv
      cases hsx : sg .f32 x
      · right; rw [hsx] at hsv; simp at hsv; omega
      · exact .inl rfl
    simp only [farith]
    unfold fsub Format.sub
    rw [h1, hr0]
    simp only [Datum.opposite, Datum.sum, hmin, Option.map_some]
    have hz : ∀ u, signed false 0 u = 0 := fun u => by simp [signed]
    rw [hz, Int.zero_add]
    have hsh : m <<< (e - -149).toNat = mg FloatKind.f32.format.binade (rg .f32 x) := h3
    have htot : (signed (!sg .f32 x) m (e - -149).toNat) = (mg FloatKind.f32.format.binade (rg .f32 x) : Nat) := by
      unfold signed
      rw [hsh]
      rcases hneg with h5 | h5
      · rw [h5]; rfl
      · rw [h5]; simp
    rw [htot]
    have hsgn : (if ((mg FloatKind.f32.format.binade (rg .f32 x) : Nat) : Int) = 0 then false && !sg .f32 x else decide (((mg FloatKind.f32.format.binade (rg .f32 x) : Nat) : Int) < 0)) = false := by
      split
      · rfl
      · simp
    rw [hsgn, Int.natAbs_natCast]
    simp only [Format.write]
    rw [nearest_word, rung_exact (k := .f32) (r := rg .f32 x) (c := -149) (by omega) (by rw [hL]; omega) (Nat.le_of_lt h') (by rw [hL])]
    rw [oc_some, read_cn (notN_word (Nat.le_of_lt h'))]
    rfl
  · rw [if_neg hle]
    have hsf : sg .f32 x = false := by
      cases hsx : sg .f32 x
      · rfl
      · exfalso
        apply hle
        unfold fcmp
        rw [hord, hs0]
        have : sval .f32 x ≤ 0 := by unfold sval; rw [hsx]; simp
        rcases Int.lt_or_eq_of_le this with h4 | h4
        · rw [Int.compare_eq_lt.2 h4]; rfl
        · rw [h4]; rfl
    rw [hsf] at hx
    rw [hx]
    have hS := inf_lt_sign .f32
    have : rg .f32 (FloatKind.f32.format.word false (rg .f32 x)) = rg .f32 x := rg_word (by omega)
    rw [this]
    rfl
theorem abs_same {x : Nat} (hc : Can x) (h : fin x = true) : sizeS x = absF x := (size_rg hc h).trans (abs_rg h).1.symm
end Go.Vx

namespace Go.Vx
open Go.RowKit
section
variable {P : Program} {ops : Array Oper} {o : Oper} {F' : Frm} {w0 : World} {old : Nat → Prop} {H : List HFact} {c : Bool}
theorem clear_top (X : Nat) : (BitVec.ofInt 64 (X : Int) &&& ~~~(BitVec.ofInt 64 9223372036854775808)).toNat = X % 9223372036854775808 := by
  have e1 : ~~~(BitVec.ofInt 64 9223372036854775808) = BitVec.ofNat 64 (2 ^ 63 - 1) := by decide
  rw [e1, BitVec.ofInt_natCast, BitVec.toNat_and, BitVec.toNat_ofNat, BitVec.toNat_ofNat, show (2 ^ 63 - 1) % 2 ^ 64 = 2 ^ 63 - 1 from by decide, Nat.and_two_pow_sub_one_eq_mod, show (9223372036854775808 : Nat) = 2 ^ 63 from rfl]
  exact Nat.mod_mod_of_dvd X (Nat.pow_dvd_pow 2 (by omega))
/-- 'n &^ (1 << 63)' -/
theorem v_clearTop {T T' : TypeId} {x : Operand} {g : Bool} {X : Nat} (ho : o.op = .binOp .andNot T x (.const (.int .u64 9223372036854775808)) T') (hx : ev F' x = some (g, .int .u64 (X : Int))) (hc : c = true → g = true) : VOp P ops w0 old o F' H c (.int .u64 ((X % 9223372036854775808 : Nat) : Int)) := by
  intro a w hl _ hcc
  have h1 : a.eval x = .int .u64 (X : Int) := ev_ab (a := a) hl (by simp [ho, Op.operands]) hx (hc hcc)
  have h2 : a.eval (.const (.int .u64 9223372036854775808)) = .int .u64 9223372036854775808 := rfl
  have hb : IntKind.u64.bits = 64 := rfl
  have hw : ∀ n : Nat, n < 9223372036854775808 → IntKind.u64.wrap (n : Int) = (n : Int) := fun n hn => by
    simp only [IntKind.wrap, IntKind.signed, IntKind.bits]
    simp
    omega
  have hrun : (binOp .andNot T (.int .u64 (X : Int)) (.int .u64 9223372036854775808)).run P w = .ok (.int .u64 ((X % 9223372036854775808 : Nat) : Int)) w := by
    have h3 : (Op.intBits .andNot .u64 (X : Int) 9223372036854775808).run P w = .ok (.int .u64 (IntKind.u64.wrap ((BitVec.ofInt 64 (X : Int) &&& ~~~(BitVec.ofInt 64 9223372036854775808)).toNat : Int))) w := rfl
    rw [clear_top, hw _ (Nat.mod_lt _ (by decide))] at h3
    simpa [binOp] using h3
  simp only [OpV, execOp, ho, h1, h2, eqGuard_at_int, Sem.run_bind, Sem.run_pure, Result.andThen_ok, hrun, yieldsUpon]
  exact ⟨below_self w, rfl⟩
theorem ext_f64from {f : FuncId} {fn : Func} {X : Nat} (hf : P.funcs[f]? = some fn) (hn : (fn.name == "runtime.NumGoroutine") = false) (hb : fn.body.isNone = true) (h1 : Extern.findNext fn = none) (h2 : Extern.find fn = some Extern.MathFloatBits.float64frombits) (hX : isN .f64 X = false) (hlt : X < 18446744073709551616) :
    Ext P f [.int .u64 (X : Int)] (.float .f64 X) := by
  refine ⟨fn, _, hf, hn, hb, h1, h2, fun w vs hvs => ?_⟩
  match vs, hvs with
  | [v], hvs =>
    have hv : v = .int .u64 (X : Int) := hvs.1
    subst hv
    exact ⟨_, w, rfl, below_self w, X, by simp, hlt, read_cn hX⟩
theorem notN_mod {X : Nat} (h : isN .f64 X = false) : isN .f64 (X % 9223372036854775808) = false := by
  simp only [isN, decide_eq_false_iff_not] at *
  omega
end
end Go.Vx

namespace Go.Vx
/-! ### Where a list is greatest -/
def pkB (size : Nat → Nat) (g : Nat → Nat) (i : Nat) : Nat := fold i 0 fun j b => if fcmp .gtr .f32 (size (g j)) (size (g b)) = true then j else b
theorem pkB_yes {size g : Nat → Nat} {i : Nat} (h : fcmp .gtr .f32 (size (g i)) (size (g (pkB size g i))) = true) : pkB size g (i + 1) = i := by
  unfold pkB at *
  rw [fold_succ, if_pos h]
theorem pkB_no {size g : Nat → Nat} {i : Nat} (h : fcmp .gtr .f32 (size (g i)) (size (g (pkB size g i))) = false) : pkB size g (i + 1) = pkB size g i := by
  unfold pkB at *
  rw [fold_succ, if_neg (by rw [h]; decide)]
theorem pkB_lt {size g : Nat → Nat} {N : Nat} (hN : 0 < N) : ∀ i, i ≤ N → pkB size g i < N
  | 0, _ => hN
  | i + 1, h => by
    have := pkB_lt (size := size) (g := g) hN i (by omega)
    cases hc : fcmp .gtr .f32 (size (g i)) (size (g (pkB size g i)))
    · rw [pkB_no hc]; exact this
    · rw [pkB_yes hc]; omega
theorem pkB_congr {s1 s2 g : Nat → Nat} {N : Nat} (h : ∀ j, j < N → s1 (g j) = s2 (g j)) : ∀ i, i ≤ N → pkB s1 g i = pkB s2 g i
  | 0, _ => rfl
  | i + 1, hi => by
    have ih := pkB_congr h i (by omega)
    have hlt := pkB_lt (size := s2) (g := g) (N := N) (by omega) i (by omega)
    have e : fcmp .gtr .f32 (s1 (g i)) (s1 (g (pkB s1 g i))) = fcmp .gtr .f32 (s2 (g i)) (s2 (g (pkB s2 g i))) := by
      rw [ih, h i (by omega), h _ hlt]
    cases hc : fcmp .gtr .f32 (s2 (g i)) (s2 (g (pkB s2 g i)))
    · rw [pkB_no hc, pkB_no (by rw [e]; exact hc), ih]
    · rw [pkB_yes hc, pkB_yes (by rw [e]; exact hc)]
def peakOk (N : Nat) (g : Nat → Nat) : Bool := sound N g && !icmp .eql (N : Int) 0
/-- Where a sound is loudest, and how loud it is there. -/
def peakV (size : Nat → Nat) (N : Nat) (g : Nat → Nat) : Value := .tuple #[.int .i64 (bif peakOk N g then (pkB size g N : Int) else 0), .float .f32 (bif peakOk N g then size (g (pkB size g N)) else 0), .bool (peakOk N g)]
theorem sound_fin {N : Nat} {g : Nat → Nat} (h : sound N g = true) {j : Nat} (hj : j < N) : fin (g j) = true := by
  unfold sound at h
  simp only [Bool.and_eq_true] at h
  exact allB_true.1 h.2 j hj
theorem peak_same {N : Nat} {g : Nat → Nat} (hc : ∀ j, j < N → Can (g j)) : peakV absF N g = peakV sizeS N g := by
  unfold peakV
  cases ho : peakOk N g
  · rfl
  · unfold peakOk at ho
    simp only [Bool.and_eq_true] at ho
    have hs : ∀ j, j < N → absF (g j) = sizeS (g j) := fun j hj => (abs_same (hc j hj) (sound_fin ho.1 hj)).symm
    have hN : 0 < N := by
      have := ho.2
      simp [icmp] at this
      omega
    have e := pkB_congr hs N (Nat.le_refl _)
    rw [e, hs _ (pkB_lt hN N (Nat.le_refl _))]
end Go.Vx

namespace Go.Vx
open Ieee Go.RowKit
/-! ### The greatest of some numbers -/
/-- 'max(x, y)' of numbers. -/
def maxF (k : FloatKind) (x y : Nat) : Nat := match k.format.order x y with
  | some .lt => y
  | some .gt => x
  | some .eq => if (k.format.read x).neg then y else x
  | none => qnan k
section
variable {P : Program} {ops : Array Oper} {o : Oper} {F' : Frm} {w0 : World} {old : Nat → Prop} {H : List HFact} {c : Bool}
theorem v_maxF {T : TypeId} {ts : Array TypeId} {x y : Operand} {gx gy : Bool} {k : FloatKind} {X Y : Nat} (ho : o.op = .call { callee := .builtin .max, args := #[x, y], argTypes := ts }) (_hT : o.type = T) (hx : ev F' x = some (gx, .float k X)) (hy : ev F' y = some (gy, .float k Y))
    (hcx : c = true → gx = true) (hcy : c = true → gy = true) (hX : c = true → isN k X = false) (hY : c = true → isN k Y = false) : VOp P ops w0 old o F' H c (.float k (maxF k X Y)) := by
  intro a w hl _ hcc
  obtain ⟨b1, h1, l1, e1⟩ := ab_flt (ev_ab (a := a) hl (by simp [ho, Op.operands, Call.operands]) hx (hcx hcc))
  obtain ⟨b2, h2, l2, e2⟩ := ab_flt (ev_ab (a := a) hl (by simp [ho, Op.operands, Call.operands]) hy (hcy hcc))
  have f1 : b1 = X := by rw [← e1]; exact (cn_not (by rw [e1]; exact hX hcc)).symm
  have f2 : b2 = Y := by rw [← e2]; exact (cn_not (by rw [e2]; exact hY hcc)).symm
  subst f1 f2
  have g1 := read_num k b1 (hX hcc)
  have g2 := read_num k b2 (hY hcc)
  have hn : k.format.order b1 b2 ≠ none := by
    unfold Format.order
    cases hr1 : k.format.read b1 <;> cases hr2 : k.format.read b2 <;> simp [hr1, hr2, Datum.isNaN] at g1 g2 <;> simp [Datum.order]
  have hrun : (Builtin.max_ ts o.type #[.float k b1, .float k b2]).run P w = .ok (.float k (maxF k b1 b2)) w := by
    unfold maxF
    simp only [Builtin.max_, Builtin.max2, List.foldlM_cons, List.foldlM_nil, Sem.run_bind]
    cases ho' : k.format.order b1 b2 with
    | none => exact absurd ho' hn
    | some v => cases v <;> rfl
  have hlt : maxF k b1 b2 < 2 ^ k.format.width := by
    unfold maxF
    split
    · exact l2
    · exact l1
    · split
      · exact l2
      · exact l1
    · cases k <;> decide
  have hcn : cn k (maxF k b1 b2) = maxF k b1 b2 := by
    have h3 := read_cn (hX hcc)
    have h4 := read_cn (hY hcc)
    unfold maxF
    split
    · exact h4
    · exact h3
    · split
      · exact h4
      · exact h3
    · rw [cn_nan (isN_qnan k)]
  simp only [OpV, execOp, ho, resolve, invoke, builtin, List.map_toArray, List.map_cons, List.map_nil, h1, h2, Sem.run_bind, Sem.run_pure, Result.andThen_ok, hrun, yieldsUpon]
  exact ⟨below_self w, _, rfl, hlt, hcn⟩
end
theorem order_small {m a : Nat} (hm : m < FloatKind.f32.format.infRung) (ha : a < FloatKind.f32.format.infRung) : FloatKind.f32.format.order m a = some (compare m a) := by
  have hS := inf_lt_sign .f32
  have hB := binade_pos FloatKind.f32.format
  have e : ∀ q, q < FloatKind.f32.format.infRung → rg .f32 q = q ∧ sg .f32 q = false := fun q hq => by
    have h1 : rg .f32 (FloatKind.f32.format.word false q) = q := rg_word (by omega)
    have h2 : sg .f32 (FloatKind.f32.format.word false q) = false := sg_word (by omega)
    exact ⟨h1, h2⟩
  obtain ⟨e1, e2⟩ := e m hm
  obtain ⟨e3, e4⟩ := e a ha
  rw [order_sval (by rw [e1]; exact hm) (by rw [e3]; exact ha)]
  unfold sval
  rw [e1, e2, e3, e4]
  simp only [Bool.false_eq_true, if_false, Option.some.injEq]
  rcases Nat.lt_trichotomy m a with h | h | h
  · have := mg_lt hB h
    rw [Nat.compare_eq_lt.2 h, Int.compare_eq_lt.2 (by omega)]
  · subst h; simp
  · have := mg_lt hB h
    rw [Nat.compare_eq_gt.2 h, Int.compare_eq_gt.2 (by omega)]
theorem maxF_small {m a : Nat} (hm : m < FloatKind.f32.format.infRung) (ha : a < FloatKind.f32.format.infRung) : maxF .f32 m a = if m < a then a else m := by
  unfold maxF
  rw [order_small hm ha]
  rcases Nat.lt_trichotomy m a with h | h | h
  · rw [Nat.compare_eq_lt.2 h, if_pos h]
  · subst h; simp
  · have hn : ¬ m < a := by omega
    rw [Nat.compare_eq_gt.2 h, if_neg hn]
theorem gtr_small {m a : Nat} (hm : m < FloatKind.f32.format.infRung) (ha : a < FloatKind.f32.format.infRung) : fcmp .gtr .f32 a m = decide (m < a) := by
  unfold fcmp
  rw [order_small ha hm]
  rcases Nat.lt_trichotomy m a with h | h | h
  · rw [Nat.compare_eq_gt.2 h]; simp [h]
  · subst h; simp
  · rw [Nat.compare_eq_lt.2 h]
    have : ¬ m < a := by omega
    simp [this]
def rcI (g : Nat → Nat) (i : Nat) : Nat := fold i 0 fun j m => maxF .f32 m (absF (g j))
def rcS (g : Nat → Nat) (i : Nat) : Nat := fold i 0 fun j m => if fcmp .gtr .f32 (sizeS (g j)) m = true then sizeS (g j) else m
theorem rcS_yes {g : Nat → Nat} {i : Nat} (h : fcmp .gtr .f32 (sizeS (g i)) (rcS g i) = true) : rcS g (i + 1) = sizeS (g i) := by
  unfold rcS at *
  rw [fold_succ, if_pos h]
theorem rcS_no {g : Nat → Nat} {i : Nat} (h : fcmp .gtr .f32 (sizeS (g i)) (rcS g i) = false) : rcS g (i + 1) = rcS g i := by
  unfold rcS at *
  rw [fold_succ, if_neg (by rw [h]; decide)]
theorem size_neg {x : Nat} (h : fcmp .leq .f32 x 0 = true) : sizeS x = farith .sub .f32 0 x := if_pos h
theorem size_pos {x : Nat} (h : fcmp .leq .f32 x 0 = false) : sizeS x = x := if_neg (by rw [h]; decide)
theorem abs_small {x : Nat} (h : fin x = true) : absF x < FloatKind.f32.format.infRung := by rw [(abs_rg h).1]; exact fin_rg.1 h
theorem small_num {m : Nat} (h : m < FloatKind.f32.format.infRung) : isN .f32 m = false := by
  have h3 : FloatKind.f32.format.infRung = 2139095040 := rfl
  rw [h3] at h
  simp only [isN, decide_eq_false_iff_not]
  omega
theorem rcI_small {N : Nat} {g : Nat → Nat} (hf : ∀ j, j < N → fin (g j) = true) : ∀ i, i ≤ N → rcI g i < FloatKind.f32.format.infRung
  | 0, _ => by
    show 0 < FloatKind.f32.format.infRung
    decide
  | i + 1, h => by
    have ih := rcI_small hf i (by omega)
    have ha := abs_small (hf i (by omega))
    show maxF .f32 (rcI g i) (absF (g i)) < _
    rw [maxF_small ih ha]
    split
    · exact ha
    · exact ih
theorem rc_same {N : Nat} {g : Nat → Nat} (hc : ∀ j, j < N → Can (g j)) (hf : ∀ j, j < N → fin (g j) = true) : ∀ i, i ≤ N → rcI g i = rcS g i
  | 0, _ => rfl
  | i + 1, h => by
    have ih := rc_same hc hf i (by omega)
    have hm := rcI_small hf i (by omega)
    have ha := abs_small (hf i (by omega))
    have hs := abs_same (hc i (by omega)) (hf i (by omega))
    have e : rcI g (i + 1) = maxF .f32 (rcI g i) (absF (g i)) := rfl
    rw [e, maxF_small hm ha]
    have hg := gtr_small hm ha
    rw [← hs, ih] at hg
    by_cases hlt : rcI g i < absF (g i)
    · rw [if_pos hlt, rcS_yes (by rw [hg]; rw [hs, ← ih]; simpa using hlt), hs]
    · rw [if_neg hlt, rcS_no (by rw [hg]; rw [hs, ← ih]; simpa using hlt), ih]
def reachV (rc : (Nat → Nat) → Nat → Nat) (N : Nat) (g : Nat → Nat) : Value := .tuple #[.float .f32 (bif sound N g then rc g N else 0), .bool (sound N g)]
theorem reach_same {N : Nat} {g : Nat → Nat} (hc : ∀ j, j < N → Can (g j)) : reachV rcI N g = reachV rcS N g := by
  unfold reachV
  cases hs : sound N g
  · rfl
  · rw [rc_same hc (fun j hj => sound_fin hs hj) N (Nat.le_refl _)]
end Go.Vx

namespace Go.Vx
open Ieee
theorem one_mg : mg FloatKind.f32.format.binade 1065353216 = 2 ^ 149 := by decide
/-- A number times one that is no greater than 1 is a number. -/
theorem mul_fin {x q : Nat} (hx : fin x = true) (hq : rg .f32 q ≤ 1065353216) : fin (farith .mul .f32 x q) = true := by
  have hx' := fin_rg.1 hx
  have hI : FloatKind.f32.format.infRung = 2139095040 := rfl
  have hS := inf_lt_sign .f32
  have hL : FloatKind.f32.format.leastPlace = -149 := rfl
  have hB := binade_pos FloatKind.f32.format
  obtain ⟨m, e, h1, h2, h3⟩ := read_fin hx'
  obtain ⟨n, j, g1, g2, g3⟩ := read_fin (k := .f32) (x := q) (by rw [hI]; omega)
  rw [hL] at h2 h3 g2 g3
  have hle : rungOf .f32 (m * n) (e + j) ≤ rg .f32 x := by
    by_cases h0 : m * n = 0
    · rw [h0, rungOf_zero]; exact Nat.zero_le _
    · refine rung_le (c := -298) h0 (by omega) (by rw [hL]; omega) ?_
      have e1 : (e + j - -298).toNat = (e - -149).toNat + (j - -149).toNat := by omega
      have e2 : (FloatKind.f32.format.leastPlace - -298).toNat = 149 := rfl
      have hmq : mg FloatKind.f32.format.binade (rg .f32 q) ≤ 2 ^ 149 := by rw [← one_mg]; exact mg_le hB hq
      rw [e1, e2, Nat.pow_add, ← h3, Nat.shiftLeft_eq]
      rw [← g3, Nat.shiftLeft_eq] at hmq
      calc m * n * (2 ^ (e - -149).toNat * 2 ^ (j - -149).toNat) = m * 2 ^ (e - -149).toNat * (n * 2 ^ (j - -149).toNat) := by
            rw [Nat.mul_assoc, Nat.mul_assoc, ← Nat.mul_assoc n, Nat.mul_comm n (2 ^ (e - -149).toNat), Nat.mul_assoc]
        _ ≤ _ := Nat.mul_le_mul_left _ hmq
  have hv : farith .mul .f32 x q = FloatKind.f32.format.word (sg .f32 x ^^ sg .f32 q) (rungOf .f32 (m * n) (e + j)) := by
    simp only [farith]
    unfold fmul Format.mul
    rw [h1, g1]
    simp only [Datum.product, Option.map_some, Format.write]
    rw [nearest_word, oc_some, read_cn (notN_word (rungOf_le _ _ _))]
  rw [hv, fin_rg, rg_word (by omega)]
  omega

/-- A whole number that is not too great is told exactly. -/
theorem int_exact {n : Nat} (h0 : 1 ≤ n) (h1 : n < 16777216) : ∃ r, r < FloatKind.f32.format.infRung ∧ ofInt .f32 (n : Int) = r ∧ rg .f32 r = r ∧ mg FloatKind.f32.format.binade r = n * 2 ^ 149 := by
  have hn : n ≠ 0 := by omega
  have hB : FloatKind.f32.format.binade = 2 ^ 23 := rfl
  have hI : FloatKind.f32.format.infRung = 255 * 2 ^ 23 := rfl
  have hL : FloatKind.f32.format.leastPlace = -149 := rfl
  have hS := inf_lt_sign .f32
  have hl : n.log2 ≤ 23 := by
    have := (Nat.log2_lt hn).2 (show n < 2 ^ 24 by omega)
    omega
  have hge : 2 ^ n.log2 ≤ n := Nat.log2_self_le hn
  have hlt : n < 2 ^ (n.log2 + 1) := Nat.lt_log2_self
  have h4 : 2 ^ 23 ≤ n * 2 ^ (23 - n.log2) := by
    calc 2 ^ 23 = 2 ^ (n.log2 + (23 - n.log2)) := by congr 1; omega
      _ = 2 ^ n.log2 * 2 ^ (23 - n.log2) := Nat.pow_add ..
      _ ≤ _ := Nat.mul_le_mul_right _ hge
  have h5 : n * 2 ^ (23 - n.log2) < 2 * 2 ^ 23 := by
    calc n * 2 ^ (23 - n.log2) < 2 ^ (n.log2 + 1) * 2 ^ (23 - n.log2) := Nat.mul_lt_mul_of_pos_right hlt (Nat.two_pow_pos _)
      _ = 2 ^ (n.log2 + 1 + (23 - n.log2)) := (Nat.pow_add ..).symm
      _ = 2 ^ 24 := by congr 1; omega
      _ = 2 * 2 ^ 23 := by decide
  have hr : (126 + n.log2) * 2 ^ 23 + n * 2 ^ (23 - n.log2) < FloatKind.f32.format.infRung := by
    rw [hI]
    have := Nat.mul_le_mul_right (2 ^ 23) (show 126 + n.log2 ≤ 149 by omega)
    omega
  have hm : mg FloatKind.f32.format.binade ((126 + n.log2) * 2 ^ 23 + n * 2 ^ (23 - n.log2)) = n * 2 ^ 149 := by
    rw [hB, mg_unit (by decide) (Nat.le_of_lt h5) (.inr h4), Nat.mul_assoc, ← Nat.pow_add]
    congr 2
    omega
  have hrung : rungOf .f32 n 0 = (126 + n.log2) * 2 ^ 23 + n * 2 ^ (23 - n.log2) := rung_exact (c := -149) (by omega) (by rw [hL]; omega) (Nat.le_of_lt hr) (by rw [hm, hL, show ((-149 : Int) - -149).toNat = 0 from rfl, Nat.pow_zero, Nat.mul_one]; rfl)
  refine ⟨_, hr, ?_, ?_, hm⟩
  · unfold ofInt FloatKind.nearest
    have e1 : decide ((n : Int) < 0) = false := by simp
    have e2 : ((n : Int)).natAbs = n := by simp
    rw [e1, e2]
    simp only [FloatKind.encode, Format.write]
    rw [nearest_word, hrung, read_cn (notN_word (Nat.le_of_lt hr))]
    rfl
  · have := rg_word (k := .f32) (s := false) (r := (126 + n.log2) * 2 ^ 23 + n * 2 ^ (23 - n.log2)) (by omega)
    exact this
/-- The quotient of two whole numbers of which the second is no less is no greater than 1. -/
theorem quo_small {a b : Nat} (h0 : 1 ≤ a) (hab : a ≤ b) (h1 : b < 16777216) : rg .f32 (farith .quo .f32 (ofInt .f32 (a : Int)) (ofInt .f32 (b : Int))) ≤ 1065353216 := by
  obtain ⟨ra, ha1, ha2, ha3, ha4⟩ := int_exact h0 (by omega)
  obtain ⟨rb, hb1, hb2, hb3, hb4⟩ := int_exact (n := b) (by omega) h1
  have hL : FloatKind.f32.format.leastPlace = -149 := rfl
  have hS := inf_lt_sign .f32
  rw [ha2, hb2]
  obtain ⟨m, i, r1, r2, r3⟩ := read_fin (k := .f32) (x := ra) (by rw [ha3]; exact ha1)
  obtain ⟨n, j, s1, s2, s3⟩ := read_fin (k := .f32) (x := rb) (by rw [hb3]; exact hb1)
  rw [hL] at r2 r3 s2 s3
  rw [ha3, ha4, Nat.shiftLeft_eq] at r3
  rw [hb3, hb4, Nat.shiftLeft_eq] at s3
  have hp := Nat.two_pow_pos 149
  have hn0 : n ≠ 0 := by
    intro h
    rw [h, Nat.zero_mul] at s3
    have : b = 0 := by
      rcases Nat.mul_eq_zero.1 s3.symm with h2 | h2
      · exact h2
      · omega
    omega
  have hm0 : m ≠ 0 := by
    intro h
    rw [h, Nat.zero_mul] at r3
    have : a = 0 := by
      rcases Nat.mul_eq_zero.1 r3.symm with h2 | h2
      · exact h2
      · omega
    omega
  obtain ⟨hm24, _, _⟩ := read_single (x := ra) r1
  have hml : m.log2 ≤ 23 := by
    have := (Nat.log2_lt hm0).2 (show m < 2 ^ 24 by omega)
    omega
  -- how the two stand to each other
  have hle : m * 2 ^ (i - -149).toNat ≤ n * 2 ^ (j - -149).toNat := by rw [r3, s3]; exact Nat.mul_le_mul_right _ hab
  let more := 25 + n.log2 - m.log2
  have hmore : more = 25 + n.log2 - m.log2 := rfl
  have hD : 2 ^ (25 + n.log2) ≤ m * 2 ^ more := by
    calc 2 ^ (25 + n.log2) = 2 ^ (m.log2 + more) := by congr 1; omega
      _ = 2 ^ m.log2 * 2 ^ more := Nat.pow_add ..
      _ ≤ _ := Nat.mul_le_mul_right _ (Nat.log2_self_le hm0)
  have hn2 : n < 2 ^ (n.log2 + 1) := Nat.lt_log2_self
  have hK : i - j ≤ more := by
    refine Int.le_of_not_gt fun hgt => ?_
    have h3 : (i - -149).toNat = (j - -149).toNat + more + (i - j - more).toNat := by omega
    rw [h3, Nat.pow_add, Nat.pow_add] at hle
    have h4 : m * (2 ^ (j - -149).toNat * 2 ^ more * 2 ^ (i - j - more).toNat) = (m * 2 ^ more * 2 ^ (i - j - more).toNat) * 2 ^ (j - -149).toNat := by
      rw [Nat.mul_comm (2 ^ (j - -149).toNat) (2 ^ more), Nat.mul_assoc (2 ^ more), Nat.mul_comm (2 ^ (j - -149).toNat), ← Nat.mul_assoc (2 ^ more), ← Nat.mul_assoc m, ← Nat.mul_assoc m]
    rw [h4] at hle
    have h5 := Nat.le_of_mul_le_mul_right hle (Nat.two_pow_pos _)
    have h6 : m * 2 ^ more ≤ m * 2 ^ more * 2 ^ (i - j - more).toNat := Nat.le_mul_of_pos_right _ (Nat.two_pow_pos _)
    have h7 : 2 ^ (n.log2 + 1) ≤ 2 ^ (25 + n.log2) := Nat.pow_le_pow_right (by omega) (by omega)
    omega
  let K := ((more : Int) + j - i).toNat
  have hKd : m * 2 ^ more ≤ n * 2 ^ K := by
    have h3 : (i - -149).toNat + K = (j - -149).toNat + more := by omega
    have h4 := Nat.mul_le_mul_right (2 ^ K) hle
    have h5 : m * 2 ^ (i - -149).toNat * 2 ^ K = m * 2 ^ more * 2 ^ (j - -149).toNat := by
      rw [Nat.mul_assoc, ← Nat.pow_add, h3, Nat.pow_add, Nat.mul_comm (2 ^ (j - -149).toNat), ← Nat.mul_assoc]
    have h6 : n * 2 ^ (j - -149).toNat * 2 ^ K = n * 2 ^ K * 2 ^ (j - -149).toNat := by
      rw [Nat.mul_assoc, Nat.mul_comm (2 ^ (j - -149).toNat), ← Nat.mul_assoc]
    rw [h5, h6] at h4
    exact Nat.le_of_mul_le_mul_right h4 (Nat.two_pow_pos _)
  let D := m <<< more
  have hDe : D = m * 2 ^ more := Nat.shiftLeft_eq ..
  have hQ : 2 * (D / n) + (D % n != 0).toNat ≤ 2 ^ (K + 1) := by
    have hn1 : 0 < n := by omega
    have hdm := Nat.div_add_mod D n
    have hlt : D / n ≤ 2 ^ K := by
      rw [Nat.div_le_iff_le_mul hn1]
      rw [hDe, Nat.mul_comm (2 ^ K)]
      omega
    rw [Nat.pow_succ]
    rcases Nat.eq_or_lt_of_le hlt with h3 | h3
    · have : D % n = 0 := by
        rw [h3] at hdm
        rw [hDe] at hdm ⊢
        omega
      rw [h3, this]
      simp
      omega
    · have : (D % n != 0).toNat ≤ 1 := Bool.toNat_le _
      omega
  have hQ0 : 2 * (D / n) + (D % n != 0).toNat ≠ 0 := by
    have : 0 < D / n := by
      refine Nat.div_pos ?_ (by omega)
      rw [hDe]
      have h7 : 2 ^ (n.log2 + 1) ≤ 2 ^ (25 + n.log2) := Nat.pow_le_pow_right (by omega) (by omega)
      omega
    omega
  have hv : farith .quo .f32 ra rb = FloatKind.f32.format.word (sg .f32 ra ^^ sg .f32 rb) (rungOf .f32 (2 * (D / n) + (D % n != 0).toNat) (i - j - more - 1)) := by
    simp only [farith]
    unfold fdiv Format.div
    rw [r1, s1]
    simp only [Datum.quotient, if_neg hn0, Option.map_some, Format.write]
    rw [nearest_word, oc_some]
    exact read_cn (notN_word (rungOf_le _ _ _))
  have hr := rungOf_le .f32 (2 * (D / n) + (D % n != 0).toNat) (i - j - more - 1)
  rw [hv, rg_word (by omega)]
  refine rung_le (c := min (i - j - more - 1) (-149)) hQ0 (by omega) (by rw [hL]; omega) ?_
  rw [one_mg, hL, ← Nat.pow_add]
  refine Nat.le_trans (Nat.mul_le_mul_right _ hQ) ?_
  rw [← Nat.pow_add]
  exact Nat.pow_le_pow_right (by omega) (by omega)
end Go.Vx

namespace Go.Vx
def fadQ (k n : Int) : Nat := farith .quo .f32 (ofInt .f32 (k + 1)) (ofInt .f32 (n + 1))
/-- A number of a sound whose ends are made softer. -/
def fadF (N : Nat) (a b : Int) (g : Nat → Nat) (i : Nat) : Nat :=
  if (N : Int) - 1 - (i : Int) < b then farith .mul .f32 (if (i : Int) < a then farith .mul .f32 (g i) (fadQ i a) else g i) (fadQ ((N : Int) - 1 - (i : Int)) b)
  else (if (i : Int) < a then farith .mul .f32 (g i) (fadQ i a) else g i)
theorem fad_11 {N i : Nat} {a b : Int} {g : Nat → Nat} (h1 : (i : Int) < a) (h2 : (N : Int) - 1 - (i : Int) < b) : fadF N a b g i = farith .mul .f32 (farith .mul .f32 (g i) (fadQ i a)) (fadQ ((N : Int) - 1 - (i : Int)) b) := by simp [fadF, h1, h2]
theorem fad_10 {N i : Nat} {a b : Int} {g : Nat → Nat} (h1 : (i : Int) < a) (h2 : ¬ (N : Int) - 1 - (i : Int) < b) : fadF N a b g i = farith .mul .f32 (g i) (fadQ i a) := by simp [fadF, h1, h2]
theorem fad_01 {N i : Nat} {a b : Int} {g : Nat → Nat} (h1 : ¬ (i : Int) < a) (h2 : (N : Int) - 1 - (i : Int) < b) : fadF N a b g i = farith .mul .f32 (g i) (fadQ ((N : Int) - 1 - (i : Int)) b) := by simp [fadF, h1, h2]
theorem fad_00 {N i : Nat} {a b : Int} {g : Nat → Nat} (h1 : ¬ (i : Int) < a) (h2 : ¬ (N : Int) - 1 - (i : Int) < b) : fadF N a b g i = g i := by simp [fadF, h1, h2]
theorem fad_fin1 {x : Nat} {k n : Int} (hx : fin x = true) (h0 : 0 ≤ k) (h1 : k < n) (h2 : n ≤ 1048576) : fin (farith .mul .f32 x (fadQ k n)) = true := by
  refine mul_fin hx ?_
  have := quo_small (a := k.toNat + 1) (b := n.toNat + 1) (by omega) (by omega) (by omega)
  unfold fadQ
  rw [show k + 1 = ((k.toNat + 1 : Nat) : Int) by omega, show n + 1 = ((n.toNat + 1 : Nat) : Int) by omega]
  exact this
theorem fad_fin {N : Nat} {a b : Int} {g : Nat → Nat} (hs : sound N g = true) (ha : iin a 0 (N : Int) = true) (hb : iin b 0 (N : Int) = true) : allB N (fun j => fin (fadF N a b g j)) = true := by
  simp only [iin, Bool.and_eq_true, decide_eq_true_eq] at ha hb
  have hN : (N : Int) ≤ 256 := by
    unfold sound at hs
    simp only [Bool.and_eq_true] at hs
    exact of_decide_eq_true hs.1
  rw [allB_true]
  intro j hj
  have hx := sound_fin hs hj
  have h1 : fin (if (j : Int) < a then farith .mul .f32 (g j) (fadQ j a) else g j) = true := by
    split
    · exact fad_fin1 hx (by omega) (by assumption) (by omega)
    · exact hx
  unfold fadF
  split
  · exact fad_fin1 h1 (by omega) (by assumption) (by omega)
  · exact h1
def fadOk (N : Nat) (a b : Int) (g : Nat → Nat) : Bool := (sound N g && iin a 0 (N : Int)) && iin b 0 (N : Int)
theorem fad_ok {N : Nat} {a b : Int} {g : Nat → Nat} (ha : iin a 0 (N : Int) = true) (hb : iin b 0 (N : Int) = true) : (sound N g && allB N (fun j => fin (fadF N a b g j))) = fadOk N a b g := by
  unfold fadOk
  rw [ha, hb]
  cases hs : sound N g
  · rfl
  · rw [fad_fin hs ha hb]
    rfl
theorem part_get_ge {N i j : Nat} {g h : Nat → Nat} (hi : i ≤ j) (hj : j < N) : (part N i g h)[j]? = some (F (h j)) := by
  rw [part_get hj, if_neg (by omega)]
theorem part_set_get {N i j : Nat} {g h : Nat → Nat} {v : Value} (hj : j < N) : ((part N i g h).set j v)[j]? = some v := by
  rw [List.getElem?_set_self (by rw [part_length]; exact hj)]
theorem part_skip {N i : Nat} {g h : Nat → Nat} (e : g i = h i) : part N (i + 1) g h = part N i g h := by
  unfold part
  refine List.map_congr_left fun j _ => ?_
  by_cases h1 : j < i
  · rw [if_pos h1, if_pos (by omega)]
  · rw [if_neg h1]
    by_cases h2 : j = i
    · subst h2; rw [if_pos (by omega), e]
    · rw [if_neg (by omega)]
theorem part_set2 {N i : Nat} {g h : Nat → Nat} {v : Value} : ((part N i g h).set i v).set i (F (g i)) = part N (i + 1) g h := by
  rw [List.set_set]
  exact part_set
end Go.Vx

namespace Go.Vx
theorem hA_vecPS {w0 : World} {old : Nat → Prop} {H : List HFact} {e : TypeId} {A : Option Addr} {cap N i k : Nat} {g g' : Nat → Nat} {v : Value} (h : HFact.vec e A cap ((part N i g g').set k v) ∈ H) : ∀ w, HInv w0 old H w → A = none → N = 0 := fun w hI hA => by
  have := hA_vec h w hI hA
  rwa [List.length_set, part_length] at this
end Go.Vx

namespace Go.Vx
/-- The two steps of the reference's. -/
def fadA (a : Int) (g : Nat → Nat) (j : Nat) : Nat := farith .mul .f32 (g j) (fadQ j a)
def fadE (N : Nat) (b : Int) (x : Nat → Nat) (i : Nat) (j : Nat) : Nat := if (N : Int) - 1 - (j : Int) < (i : Int) then farith .mul .f32 (x j) (fadQ ((N : Int) - 1 - (j : Int)) b) else x j
theorem fadE_zero {N : Nat} {b : Int} {x : Nat → Nat} : tab N (fadE N b x 0) = tab N x := tab_congr fun j hj => by
  have : ¬ ((N : Int) - 1 - (j : Int) < ((0 : Nat) : Int)) := by omega
  simp only [fadE, if_neg this]
theorem fadE_at {N i : Nat} {b : Int} {x : Nat → Nat} (hi : i < N) : fadE N b x i ((N : Int) - 1 - (i : Int)).toNat = x ((N : Int) - 1 - (i : Int)).toNat := by
  have : ¬ ((N : Int) - 1 - ((((N : Int) - 1 - (i : Int)).toNat : Nat) : Int) < (i : Int)) := by omega
  simp only [fadE, if_neg this]
theorem fadE_set {N i : Nat} {b : Int} {x : Nat → Nat} (hi : i < N) : (tab N (fadE N b x i)).set ((N : Int) - 1 - (i : Int)).toNat (F (farith .mul .f32 (fadE N b x i ((N : Int) - 1 - (i : Int)).toNat) (fadQ i b))) = tab N (fadE N b x (i + 1)) := by
  rw [tab_set]
  refine tab_congr fun j hj => ?_
  by_cases h : j = ((N : Int) - 1 - (i : Int)).toNat
  · rw [if_pos h, fadE_at hi]
    subst h
    have h1 : (N : Int) - 1 - ((((N : Int) - 1 - (i : Int)).toNat : Nat) : Int) = (i : Int) := by omega
    have h2 : (N : Int) - 1 - ((((N : Int) - 1 - (i : Int)).toNat : Nat) : Int) < ((i + 1 : Nat) : Int) := by omega
    unfold fadE
    rw [if_pos h2, h1]
  · rw [if_neg h]
    unfold fadE
    by_cases h1 : (N : Int) - 1 - (j : Int) < (i : Int)
    · rw [if_pos h1, if_pos (by omega)]
    · rw [if_neg h1, if_neg (by omega)]
theorem fadE_end {N : Nat} {a b : Int} {g : Nat → Nat} (ha : 0 ≤ a) (hb : 0 ≤ b) : tab N (fadE N b (fun j => if j < a.toNat then fadA a g j else g j) b.toNat) = tab N (fadF N a b g) := tab_congr fun j hj => by
  unfold fadE fadF fadA
  have e1 : ((N : Int) - 1 - (j : Int) < ((b.toNat : Nat) : Int)) ↔ ((N : Int) - 1 - (j : Int) < b) := by omega
  have e2 : (j < a.toNat) ↔ ((j : Int) < a) := by omega
  simp only [e1, e2]
end Go.Vx

namespace Go.Vx
/-! ### The first of some -/
/-- The index of the first that is wanted, or -1. -/
def idxF (N : Nat) (p : Nat → Bool) : Int := match (List.range N).find? p with | some i => i | none => -1
theorem idx_at {N i : Nat} {p : Nat → Bool} (h : i < N) (hp : p i = true) (hl : ∀ j, j < i → p j = false) : idxF N p = i := by
  have : (List.range N).find? p = some i := by
    rw [List.find?_range_eq_some]
    exact ⟨hp, List.mem_range.2 h, fun j hj => by simp [hl j hj]⟩
  unfold idxF
  rw [this]
theorem idx_none {N : Nat} {p : Nat → Bool} (h : ∀ j, j < N → p j = false) : idxF N p = -1 := by
  have : (List.range N).find? p = none := by
    rw [List.find?_eq_none]
    intro j hj
    simp [h j (List.mem_range.1 hj)]
  unfold idxF
  rw [this]
theorem idx_any {N : Nat} {p : Nat → Bool} : icmp .geq (idxF N p) 0 = anyB N p := by
  cases ha : anyB N p
  · have hn : ∀ j, j < N → p j = false := fun j hj => by
      cases hp : p j
      · rfl
      · exfalso
        have := anyB_true.2 ⟨j, hj, hp⟩
        rw [ha] at this; cases this
    rw [idx_none hn]
    rfl
  · unfold idxF
    cases hf : (List.range N).find? p with
    | some i => simp [icmp]
    | none =>
      exfalso
      obtain ⟨j, hj, hp⟩ := anyB_true.1 ha
      have := List.find?_eq_none.1 hf j (List.mem_range.2 hj)
      exact this hp
theorem con_any {P : Program} {f : FuncId} {Vs : List Value} {V : Value} {C : World → Prop} (h : Con P f Vs (fun _ => True) V) : Con P f Vs C V := ⟨h.1, fun w vs _ hv => h.2 w vs trivial hv⟩
def stepB (x : Nat) : Bool := fcmp .gtr .f32 x 3212836864 && fcmp .lss .f32 x 1065353216
/-- A list that is a ladder. -/
def ladB (N : Nat) (g : Nat → Nat) : Bool := iin (N : Int) 1 16 && allB N (fun j => stepB (g j))
end Go.Vx

namespace Go.Vx
theorem j_condAndLt {P : Program} {F' : Frm} {w0 : World} {old : Nat → Prop} {H : List HFact} {n : Nat} {Q : Exit → Act → World → Prop} {t : Nat} {X Y Z W : Int} {x y : Code} (hc : Frm.get F' t = some (true, .bool (icmp .lss X Y && icmp .leq Z W))) (kx : (X < Y ∧ Z ≤ W) → J P n w0 old x F' H Q) (ky : ¬ (X < Y ∧ Z ≤ W) → J P n w0 old y F' H Q) : J P n w0 old (.cond (.tmp t) x y) F' H Q :=
  j_cond hc (fun h => kx (by simpa [icmp] using h)) (fun h => ky (by simpa [icmp] using h))
theorem lad_no {N i : Nat} {g : Nat → Nat} (hi : i < N) (h : stepB (g i) = false) : false = ladB N g := by
  unfold ladB
  rw [allB_false hi h, Bool.and_false]
theorem lad_end {N i : Nat} {g : Nat → Nat} (hi : ∀ j, j < i → stepB (g j) = true) (h : (N : Int) ≤ 16 → N ≤ i) : (icmp .geq (N : Int) 1 && icmp .leq (N : Int) 16) = ladB N g := by
  unfold ladB
  by_cases h1 : (N : Int) ≤ 16
  · rw [allB_true.2 (fun j hj => hi j (by have := h h1; omega)), Bool.and_true]
    rfl
  · have e1 : icmp .leq (N : Int) 16 = false := decide_eq_false h1
    have e2 : iin (N : Int) 1 16 = false := by
      unfold iin
      rw [decide_eq_false h1, Bool.and_false]
    rw [e1, e2, Bool.and_false, Bool.false_and]
end Go.Vx

namespace Go.Vx
theorem j_condAndGe {P : Program} {F' : Frm} {w0 : World} {old : Nat → Prop} {H : List HFact} {n : Nat} {Q : Exit → Act → World → Prop} {t : Nat} {X Y Z W : Int} {x y : Code} (hc : Frm.get F' t = some (true, .bool (icmp .lss X Y && icmp .geq Z W))) (kx : (X < Y ∧ Z ≥ W) → J P n w0 old x F' H Q) (ky : ¬ (X < Y ∧ Z ≥ W) → J P n w0 old y F' H Q) : J P n w0 old (.cond (.tmp t) x y) F' H Q :=
  j_cond hc (fun h => kx (by simpa [icmp] using h)) (fun h => ky (by simpa [icmp] using h))
/-- What a predictor tells. -/
def prG (g h : Nat → Nat) (n : Int) (i : Nat) : Nat := fold i 0 fun k s => farith .add .f32 s (farith .mul .f32 (g k) (h (n - 1 - (k : Int)).toNat))
end Go.Vx

namespace Go.Vx
def validP (N : Nat) (g : Nat → Nat) (x : Nat) : Bool := ((iin (N : Int) 1 16 && allB N (fun j => fin (g j))) && fin x) && fcmp .geq .f32 x 0
/-- A number and whether there is one. -/
def numV (b : Bool) (v : Nat) : Value := .tuple #[.float .f32 (bif b then v else 0), .bool b]
theorem num_no {b : Bool} {v z : Nat} (h : b = false) (hz : z = 0) : Value.tuple #[.float .f32 z, .bool false] = numV b v := by subst h hz; rfl
theorem num_yes {b c : Bool} {v : Nat} (h : b = c) : Value.tuple #[.float .f32 (bif c then v else 0), .bool c] = numV b v := by subst h; rfl
end Go.Vx

namespace Go.Vx
theorem g_gt {c : Bool} {X Y : Int} (h : (c && (icmp .gtr X Y == true)) = true) : X > Y := by
  simp only [Bool.and_eq_true, beq_iff_eq] at h
  exact of_decide_eq_true h.2
/-- Whole numbers of which each is greater than the one before. -/
def incB (N : Nat) (T : Nat → Int) : Bool := allB (N - 1) (fun j => !icmp .geq (T (1 + (j : Int) - 1).toNat) (T (1 + (j : Int)).toNat))
def envI (N : Nat) (T : Nat → Int) (M : Nat) (V : Nat → Nat) : Bool := (((iin (N : Int) 1 16 && icmp .eql (M : Int) (N : Int)) && incB N T) && allB N (fun j => iin (T j) 0 1000000)) && allB M (fun j => fin (V j))
/-- One time is in its range, and greater than the one before. -/
def timeB (T : Nat → Int) (j : Nat) : Bool := !(!iin (T j) 0 1000000 || (icmp .gtr (j : Int) 0 && icmp .leq (T j) (T ((j : Int) - 1).toNat)))
theorem env_times {N : Nat} {T : Nat → Int} : allB N (timeB T) = (incB N T && allB N (fun j => iin (T j) 0 1000000)) := by
  rw [Bool.eq_iff_iff, Bool.and_eq_true]
  unfold incB
  rw [allB_true, allB_true, allB_true]
  unfold timeB
  simp only [Bool.not_eq_true', Bool.or_eq_false_iff, Bool.not_eq_false', Bool.and_eq_false_iff, icmp, decide_eq_false_iff_not]
  constructor
  · intro h
    refine ⟨fun j hj => ?_, fun j hj => (h j hj).1⟩
    have h1 := (h (j + 1) (by omega)).2
    rw [show (1 + (j : Int) - 1).toNat = j by omega, show (1 + (j : Int)).toNat = j + 1 by omega]
    rw [show (((j + 1 : Nat) : Int) - 1).toNat = j by omega] at h1
    omega
  · rintro ⟨h1, h2⟩ j hj
    refine ⟨h2 j hj, ?_⟩
    by_cases h0 : j = 0
    · left; omega
    · right
      have h3 := h1 (j - 1) (by omega)
      rw [show (1 + ((j - 1 : Nat) : Int) - 1).toNat = j - 1 by omega, show (1 + ((j - 1 : Nat) : Int)).toNat = j by omega] at h3
      rw [show ((j : Int) - 1).toNat = j - 1 by omega]
      omega
end Go.Vx

namespace Go.Vx
theorem env_no {N M : Nat} {T : Nat → Int} {V : Nat → Nat} (h : (((icmp .lss (N : Int) 1 || icmp .gtr (N : Int) 16) || icmp .neq (M : Int) (N : Int)) || !allB M (fun j => fin (V j))) = true) : false = envI N T M V := by
  unfold envI iin
  simp only [icmp, Bool.or_eq_true, decide_eq_true_eq, bne_iff_ne, Bool.not_eq_true'] at h
  symm
  rw [Bool.eq_false_iff]
  intro hc
  simp only [icmp, Bool.and_eq_true, decide_eq_true_eq, beq_iff_eq] at hc
  rcases h with ((h | h) | h) | h
  · omega
  · omega
  · exact h hc.1.1.1.2
  · rw [hc.2] at h; cases h
theorem env_cond {N M : Nat} {T : Nat → Int} {V : Nat → Nat} (h : (((icmp .lss (N : Int) 1 || icmp .gtr (N : Int) 16) || icmp .neq (M : Int) (N : Int)) || !allB M (fun j => fin (V j))) = false) : allB N (timeB T) = envI N T M V := by
  rw [env_times]
  unfold envI
  simp only [icmp, Bool.or_eq_false_iff, decide_eq_false_iff_not, bne_eq_false_iff_eq, Bool.not_eq_false'] at h
  have e1 : iin (N : Int) 1 16 = true := by
    unfold iin
    simp only [Bool.and_eq_true, decide_eq_true_eq]
    omega
  have e2 : icmp .eql (M : Int) (N : Int) = true := by
    simp only [icmp, beq_iff_eq]
    exact h.1.2
  rw [e1, e2, h.2, Bool.and_true, Bool.and_true, Bool.true_and]
theorem sameE_no {N N2 : Nat} {T T2 : Nat → Int} {b : Bool} (h : (icmp .neq (N : Int) (N2 : Int) || !b) = true) : false = (sameI N N2 T T2 && b) := by
  cases b
  · simp
  · simp only [icmp, Bool.not_true, Bool.or_false] at h
    have : N ≠ N2 := fun e => by subst e; simp at h
    simp [sameI, this]
theorem sameE_at {N N2 i : Nat} {T T2 : Nat → Int} {b : Bool} (hi : i < N) (hn : (T i == T2 i) = false) : false = (sameI N N2 T T2 && b) := by
  rw [sameI, allB_false hi hn]; simp
theorem sameE_len {N N2 : Nat} {b : Bool} (h : (icmp .neq (N : Int) (N2 : Int) || !b) = false) : N = N2 := by
  simp only [Bool.or_eq_false_iff] at h
  have := h.1; simp [icmp] at this; omega
theorem sameE_yes {N N2 : Nat} {T T2 : Nat → Int} {b : Bool} (h : (icmp .neq (N : Int) (N2 : Int) || !b) = false) (hi : ∀ j, j < N → (T j == T2 j) = true) : true = (sameI N N2 T T2 && b) := by
  simp only [Bool.or_eq_false_iff, Bool.not_eq_false'] at h
  have e : N = N2 := by have := h.1; simp [icmp] at this; omega
  rw [sameI, allB_true.2 hi, h.2, decide_eq_true e]; rfl
/-- The level of an envelope between two times. -/
def levAt (T : Nat → Int) (h : Nat → Nat) (x k : Int) : Nat := farith .add .f32 (h (k - 1).toNat) (farith .mul .f32 (farith .quo .f32 (ofInt .f32 (iarith .sub .i64 x (T (k - 1).toNat))) (ofInt .f32 (iarith .sub .i64 (T k.toNat) (T (k - 1).toNat)))) (farith .sub .f32 (h k.toNat) (h (k - 1).toNat)))
/-- The level of an envelope at a time. -/
def levF (N : Nat) (T : Nat → Int) (h : Nat → Nat) (x : Int) : Nat := if x ≤ T 0 then h 0 else if x ≥ T ((N : Int) - 1).toNat then h ((N : Int) - 1).toNat else levAt T h x (idxF N (fun j => icmp .geq (T j) x))
theorem lev_lo {N : Nat} {T : Nat → Int} {h : Nat → Nat} {x : Int} (h1 : x ≤ T 0) : levF N T h x = h 0 := if_pos h1
theorem lev_hi {N : Nat} {T : Nat → Int} {h : Nat → Nat} {x : Int} (h1 : ¬ x ≤ T 0) (h2 : T ((N : Int) - 1).toNat ≤ x) : levF N T h x = h ((N : Int) - 1).toNat := by rw [levF, if_neg h1, if_pos h2]
theorem lev_mid {N : Nat} {T : Nat → Int} {h : Nat → Nat} {x k : Int} (h1 : ¬ x ≤ T 0) (h2 : ¬ T ((N : Int) - 1).toNat ≤ x) (hk : idxF N (fun j => icmp .geq (T j) x) = k) : levF N T h x = levAt T h x k := by rw [levF, if_neg h1, if_neg h2, hk]
theorem lev_two {N : Nat} {T : Nat → Int} {x : Int} (hN : 1 ≤ N) (h1 : ¬ x ≤ T 0) (h2 : ¬ T ((N : Int) - 1).toNat ≤ x) : 0 + 2 ≤ N ∧ ∀ j, j ≤ 0 → T j < x := by
  refine ⟨?_, fun j hj => ?_⟩
  · refine Nat.le_of_not_lt fun hlt => h2 ?_
    have e : ((N : Int) - 1).toNat = 0 := by omega
    rw [e]; omega
  · obtain rfl : j = 0 := by omega
    omega
theorem lev_next {N i : Nat} {T : Nat → Int} {x : Int} (hi : i + 2 ≤ N ∧ ∀ j, j ≤ i → T j < x) (h1 : T (1 + (i : Int)).toNat < x) (h2 : ¬ T ((N : Int) - 1).toNat ≤ x) : i + 1 + 2 ≤ N ∧ ∀ j, j ≤ i + 1 → T j < x := by
  have e : (1 + (i : Int)).toNat = i + 1 := by omega
  rw [e] at h1
  refine ⟨?_, fun j hj => ?_⟩
  · refine Nat.le_of_not_lt fun hlt => h2 ?_
    have e : ((N : Int) - 1).toNat = i + 1 := by omega
    rw [e]; omega
  · rcases Nat.lt_or_ge j (i + 1) with h3 | h3
    · exact hi.2 j (by omega)
    · obtain rfl : j = i + 1 := by omega
      exact h1
theorem lev_at {N i : Nat} {T : Nat → Int} {x : Int} (hi : i + 2 ≤ N ∧ ∀ j, j ≤ i → T j < x) (h1 : ¬ T (1 + (i : Int)).toNat < x) : idxF N (fun j => icmp .geq (T j) x) = 1 + (i : Int) := by
  have e : (1 + (i : Int)).toNat = i + 1 := by omega
  rw [e] at h1
  rw [idx_at (i := i + 1) (by omega) (by simp [icmp]; omega) (fun j hj => by have := hi.2 j (by omega); simp [icmp]; omega)]
  omega
theorem lev_bd {N : Nat} {T : Nat → Int} {x : Int} (hN : 1 ≤ N) (h1 : ¬ x ≤ T 0) (h2 : ¬ T ((N : Int) - 1).toNat ≤ x) : 1 ≤ idxF N (fun j => icmp .geq (T j) x) ∧ idxF N (fun j => icmp .geq (T j) x) < (N : Int) := by
  unfold idxF
  cases e : (List.range N).find? (fun j => icmp .geq (T j) x) with
  | none =>
    have := List.find?_eq_none.1 e (N - 1) (List.mem_range.2 (by omega))
    have e : ((N : Int) - 1).toNat = N - 1 := by omega
    rw [e] at h2
    simp [icmp] at this
    omega
  | some i =>
    have hp := List.find?_some e
    have hm := List.mem_range.1 (List.mem_of_find?_eq_some e)
    simp [icmp] at hp
    refine ⟨?_, by simp only; omega⟩
    simp only
    rcases Nat.eq_zero_or_pos i with h0 | h0
    · subst h0; omega
    · omega
theorem env_len {N M : Nat} {T : Nat → Int} {V : Nat → Nat} (h : (!envI N T M V) = false) : 1 ≤ N ∧ M = N := by
  simp only [Bool.not_eq_false', envI, Bool.and_eq_true, iin, icmp, decide_eq_true_eq, beq_iff_eq] at h
  omega
theorem shape_len {N M K : Nat} {T : Nat → Int} {V g : Nat → Nat} (h : (!sound K g || !envI N T M V) = false) : 1 ≤ N ∧ M = N := env_len (Bool.or_eq_false_iff.1 h).2
theorem shape_no {N M K : Nat} {T : Nat → Int} {V g : Nat → Nat} {b : Bool} (h : (!sound K g || !envI N T M V) = true) : (envI N T M V && (sound K g && b)) = false := by
  cases h1 : sound K g <;> cases h2 : envI N T M V <;> simp_all
theorem shape_yes {N M K : Nat} {T : Nat → Int} {V g : Nat → Nat} {b : Bool} (h : (!sound K g || !envI N T M V) = false) : (envI N T M V && (sound K g && b)) = b := by
  cases h1 : sound K g <;> cases h2 : envI N T M V <;> simp_all
/-- A number times one that is not finite is not finite. -/
theorem mul_notfin {x l : Nat} (h : fin l = false) : fin (farith .mul .f32 x l) = false := by
  have hq : fin (qnan .f32) = false := fin_nan (isN_qnan .f32)
  have hinf : ∀ s, fin (oc .f32 (some (FloatKind.f32.format.write (.infinity s)))) = false := by intro s; cases s <;> decide
  have hz : farith .mul .f32 x l = oc .f32 (((FloatKind.f32.format.read x).product (FloatKind.f32.format.read l)).map FloatKind.f32.format.write) := rfl
  cases hl : FloatKind.f32.format.read l with
  | number s m e => rw [fin_num (show rd l = _ from hl)] at h; cases h
  | nan s f =>
    rw [hz, hl]
    cases FloatKind.f32.format.read x <;> exact hq
  | infinity s =>
    rw [hz, hl]
    cases FloatKind.f32.format.read x with
    | nan => exact hq
    | infinity t => exact hinf _
    | number t m e =>
      simp only [Ieee.Datum.product]
      split
      · exact hq
      · exact hinf _
theorem shape_at {N M K i : Nat} {T : Nat → Int} {V g : Nat → Nat} (hi : i < K) (h : fin (levF N T V (i : Int)) = false) : (envI N T M V && (sound K g && allB K (fun j => fin (farith .mul .f32 (g j) (levF N T V (j : Int)))))) = false := by
  rw [allB_false hi (mul_notfin h), Bool.and_false, Bool.and_false]
end Go.Vx

namespace Go.Vx
open Ieee

/-! ### The values of what operations give: bounds -/
theorem sval_word {k : FloatKind} {s : Bool} {r : Nat} (h : r < k.format.signWeight) : sval k (k.format.word s r) = if s then -((mg k.format.binade r : Nat) : Int) else ((mg k.format.binade r : Nat) : Int) := by
  unfold sval; rw [sg_word h, rg_word h]
theorem rung_lt_sign (k : FloatKind) (m : Nat) (e : Int) : rungOf k m e < k.format.signWeight := Nat.lt_of_le_of_lt (rungOf_le k m e) (inf_lt_sign k)
theorem sval_nearest (k : FloatKind) (s : Bool) (m : Nat) (e : Int) : sval k (k.format.nearest s m e) = if s then -((mg k.format.binade (rungOf k m e) : Nat) : Int) else ((mg k.format.binade (rungOf k m e) : Nat) : Int) := by
  rw [nearest_word, sval_word (rung_lt_sign k m e)]
theorem rg_nearest (k : FloatKind) (s : Bool) (m : Nat) (e : Int) : rg k (k.format.nearest s m e) = rungOf k m e := by
  rw [nearest_word, rg_word (rung_lt_sign k m e)]
theorem signed_eq (s : Bool) (m a : Nat) : signed s m a = if s then -((m * 2 ^ a : Nat) : Int) else ((m * 2 ^ a : Nat) : Int) := by
  unfold signed; rw [Nat.shiftLeft_eq]

/-- What is no greater than a value of the format is written as no more. -/
theorem nearest_hi {k : FloatKind} {s : Bool} {m : Nat} {e c : Int} {b : Nat} (hc1 : c ≤ e) (hc2 : c ≤ k.format.leastPlace) (hb : rg k b ≤ k.format.infRung)
    (h : signed s m (e - c).toNat ≤ sval k b * (2 ^ (k.format.leastPlace - c).toNat : Nat)) : sval k (k.format.nearest s m e) ≤ sval k b := by
  have hB := binade_pos k.format
  rw [sval_nearest]
  rw [signed_eq] at h
  by_cases hm : m = 0
  · subst hm
    rw [rungOf_zero, mg_zero hB]
    simp only [Nat.zero_mul, Int.natCast_zero, Int.neg_zero, ite_self] at h ⊢
    have hp : (0 : Int) < (2 ^ (k.format.leastPlace - c).toNat : Nat) := by have := Nat.two_pow_pos (k.format.leastPlace - c).toNat; omega
    exact Int.le_of_mul_le_mul_right (by simpa using h) hp
  · unfold sval at h ⊢
    cases s <;> cases hs : sg k b <;> simp only [hs, if_true, if_false, Bool.false_eq_true] at h ⊢
    · have h' : m * 2 ^ (e - c).toNat ≤ mg k.format.binade (rg k b) * 2 ^ (k.format.leastPlace - c).toNat := by exact_mod_cast h
      have := mg_le hB (rung_le hm hc1 hc2 h')
      omega
    · exfalso
      have h1 : 0 < m * 2 ^ (e - c).toNat := Nat.mul_pos (by omega) (Nat.two_pow_pos _)
      have h2 : (0 : Int) ≤ (mg k.format.binade (rg k b) : Nat) * (2 ^ (k.format.leastPlace - c).toNat : Nat) := Int.mul_nonneg (Int.natCast_nonneg _) (Int.natCast_nonneg _)
      rw [Int.neg_mul] at h
      omega
    · omega
    · rw [Int.neg_mul] at h
      have h' : mg k.format.binade (rg k b) * 2 ^ (k.format.leastPlace - c).toNat ≤ m * 2 ^ (e - c).toNat := by
        have := Int.neg_le_neg_iff.1 h
        exact_mod_cast this
      have := mg_le hB (rung_ge hm hc1 hc2 hb h')
      omega
/-- What is no less than a value of the format is written as no less. -/
theorem nearest_lo {k : FloatKind} {s : Bool} {m : Nat} {e c : Int} {b : Nat} (hc1 : c ≤ e) (hc2 : c ≤ k.format.leastPlace) (hb : rg k b ≤ k.format.infRung)
    (h : sval k b * (2 ^ (k.format.leastPlace - c).toNat : Nat) ≤ signed s m (e - c).toNat) : sval k b ≤ sval k (k.format.nearest s m e) := by
  have hB := binade_pos k.format
  rw [sval_nearest]
  rw [signed_eq] at h
  by_cases hm : m = 0
  · subst hm
    rw [rungOf_zero, mg_zero hB]
    simp only [Nat.zero_mul, Int.natCast_zero, Int.neg_zero, ite_self] at h ⊢
    have hp : (0 : Int) < (2 ^ (k.format.leastPlace - c).toNat : Nat) := by have := Nat.two_pow_pos (k.format.leastPlace - c).toNat; omega
    exact Int.le_of_mul_le_mul_right (by simpa using h) hp
  · unfold sval at h ⊢
    cases s <;> cases hs : sg k b <;> simp only [hs, if_true, if_false, Bool.false_eq_true] at h ⊢
    · have h' : mg k.format.binade (rg k b) * 2 ^ (k.format.leastPlace - c).toNat ≤ m * 2 ^ (e - c).toNat := by exact_mod_cast h
      have := mg_le hB (rung_ge hm hc1 hc2 hb h')
      omega
    · omega
    · exfalso
      have h1 : 0 < m * 2 ^ (e - c).toNat := Nat.mul_pos (by omega) (Nat.two_pow_pos _)
      have h2 : (0 : Int) ≤ (mg k.format.binade (rg k b) : Nat) * (2 ^ (k.format.leastPlace - c).toNat : Nat) := Int.mul_nonneg (Int.natCast_nonneg _) (Int.natCast_nonneg _)
      omega
    · rw [Int.neg_mul] at h
      have h' : m * 2 ^ (e - c).toNat ≤ mg k.format.binade (rg k b) * 2 ^ (k.format.leastPlace - c).toNat := by
        have := Int.neg_le_neg_iff.1 h
        exact_mod_cast this
      have := mg_le hB (rung_le hm hc1 hc2 h')
      omega

/-- A finite number. -/
def Fn (k : FloatKind) (x : Nat) : Prop := rg k x < k.format.infRung
theorem fn_fin {x : Nat} : Fn .f32 x ↔ fin x = true := fin_rg.symm
/-- The datum of a finite number. -/
theorem read_val {k : FloatKind} {x : Nat} (h : Fn k x) : ∃ s m e, k.format.read x = .number s m e ∧ k.format.leastPlace ≤ e ∧ signed s m (e - k.format.leastPlace).toNat = sval k x := by
  obtain ⟨m, e, h1, h2, h3⟩ := read_fin h
  refine ⟨_, m, e, h1, h2, ?_⟩
  unfold signed sval
  rw [h3]
theorem oc_nearest (k : FloatKind) (s : Bool) (m : Nat) (e : Int) : oc k (some (k.format.nearest s m e)) = k.format.nearest s m e := by
  rw [oc_some, nearest_word, read_cn (notN_word (rungOf_le _ _ _))]
/-- What is written lies between what bounds it. -/
theorem near_fn {k : FloatKind} {s : Bool} {m : Nat} {e c : Int} {lo hi : Nat} (hc1 : c ≤ e) (hc2 : c ≤ k.format.leastPlace) (hlo : Fn k lo) (hhi : Fn k hi)
    (h1 : sval k lo * (2 ^ (k.format.leastPlace - c).toNat : Nat) ≤ signed s m (e - c).toNat) (h2 : signed s m (e - c).toNat ≤ sval k hi * (2 ^ (k.format.leastPlace - c).toNat : Nat)) :
    Fn k (k.format.nearest s m e) ∧ sval k lo ≤ sval k (k.format.nearest s m e) ∧ sval k (k.format.nearest s m e) ≤ sval k hi := by
  have a1 := nearest_lo hc1 hc2 (Nat.le_of_lt hlo) h1
  have a2 := nearest_hi hc1 hc2 (Nat.le_of_lt hhi) h2
  refine ⟨?_, a1, a2⟩
  have hB := binade_pos k.format
  unfold Fn at *
  rw [rg_nearest]
  refine Nat.lt_of_not_le fun hle => ?_
  have e1 : rungOf k m e = k.format.infRung := Nat.le_antisymm (rungOf_le _ _ _) hle
  rw [sval_nearest, e1] at a1 a2
  have b1 := mg_lt hB hlo
  have b2 := mg_lt hB hhi
  unfold sval at a1 a2
  cases s <;> simp only [if_true, if_false, Bool.false_eq_true] at a1 a2
  · split at a2 <;> omega
  · split at a1 <;> omega

theorem signed_add (s : Bool) (m a b : Nat) : signed s m (a + b) = signed s m a * (2 ^ b : Nat) := signed_shift s m a b
theorem signed_of_nat (t : Int) (z : Bool) (hz : z = decide (t < 0) ∨ t = 0) : signed z t.natAbs 0 = t := by
  rw [signed_eq]
  rcases hz with h | h
  · subst h
    by_cases ht : t < 0 <;> simp [ht] <;> omega
  · subst h; cases z <;> simp
theorem add_val {k : FloatKind} {x y : Nat} (hx : Fn k x) (hy : Fn k y) : ∃ s m e, fadd k x y = k.format.nearest s m e ∧ k.format.leastPlace ≤ e ∧ signed s m (e - k.format.leastPlace).toNat = sval k x + sval k y := by
  obtain ⟨s, m, i, h1, h2, h3⟩ := read_val hx
  obtain ⟨t, n, j, g1, g2, g3⟩ := read_val hy
  unfold fadd Format.add
  rw [h1, g1]
  simp only [Datum.sum, Option.map_some, Format.write, oc_nearest]
  generalize hL : k.format.leastPlace = L at *
  refine ⟨_, _, _, rfl, by omega, ?_⟩
  have e1 : (i - L).toNat = (i - min i j).toNat + (min i j - L).toNat := by omega
  have e2 : (j - L).toNat = (j - min i j).toNat + (min i j - L).toNat := by omega
  rw [e1, signed_add] at h3
  rw [e2, signed_add] at g3
  rw [← h3, ← g3, ← Int.add_mul]
  rw [show (min i j - L).toNat = 0 + (min i j - L).toNat by omega, signed_add, signed_of_nat]
  · rw [show 0 + (min i j - L).toNat = (min i j - L).toNat by omega]
  · by_cases h0 : signed s m (i - min i j).toNat + signed t n (j - min i j).toNat = 0
    · exact .inr h0
    · left; rw [if_neg h0]
theorem signed_not (s : Bool) (m a : Nat) : signed (!s) m a = -signed s m a := by
  cases s <;> simp [signed]
theorem sub_val {k : FloatKind} {x y : Nat} (hx : Fn k x) (hy : Fn k y) : ∃ s m e, fsub k x y = k.format.nearest s m e ∧ k.format.leastPlace ≤ e ∧ signed s m (e - k.format.leastPlace).toNat = sval k x - sval k y := by
  obtain ⟨s, m, i, h1, h2, h3⟩ := read_val hx
  obtain ⟨t, n, j, g1, g2, g3⟩ := read_val hy
  unfold fsub Format.sub
  rw [h1, g1]
  simp only [Datum.opposite, Datum.sum, Option.map_some, Format.write, oc_nearest]
  generalize hL : k.format.leastPlace = L at *
  refine ⟨_, _, _, rfl, by omega, ?_⟩
  have e1 : (i - L).toNat = (i - min i j).toNat + (min i j - L).toNat := by omega
  have e2 : (j - L).toNat = (j - min i j).toNat + (min i j - L).toNat := by omega
  rw [e1, signed_add] at h3
  rw [e2, signed_add] at g3
  rw [← h3, ← g3, ← Int.sub_mul, show signed s m (i - min i j).toNat - signed t n (j - min i j).toNat = signed s m (i - min i j).toNat + signed (!t) n (j - min i j).toNat by rw [signed_not]; omega]
  rw [show (min i j - L).toNat = 0 + (min i j - L).toNat by omega, signed_add, signed_of_nat]
  · rw [show 0 + (min i j - L).toNat = (min i j - L).toNat by omega]
  · by_cases h0 : signed s m (i - min i j).toNat + signed (!t) n (j - min i j).toNat = 0
    · exact .inr h0
    · left; rw [if_neg h0]
theorem signed_mul (s t : Bool) (m n a b : Nat) : signed (s ^^ t) (m * n) (a + b) = signed s m a * signed t n b := by
  simp only [signed_eq]
  rw [Nat.pow_add, show m * n * (2 ^ a * 2 ^ b) = m * 2 ^ a * (n * 2 ^ b) by rw [Nat.mul_assoc, Nat.mul_assoc]; congr 1; rw [← Nat.mul_assoc, Nat.mul_comm n, Nat.mul_assoc]]
  generalize m * 2 ^ a = p
  generalize n * 2 ^ b = q
  cases s <;> cases t <;> simp [Int.neg_mul, Int.mul_neg]
theorem mul_val {k : FloatKind} {x y : Nat} (hx : Fn k x) (hy : Fn k y) : ∃ s m e, fmul k x y = k.format.nearest s m e ∧ k.format.leastPlace + k.format.leastPlace ≤ e ∧ signed s m (e - (k.format.leastPlace + k.format.leastPlace)).toNat = sval k x * sval k y := by
  obtain ⟨s, m, i, h1, h2, h3⟩ := read_val hx
  obtain ⟨t, n, j, g1, g2, g3⟩ := read_val hy
  unfold fmul Format.mul
  rw [h1, g1]
  simp only [Datum.product, Option.map_some, Format.write, oc_nearest]
  generalize hL : k.format.leastPlace = L at *
  refine ⟨_, _, _, rfl, by omega, ?_⟩
  rw [show (i + j - (L + L)).toNat = (i - L).toNat + (j - L).toNat by omega, signed_mul, h3, g3]

theorem least_neg (k : FloatKind) : k.format.leastPlace ≤ 0 := by cases k <;> decide
/-- What a unit is worth, upside down. -/
def one_ (k : FloatKind) : Int := (2 ^ (-k.format.leastPlace).toNat : Nat)

theorem add_bd {k : FloatKind} {x y lo hi : Nat} (hx : Fn k x) (hy : Fn k y) (hlo : Fn k lo) (hhi : Fn k hi) (h1 : sval k lo ≤ sval k x + sval k y) (h2 : sval k x + sval k y ≤ sval k hi) :
    Fn k (farith .add k x y) ∧ sval k lo ≤ sval k (farith .add k x y) ∧ sval k (farith .add k x y) ≤ sval k hi := by
  obtain ⟨s, m, e, e1, e2, e3⟩ := add_val hx hy
  show Fn k (fadd k x y) ∧ _ ≤ sval k (fadd k x y) ∧ sval k (fadd k x y) ≤ _
  rw [e1]
  exact near_fn (c := k.format.leastPlace) e2 (Int.le_refl _) hlo hhi (by simpa [e3] using h1) (by simpa [e3] using h2)
theorem sub_bd {k : FloatKind} {x y lo hi : Nat} (hx : Fn k x) (hy : Fn k y) (hlo : Fn k lo) (hhi : Fn k hi) (h1 : sval k lo ≤ sval k x - sval k y) (h2 : sval k x - sval k y ≤ sval k hi) :
    Fn k (farith .sub k x y) ∧ sval k lo ≤ sval k (farith .sub k x y) ∧ sval k (farith .sub k x y) ≤ sval k hi := by
  obtain ⟨s, m, e, e1, e2, e3⟩ := sub_val hx hy
  show Fn k (fsub k x y) ∧ _ ≤ sval k (fsub k x y) ∧ sval k (fsub k x y) ≤ _
  rw [e1]
  exact near_fn (c := k.format.leastPlace) e2 (Int.le_refl _) hlo hhi (by simpa [e3] using h1) (by simpa [e3] using h2)
theorem mul_bd {k : FloatKind} {x y lo hi : Nat} (hx : Fn k x) (hy : Fn k y) (hlo : Fn k lo) (hhi : Fn k hi) (h1 : sval k lo * one_ k ≤ sval k x * sval k y) (h2 : sval k x * sval k y ≤ sval k hi * one_ k) :
    Fn k (farith .mul k x y) ∧ sval k lo ≤ sval k (farith .mul k x y) ∧ sval k (farith .mul k x y) ≤ sval k hi := by
  obtain ⟨s, m, e, e1, e2, e3⟩ := mul_val hx hy
  have hL := least_neg k
  show Fn k (fmul k x y) ∧ _ ≤ sval k (fmul k x y) ∧ sval k (fmul k x y) ≤ _
  rw [e1]
  have hq : (k.format.leastPlace - (k.format.leastPlace + k.format.leastPlace)).toNat = (-k.format.leastPlace).toNat := by omega
  exact near_fn (c := k.format.leastPlace + k.format.leastPlace) e2 (by omega) hlo hhi (by rw [hq, e3]; exact h1) (by rw [hq, e3]; exact h2)
end Go.Vx

namespace Go.Vx
open Ieee

theorem scale_le {a b p q p' q' : Nat} (h : a * 2 ^ p ≤ b * 2 ^ q) (e : p + q' = p' + q) : a * 2 ^ p' ≤ b * 2 ^ q' := by
  have h1 := Nat.mul_le_mul_right (2 ^ q') h
  rw [Nat.mul_assoc, Nat.mul_assoc, ← Nat.pow_add, ← Nat.pow_add, e, Nat.pow_add, Nat.add_comm q, Nat.pow_add, ← Nat.mul_assoc, ← Nat.mul_assoc] at h1
  exact Nat.le_of_mul_le_mul_right h1 (Nat.two_pow_pos q)
theorem mg_form (fb r : Nat) : ∃ sig a, mg (2 ^ fb) r = sig * 2 ^ a ∧ sig < 2 ^ (fb + 1) := by
  unfold mg
  have hp := Nat.two_pow_pos fb
  split
  · exact ⟨r, 0, by simp, by rw [Nat.pow_succ]; omega⟩
  · refine ⟨2 ^ fb + r % 2 ^ fb, r / 2 ^ fb - 1, Nat.shiftLeft_eq .., ?_⟩
    have := Nat.mod_lt r hp
    rw [Nat.pow_succ]; omega
/-- The quotient of two magnitudes, told with one digit more. -/
def quoM (fb m n : Nat) : Nat := 2 * ((m <<< (fb + 2 + n.log2 - m.log2)) / n) + ((m <<< (fb + 2 + n.log2 - m.log2)) % n != 0).toNat
theorem quo_core {fb m n G A sig a B : Nat} (hm : m ≠ 0) (hn : n ≠ 0) (hG : G = sig * 2 ^ (a + B)) (hs : sig < 2 ^ (fb + 1)) (hA : 1 ≤ A) :
    (m * 2 ^ (fb + 2 + n.log2 - m.log2) * 2 ^ A ≤ n * G → quoM fb m n * 2 ^ (A - 1) ≤ G) ∧ (n * G ≤ m * 2 ^ (fb + 2 + n.log2 - m.log2) * 2 ^ A → G ≤ quoM fb m n * 2 ^ (A - 1)) ∧ quoM fb m n ≠ 0 := by
  unfold quoM
  rw [Nat.shiftLeft_eq]
  generalize hD : m * 2 ^ (fb + 2 + n.log2 - m.log2) = D
  have hn0 : 0 < n := by omega
  have hq : 2 ^ (fb + 1) ≤ D / n := by
    rw [Nat.le_div_iff_mul_le hn0]
    have h1 : n < 2 ^ (n.log2 + 1) := Nat.lt_log2_self
    calc 2 ^ (fb + 1) * n ≤ 2 ^ (fb + 1) * 2 ^ (n.log2 + 1) := Nat.mul_le_mul_left _ (Nat.le_of_lt h1)
      _ = 2 ^ (fb + 2 + n.log2) := by rw [← Nat.pow_add]; congr 1; omega
      _ ≤ 2 ^ (m.log2 + (fb + 2 + n.log2 - m.log2)) := Nat.pow_le_pow_right (by omega) (by omega)
      _ = 2 ^ m.log2 * 2 ^ (fb + 2 + n.log2 - m.log2) := Nat.pow_add ..
      _ ≤ D := by rw [← hD]; exact Nat.mul_le_mul_right _ (Nat.log2_self_le hm)
  have hdm := Nat.div_add_mod D n
  have hml := Nat.mod_lt D hn0
  have hP : 2 ^ A = 2 * 2 ^ (A - 1) := by rw [← Nat.pow_succ']; congr 1; omega
  have hA0 := Nat.two_pow_pos (A - 1)
  have hAp := Nat.two_pow_pos A
  have hst : (D % n != 0).toNat ≤ 1 := Bool.toNat_le _
  refine ⟨fun h => ?_, fun h => ?_, ?_⟩
  · by_cases hr : D % n = 0
    · rw [hr]
      simp only [bne_self_eq_false, Bool.toNat_false, Nat.add_zero]
      rw [hr, Nat.add_zero] at hdm
      rw [← hdm, Nat.mul_assoc] at h
      have := Nat.le_of_mul_le_mul_left h hn0
      rw [hP] at this
      rw [Nat.mul_comm 2, Nat.mul_assoc]
      exact this
    · have h1 : D / n * 2 ^ A < G := by
        have h2 : n * (D / n) * 2 ^ A < n * G := by
          refine Nat.lt_of_lt_of_le ?_ h
          exact Nat.mul_lt_mul_of_pos_right (by omega) hAp
        rw [Nat.mul_assoc] at h2
        exact Nat.lt_of_mul_lt_mul_left h2
      have hle : A ≤ a + B := by
        refine Nat.le_of_not_lt fun hlt => ?_
        have h3 : G ≤ D / n * 2 ^ A := by
          rw [hG]
          exact Nat.mul_le_mul (Nat.le_trans (Nat.le_of_lt hs) hq) (Nat.pow_le_pow_right (by omega) (by omega))
        omega
      have hG' : G = sig * 2 ^ (a + B - A) * 2 ^ A := by rw [hG, Nat.mul_assoc, ← Nat.pow_add]; congr 2; omega
      rw [hG', ← Nat.mul_assoc] at h
      have h4 := Nat.le_of_mul_le_mul_right h hAp
      have h5 : D / n + 1 ≤ sig * 2 ^ (a + B - A) := by
        refine Nat.lt_of_mul_lt_mul_left (a := n) ?_
        omega
      calc (2 * (D / n) + (D % n != 0).toNat) * 2 ^ (A - 1) ≤ (2 * (D / n + 1)) * 2 ^ (A - 1) := Nat.mul_le_mul_right _ (by omega)
        _ = (D / n + 1) * 2 ^ A := by rw [hP, Nat.mul_comm 2, Nat.mul_assoc]
        _ ≤ _ := by rw [hG']; exact Nat.mul_le_mul_right _ h5
  · have hz : D / n * 2 ^ A ≤ (2 * (D / n) + (D % n != 0).toNat) * 2 ^ (A - 1) := by
      rw [hP, ← Nat.mul_assoc, Nat.mul_comm (D / n) 2]
      exact Nat.mul_le_mul_right _ (by omega)
    refine Nat.le_trans ?_ hz
    by_cases hle : A ≤ a + B
    · have hG' : G = sig * 2 ^ (a + B - A) * 2 ^ A := by rw [hG, Nat.mul_assoc, ← Nat.pow_add]; congr 2; omega
      rw [hG', ← Nat.mul_assoc] at h
      have h4 := Nat.le_of_mul_le_mul_right h hAp
      rw [hG']
      refine Nat.mul_le_mul_right _ ?_
      rw [Nat.le_div_iff_mul_le hn0, Nat.mul_comm]
      exact h4
    · rw [hG]
      exact Nat.mul_le_mul (Nat.le_trans (Nat.le_of_lt hs) hq) (Nat.pow_le_pow_right (by omega) (by omega))
  · have := Nat.two_pow_pos (fb + 1)
    omega
/-- The rung of a quotient of magnitudes, 'r' beside it. -/
theorem quo_rung {k : FloatKind} {m n r : Nat} {i j : Int} (hm : m ≠ 0) (hn : n ≠ 0) (hi : k.format.leastPlace ≤ i) (hj : k.format.leastPlace ≤ j) :
    (m * 2 ^ (i - k.format.leastPlace).toNat * 2 ^ (-k.format.leastPlace).toNat ≤ mg k.format.binade r * (n * 2 ^ (j - k.format.leastPlace).toNat) →
      rungOf k (quoM k.format.fractionBits m n) (i - j - (k.format.fractionBits + 2 + n.log2 - m.log2 : Nat) - 1) ≤ r) ∧
    (r ≤ k.format.infRung → mg k.format.binade r * (n * 2 ^ (j - k.format.leastPlace).toNat) ≤ m * 2 ^ (i - k.format.leastPlace).toNat * 2 ^ (-k.format.leastPlace).toNat →
      r ≤ rungOf k (quoM k.format.fractionBits m n) (i - j - (k.format.fractionBits + 2 + n.log2 - m.log2 : Nat) - 1)) := by
  have hB : k.format.binade = 2 ^ k.format.fractionBits := rfl
  have hL0 := least_neg k
  obtain ⟨sig, a, hmg, hsig⟩ := mg_form k.format.fractionBits r
  generalize hmo : k.format.fractionBits + 2 + n.log2 - m.log2 = more at *
  have hcore := fun c (hc1 : c ≤ i - j - (more : Nat) - 1) (hc2 : c ≤ k.format.leastPlace) => quo_core (fb := k.format.fractionBits) (m := m) (n := n) (G := mg k.format.binade r * 2 ^ (k.format.leastPlace - c).toNat) (A := (i - j - (more : Nat) - c).toNat) (sig := sig) (a := a) (B := (k.format.leastPlace - c).toNat) hm hn (by rw [hB, hmg, Nat.mul_assoc, ← Nat.pow_add]) hsig (by omega)
  rw [hmo] at hcore
  let c : Int := min (i - j - (more : Nat) - 1) k.format.leastPlace
  have hc1 : c ≤ i - j - (more : Nat) - 1 := Int.min_le_left _ _
  have hc2 : c ≤ k.format.leastPlace := Int.min_le_right _ _
  obtain ⟨c1, c2, c3⟩ := hcore c hc1 hc2
  have hA1 : (i - j - (more : Nat) - c).toNat - 1 = (i - j - (more : Nat) - 1 - c).toNat := by omega
  rw [hA1] at c1 c2
  have hx : n * (mg k.format.binade r * 2 ^ (k.format.leastPlace - c).toNat) = mg k.format.binade r * n * 2 ^ (k.format.leastPlace - c).toNat := by
    rw [← Nat.mul_assoc, Nat.mul_comm n]
  have hy : m * 2 ^ more * 2 ^ (i - j - (more : Nat) - c).toNat = m * 2 ^ (more + (i - j - (more : Nat) - c).toNat) := by rw [Nat.mul_assoc, ← Nat.pow_add]
  rw [hx, hy] at c1 c2
  refine ⟨fun h => ?_, fun hr h => ?_⟩
  · refine rung_le c3 hc1 hc2 (c1 ?_)
    rw [Nat.mul_assoc m, ← Nat.pow_add, ← Nat.mul_assoc] at h
    exact scale_le h (by omega)
  · refine rung_ge c3 hc1 hc2 hr (c2 ?_)
    rw [Nat.mul_assoc m, ← Nat.pow_add, ← Nat.mul_assoc] at h
    exact scale_le h (by omega)
theorem rungOf_of_zero {k : FloatKind} {m : Nat} {e : Int} (h : m = 0) : rungOf k m e = 0 := by rw [h, rungOf_zero]
/-- A quotient lies between what bounds it. -/
theorem div_bd {k : FloatKind} {x y lo hi : Nat} (hx : Fn k x) (hy : Fn k y) (hy0 : 0 < sval k y) (hlo : Fn k lo) (hhi : Fn k hi) (h1 : sval k lo * sval k y ≤ sval k x * one_ k) (h2 : sval k x * one_ k ≤ sval k hi * sval k y) :
    Fn k (farith .quo k x y) ∧ sval k lo ≤ sval k (farith .quo k x y) ∧ sval k (farith .quo k x y) ≤ sval k hi := by
  have hB := binade_pos k.format
  obtain ⟨s, m, i, a1, a2, a3⟩ := read_val hx
  obtain ⟨t, n, j, b1, b2, b3⟩ := read_val hy
  have ht : t = false := by
    cases t
    · rfl
    · rw [signed_eq] at b3; simp only [if_true] at b3; omega
  subst ht
  have hn : n ≠ 0 := by rintro rfl; rw [signed_eq] at b3; simp at b3; omega
  have hv : farith .quo k x y = k.format.nearest s (quoM k.format.fractionBits m n) (i - j - (k.format.fractionBits + 2 + n.log2 - m.log2 : Nat) - 1) := by
    show fdiv k x y = _
    unfold fdiv Format.div
    rw [a1, b1]
    simp only [Datum.quotient, if_neg hn, Option.map_some, Format.write, Bool.xor_false]
    exact oc_nearest _ _ _ _
  rw [signed_eq] at a3 b3
  simp only [Bool.false_eq_true, if_false] at b3
  -- magnitudes
  have key : ∀ r, (0 < m → m * 2 ^ (i - k.format.leastPlace).toNat * 2 ^ (-k.format.leastPlace).toNat ≤ mg k.format.binade r * (n * 2 ^ (j - k.format.leastPlace).toNat)) → rungOf k (quoM k.format.fractionBits m n) (i - j - (k.format.fractionBits + 2 + n.log2 - m.log2 : Nat) - 1) ≤ r := by
    intro r hr
    by_cases hm : m = 0
    · subst hm
      rw [rungOf_of_zero (by unfold quoM; simp)]
      exact Nat.zero_le _
    · exact (quo_rung hm hn a2 b2).1 (hr (by omega))
  have key2 : ∀ r, r ≤ k.format.infRung → mg k.format.binade r * (n * 2 ^ (j - k.format.leastPlace).toNat) ≤ m * 2 ^ (i - k.format.leastPlace).toNat * 2 ^ (-k.format.leastPlace).toNat → r ≤ rungOf k (quoM k.format.fractionBits m n) (i - j - (k.format.fractionBits + 2 + n.log2 - m.log2 : Nat) - 1) := by
    intro r hr hh
    by_cases hm : m = 0
    · subst hm
      simp only [Nat.zero_mul, Nat.le_zero_eq] at hh
      have hnp : n * 2 ^ (j - k.format.leastPlace).toNat ≠ 0 := Nat.mul_ne_zero hn (Nat.pos_iff_ne_zero.1 (Nat.two_pow_pos _))
      rcases Nat.mul_eq_zero.1 hh with h0 | h0
      · have : r = 0 := mg_inj hB (by rw [h0, mg_zero hB])
        omega
      · exact absurd h0 hnp
    · exact (quo_rung hm hn a2 b2).2 hr hh
  rw [hv]
  have hlo' : rg k lo ≤ k.format.infRung := Nat.le_of_lt hlo
  have hhi' : rg k hi ≤ k.format.infRung := Nat.le_of_lt hhi
  unfold one_ at h1 h2
  rw [← a3, ← b3] at h1 h2
  generalize hP : m * 2 ^ (i - k.format.leastPlace).toNat = X at *
  generalize hN : n * 2 ^ (j - k.format.leastPlace).toNat = Y at *
  generalize hO : 2 ^ (-k.format.leastPlace).toNat = O at *
  have hO0 : 0 < O := by rw [← hO]; exact Nat.two_pow_pos _
  have hY0 : 0 < Y := by omega
  have z1 : sval k lo ≤ sval k (k.format.nearest s (quoM k.format.fractionBits m n) (i - j - (k.format.fractionBits + 2 + n.log2 - m.log2 : Nat) - 1)) := by
    rw [sval_nearest]
    unfold sval at h1 ⊢
    cases s <;> cases hs : sg k lo <;> simp only [hs, if_true, if_false, Bool.false_eq_true] at h1 ⊢
    · have := mg_le hB (key2 _ hlo' (by exact_mod_cast h1))
      omega
    · omega
    · have h3 : mg k.format.binade (rg k lo) * Y = 0 := by
        have e1 : (0 : Int) ≤ (mg k.format.binade (rg k lo) : Nat) * (Y : Int) := Int.mul_nonneg (Int.natCast_nonneg _) (Int.natCast_nonneg _)
        have e2 : (0 : Int) ≤ (X : Int) * (O : Int) := Int.mul_nonneg (Int.natCast_nonneg _) (Int.natCast_nonneg _)
        rw [Int.neg_mul] at h1
        have : ((mg k.format.binade (rg k lo) * Y : Nat) : Int) = 0 := by rw [Int.natCast_mul]; omega
        exact_mod_cast this
      have h4 : X * O = 0 := by
        have e1 : ((mg k.format.binade (rg k lo) * Y : Nat) : Int) = 0 := by rw [h3]; rfl
        rw [Int.natCast_mul] at e1
        rw [Int.neg_mul] at h1
        have : ((X * O : Nat) : Int) ≤ 0 := by rw [Int.natCast_mul]; omega
        omega
      have h5 : rungOf k (quoM k.format.fractionBits m n) (i - j - (k.format.fractionBits + 2 + n.log2 - m.log2 : Nat) - 1) ≤ 0 := key 0 (fun _ => by omega)
      have h6 : rungOf k (quoM k.format.fractionBits m n) (i - j - (k.format.fractionBits + 2 + n.log2 - m.log2 : Nat) - 1) = 0 := by omega
      rw [h6, mg_zero hB]
      have h7 : mg k.format.binade (rg k lo) = 0 := by
        rcases Nat.mul_eq_zero.1 h3 with h | h
        · exact h
        · omega
      omega
    · have h3 : X * O ≤ mg k.format.binade (rg k lo) * Y := by
        rw [Int.neg_mul, Int.neg_mul] at h1
        have := Int.neg_le_neg_iff.1 h1
        exact_mod_cast this
      have := mg_le hB (key _ fun _ => h3)
      omega
  have z2 : sval k (k.format.nearest s (quoM k.format.fractionBits m n) (i - j - (k.format.fractionBits + 2 + n.log2 - m.log2 : Nat) - 1)) ≤ sval k hi := by
    rw [sval_nearest]
    unfold sval at h2 ⊢
    cases s <;> cases hs : sg k hi <;> simp only [hs, if_true, if_false, Bool.false_eq_true] at h2 ⊢
    · have := mg_le hB (key (rg k hi) fun _ => by exact_mod_cast h2)
      omega
    · have e1 : (0 : Int) ≤ (mg k.format.binade (rg k hi) : Nat) * (Y : Int) := Int.mul_nonneg (Int.natCast_nonneg _) (Int.natCast_nonneg _)
      have e2 : (0 : Int) ≤ (X : Int) * (O : Int) := Int.mul_nonneg (Int.natCast_nonneg _) (Int.natCast_nonneg _)
      rw [Int.neg_mul] at h2
      have h4 : X * O = 0 := by
        have : ((X * O : Nat) : Int) = 0 := by rw [Int.natCast_mul]; omega
        exact_mod_cast this
      have h3 : mg k.format.binade (rg k hi) * Y = 0 := by
        have : ((mg k.format.binade (rg k hi) * Y : Nat) : Int) = 0 := by rw [Int.natCast_mul]; omega
        exact_mod_cast this
      have h5 : rungOf k (quoM k.format.fractionBits m n) (i - j - (k.format.fractionBits + 2 + n.log2 - m.log2 : Nat) - 1) ≤ 0 := key 0 (fun _ => by omega)
      have h6 : rungOf k (quoM k.format.fractionBits m n) (i - j - (k.format.fractionBits + 2 + n.log2 - m.log2 : Nat) - 1) = 0 := by omega
      rw [h6, mg_zero hB]
      have h7 : mg k.format.binade (rg k hi) = 0 := by
        rcases Nat.mul_eq_zero.1 h3 with h | h
        · exact h
        · omega
      omega
    · omega
    · have h3 : mg k.format.binade (rg k hi) * Y ≤ X * O := by
        rw [Int.neg_mul, Int.neg_mul] at h2
        have := Int.neg_le_neg_iff.1 h2
        exact_mod_cast this
      have := mg_le hB (key2 _ hhi' h3)
      omega
  refine ⟨?_, z1, z2⟩
  unfold Fn at *
  rw [rg_nearest]
  refine Nat.lt_of_not_le fun hle => ?_
  have e1 := Nat.le_antisymm (rungOf_le k (quoM k.format.fractionBits m n) (i - j - (k.format.fractionBits + 2 + n.log2 - m.log2 : Nat) - 1)) hle
  rw [sval_nearest, e1] at z1 z2
  have b1 := mg_lt hB hlo
  have b2 := mg_lt hB hhi
  unfold sval at z1 z2
  cases s <;> simp only [if_true, if_false, Bool.false_eq_true] at z1 z2
  · split at z2 <;> omega
  · split at z1 <;> omega
end Go.Vx

namespace Go.Vx
open Ieee
section
variable {P : Program}
/-- The square root. -/
def fsqrt (k : FloatKind) (x : Nat) : Nat := oc k (k.format.sqrt x)
theorem sqrt_cn (k : FloatKind) (x : Nat) : k.format.sqrt (cn k x) = k.format.sqrt x := by
  by_cases h : isN k x = true
  · obtain ⟨s, f, h1⟩ := read_nan k x h
    obtain ⟨s', f', h2⟩ := read_nan k (cn k x) (by rw [isN_cn]; exact h)
    unfold Format.sqrt
    rw [h1, h2]
    rfl
  · rw [read_cn (by simpa using h)]
theorem sqrt_lt {k : FloatKind} {x b : Nat} (h : k.format.sqrt x = some b) : b < 2 ^ k.format.width := by
  unfold Format.sqrt at h
  cases e : (k.format.read x).root (k.format.fractionBits + 2) with
  | none => rw [e] at h; cases h
  | some d =>
    rw [e] at h
    simp only [Option.map_some, Option.some.injEq] at h
    rw [← h]
    exact k.format.write_lt d
theorem ext_sqrt {f : FuncId} {fn : Func} {X : Nat} (hf : P.funcs[f]? = some fn) (hn : (fn.name == "runtime.NumGoroutine") = false) (hb : fn.body.isNone = true) (h1 : Extern.findNext fn = none) (h2 : Extern.find fn = some Extern.MathSqrt.sqrt) :
    Ext P f [.float .f64 X] (.float .f64 (fsqrt .f64 X)) := by
  refine ⟨fn, _, hf, hn, hb, h1, h2, fun w vs hvs => ?_⟩
  match vs, hvs with
  | [v], hvs =>
    obtain ⟨b, rfl, hlt, rfl⟩ := ab_flt hvs.1
    obtain ⟨r, w', hr, hbw, h3, h4⟩ := run_oc (P := P) (k := .f64) (FloatKind.f64.format.sqrt b) (.nanBits .f64 b b) (.inl ⟨b, b, rfl⟩) (fun r hr => sqrt_lt hr) w
    refine ⟨_, w', hr, hbw, r, rfl, h3, ?_⟩
    rw [h4, fsqrt, sqrt_cn]
end
theorem fits_nan {y : Nat} (hy : isN .f64 y = true) : fits .f64 .f32 y = true := by
  obtain ⟨s, f, h⟩ := read_nan .f64 y hy
  unfold fits
  rw [if_neg (by decide), h]
theorem fits_inf {y : Nat} (hy : rg .f64 y = FloatKind.f64.format.infRung) : fits .f64 .f32 y = true := by
  unfold fits
  rw [if_neg (by decide), read_inf hy]
instance (k : FloatKind) (x : Nat) : Decidable (Fn k x) := inferInstanceAs (Decidable (_ < _))
/-- How many of the least units of a double one are one of a single one. -/
def wid : Int := ((2 ^ 925 : Nat) : Int)
theorem two_places : (FloatKind.f32.format.leastPlace - FloatKind.f64.format.leastPlace).toNat = 925 := by decide
/-- A number is narrowed to no more and no less than what bounds it. -/
theorem narrow_bd {y lo hi : Nat} (hy : Fn .f64 y) (hlo : Fn .f32 lo) (hhi : Fn .f32 hi) (h1 : sval .f32 lo * wid ≤ sval .f64 y) (h2 : sval .f64 y ≤ sval .f32 hi * wid) :
    fits .f64 .f32 y = true ∧ Fn .f32 (conv .f64 .f32 y) ∧ sval .f32 lo ≤ sval .f32 (conv .f64 .f32 y) ∧ sval .f32 (conv .f64 .f32 y) ≤ sval .f32 hi := by
  obtain ⟨s, m, e, e1, e2, e3⟩ := read_val hy
  have hc : conv .f64 .f32 y = FloatKind.f32.format.nearest s m e := by
    unfold conv
    rw [if_neg (by decide), e1]
    exact oc_nearest .f32 s m e
  have hb := near_fn (k := .f32) (c := FloatKind.f64.format.leastPlace) (s := s) (m := m) e2 (by decide) hlo hhi (by rw [two_places, e3]; exact h1) (by rw [two_places, e3]; exact h2)
  rw [hc]
  refine ⟨?_, hb⟩
  unfold fits
  rw [if_neg (by decide), e1]
  obtain ⟨m', e', hr, _⟩ := read_fin hb.1
  simp only [Format.write, hr, Datum.isInfinity, Bool.not_false]
/-- A number made wide. -/
theorem wide_val {x : Nat} (h : Fn .f32 x) : Fn .f64 (conv .f32 .f64 x) ∧ sval .f64 (conv .f32 .f64 x) = sval .f32 x * wid := by
  obtain ⟨r', h1, h2, h3⟩ := wide_rung (fin_rg.2 h)
  have hS := inf_lt_sign .f64
  rw [h2]
  refine ⟨by unfold Fn; rw [rg_word (by omega)]; exact h1, ?_⟩
  rw [sval_word (by omega), h3]
  unfold sval wid
  generalize 2 ^ 925 = U
  rw [Int.natCast_mul]
  cases sg .f32 x <;> simp [Int.neg_mul]
theorem rootFrom_sq (n : Nat) : ∀ (todo root : Nat), root * root ≤ n → Datum.rootFrom n todo root * Datum.rootFrom n todo root ≤ n
  | 0, root, h => h
  | todo + 1, root, h => by
    unfold Datum.rootFrom
    refine rootFrom_sq n todo _ ?_
    split
    · assumption
    · exact h
theorem mul_pow_lt {a p : Nat} (q : Nat) (h : a < 2 ^ p) : a * 2 ^ q < 2 ^ (p + q) := by rw [Nat.pow_add]; exact Nat.mul_lt_mul_of_pos_right h (Nat.two_pow_pos _)
theorem scale_le1 {a p q p' q' : Nat} (h : a * 2 ^ p ≤ 2 ^ q) (e : p + q' = p' + q) : a * 2 ^ p' ≤ 2 ^ q' := by
  have h1 : a * 2 ^ p ≤ 1 * 2 ^ q := by rw [Nat.one_mul]; exact h
  have h2 := scale_le h1 e
  rw [Nat.one_mul] at h2
  exact h2
theorem lt_of_sq {a b : Nat} (h : a * a < b * b) : a < b := Nat.lt_of_not_le fun hle => by
  have := Nat.mul_le_mul hle hle
  omega
theorem mg_top : mg FloatKind.f32.format.binade FloatKind.f32.format.infRung ≤ 2 ^ 277 := by decide +kernel
theorem v64_hi : sval .f64 4895412794951729152 = ((2 ^ 1138 : Nat) : Int) := by decide +kernel
theorem v64_lo : sval .f32 1602224128 * wid = ((2 ^ 1138 : Nat) : Int) := by decide +kernel
/-- The square root of a single number fits into a single one. -/
theorem fits_sqrt (x : Nat) : fits .f64 .f32 (fsqrt .f64 (conv .f32 .f64 x)) = true := by
  have hnone : ∀ y, FloatKind.f64.format.sqrt y = none → fits .f64 .f32 (fsqrt .f64 y) = true := fun y hy => by
    unfold fsqrt
    rw [hy, oc_none]
    exact fits_nan (isN_qnan _)
  rcases Nat.lt_trichotomy (rg .f32 x) FloatKind.f32.format.infRung with h | h | h
  · -- a finite number
    obtain ⟨r', h1, h2, h3⟩ := wide_rung (fin_rg.2 h)
    generalize hy : conv .f32 .f64 x = y at *
    have hS := inf_lt_sign .f64
    have hFn : rg .f64 y < FloatKind.f64.format.infRung := by rw [h2, rg_word (by omega)]; exact h1
    obtain ⟨m, i, e1, e2, e3⟩ := read_fin hFn
    rw [h2, rg_word (by omega)] at e3
    rw [h3] at e3
    have hL : FloatKind.f64.format.leastPlace = -1074 := rfl
    rw [hL] at e2 e3
    have hmg : mg FloatKind.f32.format.binade (rg .f32 x) < 2 ^ 277 := Nat.lt_of_lt_of_le (mg_lt (binade_pos _) h) mg_top
    have hm : m * 2 ^ (i + 1074).toNat < 2 ^ 1202 := by
      have : m * 2 ^ (i - -1074).toNat = m <<< (i - -1074).toNat := (Nat.shiftLeft_eq ..).symm
      rw [show (i + 1074).toNat = (i - -1074).toNat by omega, this, e3]
      have h8 := mul_pow_lt 925 hmg
      have h9 : (277 + 925 : Nat) = 1202 := rfl
      rw [h9] at h8
      exact h8
    by_cases hm0 : m = 0
    · have : FloatKind.f64.format.sqrt y = some (FloatKind.f64.format.word (sg .f64 y) 0) := by
        unfold Format.sqrt
        rw [e1]
        simp [Datum.root, hm0, Format.write, Format.nearest]
      unfold fsqrt
      rw [this]
      cases sg .f64 y <;> decide
    · cases hs : sg .f64 y with
      | true => exact hnone _ (by unfold Format.sqrt; rw [e1, hs]; simp [Datum.root, hm0])
      | false =>
        have hi128 : i < 128 := by
          refine Int.lt_of_not_ge fun hge => ?_
          have : 2 ^ 1202 ≤ m * 2 ^ (i + 1074).toNat := by
            calc 2 ^ 1202 ≤ 2 ^ (i + 1074).toNat := Nat.pow_le_pow_right (by omega) (by omega)
              _ ≤ _ := Nat.le_mul_of_pos_left _ (by omega)
          omega
        let more0 := 2 * (FloatKind.f64.format.fractionBits + 2) - m.log2
        let more := more0 + ((i - more0) % 2).toNat
        have hm00 : more0 ≤ 108 := by show 2 * (52 + 2) - m.log2 ≤ 108; omega
        have hmo : more ≤ 109 := by show more0 + ((i - (more0 : Int)) % 2).toNat ≤ 109; omega
        let whole := Datum.rootFrom (m <<< more) ((m <<< more).log2 / 2 + 1) 0
        have hsq : FloatKind.f64.format.sqrt y = some (FloatKind.f64.format.nearest false (2 * whole + (whole * whole != m <<< more).toNat) ((i - more) / 2 - 1)) := by
          unfold Format.sqrt
          rw [e1, hs]
          simp only [Datum.root, if_neg hm0, Bool.false_eq_true, if_false, Option.map_some, Format.write]
          rfl
        have heven : (i - (more : Int)) % 2 = 0 := by
          show (i - ((more0 + ((i - (more0 : Int)) % 2).toNat : Nat) : Int)) % 2 = 0
          omega
        have hw2 : whole * whole ≤ m <<< more := rootFrom_sq _ _ 0 (by simp)
        generalize hwh : whole = W at *
        generalize hmr : more = M at *
        obtain ⟨E, hE⟩ : ∃ E : Int, i - (M : Int) = E + E := ⟨(i - (M : Int)) / 2, by omega⟩
        have hE2 : (i - (M : Int)) / 2 = E := by omega
        rw [hE2] at hsq
        -- the root is less than 2 ^ 64
        have hw : W * 2 ^ (E + 2000).toNat < 2 ^ 2064 := by
          refine lt_of_sq ?_
          have e5 : W * 2 ^ (E + 2000).toNat * (W * 2 ^ (E + 2000).toNat) = W * W * 2 ^ (E + E + 4000).toNat := by
            rw [Nat.mul_mul_mul_comm, ← Nat.pow_add]
            congr 2
            omega
          have e6 : m <<< M * 2 ^ (E + E + 4000).toNat = m * 2 ^ (i + 1074).toNat * 2 ^ 2926 := by
            have a1 : M + (E + E + 4000).toNat = (i + 1074).toNat + 2926 := by omega
            have a2 := Nat.pow_add 2 (i + 1074).toNat 2926
            rw [Nat.shiftLeft_eq, Nat.mul_assoc, ← Nat.pow_add, a1, Nat.mul_assoc]
            exact congrArg (m * ·) a2
          have e7 : m <<< M * 2 ^ (E + E + 4000).toNat < 2 ^ (2064 + 2064) := by
            have h8 := mul_pow_lt 2926 hm
            have h9 : (1202 + 2926 : Nat) = 2064 + 2064 := rfl
            rw [h9] at h8
            rw [e6]; exact h8
          have a3 := Nat.pow_add 2 2064 2064
          rw [e5, ← a3]
          exact Nat.lt_of_le_of_lt (Nat.mul_le_mul_right _ hw2) e7
        have hK : (E + 2000).toNat ≤ 2064 := by omega
        have hw1 : (W + 1) * 2 ^ (E + 2000).toNat ≤ 2 ^ 2064 := by
          have e7 : 2 ^ 2064 = 2 ^ (2064 - (E + 2000).toNat) * 2 ^ (E + 2000).toNat := by rw [← Nat.pow_add]; congr 1; omega
          rw [e7] at hw ⊢
          have := Nat.lt_of_mul_lt_mul_right hw
          exact Nat.mul_le_mul_right _ this
        have hw3 : (W + 1) * 2 ^ (E + 1074).toNat ≤ 2 ^ 1138 := scale_le1 (a := W + 1) (p := (E + 2000).toNat) (q := 2064) (p' := (E + 1074).toNat) (q' := 1138) hw1 (by omega)
        have hz : (2 * W + (W * W != m <<< M).toNat) * 2 ^ (E - 1 + 1074).toNat ≤ 2 ^ 1138 := by
          have hb : (W * W != m <<< M).toNat ≤ 1 := Bool.toNat_le _
          calc _ ≤ (2 * (W + 1)) * 2 ^ (E - 1 + 1074).toNat := Nat.mul_le_mul_right _ (by omega)
            _ = (W + 1) * 2 ^ (E + 1074).toNat := by
              rw [show (E + 1074).toNat = (E - 1 + 1074).toNat + 1 by omega, Nat.pow_succ, Nat.mul_comm 2, Nat.mul_assoc, Nat.mul_comm 2]
            _ ≤ _ := hw3
        have hb := near_fn (k := .f64) (s := false) (m := 2 * W + (W * W != m <<< M).toNat) (e := E - 1) (c := -1074) (lo := 0) (hi := 4895412794951729152) (by omega) (by rw [hL]; omega) (by decide) (by decide)
          (by rw [signed_eq, show sval .f64 0 = 0 from rfl, Int.zero_mul]; exact Int.natCast_nonneg _)
          (by
            rw [signed_eq, v64_hi, hL]
            rw [show ((-1074 : Int) - -1074).toNat = 0 from rfl, Nat.pow_zero, Int.natCast_one, Int.mul_one, if_neg (by decide), show (E - 1 - -1074).toNat = (E - 1 + 1074).toNat by omega]
            exact Int.ofNat_le.2 hz)
        unfold fsqrt
        rw [hsq, oc_nearest]
        exact (narrow_bd (lo := 0) (hi := 1602224128) hb.1 (by decide) (by decide) (by rw [show sval .f32 0 = 0 from rfl, Int.zero_mul]; exact hb.2.1) (by rw [v64_lo, ← v64_hi]; exact hb.2.2)).1
  · have hc : conv .f32 .f64 x = FloatKind.f64.format.word (sg .f32 x) FloatKind.f64.format.infRung := by
      unfold conv
      rw [if_neg (by decide), read_inf h]
      cases sg .f32 x <;> decide
    rw [hc]
    cases sg .f32 x
    · exact fits_inf (by decide)
    · exact hnone _ (by decide)
  · have hn : isN .f64 (conv .f32 .f64 x) = true := by rw [isN_conv, notN_rg]; simpa using h
    exact hnone _ (by
      obtain ⟨s, f, h1⟩ := read_nan .f64 _ hn
      unfold Format.sqrt; rw [h1]; rfl)
/-- The square root of a single number. -/
def rootN (x : Nat) : Nat := conv .f64 .f32 (fsqrt .f64 (conv .f32 .f64 x))
/-- The sum of the squares of a list. -/
def sqS (g : Nat → Nat) (i : Nat) : Nat := fold i 0 fun j s => farith .add .f32 s (farith .mul .f32 (g j) (g j))
def loudN (N : Nat) (g : Nat → Nat) : Nat := rootN (farith .quo .f32 (sqS g N) (ofInt .f32 (N : Int)))
end Go.Vx

namespace Go.Vx
section
variable {P : Program} {F' : Frm} {w0 w : World} {H : List HFact} {n : Nat}
/-- A struct that begins with a list, and whether there is one: what such a call gives. -/
def strV (B : Bool) (N : Nat) (rest : Bool → List Value) : Option Addr × Nat → Value := fun s => .tuple #[.agg (.slice s.1 (bif B then N else 0) s.2 :: rest B).toArray, .bool B]
theorem retS_no (i : Nat) {fn : Func} {p u : Tmp} {T T' : TypeId} {d : TypeDesc} {b : Nat} {E : TypeId} {B : Bool} {N : Nat} {g : Nat → Nat} {rest : Bool → List Value} {rest' : List Value} (hr : fn.results = #[.cell p T, .tmp u]) (hp : Frm.get F' p = some (true, .pointer (some ⟨b, 0, none⟩)))
    (hi : H[i]? = some (.box b T' (.slice none 0 0 :: rest'))) (hu : Frm.get F' u = some (true, .bool false)) (hT : P.underlying T = some d) (hd : aggT d = true) (hs : (P.info? T).map (·.size) = some (rest'.length + 1)) (hB : B = false) (hrest : rest' = rest false) :
    JQ n w0 (fun _ => False) .ret F' H (bodyPost P fn (EndsM (strV B N rest) (listK E B N g) w0)) := by
  subst hB hrest
  exact jq_retMM (none, 0) (.inl rfl) hr (ret_cell hp hi hT hd hs (ret_tmp hu rfl ret_nil)) rfl rfl (fun w h => fresh_nilrow)
theorem retS_yes (i j : Nat) {fn : Func} {p u : Tmp} {T T' : TypeId} {d : TypeDesc} {b : Nat} {E : TypeId} {A : Option Addr} {cap : Nat} {bb B : Bool} {N : Nat} {g : Nat → Nat} {rest : Bool → List Value} {rest' : List Value} (hr : fn.results = #[.cell p T, .tmp u]) (hp : Frm.get F' p = some (true, .pointer (some ⟨b, 0, none⟩)))
    (hi : H[i]? = some (.box b T' (.slice (bif bb then A else none) (bif bb then N else 0) (bif bb then cap else 0) :: rest'))) (hu : Frm.get F' u = some (true, .bool bb)) (hT : P.underlying T = some d) (hd : aggT d = true) (hs : (P.info? T).map (·.size) = some (rest'.length + 1))
    {cs : List Value} (hH : H[j]? = some (.vec E A cap cs)) (hcs : cs = tab N g) (hB : B = bb) (hrest : rest' = rest bb) :
    JQ n w0 (fun _ => False) .ret F' H (bodyPost P fn (EndsM (strV B N rest) (listK E B N g) w0)) := by
  subst hcs hB hrest
  exact jq_retMM (bif B then A else none, bif B then cap else 0) (.inl rfl) hr (ret_cell hp hi hT hd hs (ret_tmp hu rfl ret_nil)) rfl rfl (fun w h => fresh_bif j B hH h)
theorem retS_pass (i j : Nat) {fn : Func} {p u : Tmp} {T T' : TypeId} {d : TypeDesc} {b : Nat} {E : TypeId} {s : Option Addr × Nat} {bb B : Bool} {N : Nat} {g : Nat → Nat} {rest : Bool → List Value} {rest' : List Value} (hr : fn.results = #[.cell p T, .tmp u]) (hp : Frm.get F' p = some (true, .pointer (some ⟨b, 0, none⟩)))
    (hi : H[i]? = some (.box b T' (.slice s.1 (bif bb then N else 0) s.2 :: rest'))) (hu : Frm.get F' u = some (true, .bool bb)) (hT : P.underlying T = some d) (hd : aggT d = true) (hs : (P.info? T).map (·.size) = some (rest'.length + 1))
    (hH : H[j]? = some (.vec E s.1 s.2 (tab (bif bb then N else 0) g))) (hB : B = bb) (hrest : rest' = rest bb) :
    JQ n w0 (fun _ => False) .ret F' H (bodyPost P fn (EndsM (strV B N rest) (listK E B N g) w0)) := by
  subst hB hrest
  exact jq_retMM s (.inl rfl) hr (ret_cell hp hi hT hd hs (ret_tmp hu rfl ret_nil)) rfl rfl (fun w h => fresh_at j hH rfl h)
end

section
variable {P : Program} {F' : Frm} {w0 w : World} {H : List HFact} {n : Nat}
/-- Two facts on what is new. -/
theorem fresh_two (i j : Nat) {f g : HFact} (hi : H[i]? = some f) (hj : H[j]? = some g) (hij : Nat.beq i j = false) (o1 : f.isOwn = true) (o2 : g.isOwn = true) (h : HInv w0 (fun _ => False) H w) : Fresh w0 w [f, g] := by
  have h1 := fresh_at i hi o1 h
  have h2 := fresh_at j hj o2 h
  refine ⟨fun x hx => ?_, .cons (fun y hy => ?_) (.cons (fun _ h => (by cases h)) .nil)⟩
  · rcases mem2 hx with rfl | rfl
    · exact h1.1 _ (.head _)
    · exact h2.1 _ (.head _)
  · rw [List.mem_singleton] at hy
    subst hy
    exact h.offAt hi hj fun e => by subst e; simp at hij
/-- Two lists in a struct, and whether there are. -/
def str2V (B : Bool) (N M : Nat) : (Option Addr × Nat) × (Option Addr × Nat) → Value := fun s => .tuple #[.agg #[.slice s.1.1 (bif B then N else 0) s.1.2, .slice s.2.1 (bif B then M else 0) s.2.2], .bool B]
def str2K (E : TypeId) (B : Bool) (N M : Nat) (g h : Nat → Nat) : (Option Addr × Nat) × (Option Addr × Nat) → List HFact := fun s => [.vec E s.1.1 s.1.2 (tab (bif B then N else 0) g), .vec E s.2.1 s.2.2 (tab (bif B then M else 0) h)]
theorem fresh_nilrows {e : TypeId} : Fresh w0 w [.vec e none 0 [], .vec e none 0 []] :=
  ⟨fun f hf => (by rcases mem2 hf with rfl | rfl <;> exact fresh_nilrow.1 _ (.head _)), .cons (fun y hy => by rw [List.mem_singleton] at hy; subst hy; intro _ k hk; cases hk) (.cons (fun _ h => (by cases h)) .nil)⟩
theorem retW_no (i : Nat) {fn : Func} {p u : Tmp} {T T' : TypeId} {d : TypeDesc} {b : Nat} {E : TypeId} {B : Bool} {N M : Nat} {g h : Nat → Nat} (hr : fn.results = #[.cell p T, .tmp u]) (hp : Frm.get F' p = some (true, .pointer (some ⟨b, 0, none⟩)))
    (hi : H[i]? = some (.box b T' [.slice none 0 0, .slice none 0 0])) (hu : Frm.get F' u = some (true, .bool false)) (hT : P.underlying T = some d) (hd : aggT d = true) (hs : (P.info? T).map (·.size) = some 2) (hB : B = false) :
    JQ n w0 (fun _ => False) .ret F' H (bodyPost P fn (EndsM (str2V B N M) (str2K E B N M g h) w0)) := by
  subst hB
  exact jq_retMM ((none, 0), (none, 0)) (.inl rfl) hr (ret_cell hp hi hT hd hs (ret_tmp hu rfl ret_nil)) rfl rfl (fun w h => fresh_nilrows)
theorem retW_yes (i j1 j2 : Nat) {fn : Func} {p u : Tmp} {T T' : TypeId} {d : TypeDesc} {b : Nat} {E : TypeId} {A1 A2 : Option Addr} {c1 c2 : Nat} {bb B : Bool} {N M : Nat} {g h : Nat → Nat} {cs1 cs2 : List Value} (hr : fn.results = #[.cell p T, .tmp u]) (hp : Frm.get F' p = some (true, .pointer (some ⟨b, 0, none⟩)))
    (hi : H[i]? = some (.box b T' [.slice (bif bb then A1 else none) (bif bb then N else 0) (bif bb then c1 else 0), .slice (bif bb then A2 else none) (bif bb then M else 0) (bif bb then c2 else 0)])) (hu : Frm.get F' u = some (true, .bool bb)) (hT : P.underlying T = some d) (hd : aggT d = true) (hs : (P.info? T).map (·.size) = some 2)
    (h1 : H[j1]? = some (.vec E A1 c1 cs1)) (h2 : H[j2]? = some (.vec E A2 c2 cs2)) (hj : Nat.beq j1 j2 = false) (e1 : cs1 = tab N g) (e2 : cs2 = tab M h) (hB : B = bb) :
    JQ n w0 (fun _ => False) .ret F' H (bodyPost P fn (EndsM (str2V B N M) (str2K E B N M g h) w0)) := by
  subst hB e1 e2
  refine jq_retMM ((bif B then A1 else none, bif B then c1 else 0), (bif B then A2 else none, bif B then c2 else 0)) (.inl rfl) hr (ret_cell hp hi hT hd hs (ret_tmp hu rfl ret_nil)) rfl rfl (fun w hh => ?_)
  cases B
  · exact fresh_nilrows
  · exact fresh_two j1 j2 h1 h2 hj rfl rfl hh
theorem retW_true (i j1 j2 : Nat) {fn : Func} {p u : Tmp} {T T' : TypeId} {d : TypeDesc} {b : Nat} {E : TypeId} {A1 A2 : Option Addr} {c1 c2 : Nat} {B : Bool} {N M : Nat} {g h : Nat → Nat} {cs1 cs2 : List Value} (hr : fn.results = #[.cell p T, .tmp u]) (hp : Frm.get F' p = some (true, .pointer (some ⟨b, 0, none⟩)))
    (hi : H[i]? = some (.box b T' [.slice A1 N c1, .slice A2 M c2])) (hu : Frm.get F' u = some (true, .bool true)) (hT : P.underlying T = some d) (hd : aggT d = true) (hs : (P.info? T).map (·.size) = some 2)
    (h1 : H[j1]? = some (.vec E A1 c1 cs1)) (h2 : H[j2]? = some (.vec E A2 c2 cs2)) (hj : Nat.beq j1 j2 = false) (e1 : cs1 = tab N g) (e2 : cs2 = tab M h) (hB : B = true) :
    JQ n w0 (fun _ => False) .ret F' H (bodyPost P fn (EndsM (str2V B N M) (str2K E B N M g h) w0)) :=
  retW_yes i j1 j2 (bb := true) hr hp hi hu hT hd hs h1 h2 hj e1 e2 hB
end

section
variable {P : Program} {F' : Frm} {w0 w : World} {old : Nat → Prop} {H : List HFact} {n : Nat} {Q : Exit → Act → World → Prop} {x : Code}
/-- A row behind another fact whose cells have all been set. -/
theorem j_part1 {f : HFact} {e : TypeId} {A : Option Addr} {cap N i : Nat} {g h : Nat → Nat} (hi : i = N) (k : J P n w0 old x F' (f :: .vec e A cap (tab N g) :: H) Q) : J P n w0 old x F' (f :: .vec e A cap (part N i g h) :: H) Q := by
  subst hi
  rw [part_all]
  exact k
end

/-- A number, damped some times. -/
def dmp (x : Nat) (n v : Nat) : Nat := fold n v fun _ s => farith .mul .f32 s x
/-- A list that is being damped. -/
def dampG (x : Nat) (g : Nat → Nat) (i n : Nat) : Nat → Nat := fun j => if j < i then dmp x (j + 1) (g j) else if j = i then dmp x n (g j) else g j
theorem dampG_zero {N x : Nat} {g : Nat → Nat} : tab N (dampG x g 0 0) = tab N g := tab_congr fun j _ => by
  by_cases h : j = 0
  · subst h; rfl
  · simp [dampG, h]
theorem dampG_next {N x i : Nat} {g : Nat → Nat} : tab N (dampG x g i (i + 1)) = tab N (dampG x g (i + 1) 0) := tab_congr fun j _ => by
  rcases Nat.lt_trichotomy j i with h | h | h
  · simp [dampG, h, show j < i + 1 by omega]
  · subst h; simp [dampG]
  · by_cases h2 : j = i + 1
    · subst h2; simp [dampG, show ¬ i + 1 < i by omega, dmp, fold]
    · simp [dampG, show ¬ j < i by omega, show ¬ j < i + 1 by omega, show ¬ j = i by omega, h2]
theorem dampG_set {N x i n : Nat} {g : Nat → Nat} : (tab N (dampG x g i n)).set i (F (farith .mul .f32 (dampG x g i n i) x)) = tab N (dampG x g i (n + 1)) := by
  rw [tab_set]
  refine tab_congr fun j _ => ?_
  by_cases h : j = i
  · subst h
    simp only [if_true, dampG, Nat.lt_irrefl, if_false]
    rfl
  · simp [dampG, h]
theorem dampG_end {N x : Nat} {g : Nat → Nat} : tab N (dampG x g N 0) = tab N (fun j => dmp x (j + 1) (g j)) := tab_congr fun j hj => by
  simp [dampG, hj]
theorem damp_no {N x y : Nat} {g h : Nat → Nat} (hh : (!validP N g x || !btw y 0 1065353216) = true) : ((validP N g x && btw y 0 1065353216) && validP N h x) = false := by
  cases h1 : validP N g x <;> cases h2 : btw y 0 1065353216 <;> simp_all
theorem damp_yes {N x y : Nat} {g : Nat → Nat} (hh : (!validP N g x || !btw y 0 1065353216) = false) : ((validP N g x && btw y 0 1065353216) && validP N (fun j => dmp y (j + 1) (g j)) x) = validP N (dampG y g N 0) x := by
  have e : validP N (fun j => dmp y (j + 1) (g j)) x = validP N (dampG y g N 0) x := by
    unfold validP
    rw [allB_congr (q := fun j => fin (dampG y g N 0 j)) fun j hj => by simp [dampG, hj]]
  cases h1 : validP N g x <;> cases h2 : btw y 0 1065353216 <;> simp_all
theorem damp_yes2 {N x y : Nat} {g h : Nat → Nat} (hh : (!validP N g x || !btw y 0 1065353216) = false) : ((validP N g x && btw y 0 1065353216) && validP N h x) = validP N h x := by
  cases h1 : validP N g x <;> cases h2 : btw y 0 1065353216 <;> simp_all
end Go.Vx

namespace Go.Vx
/-! ### Tubes -/
theorem few_no {N i : Nat} {p : Nat → Bool} (hi : i < N) (h : p i = false) : false = (iin (N : Int) 1 16 && allB N p) := by rw [allB_false hi h, Bool.and_false]
theorem few_end {N i : Nat} {p : Nat → Bool} (hi : ∀ j, j < i → p j = true) (h : (N : Int) ≤ 16 → N ≤ i) : (icmp .geq (N : Int) 1 && icmp .leq (N : Int) 16) = (iin (N : Int) 1 16 && allB N p) := by
  unfold iin icmp
  by_cases h16 : (N : Int) ≤ 16
  · rw [allB_true.2 fun j hj => hi j (by have := h h16; omega), Bool.and_true]
  · simp [h16]
def areasB (N : Nat) (g : Nat → Nat) : Bool := iin (N : Int) 1 16 && allB N (fun j => above (g j))
def endB (x : Nat) : Bool := btw x 3212836864 1065353216
def tubeB (N : Nat) (g : Nat → Nat) (l t p : Nat) : Bool := (((areasB N g && fcmp .gtr .f32 l 0) && fcmp .leq .f32 l 1065353216) && endB t) && endB p
theorem leq_gtr {x : Nat} (h : fin x = true) : fcmp .leq .f32 x 0 = !fcmp .gtr .f32 x 0 := by
  have h0 : rg .f32 0 < FloatKind.f32.format.infRung := by decide
  have := order_sval (k := .f32) (fin_rg.1 h) h0
  unfold fcmp
  rw [this]
  cases compare (sval .f32 x) (sval .f32 0) <;> rfl
theorem above_of {x : Nat} (h : (!fin x || fcmp .leq .f32 x 0) = false) : above x = true := by
  simp only [Bool.or_eq_false_iff, Bool.not_eq_false'] at h
  have := h.2
  rw [leq_gtr h.1] at this
  simp only [Bool.not_eq_false'] at this
  simp [above, h.1, this]
theorem above_not {x : Nat} (h : (!fin x || fcmp .leq .f32 x 0) = true) : above x = false := by
  cases hf : fin x
  · simp [above, hf]
  · rw [hf, leq_gtr hf] at h
    simp only [Bool.not_true, Bool.false_or, Bool.not_eq_true'] at h
    simp [above, h]
def tubeR (l t p : Nat) : Bool → List Value := fun b => [F (bif b then l else 0), F (bif b then t else 0), F (bif b then p else 0)]
theorem tube_len {N l t p : Nat} {g : Nat → Nat} (h : (!tubeB N g l t p) = false) : 1 ≤ N ∧ N ≤ 16 := by
  simp only [Bool.not_eq_false', tubeB, areasB, Bool.and_eq_true, iin, decide_eq_true_eq] at h
  omega
theorem tube_no1 {N l t p : Nat} {g : Nat → Nat} (h : (!iin (N : Int) 1 16) = true) : false = tubeB N g l t p := by
  simp only [Bool.not_eq_true'] at h
  simp [tubeB, areasB, h]
theorem tube_no2 {N i l t p : Nat} {g : Nat → Nat} (hi : i < N) (h : above (g i) = false) : false = tubeB N g l t p := by
  unfold tubeB areasB
  rw [allB_false hi h]
  simp
theorem tube_yes {N l t p : Nat} {g : Nat → Nat} (h : (!iin (N : Int) 1 16) = false) (hi : ∀ j, j < N → above (g j) = true) : (((fcmp .gtr .f32 l 0 && fcmp .leq .f32 l 1065353216) && btw t 3212836864 1065353216) && btw p 3212836864 1065353216) = tubeB N g l t p := by
  simp only [Bool.not_eq_false'] at h
  unfold tubeB areasB
  rw [allB_true.2 hi, h]
  simp [endB]
theorem tube_first {N l t p : Nat} {g : Nat → Nat} (h : tubeB N g l t p = true) : 0 < N := by
  have := tube_len (N := N) (l := l) (t := t) (p := p) (g := g) (by rw [h]; rfl)
  omega
theorem tube_bad {N i l t p : Nat} {g : Nat → Nat} (hi : i < N) (h : fin (g i) = false) : tubeB N g l t p = false := (tube_no2 hi (by simp [above, h])).symm
theorem scale_fin {N l t p x : Nat} {g : Nat → Nat} (h : fin x = false) : (tubeB N g l t p && tubeB N (fun j => farith .mul .f32 (g j) x) l t p) = false := by
  cases h1 : tubeB N g l t p
  · rfl
  · rw [tube_bad (g := fun j => farith .mul .f32 (g j) x) (tube_first h1) (mul_notfin h)]; rfl
theorem mixT_len {N M x : Nat} {a b : Bool} (h : (((!a || !b) || icmp .neq (N : Int) (M : Int)) || !btw x 0 1065353216) = false) : N = M := by
  simp only [Bool.or_eq_false_iff] at h
  have := h.1.2
  simp [icmp] at this
  omega
theorem mixT_no {N M x : Nat} {a b d : Bool} (h : (((!a || !b) || icmp .neq (N : Int) (M : Int)) || !btw x 0 1065353216) = true) : ((((a && b) && decide (N = M)) && btw x 0 1065353216) && d) = false := by
  by_cases e : N = M
  · subst e
    cases a <;> cases b <;> cases h4 : btw x 0 1065353216 <;> simp_all [icmp]
  · simp [e]
theorem mixT_yes {N M x : Nat} {a b d e : Bool} (h : (((!a || !b) || icmp .neq (N : Int) (M : Int)) || !btw x 0 1065353216) = false) (hd : d = e) : ((((a && b) && decide (N = M)) && btw x 0 1065353216) && d) = e := by
  have e' := mixT_len h
  subst e' hd
  cases a <;> cases b <;> cases h4 : btw x 0 1065353216 <;> simp_all [icmp]
theorem mixT_a {N M x : Nat} {a b : Bool} (h : (((!a || !b) || icmp .neq (N : Int) (M : Int)) || !btw x 0 1065353216) = false) : a = true := by
  simp only [Bool.or_eq_false_iff, Bool.not_eq_false'] at h
  exact h.1.1.1
/-- Waves of a tube. -/
def wavesB (N : Nat) (g : Nat → Nat) (l t p R : Nat) (r : Nat → Nat) (M : Nat) (q : Nat → Nat) : Bool := (((tubeB N g l t p && icmp .eql (R : Int) (N : Int)) && icmp .eql (M : Int) (N : Int)) && allB R (fun j => fin (r j))) && allB M (fun j => fin (q j))
theorem waves_len {N l t p R M : Nat} {g r q : Nat → Nat} (h : (!wavesB N g l t p R r M q) = false) : (1 ≤ N ∧ N ≤ 16) ∧ R = N ∧ M = N := by
  simp only [Bool.not_eq_false', wavesB, Bool.and_eq_true] at h
  have h1 := tube_len (N := N) (l := l) (t := t) (p := p) (g := g) (by rw [h.1.1.1.1]; rfl)
  have h2 := h.1.1.1.2
  have h3 := h.1.1.2
  simp [icmp] at h2 h3
  omega
/-- The energy of waves. -/
def enS (g r q : Nat → Nat) (i : Nat) : Nat := fold i 0 fun j s => farith .add .f32 s (farith .mul .f32 (g j) (farith .add .f32 (farith .mul .f32 (r j) (r j)) (farith .mul .f32 (q j) (q j))))
theorem waves2_no {a b d : Bool} (h : (!a || !b) = true) : ((a && b) && d) = false := by cases a <;> cases b <;> simp_all
theorem waves2_yes {a b d e : Bool} (h : (!a || !b) = false) (hd : d = e) : ((a && b) && d) = e := by cases a <;> cases b <;> simp_all
theorem waves2_len {N l t p R M R2 M2 : Nat} {g r q r2 q2 : Nat → Nat} (h : (!wavesB N g l t p R r M q || !wavesB N g l t p R2 r2 M2 q2) = false) : (1 ≤ N ∧ N ≤ 16) ∧ R = N ∧ M = N ∧ R2 = N ∧ M2 = N := by
  obtain ⟨h1, h2⟩ := Bool.or_eq_false_iff.1 h
  have a := waves_len h1
  have b := waves_len h2
  omega
end Go.Vx
