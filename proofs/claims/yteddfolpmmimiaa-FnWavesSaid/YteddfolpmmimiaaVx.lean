/- Theory for walks over floats: values up to the bits of their not-a-numbers, regions that draw their order, what is known of memory. Over any program. -/
import Derived.Tactics
import Derived.Tactics2
import Derived.KernelRfl
import Derived.StillTail
import Derived.Below
import Derived.Deep.Draws
import Derived.WalkLawsBesides
import Derived.Laws.OwnMore
import Derived.Laws.MakeOwn
import Derived.Maps.AppendAt
import Derived.Laws.Externs
import Derived.IntWalk
import Derived.Great.BuildSlice
import Derived.Laws.CopyRow
import Derived.Laws.Slices
namespace Go.Vx
open Go.RowKit

/-! ### Floats up to the bits of their not-a-numbers -/
def cn : FloatKind → Nat → Nat
  | .f32, b => if 2139095040 < b % 2147483648 then 2143289344 else b
  | .f64, b => if 9218868437227405312 < b % 9223372036854775808 then 9221120237041090560 else b
def qnan : FloatKind → Nat
  | .f32 => 2143289344
  | .f64 => 9221120237041090560
def isN : FloatKind → Nat → Bool
  | .f32, b => decide (2139095040 < b % 2147483648)
  | .f64, b => decide (9218868437227405312 < b % 9223372036854775808)

theorem cn_eq (k : FloatKind) (b : Nat) : cn k b = if isN k b then qnan k else b := by
  cases k <;> simp [cn, isN, qnan]

theorem read_nan (k : FloatKind) (b : Nat) (h : isN k b = true) : ∃ s f, k.format.read b = .nan s f := by
  have key : (k.format.read b).isNaN = true → ∃ s f, k.format.read b = .nan s f := by
    intro hh
    cases e : k.format.read b with
    | nan s f => exact ⟨s, f, rfl⟩
    | _ => rw [e] at hh; cases hh
  apply key
  cases k
  · simp only [isN, decide_eq_true_eq] at h
    unfold Ieee.Format.read
    have h1 : FloatKind.f32.format.signWeight = 2147483648 := rfl
    have h2 : FloatKind.f32.format.binade = 8388608 := rfl
    have h3 : FloatKind.f32.format.infRung = 2139095040 := rfl
    simp only [h1, h2, h3]
    rw [if_neg (by omega), if_neg (by omega), if_neg (by omega)]
    rfl
  · simp only [isN, decide_eq_true_eq] at h
    unfold Ieee.Format.read
    have h1 : FloatKind.f64.format.signWeight = 9223372036854775808 := rfl
    have h2 : FloatKind.f64.format.binade = 4503599627370496 := rfl
    have h3 : FloatKind.f64.format.infRung = 9218868437227405312 := rfl
    simp only [h1, h2, h3]
    rw [if_neg (by omega), if_neg (by omega), if_neg (by omega)]
    rfl

theorem read_num (k : FloatKind) (b : Nat) (h : isN k b = false) : (k.format.read b).isNaN = false := by
  cases k
  · simp only [isN, decide_eq_false_iff_not] at h
    unfold Ieee.Format.read
    have h1 : FloatKind.f32.format.signWeight = 2147483648 := rfl
    have h2 : FloatKind.f32.format.binade = 8388608 := rfl
    have h3 : FloatKind.f32.format.infRung = 2139095040 := rfl
    simp only [h1, h2, h3]
    split
    · rfl
    · split
      · rfl
      · rw [if_pos (by omega)]; rfl
  · simp only [isN, decide_eq_false_iff_not] at h
    unfold Ieee.Format.read
    have h1 : FloatKind.f64.format.signWeight = 9223372036854775808 := rfl
    have h2 : FloatKind.f64.format.binade = 4503599627370496 := rfl
    have h3 : FloatKind.f64.format.infRung = 9218868437227405312 := rfl
    simp only [h1, h2, h3]
    split
    · rfl
    · split
      · rfl
      · rw [if_pos (by omega)]; rfl

theorem isN_qnan (k : FloatKind) : isN k (qnan k) = true := by cases k <;> rfl
theorem isN_cn (k : FloatKind) (b : Nat) : isN k (cn k b) = isN k b := by
  rw [cn_eq]; by_cases h : isN k b = true
  · rw [if_pos h, isN_qnan, h]
  · rw [if_neg h]

/-- What an operation gives that may have no answer: a not-a-number where it has no answer. -/
def oc (k : FloatKind) (o : Option Nat) : Nat := cn k (o.getD (qnan k))

def fadd (k : FloatKind) (x y : Nat) : Nat := oc k (k.format.add x y)
def fsub (k : FloatKind) (x y : Nat) : Nat := oc k (k.format.sub x y)
def fmul (k : FloatKind) (x y : Nat) : Nat := oc k (k.format.mul x y)
def fdiv (k : FloatKind) (x y : Nat) : Nat := oc k (k.format.div x y)
def fneg (k : FloatKind) (x : Nat) : Nat := cn k (Op.negFloat k x)

theorem add_nan_l {k : FloatKind} {x y : Nat} (h : isN k x = true) : k.format.add x y = none := by
  obtain ⟨s, f, e⟩ := read_nan k x h
  simp [Ieee.Format.add, e, Ieee.Datum.sum]
theorem add_nan_r {k : FloatKind} {x y : Nat} (h : isN k y = true) : k.format.add x y = none := by
  obtain ⟨s, f, e⟩ := read_nan k y h
  unfold Ieee.Format.add
  rw [e]
  cases k.format.read x <;> simp [Ieee.Datum.sum]
theorem sub_nan_l {k : FloatKind} {x y : Nat} (h : isN k x = true) : k.format.sub x y = none := by
  obtain ⟨s, f, e⟩ := read_nan k x h
  simp [Ieee.Format.sub, e, Ieee.Datum.sum]
theorem sub_nan_r {k : FloatKind} {x y : Nat} (h : isN k y = true) : k.format.sub x y = none := by
  obtain ⟨s, f, e⟩ := read_nan k y h
  unfold Ieee.Format.sub
  rw [e]
  cases k.format.read x <;> simp [Ieee.Datum.sum, Ieee.Datum.opposite]
theorem mul_nan_l {k : FloatKind} {x y : Nat} (h : isN k x = true) : k.format.mul x y = none := by
  obtain ⟨s, f, e⟩ := read_nan k x h
  simp [Ieee.Format.mul, e, Ieee.Datum.product]
theorem mul_nan_r {k : FloatKind} {x y : Nat} (h : isN k y = true) : k.format.mul x y = none := by
  obtain ⟨s, f, e⟩ := read_nan k y h
  unfold Ieee.Format.mul
  rw [e]
  cases k.format.read x <;> simp [Ieee.Datum.product]
theorem div_nan_l {k : FloatKind} {x y : Nat} (h : isN k x = true) : k.format.div x y = none := by
  obtain ⟨s, f, e⟩ := read_nan k x h
  simp [Ieee.Format.div, e, Ieee.Datum.quotient]
theorem div_nan_r {k : FloatKind} {x y : Nat} (h : isN k y = true) : k.format.div x y = none := by
  obtain ⟨s, f, e⟩ := read_nan k y h
  unfold Ieee.Format.div
  rw [e]
  cases k.format.read x <;> simp [Ieee.Datum.quotient]
theorem order_nan_l {k : FloatKind} {x y : Nat} (h : isN k x = true) : k.format.order x y = none := by
  obtain ⟨s, f, e⟩ := read_nan k x h
  simp [Ieee.Format.order, e, Ieee.Datum.order]
theorem order_nan_r {k : FloatKind} {x y : Nat} (h : isN k y = true) : k.format.order x y = none := by
  obtain ⟨s, f, e⟩ := read_nan k y h
  unfold Ieee.Format.order
  rw [e]
  cases k.format.read x <;> simp [Ieee.Datum.order]

/-- An operation that does not look at the bits of not-a-numbers. -/
theorem op_cn {α : Type} {k : FloatKind} (op : Nat → Nat → Option α) (hl : ∀ x y, isN k x = true → op x y = none) (hr : ∀ x y, isN k y = true → op x y = none) (x y : Nat) :
    op (cn k x) (cn k y) = op x y := by
  by_cases h : isN k x = true
  · rw [hl _ _ h, hl _ _ (by rw [isN_cn]; exact h)]
  · have ex : cn k x = x := by rw [cn_eq, if_neg h]
    rw [ex]
    by_cases h' : isN k y = true
    · rw [hr _ _ h', hr _ _ (by rw [isN_cn]; exact h')]
    · have ey : cn k y = y := by rw [cn_eq, if_neg h']
      rw [ey]

theorem add_cn (k : FloatKind) (x y : Nat) : k.format.add (cn k x) (cn k y) = k.format.add x y := op_cn (k := k) _ (fun _ _ => add_nan_l) (fun _ _ => add_nan_r) x y
theorem sub_cn (k : FloatKind) (x y : Nat) : k.format.sub (cn k x) (cn k y) = k.format.sub x y := op_cn (k := k) _ (fun _ _ => sub_nan_l) (fun _ _ => sub_nan_r) x y
theorem mul_cn (k : FloatKind) (x y : Nat) : k.format.mul (cn k x) (cn k y) = k.format.mul x y := op_cn (k := k) _ (fun _ _ => mul_nan_l) (fun _ _ => mul_nan_r) x y
theorem div_cn (k : FloatKind) (x y : Nat) : k.format.div (cn k x) (cn k y) = k.format.div x y := op_cn (k := k) _ (fun _ _ => div_nan_l) (fun _ _ => div_nan_r) x y
theorem order_cn (k : FloatKind) (x y : Nat) : k.format.order (cn k x) (cn k y) = k.format.order x y := op_cn (k := k) _ (fun _ _ => order_nan_l) (fun _ _ => order_nan_r) x y

end Go.Vx

namespace Go.Vx
open Go.RowKit

/-! ### Values up to the bits of not-a-numbers -/
def Flat (v : Value) : Value → Prop
  | .float k x => ∃ b, v = .float k b ∧ b < 2 ^ k.format.width ∧ cn k b = x
  | .complex k x y => ∃ a b, v = .complex k a b ∧ a < 2 ^ k.format.width ∧ b < 2 ^ k.format.width ∧ cn k a = x ∧ cn k b = y
  | .agg _ => False
  | .tuple _ => False
  | V => v = V

def FlatL : List Value → List Value → Prop
  | [], [] => True
  | v :: vs, V :: Vs => Flat v V ∧ FlatL vs Vs
  | _, _ => False

def Ab1 (v : Value) : Value → Prop
  | .agg Cs => ∃ cs, v = .agg cs ∧ FlatL cs.toList Cs.toList
  | V => Flat v V

def Ab1L : List Value → List Value → Prop
  | [], [] => True
  | v :: vs, V :: Vs => Ab1 v V ∧ Ab1L vs Vs
  | _, _ => False

def Ab (v : Value) : Value → Prop
  | .tuple Vs => ∃ vs, v = .tuple vs ∧ Ab1L vs.toList Vs.toList
  | V => Ab1 v V

def AbL : List Value → List Value → Prop
  | [], [] => True
  | v :: vs, V :: Vs => Ab v V ∧ AbL vs Vs
  | _, _ => False

theorem Flat.ab1 {v V : Value} (h : Flat v V) : Ab1 v V := by cases V <;> first | exact h | exact h.elim
theorem Ab1.ab {v V : Value} (h : Ab1 v V) : Ab v V := by
  cases V with
  | tuple Vs => exact h.elim
  | _ => exact h
theorem Flat.ab {v V : Value} (h : Flat v V) : Ab v V := h.ab1.ab

theorem FlatL.length : ∀ {vs Vs : List Value}, FlatL vs Vs → vs.length = Vs.length
  | [], [], _ => rfl
  | _ :: _, _ :: _, h => congrArg (· + 1) (FlatL.length h.2)
theorem FlatL.get : ∀ {vs Vs : List Value} {i : Nat} {V : Value}, FlatL vs Vs → Vs[i]? = some V → ∃ v, vs[i]? = some v ∧ Flat v V
  | [], [], _, _, _, h => by simp at h
  | v :: vs, V' :: Vs, 0, V, h, h' => by
    simp only [List.getElem?_cons_zero, Option.some.injEq] at h'
    subst h'
    exact ⟨v, rfl, h.1⟩
  | v :: vs, V' :: Vs, i + 1, V, h, h' => by
    simp only [List.getElem?_cons_succ] at h'
    obtain ⟨u, h1, h2⟩ := FlatL.get h.2 h'
    exact ⟨u, by simpa using h1, h2⟩
theorem FlatL.set : ∀ {vs Vs : List Value} {v V : Value} (i : Nat), FlatL vs Vs → Flat v V → FlatL (vs.set i v) (Vs.set i V)
  | [], [], _, _, _, _, _ => trivial
  | _ :: _, _ :: _, _, _, 0, h, h' => ⟨h', h.2⟩
  | _ :: _, _ :: _, _, _, i + 1, h, h' => ⟨h.1, FlatL.set i h.2 h'⟩
theorem FlatL.append : ∀ {vs Vs us Us : List Value}, FlatL vs Vs → FlatL us Us → FlatL (vs ++ us) (Vs ++ Us)
  | [], [], _, _, _, h => h
  | _ :: _, _ :: _, _, _, h, h' => ⟨h.1, FlatL.append h.2 h'⟩
theorem FlatL.of_get : ∀ {vs Vs : List Value}, vs.length = Vs.length → (∀ (i : Nat) (V : Value), Vs[i]? = some V → ∃ v, vs[i]? = some v ∧ Flat v V) → FlatL vs Vs
  | [], [], _, _ => trivial
  | v :: vs, V :: Vs, hl, h => by
    refine ⟨?_, FlatL.of_get (by simpa using hl) fun i U hU => ?_⟩
    · obtain ⟨u, h1, h2⟩ := h 0 V rfl
      simp only [List.getElem?_cons_zero, Option.some.injEq] at h1
      subst h1; exact h2
    · obtain ⟨u, h1, h2⟩ := h (i + 1) U (by simpa using hU)
      exact ⟨u, by simpa using h1, h2⟩
theorem FlatL.take {vs Vs : List Value} (n : Nat) (h : FlatL vs Vs) : FlatL (vs.take n) (Vs.take n) := by
  refine FlatL.of_get (by simp [h.length]) fun i V hV => ?_
  rw [List.getElem?_take] at hV
  split at hV
  · obtain ⟨v, h1, h2⟩ := h.get hV
    exact ⟨v, by rw [List.getElem?_take, if_pos (by assumption)]; exact h1, h2⟩
  · cases hV
theorem FlatL.drop {vs Vs : List Value} (n : Nat) (h : FlatL vs Vs) : FlatL (vs.drop n) (Vs.drop n) := by
  refine FlatL.of_get (by simp [h.length]) fun i V hV => ?_
  rw [List.getElem?_drop] at hV
  obtain ⟨v, h1, h2⟩ := h.get hV
  exact ⟨v, by rw [List.getElem?_drop]; exact h1, h2⟩
theorem Flat.one {v V : Value} (h : Flat v V) : v.oneCell' = true := by
  cases V <;> simp only [Flat] at h <;> first | exact h.elim | (obtain ⟨b, rfl, _⟩ := h; rfl) | (obtain ⟨a, b, rfl, _⟩ := h; rfl) | (subst h; rfl)
theorem FlatL.one : ∀ {vs Vs : List Value}, FlatL vs Vs → ∀ u ∈ vs, u.oneCell' = true
  | [], [], _, u, hu => by cases hu
  | v :: vs, V :: Vs, h, u, hu => by
    rcases List.mem_cons.1 hu with rfl | hu
    · exact h.1.one
    · exact FlatL.one h.2 u hu

/-! ### One operation: what it yields, and the world behind it -/
def yieldsUpon (P : Program) (R : Value → World → Prop) : Result Next → Prop
  | .ok (.value v) w' => R v w'
  | .ok .skip w' => R undef w'
  | .ok (.enter f args) w' => Calls P f args w' (fun e w'' => ∃ v, e = .returned v ∧ R v w'')
  | _ => False

def OpV (P : Program) (o : Oper) (a : Act) (w : World) (R : Value → World → Prop) : Prop := yieldsUpon P R ((execOp a.eval o).run P w)

section
variable {P : Program}

theorem OpV.mono {o : Oper} {a : Act} {w : World} {R R' : Value → World → Prop} (h : OpV P o a w R) (hr : ∀ v w', R v w' → R' v w') : OpV P o a w R' := by
  unfold OpV at *
  generalize (execOp a.eval o).run P w = r at *
  cases r with
  | ok n w' =>
    cases n <;> simp only [yieldsUpon] at h ⊢ <;> first | exact hr _ _ h | exact h.mono fun e w'' ⟨v, h1, h2⟩ => ⟨v, h1, hr _ _ h2⟩
  | halt x w' => simp only [yieldsUpon] at h

theorem OpV.wp {o : Oper} {a : Act} {w : World} {R : Value → World → Prop} {next : Act → World → Prop} {Q : Exit → Act → World → Prop} (h : OpV P o a w R)
    (hn : ∀ v w', R v w' → next (a.put o.dst v) w') : o.wp P a w next Q := by
  unfold OpV at h
  unfold Oper.wp
  generalize (execOp a.eval o).run P w = r at *
  cases r with
  | ok n w' =>
    cases n <;> simp only [yieldsUpon] at h <;> simp only [Oper.upon]
    case value u => exact hn _ _ h
    case skip => exact hn _ _ h
    case enter f args => exact h.mono fun e w'' ⟨v, he, hv⟩ => by subst he; exact hn _ _ hv
  | halt x w' => simp only [yieldsUpon] at h

/-! ### Regions that draw their order: one walk of the text's order, over what is known of each slot -/
abbrev RP := World → Value → Prop
abbrev RF := Nat → RP
def RP.Mono (R : RP) : Prop := ∀ w w' v, Below w.heap.size w w' → R w v → R w' v
def RF.put (F : RF) (d : Option Tmp) (R : RP) : RF := match d with | some d => fun t => if t = d then R else F t | none => F
def RF.Mono (F : RF) : Prop := ∀ t, (F t).Mono

theorem RF.put_comm (F : RF) {x y : Option Tmp} (R S : RP) (h : ∀ d, x = some d → y ≠ some d) : (F.put x R).put y S = (F.put y S).put x R := by
  cases x with
  | none => rfl
  | some d =>
    cases y with
    | none => rfl
    | some e =>
      have hne : d ≠ e := fun he => h d rfl (he ▸ rfl)
      funext t
      simp only [RF.put]
      by_cases h1 : t = d
      · subst h1; simp [hne]
      · by_cases h2 : t = e <;> simp [h1]

variable {ops : Array Oper} {md : Region.Mode} {C : World → Prop}

/-- What is asked of an operation: of the slots that it looks at alone. -/
def AOp (P : Program) (ops : Array Oper) (C : World → Prop) (o : Oper) (F : RF) (R : RP) : Prop :=
  R.Mono ∧ ∀ a w, C w → (∀ t ∈ o.looksAt ops, F t w (a.tmps.getD t undef)) →
    if Region.wanted o (yielded ops a.tmps) then OpV P o a w (fun v w' => C w' ∧ Below w.heap.size w w' ∧ R w' v) else R w undef

theorem AOp.congr {o : Oper} {F F' : RF} {R : RP} (h : AOp P ops C o F R) (hF : ∀ t ∈ o.looksAt ops, F' t = F t) : AOp P ops C o F' R :=
  ⟨h.1, fun a w hc ha => h.2 a w hc fun t ht => by rw [← hF t ht]; exact ha t ht⟩

theorem AOp.put {oi oj : Oper} {F : RF} {Ri Rj : RP} (h1 : ∀ d, oi.dst = some d → d ∉ oj.looksAt ops) (h : AOp P ops C oj (F.put oi.dst Ri) Rj) : AOp P ops C oj F Rj :=
  h.congr fun t ht => by
    cases hd : oi.dst with
    | none => rfl
    | some d =>
      have : t ≠ d := fun e => h1 d hd (e ▸ ht)
      simp [RF.put, this]
theorem AOp.put' {oi oj : Oper} {F : RF} {Ri Rj : RP} (h1 : ∀ d, oi.dst = some d → d ∉ oj.looksAt ops) (h : AOp P ops C oj F Rj) : AOp P ops C oj (F.put oi.dst Ri) Rj :=
  h.congr fun t ht => by
    cases hd : oi.dst with
    | none => rfl
    | some d =>
      have : t ≠ d := fun e => h1 d hd (e ▸ ht)
      simp [RF.put, this]

/-- The walk in the order of the text. -/
def AW (P : Program) (ops : Array Oper) (C : World → Prop) (Q : RF → Prop) : List Oper → RF → Prop
  | [], F => Q F
  | o :: rest, F => ∃ R, AOp P ops C o F R ∧ AW P ops C Q rest (F.put o.dst R)

/-- Operation number 'i' comes up. -/
def aOp (P : Program) (ops : Array Oper) (C : World → Prop) (i : Nat) (K : RF → Prop) (F : RF) : Prop :=
  match ops[i]? with
  | none => K F
  | some o => ∃ R, AOp P ops C o F R ∧ K (F.put o.dst R)

theorem aOp_mono {i : Nat} {F : RF} {K K' : RF → Prop} (h : ∀ F, K F → K' F) (hh : aOp P ops C i K F) : aOp P ops C i K' F := by
  unfold aOp at *
  split
  · rename_i ho; simp only [ho] at hh; exact h _ hh
  · rename_i o ho
    simp only [ho] at hh
    obtain ⟨R, h1, h2⟩ := hh
    exact ⟨R, h1, h _ h2⟩

def wpAnyA (P : Program) (md : Region.Mode) (ops : Array Oper) (C : World → Prop) (Q : RF → Prop) : Nat → Array Bool → RF → Prop
  | 0, listed, F => Region.ready md ops listed = [] ∧ Q F
  | fuel + 1, listed, F =>
    (Region.ready md ops listed = [] → Q F) ∧
    ∀ i ∈ Region.ready md ops listed, aOp P ops C i (wpAnyA P md ops C Q fuel (listed.setIfInBounds i true)) F

/-- What is known of the slots holds. -/
def FrR (n : Nat) (F : RF) (a : Act) (w : World) : Prop := a.defers = [] ∧ a.tmps.size = n ∧ ∀ t, t < n → F t w (a.tmps.getD t undef)

theorem FrR.put {n : Nat} {F : RF} {a : Act} {w w' : World} {d : Option Tmp} {v : Value} {R : RP} (hF : F.Mono) (h : FrR n F a w) (hb : Below w.heap.size w w') (hv : R w' v) :
    FrR n (F.put d R) (a.put d v) w' := by
  obtain ⟨h1, h2, h3⟩ := h
  cases d with
  | none => exact ⟨h1, h2, fun t ht => hF t _ _ _ hb (h3 t ht)⟩
  | some d =>
    refine ⟨h1, by simp [Act.put, h2], fun t ht => ?_⟩
    by_cases e : t = d
    · subst e
      have : t < a.tmps.size := by omega
      simp [RF.put, Act.put, this, hv]
    · have e' : d ≠ t := fun h => e h.symm
      simp [RF.put, Act.put, e, Array.getElem?_setIfInBounds_ne e']
      have := hF t _ _ _ hb (h3 t ht)
      simpa using this

theorem RF.Mono.put {F : RF} (h : F.Mono) {R : RP} (hR : R.Mono) (d : Option Tmp) : (F.put d R).Mono := by
  cases d with
  | none => exact h
  | some d =>
    intro t
    simp only [RF.put]
    split
    · exact hR
    · exact h t

/-- The slots that the operations of the region look at lie in the frame. -/
def looksB (ops : Array Oper) (n : Nat) : Bool := ops.all fun o => (o.looksAt ops).all fun t => decide (t < n)

theorem looksB_spec {n : Nat} (h : looksB ops n = true) {i : Nat} {o : Oper} (hi : ops[i]? = some o) : ∀ t ∈ o.looksAt ops, t < n := by
  intro t ht
  have h1 := Array.all_eq_true_iff_forall_mem.1 h o (Array.mem_of_getElem? hi)
  exact of_decide_eq_true (List.all_eq_true.1 h1 t ht)

theorem wpOp_of_aOp {n i : Nat} {F : RF} {K : RF → Prop} {K' : Act → World → Prop} {Q' : Exit → Act → World → Prop} {a : Act} {w : World} (hl : looksB ops n = true) (hF : F.Mono) (hfr : FrR n F a w) (hC : C w)
    (h : ∀ F a w, F.Mono → FrR n F a w → C w → K F → K' a w) (hh : aOp P ops C i K F) : wpOp P ops Q' i K' a w := by
  unfold aOp at hh
  unfold wpOp
  split
  · rename_i ho; simp only [ho] at hh; exact h _ _ _ hF hfr hC hh
  · rename_i o ho
    simp only [ho] at hh
    obtain ⟨R, hA, hK⟩ := hh
    have h2 := hA.2 a w hC fun t ht => hfr.2.2 t (looksB_spec hl ho t ht)
    split
    · rename_i hw
      rw [if_pos hw] at h2
      exact .inl (h2.wp fun v w' ⟨hc, hb, hr⟩ => h _ _ _ (hF.put hA.1 _) (hfr.put hF hb hr) hc hK)
    · rename_i hw
      rw [if_neg hw] at h2
      exact h _ _ _ (hF.put hA.1 _) (hfr.put hF (Below.refl _ _) h2) hC hK

theorem wpAny_of_A {n : Nat} {Q : RF → Prop} {Q' : Exit → Act → World → Prop} (hl : looksB ops n = true) (hQ : ∀ F a w, F.Mono → FrR n F a w → C w → Q F → Q' .normal a w) :
    ∀ (fuel : Nat) (listed : Array Bool) (F : RF) (a : Act) (w : World), F.Mono → FrR n F a w → C w → wpAnyA P md ops C Q fuel listed F → wpAny P md ops Q' fuel listed a w
  | 0, _, _, _, _, hF, hf, hw, h => ⟨h.1, hQ _ _ _ hF hf hw h.2⟩
  | fuel + 1, _, _, _, _, hF, hf, hw, h =>
    ⟨fun h0 => hQ _ _ _ hF hf hw (h.1 h0), fun i hi => wpOp_of_aOp hl hF hf hw (fun F' a' w' hF' hf' hw' => wpAny_of_A hl hQ fuel _ F' a' w' hF' hf' hw') (h.2 i hi)⟩

theorem aOp_put {j : Nat} {oi oj : Oper} {Ri : RP} (hj : ops[j]? = some oj) (hap : oi.apart ops oj = true) {K : RF → Prop} {F : RF}
    (hy : AOp P ops C oi F Ri) (h : aOp P ops C j K (F.put oi.dst Ri)) : aOp P ops C j (fun F' => AOp P ops C oi F' Ri ∧ K (F'.put oi.dst Ri)) F := by
  obtain ⟨h1, h2, h3⟩ := Oper.apart_spec hap
  unfold aOp at *
  simp only [hj] at *
  obtain ⟨Rj, hA, hK⟩ := h
  exact ⟨Rj, hA.put h1, hy.put' h3, by rw [← RF.put_comm F Ri Rj h2]; exact hK⟩

theorem aOp_of {i : Nat} {o : Oper} {R : RP} {F : RF} {K : RF → Prop} (hi : ops[i]? = some o) (hy : AOp P ops C o F R) (h : K (F.put o.dst R)) : aOp P ops C i K F := by
  unfold aOp; simp only [hi]; exact ⟨R, hy, h⟩

theorem wpAnyA_first {Q : RF → Prop} {i : Nat} {oi : Oper} {R : RP} (hi : ops[i]? = some oi) :
    ∀ (fuel : Nat) (listed : Array Bool) (F : RF),
      (∀ j oj, ops[j]? = some oj → j ≠ i → listed.getD j true = false → (∀ e ∈ oj.after, Region.binds md e = true → e.on ≠ i) → oi.apart ops oj = true) →
      i ∈ Region.ready md ops listed → AOp P ops C oi F R →
      wpAnyA P md ops C Q fuel (listed.setIfInBounds i true) (F.put oi.dst R) → wpAnyA P md ops C Q (fuel + 1) listed F := by
  intro fuel
  induction fuel with
  | zero =>
    intro listed F _ hr hy H
    refine ⟨fun h => (by rw [h] at hr; cases hr), fun j hj => ?_⟩
    by_cases hji : j = i
    · subst hji; exact aOp_of hi hy H
    · have := ready_mono hj hji
      rw [H.1] at this
      cases this
  | succ fuel ih =>
    intro listed F hfree hr hy H
    refine ⟨fun h => (by rw [h] at hr; cases hr), fun j hj => ?_⟩
    by_cases hji : j = i
    · subst hji; exact aOp_of hi hy H
    · have h1 := H.2 j (ready_mono hj hji)
      obtain ⟨hjun, oj, hoj, hall⟩ := mem_ready.1 hj
      have hnot : ∀ e ∈ oj.after, Region.binds md e = true → e.on ≠ i := fun e he hb heq => by
        have h1 := hall e he hb
        have h0 := (mem_ready.1 hr).1
        rw [heq, getD_both h0] at h1
        cases h1
      have h2 := aOp_put hoj (hfree j oj hoj hji hjun hnot) hy h1
      have hfree' : ∀ k ok, ops[k]? = some ok → k ≠ i → (listed.setIfInBounds j true).getD k true = false →
          (∀ e ∈ ok.after, Region.binds md e = true → e.on ≠ i) → oi.apart ops ok = true := fun k ok hk hki hun hno => by
        refine hfree k ok hk hki ?_ hno
        by_cases hjk : j = k
        · subst hjk; exact hjun
        · rw [getD_set_ne true hjk] at hun; exact hun
      refine aOp_mono (fun F' h3 => ih (listed.setIfInBounds j true) F' hfree' (ready_mono hr (Ne.symm hji)) h3.1 ?_) h2
      rw [Array.setIfInBounds_comm _ _ hji]
      exact h3.2

theorem wpAnyA_lex {Q : RF → Prop} : ∀ (l : List Oper) (k : Nat) (listed : Array Bool) (F : RF), (∀ j, l[j]? = ops[k + j]?) →
    Region.lexFrom md ops l.length k listed = true → AW P ops C Q l F → wpAnyA P md ops C Q l.length listed F
  | [], _, _, _, _, hB, h => ⟨by simpa [Region.lexFrom] using hB, h⟩
  | o :: l, k, listed, F, hl, hB, h => by
    have h0 : ops[k]? = some o := by simpa using (hl 0).symm
    simp only [List.length_cons, Region.lexFrom, Bool.and_eq_true] at hB
    obtain ⟨⟨hr, hf⟩, hB'⟩ := hB
    obtain ⟨R, hy, hK⟩ := h
    exact wpAnyA_first h0 l.length listed F (Region.free_spec h0 hf) (by simpa using hr) hy
      (wpAnyA_lex l (k + 1) _ _ (fun j => by have := hl (j + 1); simpa [Nat.add_assoc, Nat.add_comm 1 j] using this) hB' hK)

/-- A region that draws its order, over what is known of each slot. -/
theorem wp_region_A {n id : Nat} {l : List Oper} {Q : Exit → Act → World → Prop} {F : RF} {a : Act} {w : World} (hm : P.follows .mixedOrders = true) (hB : (Region.lexB .any l.toArray && looksB l.toArray n) = true)
    (hF : F.Mono) (hfr : FrR n F a w) (hC : ∀ w, C w → C { w with drawn := w.drawn + 1 }) (hw : C w)
    (h : AW P l.toArray C (fun F' => ∀ a' w', FrR n F' a' w' → C w' → Q .normal a' w') l F) : (Code.region id l.toArray true).wp P Q a w := by
  simp only [Bool.and_eq_true, Region.lexB] at hB
  refine wp_region_any hm (wpAny_of_A (n := n) (Q := fun F' => ∀ a' w', FrR n F' a' w' → C w' → Q .normal a' w') hB.2 (fun _ a w _ hf hc h => h a w hf hc) _ _ F _ _ hF ?_ (hC w hw) ?_)
  · exact ⟨hfr.1, hfr.2.1, fun t ht => hF t w _ _ ⟨rfl, rfl, rfl, Nat.le_refl _, fun _ _ => rfl⟩ (hfr.2.2 t ht)⟩
  · have := wpAnyA_lex (C := C) (P := P) (md := .any) l 0 (Array.replicate l.length false) F (by simp) (by simpa using hB.1.2) h
    simpa using this
end
end Go.Vx

namespace Go.Vx
open Go.RowKit

/-! ### What is known of memory -/
inductive HFact where
  /-- A block of the call's own: just these cells. -/
  | box (b : Nat) (T : TypeId) (cs : List Value)
  /-- A slice whose row is the call's own (it may be written and grow). -/
  | vec (e : TypeId) (A : Option Addr) (c : Nat) (cs : List Value)
  /-- Cells that are read only. -/
  | ro (A : Option Addr) (cs : List Value)

theorem m0 {α : Type} {a : α} {l : List α} : a ∈ a :: l := .head _
theorem m1 {α : Type} {a b0 : α} {l : List α} : a ∈ b0 :: a :: l := .tail _ (.head _)
theorem m2 {α : Type} {a b0 b1 : α} {l : List α} : a ∈ b0 :: b1 :: a :: l := .tail _ (.tail _ (.head _))
theorem m3 {α : Type} {a b0 b1 b2 : α} {l : List α} : a ∈ b0 :: b1 :: b2 :: a :: l := .tail _ (.tail _ (.tail _ (.head _)))
theorem m4 {α : Type} {a b0 b1 b2 b3 : α} {l : List α} : a ∈ b0 :: b1 :: b2 :: b3 :: a :: l := .tail _ (.tail _ (.tail _ (.tail _ (.head _))))
theorem m5 {α : Type} {a b0 b1 b2 b3 b4 : α} {l : List α} : a ∈ b0 :: b1 :: b2 :: b3 :: b4 :: a :: l := .tail _ (.tail _ (.tail _ (.tail _ (.tail _ (.head _)))))
theorem m6 {α : Type} {a b0 b1 b2 b3 b4 b5 : α} {l : List α} : a ∈ b0 :: b1 :: b2 :: b3 :: b4 :: b5 :: a :: l := .tail _ (.tail _ (.tail _ (.tail _ (.tail _ (.tail _ (.head _))))))
theorem m7 {α : Type} {a b0 b1 b2 b3 b4 b5 b6 : α} {l : List α} : a ∈ b0 :: b1 :: b2 :: b3 :: b4 :: b5 :: b6 :: a :: l := .tail _ (.tail _ (.tail _ (.tail _ (.tail _ (.tail _ (.tail _ (.head _)))))))
theorem m8 {α : Type} {a b0 b1 b2 b3 b4 b5 b6 b7 : α} {l : List α} : a ∈ b0 :: b1 :: b2 :: b3 :: b4 :: b5 :: b6 :: b7 :: a :: l := .tail _ (.tail _ (.tail _ (.tail _ (.tail _ (.tail _ (.tail _ (.tail _ (.head _))))))))
theorem m9 {α : Type} {a b0 b1 b2 b3 b4 b5 b6 b7 b8 : α} {l : List α} : a ∈ b0 :: b1 :: b2 :: b3 :: b4 :: b5 :: b6 :: b7 :: b8 :: a :: l := .tail _ (.tail _ (.tail _ (.tail _ (.tail _ (.tail _ (.tail _ (.tail _ (.tail _ (.head _)))))))))
theorem m10 {α : Type} {a b0 b1 b2 b3 b4 b5 b6 b7 b8 b9 : α} {l : List α} : a ∈ b0 :: b1 :: b2 :: b3 :: b4 :: b5 :: b6 :: b7 :: b8 :: b9 :: a :: l := .tail _ (.tail _ (.tail _ (.tail _ (.tail _ (.tail _ (.tail _ (.tail _ (.tail _ (.tail _ (.head _))))))))))
theorem m11 {α : Type} {a b0 b1 b2 b3 b4 b5 b6 b7 b8 b9 b10 : α} {l : List α} : a ∈ b0 :: b1 :: b2 :: b3 :: b4 :: b5 :: b6 :: b7 :: b8 :: b9 :: b10 :: a :: l := .tail _ (.tail _ (.tail _ (.tail _ (.tail _ (.tail _ (.tail _ (.tail _ (.tail _ (.tail _ (.tail _ (.head _)))))))))))
namespace HFact
def isOwn : HFact → Bool
  | box .. | vec .. => true
  | ro .. => false
def foot : HFact → Option Nat
  | box b _ _ => some b
  | vec _ A _ _ => A.map (·.block)
  | ro A cs => if cs = [] then none else A.map (·.block)
def holds (w : World) : HFact → Prop
  | box b T cs => ∃ cur, w.heap[b]? = some (.cells cur T (0, 0)) ∧ FlatL cur.toList cs
  | vec e A c cs => ∃ xs, w.ownsRow 0 e 1 (.slice A cs.length c) cs.length xs ∧ FlatL xs cs
  | ro A cs => ∀ i V, cs[i]? = some V → ∃ ad u, A = some ad ∧ w.cell? (ad.add i) = some u ∧ Flat u V
end HFact

theorem block_add (a : Addr) (n : Nat) : (a.add n).block = a.block := by unfold Addr.add; split <;> rfl

theorem HFact.holds_of_blocks {w w' : World} {f : HFact} (h : f.holds w) (hb : ∀ k, f.foot = some k → w'.heap[k]? = w.heap[k]?) : f.holds w' := by
  cases f with
  | box b T cs =>
    obtain ⟨cur, h1, h2⟩ := h
    exact ⟨cur, (hb b rfl).trans h1, h2⟩
  | vec e A c cs =>
    obtain ⟨xs, ⟨h1, h2⟩, h3⟩ := h
    refine ⟨xs, ⟨h1, ?_⟩, h3⟩
    rcases h2 with h2 | ⟨g, cap, cur, hv, hg, hh, r⟩
    · exact .inl h2
    · refine .inr ⟨g, cap, cur, hv, hg, ?_, r⟩
      injection hv with hv
      subst hv
      exact (hb g rfl).trans hh
  | ro A cs =>
    intro i V hV
    obtain ⟨ad, u, rfl, h2, h3⟩ := h i V hV
    have hne : cs ≠ [] := by rintro rfl; simp at hV
    refine ⟨ad, u, rfl, ?_, h3⟩
    rw [← h2]
    refine World.cell?_of_block (w := w) ?_
    rw [block_add]
    exact hb ad.block (by simp [HFact.foot, hne])

theorem HFact.foot_lt {w : World} {f : HFact} (h : f.holds w) (k : Nat) (hk : f.foot = some k) : k < w.heap.size := by
  cases f with
  | box b T cs =>
    obtain ⟨cur, h1, h2⟩ := h
    simp only [foot, Option.some.injEq] at hk
    subst hk
    exact (Array.getElem?_eq_some_iff.1 h1).1
  | vec e A c cs =>
    obtain ⟨xs, h1, h2⟩ := h
    refine (h1.lt k ?_).2
    cases A with
    | none => simp [foot] at hk
    | some a => simpa [foot, Value.ownBlock] using hk
  | ro A cs =>
    cases cs with
    | nil => simp [foot] at hk
    | cons V r =>
      obtain ⟨ad, u, rfl, h2, h3⟩ := h 0 V rfl
      simp only [foot, reduceCtorEq, if_false, Option.map_some, Option.some.injEq] at hk
      subst hk
      have := World.block_lt_of_cell? w (ad.add 0) h2
      rwa [block_add] at this

/-- Two facts of which one may be written have other blocks. -/
def HFact.off (f g : HFact) : Prop := (f.isOwn || g.isOwn) = true → ∀ k, f.foot = some k → g.foot ≠ some k

theorem HFact.off_symm {f g : HFact} (h : f.off g) : g.off f := fun hm k h1 h2 => h (by rw [Bool.or_comm]; exact hm) k h2 h1

/-- The world as it is known: 'w0': as the call found it; 'old': the old blocks that may be written. -/
structure HInv (w0 : World) (old : Nat → Prop) (H : List HFact) (w : World) : Prop where
  os : w.os = w0.os
  tape : w.tape = w0.tape
  output : w.output = w0.output
  size : w0.heap.size ≤ w.heap.size
  frame : ∀ k, k < w0.heap.size → ¬ old k → w.heap[k]? = w0.heap[k]?
  facts : ∀ f ∈ H, f.holds w
  new : ∀ f ∈ H, f.isOwn = true → ∀ k, f.foot = some k → w0.heap.size ≤ k ∨ old k
  apart : H.Pairwise HFact.off

section
variable {P : Program} {w0 w : World} {old : Nat → Prop} {H : List HFact}

theorem HInv.grow {w' : World} (h : HInv w0 old H w) (hb : Below w.heap.size w w') : HInv w0 old H w' where
  os := hb.os.trans h.os
  tape := hb.tape.trans h.tape
  output := hb.output.trans h.output
  size := Nat.le_trans h.size hb.size
  frame := fun k hk ho => (hb.block k (Nat.lt_of_lt_of_le hk h.size)).trans (h.frame k hk ho)
  facts := fun f hf => HFact.holds_of_blocks (h.facts f hf) fun k hk => hb.block k (HFact.foot_lt (h.facts f hf) k hk)
  new := h.new
  apart := h.apart

/-- Of what is known, a part. -/
theorem HInv.sub {H' : List HFact} (h : HInv w0 old H w) (hs : H'.Sublist H) : HInv w0 old H' w where
  os := h.os
  tape := h.tape
  output := h.output
  size := h.size
  frame := h.frame
  facts := fun f hf => h.facts f (hs.subset hf)
  new := fun f hf => h.new f (hs.subset hf)
  apart := h.apart.sublist hs

theorem HInv.refl (w : World) : HInv w (fun _ => False) [] w where
  os := rfl
  tape := rfl
  output := rfl
  size := Nat.le_refl _
  frame := fun _ _ _ => rfl
  facts := fun f hf => by cases hf
  new := fun f hf => by cases hf
  apart := .nil

theorem HInv.below (h : HInv w0 (fun _ => False) H w) : Below w0.heap.size w0 w :=
  ⟨h.os, h.tape, h.output, h.size, fun k hk => h.frame k hk fun hh => hh⟩

/-- A read-only fact more. -/
theorem HInv.addRo {A : Option Addr} {cs : List Value} (h : HInv w0 old H w) (hf : (HFact.ro A cs).holds w) (hd : ∀ f ∈ H, (HFact.ro A cs).off f) : HInv w0 old (.ro A cs :: H) w where
  os := h.os
  tape := h.tape
  output := h.output
  size := h.size
  frame := h.frame
  facts := fun f hf' => by
    rcases List.mem_cons.1 hf' with rfl | hf'
    · exact hf
    · exact h.facts f hf'
  new := fun f hf' hm => by
    rcases List.mem_cons.1 hf' with rfl | hf'
    · cases hm
    · exact h.new f hf' hm
  apart := List.pairwise_cons.2 ⟨hd, h.apart⟩

/-- A fact on blocks that have come since. -/
theorem HInv.addNew {B : Nat} {f : HFact} (h : HInv w0 old H w) (hf : f.holds w) (hB : w0.heap.size ≤ B) (hH : ∀ g ∈ H, ∀ k, g.foot = some k → k < B) (hn : ∀ k, f.foot = some k → B ≤ k) : HInv w0 old (f :: H) w where
  os := h.os
  tape := h.tape
  output := h.output
  size := h.size
  frame := h.frame
  facts := fun g hg => by
    rcases List.mem_cons.1 hg with rfl | hg
    · exact hf
    · exact h.facts g hg
  new := fun g hg hm k hk => by
    rcases List.mem_cons.1 hg with rfl | hg
    · exact .inl (Nat.le_trans hB (hn k hk))
    · exact h.new g hg hm k hk
  apart := List.pairwise_cons.2 ⟨fun g hg _ k hk hk' => by have := hn k hk; have := hH g hg k hk'; omega, h.apart⟩

theorem HInv.feet (h : HInv w0 old H w) : ∀ g ∈ H, ∀ k, g.foot = some k → k < w.heap.size := fun g hg k hk => HFact.foot_lt (h.facts g hg) k hk

/-- A new block. -/
theorem HInv.alloc (h : HInv w0 old H w) (T : TypeId) (cur : Array Value) (cs : List Value) (hc : FlatL cur.toList cs) : HInv w0 old (.box w.heap.size T cs :: H) (w.alloc (.cells cur T)) := by
  have h' := h.grow (w' := w.alloc (.cells cur T)) ((Below.refl _ _).alloc (Nat.le_refl _) _)
  refine h'.addNew (B := w.heap.size) ⟨cur, heap_alloc_new w _, hc⟩ h.size h.feet fun k hk => ?_
  simp only [HFact.foot, Option.some.injEq] at hk
  omega

/-- Fact number 'i' gives way to another one over the same block; that block alone has turned. -/
theorem HInv.turn {w' : World} {i : Nat} {f f' : HFact} (h : HInv w0 old H w) (hi : H[i]? = some f) (hm : f.isOwn = true) (hfoot : f'.foot = f.foot) (hf' : f'.holds w')
    (h1 : w'.os = w.os) (h2 : w'.tape = w.tape) (h3 : w'.output = w.output) (h4 : w.heap.size ≤ w'.heap.size) (hb : ∀ k, k < w.heap.size → f.foot ≠ some k → w'.heap[k]? = w.heap[k]?) :
    HInv w0 old (H.set i f') w' := by
  have hmem : f ∈ H := List.mem_of_getElem? hi
  have hlt : i < H.length := (List.getElem?_eq_some_iff.1 hi).1
  have hother : ∀ j g, j ≠ i → H[j]? = some g → ∀ k, g.foot = some k → f.foot ≠ some k := by
    intro j g hj hg k hk hfk
    rcases Nat.lt_or_gt_of_ne hj with hlt' | hlt'
    · have := List.pairwise_iff_getElem.1 h.apart j i (by omega) hlt hlt'
      have hg' : H[j]'(by omega) = g := by have := List.getElem?_eq_some_iff.1 hg; exact this.2
      have hf'' : H[i] = f := (List.getElem?_eq_some_iff.1 hi).2
      rw [hg', hf''] at this
      exact this (by simp [hm]) k hk hfk
    · have hjl : j < H.length := (List.getElem?_eq_some_iff.1 hg).1
      have := List.pairwise_iff_getElem.1 h.apart i j hlt hjl hlt'
      have hg' : H[j] = g := (List.getElem?_eq_some_iff.1 hg).2
      have hf'' : H[i] = f := (List.getElem?_eq_some_iff.1 hi).2
      rw [hg', hf''] at this
      exact this (by simp [hm]) k hfk hk
  refine ⟨h1.trans h.os, h2.trans h.tape, h3.trans h.output, Nat.le_trans h.size h4, fun k hk ho => ?_, fun g hg => ?_, fun g hg hgm k hk => ?_, ?_⟩
  · refine (hb k (Nat.lt_of_lt_of_le hk h.size) fun e => ?_).trans (h.frame k hk ho)
    rcases h.new f hmem hm k e with h5 | h5
    · omega
    · exact ho h5
  · obtain ⟨j, hj, he⟩ := List.getElem_of_mem hg
    rw [List.getElem_set] at he
    split at he
    · subst he; exact hf'
    · rename_i hne
      have hj' : j < H.length := by simpa using hj
      have hgj : H[j]? = some g := List.getElem?_eq_some_iff.2 ⟨hj', he⟩
      refine HFact.holds_of_blocks (h.facts g (List.mem_of_getElem? hgj)) fun k hk => hb k (HFact.foot_lt (h.facts g (List.mem_of_getElem? hgj)) k hk) (hother j g (fun e => hne e.symm) hgj k hk)
  · obtain ⟨j, hj, he⟩ := List.getElem_of_mem hg
    rw [List.getElem_set] at he
    split at he
    · subst he; rw [hfoot] at hk; exact h.new f hmem hm k hk
    · have hj' : j < H.length := by simpa using hj
      exact h.new g (List.mem_of_getElem? (List.getElem?_eq_some_iff.2 ⟨hj', he⟩)) hgm k hk
  · refine List.pairwise_iff_getElem.2 fun a b ha hb' hab => ?_
    have ha' : a < H.length := by simpa using ha
    have hb'' : b < H.length := by simpa using hb'
    rw [List.getElem_set, List.getElem_set]
    have hp := List.pairwise_iff_getElem.1 h.apart a b ha' hb'' hab
    have hf'' : H[i] = f := (List.getElem?_eq_some_iff.1 hi).2
    split
    · rename_i e
      subst e
      rw [if_neg (by omega)]
      intro _ k hk
      rw [hf''] at hp
      exact hp (by simp [hm]) k (by rw [← hfoot]; exact hk)
    · split
      · rename_i e
        subst e
        intro _ k hk hk'
        rw [hf''] at hp
        exact hp (by simp [hm]) k hk (by rw [← hfoot]; exact hk')
      · exact hp

theorem HInv.setBox {i b j : Nat} {T : TypeId} {cs : List Value} {v V : Value} (h : HInv w0 old H w) (hi : H[i]? = some (.box b T cs)) (hv : Flat v V) :
    HInv w0 old (H.set i (.box b T (cs.set j V))) (w.setCell ⟨b, j, none⟩ v) := by
  obtain ⟨cur, h1, h2⟩ := h.facts _ (List.mem_of_getElem? hi)
  refine h.turn hi rfl rfl ⟨cur.setIfInBounds j v, ?_, ?_⟩ rfl rfl rfl (by simp [World.setCell]) fun k hk hne => Below.heap_setCell w _ v k fun e => hne (by simp [HFact.foot, e])
  · simp [World.setCell, Array.getElem?_modify, h1]
  · rw [Array.toList_setIfInBounds]; exact h2.set j hv

theorem HInv.setRow {i b : Nat} {T : TypeId} {cs : List Value} {cur : Array Value} {cs' : List Value} (h : HInv w0 old H w) (hi : H[i]? = some (.box b T cs)) (hv : FlatL cur.toList cs') :
    HInv w0 old (H.set i (.box b T cs')) (w.setRow b cur) := by
  obtain ⟨cur0, h1, h2⟩ := h.facts _ (List.mem_of_getElem? hi)
  refine h.turn hi rfl rfl ⟨cur, setRow_heap w b _ _ T (0, 0) h1, hv⟩ rfl rfl rfl (by simp [World.setRow]) fun k hk hne => ?_
  simp only [World.setRow, Array.getElem?_modify]
  rw [if_neg fun e => hne (by simp [HFact.foot, e])]

theorem ownsRow_set {e : TypeId} {v u : Value} {n j : Nat} {xs : List Value} {g : Nat} (h : w.ownsRow 0 e 1 v n xs) (hg : v.ownBlock = some g) : (w.setCell ⟨g, j, none⟩ u).ownsRow 0 e 1 v n (xs.set j u) := by
  refine ⟨by simp [h.1], ?_⟩
  rcases h.2 with ⟨rfl, _⟩ | ⟨g', cap, cur, rfl, hb, hh, hle, hcm, hcs, htake⟩
  · simp [Value.ownBlock] at hg
  · simp only [Value.ownBlock, Option.some.injEq] at hg
    subst hg
    refine .inr ⟨g', cap, cur.setIfInBounds j u, rfl, hb, ?_, hle, hcm, by simpa using hcs, ?_⟩
    · simp [World.setCell, Array.getElem?_modify, hh]
    · rw [Array.toList_setIfInBounds, List.take_set, htake]

theorem HInv.setVec {i j : Nat} {e : TypeId} {A : Addr} {c : Nat} {cs : List Value} {v V : Value} (h : HInv w0 old H w) (hi : H[i]? = some (.vec e (some A) c cs)) (hv : Flat v V) :
    HInv w0 old (H.set i (.vec e (some A) c (cs.set j V))) (w.setCell (A.add j) v) := by
  obtain ⟨xs, h1, h2⟩ := h.facts _ (List.mem_of_getElem? hi)
  have hA : ∃ g, A = ⟨g, 0, none⟩ := by
    rcases h1.2 with ⟨h0, _⟩ | ⟨g, cap, cur, h0, _⟩
    · cases h0
    · injection h0 with h0; injection h0 with h0; exact ⟨g, h0⟩
  obtain ⟨g, rfl⟩ := hA
  rw [Addr.add_lit, Nat.zero_add]
  refine h.turn hi rfl rfl ⟨xs.set j v, ?_, h2.set j hv⟩ rfl rfl rfl (by simp [World.setCell]) fun k hk hne => Below.heap_setCell w _ v k fun e => hne (by simp [HFact.foot, e])
  rw [List.length_set]
  exact ownsRow_set h1 rfl

/-- Reading a cell of a slice. -/
theorem HInv.readVec {e : TypeId} {A : Option Addr} {c : Nat} {cs : List Value} {j : Nat} {V : Value} (h : HInv w0 old H w) (hi : HFact.vec e A c cs ∈ H) (hj : cs[j]? = some V) : ∃ ad u, A = some ad ∧ w.cell? (ad.add j) = some u ∧ Flat u V := by
  obtain ⟨xs, h1, h2⟩ := h.facts _ hi
  obtain ⟨u, hu, hf⟩ := h2.get hj
  rcases h1.2 with ⟨h0, hn⟩ | ⟨g, cap, cur, h0, _⟩
  · simp [List.length_eq_zero_iff.1 hn] at hj
  · injection h0 with h0
    subst h0
    exact ⟨_, u, rfl, h1.cells rfl j u hu, hf⟩
theorem HInv.readRo {A : Option Addr} {cs : List Value} {j : Nat} {V : Value} (h : HInv w0 old H w) (hi : HFact.ro A cs ∈ H) (hj : cs[j]? = some V) : ∃ ad u, A = some ad ∧ w.cell? (ad.add j) = some u ∧ Flat u V :=
  h.facts _ hi j V hj
theorem HInv.vecRo {e : TypeId} {A : Option Addr} {c : Nat} {cs : List Value} (h : HInv w0 old H w) (hi : HFact.vec e A c cs ∈ H) : (HFact.ro A cs).holds w :=
  fun _ _ hj => h.readVec hi hj
theorem HInv.readBox {b : Nat} {T : TypeId} {cs : List Value} {j : Nat} {V : Value} (h : HInv w0 old H w) (hi : HFact.box b T cs ∈ H) (hj : cs[j]? = some V) : ∃ u, w.cell? ⟨b, j, none⟩ = some u ∧ w.frozen? ⟨b, j, none⟩ = false ∧ Flat u V := by
  obtain ⟨cur, h1, h2⟩ := h.facts _ hi
  obtain ⟨u, hu, hf⟩ := h2.get hj
  exact ⟨u, by rw [cell_of_row w b j cur T (0, 0) h1]; simpa using hu, by simp [World.frozen?, h1], hf⟩
end
end Go.Vx

namespace Go.Vx
open Go.RowKit

/-! ### Frames -/
abbrev Entry := Bool × Value
abbrev Frm := List (Nat × Entry)
def Frm.get : Frm → Nat → Option Entry
  | [], _ => none
  | (d, e) :: r, t => match Nat.beq d t with | true => some e | false => Frm.get r t

/-- The slot holds what is told, if its guard is met; else nothing. -/
def En (v : Value) (e : Entry) : Prop := (e.1 = true → Ab v e.2) ∧ (e.1 = false → v = undef)

def Fr (n : Nat) (F : Frm) (a : Act) : Prop := a.defers = [] ∧ a.tmps.size = n ∧ ∀ t e, Frm.get F t = some e → t < n ∧ En (a.tmps.getD t undef) e

def okF : FloatKind → Nat → Bool
  | .f32, b => decide (b < 4294967296)
  | .f64, b => decide (b < 18446744073709551616)
theorem okF_lt {k : FloatKind} {b : Nat} (h : okF k b = true) : b < 2 ^ k.format.width := by
  cases k <;> simp only [okF, decide_eq_true_eq] at h <;> exact h

def can0 : Value → Option Value
  | .float k b => match okF k b with | true => some (.float k (cn k b)) | false => none
  | .complex k a b => match okF k a && okF k b with | true => some (.complex k (cn k a) (cn k b)) | false => none
  | .agg _ => none
  | .tuple _ => none
  | v => some v
def canL : List Value → Option (List Value)
  | [] => some []
  | v :: r => match can0 v, canL r with | some x, some y => some (x :: y) | _, _ => none
def can : Value → Option Value
  | .agg cs => match canL cs.toList with | some l => some (.agg l.toArray) | none => none
  | v => can0 v

theorem can0_flat {v V : Value} (h : can0 v = some V) : Flat v V := by
  cases v <;> simp only [can0] at h
  case float k b =>
    split at h
    · rename_i ho; injection h with h; subst h; exact ⟨b, rfl, okF_lt ho, rfl⟩
    · cases h
  case complex k a b =>
    split at h
    · rename_i ho; injection h with h; subst h
      simp only [Bool.and_eq_true] at ho
      exact ⟨a, b, rfl, okF_lt ho.1, okF_lt ho.2, rfl, rfl⟩
    · cases h
  all_goals first | (cases h; done) | (injection h with h; subst h; rfl)
theorem canL_flat : ∀ {vs Vs : List Value}, canL vs = some Vs → FlatL vs Vs
  | [], Vs, h => by simp only [canL, Option.some.injEq] at h; subst h; trivial
  | v :: vs, Vs, h => by
    simp only [canL] at h
    split at h
    · rename_i x y h1 h2
      simp only [Option.some.injEq] at h
      subst h
      exact ⟨can0_flat h1, canL_flat h2⟩
    · cases h
theorem can_ab {v V : Value} (h : can v = some V) : Ab v V := by
  cases v
  case agg cs =>
    simp only [can] at h
    split at h
    · rename_i l hl; injection h with h; subst h; exact ⟨cs, rfl, by simpa using canL_flat hl⟩
    · cases h
  all_goals exact (can0_flat (by simpa only [can] using h)).ab

def ev (F : Frm) : Operand → Option Entry
  | .tmp t => Frm.get F t
  | .const v => match can v with | some V => some (true, V) | none => none
  | .global g => some (true, .pointer (some ⟨g, 0, none⟩))
  | .func f => some (true, .func (.func f) #[] #[])

/-- The slots that the operation looks at hold what is told. -/
def Looks (ops : Array Oper) (o : Oper) (F : Frm) (a : Act) : Prop := ∀ t ∈ o.looksAt ops, ∀ e, Frm.get F t = some e → En (a.tmps.getD t undef) e

section
variable {P : Program} {ops : Array Oper} {o : Oper} {F : Frm} {a : Act} {w0 w : World} {old : Nat → Prop} {H : List HFact} {n : Nat} {c : Bool}

theorem Fr.looks (h : Fr n F a) : Looks ops o F a := fun t _ e he => (h.2.2 t e he).2

theorem ev_ab {x : Operand} {g : Bool} {V : Value} (hl : Looks ops o F a) (hx : x ∈ o.op.operands) (h : ev F x = some (g, V)) (hg : g = true) : Ab (a.eval x) V := by
  cases x with
  | tmp t =>
    have := hl t (List.mem_append_left _ (List.mem_filterMap.2 ⟨.tmp t, by simpa using hx, rfl⟩)) _ h
    exact this.1 hg
  | const v =>
    simp only [ev] at h
    split at h
    · rename_i V' hV
      simp only [Option.some.injEq, Prod.mk.injEq] at h
      rw [← h.2]
      exact can_ab hV
    · cases h
  | global g' => simp only [ev, Option.some.injEq, Prod.mk.injEq] at h; rw [← h.2]; exact rfl
  | func f => simp only [ev, Option.some.injEq, Prod.mk.injEq] at h; rw [← h.2]; exact rfl

/-- Whether an operation is carried out. -/
inductive GOp (F : Frm) (ops : Array Oper) (o : Oper) : Bool → Prop where
  | none (h : o.guard = none) : GOp F ops o true
  | some {j : Nat} {want : Bool} {t : Nat} {g b : Bool} (h : o.guard = some (j, want)) (ht : (ops[j]?).bind (·.dst) = some t) (hb : Frm.get F t = some (g, .bool b)) : GOp F ops o (g && (b == want))

theorem GOp.wanted (h : GOp F ops o c) (hl : Looks ops o F a) : Region.wanted o (yielded ops a.tmps) = c := by
  cases h with
  | none h => simp [Region.wanted, h]
  | @some j want t g b h ht hb =>
    have hen := hl t (List.mem_append_right _ (by simp [h, ht])) _ hb
    simp only [Region.wanted, h, yielded, ht, Option.bind_some]
    have hq : a.tmps.getD t undef = (a.tmps[t]?).getD undef := by simp
    rw [hq] at hen
    generalize a.tmps[t]? = q at hen
    cases g with
    | true =>
      have h1 : q.getD undef = .bool b := hen.1 rfl
      cases q with
      | none => cases h1
      | some v =>
        simp only [Option.getD_some] at h1
        subst h1
        cases b <;> cases want <;> rfl
    | false =>
      have h1 : q.getD undef = undef := hen.2 rfl
      cases q with
      | none => rfl
      | some v =>
        simp only [Option.getD_some] at h1
        subst h1
        rfl

/-- An operation that yields a value that is told, and leaves what was there as it was. -/
def VOp (P : Program) (ops : Array Oper) (w0 : World) (old : Nat → Prop) (o : Oper) (F : Frm) (H : List HFact) (c : Bool) (V : Value) : Prop :=
  ∀ a w, Looks ops o F a → HInv w0 old H w → c = true → OpV P o a w (fun v w' => Below w.heap.size w w' ∧ Ab v V)

/-! ### The steps of a walk -/
def J (P : Program) (n : Nat) (w0 : World) (old : Nat → Prop) (c : Code) (F : Frm) (H : List HFact) (Q : Exit → Act → World → Prop) : Prop :=
  ∀ a w, Fr n F a → HInv w0 old H w → c.wp P Q a w
def JQ (n : Nat) (w0 : World) (old : Nat → Prop) (e : Exit) (F : Frm) (H : List HFact) (Q : Exit → Act → World → Prop) : Prop :=
  ∀ a w, Fr n F a → HInv w0 old H w → Q e a w
def JL (P : Program) (n : Nat) (w0 : World) (old : Nat → Prop) (ops : Array Oper) (l : List Oper) (F : Frm) (H : List HFact) (Q : Exit → Act → World → Prop) : Prop :=
  ∀ a w, Fr n F a → HInv w0 old H w → wpList P ops Q l a w

theorem Fr.put {d : Nat} {v : Value} {e : Entry} (h : Fr n F a) (hd : Nat.blt d n = true) (hv : En v e) : Fr n ((d, e) :: F) (a.put (some d) v) := by
  have hd' : d < n := by simpa [Nat.blt_eq] using hd
  refine ⟨h.1, by simp [Act.put, h.2.1], fun t e' he => ?_⟩
  simp only [Frm.get] at he
  split at he
  · rename_i hb
    have : d = t := Nat.eq_of_beq_eq_true hb
    subst this
    injection he with he
    subst he
    have h2 := h.2.1
    have hsz : d < a.tmps.size := by omega
    exact ⟨hd', by simpa [Act.put, hsz] using hv⟩
  · rename_i hb
    have hne : d ≠ t := fun e => by subst e; simp at hb
    obtain ⟨h1, h2⟩ := h.2.2 t e' he
    refine ⟨h1, ?_⟩
    simpa [Act.put, Array.getElem?_setIfInBounds_ne hne] using h2

variable {rest : List Oper} {Q : Exit → Act → World → Prop}

/-- An operation whose value is told. -/
theorem jl_op {d : Nat} {V : Value} (hd : o.dst = some d) (hdn : Nat.blt d n = true) (hg : GOp F ops o c) (hv : VOp P ops w0 old o F H c V)
    (k : JL P n w0 old ops rest ((d, c, V) :: F) H Q) : JL P n w0 old ops (o :: rest) F H Q := by
  intro a w hF hH
  have hw := hg.wanted (hF.looks (ops := ops) (o := o))
  refine wpList_step fun K hK => ?_
  cases c with
  | true =>
    rw [if_pos hw]
    refine (hv a w hF.looks hH rfl).wp fun v w' ⟨h1, h2⟩ => hK _ _ (k _ _ ?_ (hH.grow h1))
    rw [hd]
    exact hF.put hdn ⟨fun _ => h2, fun h => (by cases h)⟩
  | false =>
    rw [if_neg (by rw [hw]; exact Bool.false_ne_true)]
    refine hK _ _ (k _ _ ?_ hH)
    rw [hd]
    exact hF.put hdn ⟨fun h => (by cases h), fun _ => rfl⟩

theorem jl_nil (k : JQ n w0 old .normal F H Q) : JL P n w0 old ops [] F H Q := fun a w hF hH => wpList_nil (k a w hF hH)

theorem j_region {id : Nat} {l : List Oper} (k : JL P n w0 old l.toArray l F H Q) : J P n w0 old (.region id l.toArray false) F H Q :=
  fun a w hF hH => wp_region_lit (k a w hF hH)

/-! ### Regions that draw their order -/
def lift (F : Frm) : RF := fun t => match Frm.get F t with | some e => fun _ v => En v e | none => fun _ _ => True

theorem lift_mono (F : Frm) : (lift F).Mono := by
  intro t w w' v _ h
  unfold lift at *
  cases hg : Frm.get F t with
  | none => trivial
  | some e => rw [hg] at h; exact h
theorem lift_cons (F : Frm) (d : Nat) (e : Entry) : lift ((d, e) :: F) = (lift F).put (some d) (fun _ v => En v e) := by
  funext t
  simp only [lift, RF.put, Frm.get]
  by_cases h : t = d
  · subst h; simp
  · have : Nat.beq d t = false := by rw [Bool.eq_false_iff]; intro hb; exact h (Nat.eq_of_beq_eq_true hb).symm
    simp [this, h]

/-- The walk of such a region. -/
def JA (P : Program) (n : Nat) (w0 : World) (old : Nat → Prop) (ops : Array Oper) (l : List Oper) (F : Frm) (H : List HFact) (Q : Exit → Act → World → Prop) : Prop :=
  AW P ops (HInv w0 old H) (fun F' => ∀ a' w', FrR n F' a' w' → HInv w0 old H w' → Q .normal a' w') l (lift F)

theorem ja_op {d : Nat} {V : Value} (hd : o.dst = some d) (hg : GOp F ops o c) (hv : VOp P ops w0 old o F H c V)
    (k : JA P n w0 old ops rest ((d, c, V) :: F) H Q) : JA P n w0 old ops (o :: rest) F H Q := by
  refine ⟨fun _ v => En v (c, V), ⟨fun _ _ _ _ h => h, fun a w hC ha => ?_⟩, ?_⟩
  · have hl : Looks ops o F a := fun t ht e he => by
      have := ha t ht
      simp only [lift, he] at this
      exact this
    have hw := hg.wanted hl
    cases c with
    | true =>
      rw [if_pos hw]
      exact (hv a w hl hC rfl).mono fun v w' ⟨h1, h2⟩ => ⟨hC.grow h1, h1, ⟨fun _ => h2, fun h => (by cases h)⟩⟩
    | false =>
      rw [if_neg (by rw [hw]; exact Bool.false_ne_true)]
      exact ⟨fun h => (by cases h), fun _ => rfl⟩
  · rw [hd, ← lift_cons]
    exact k

def bnd (n : Nat) : Frm → Bool
  | [] => true
  | (d, _) :: r => Nat.blt d n && bnd n r
theorem bnd_spec : ∀ {F : Frm} {t : Nat} {e : Entry}, bnd n F = true → Frm.get F t = some e → t < n
  | [], _, _, _, h => by simp [Frm.get] at h
  | (d, e') :: r, t, e, hb, h => by
    simp only [bnd, Bool.and_eq_true] at hb
    simp only [Frm.get] at h
    split at h
    · rename_i hq
      have := Nat.eq_of_beq_eq_true hq
      subst this
      simpa [Nat.blt_eq] using hb.1
    · exact bnd_spec hb.2 h

theorem ja_nil (hb : bnd n F = true) (k : JQ n w0 old .normal F H Q) : JA P n w0 old ops [] F H Q := by
  intro a' w' hF hH
  refine k a' w' ⟨hF.1, hF.2.1, fun t e he => ?_⟩ hH
  have ht := bnd_spec hb he
  have := hF.2.2 t ht
  simp only [lift, he] at this
  exact ⟨ht, this⟩

theorem Fr.lift (h : Fr n F a) : FrR n (lift F) a w := by
  refine ⟨h.1, h.2.1, fun t _ => ?_⟩
  unfold Vx.lift
  cases hg : Frm.get F t with
  | none => trivial
  | some e => exact (h.2.2 t e hg).2

theorem j_draw {id : Nat} {l : List Oper} (hm : P.follows .mixedOrders = true) (hB : (Region.lexB .any l.toArray && looksB l.toArray n) = true) (k : JA P n w0 old l.toArray l F H Q) : J P n w0 old (.region id l.toArray true) F H Q :=
  fun _ _ hF hH => wp_region_A hm hB (lift_mono F) hF.lift (fun _ h => h.grow ⟨rfl, rfl, rfl, Nat.le_refl _, fun _ _ => rfl⟩) hH k

/-! ### Code -/
theorem j_seq {x y : Code} (k : J P n w0 old x F H (Exit.then (fun a w => y.wp P Q a w) Q)) : J P n w0 old (.seq x y) F H Q := fun a w hF hH => wp_seq (k a w hF hH)
theorem jq_then {y : Code} (k : J P n w0 old y F H Q) : JQ n w0 old .normal F H (Exit.then (fun a w => y.wp P Q a w) Q) := fun a w hF hH => k a w hF hH
theorem jq_then_exit {K : Act → World → Prop} {i : Nat} (k : JQ n w0 old (.exit i) F H Q) : JQ n w0 old (.exit i) F H (Exit.then K Q) := k
theorem jq_then_ret {K : Act → World → Prop} (k : JQ n w0 old .ret F H Q) : JQ n w0 old .ret F H (Exit.then K Q) := k
theorem jq_block_normal {i : Nat} (k : JQ n w0 old .normal F H Q) : JQ n w0 old .normal F H (Exit.inBlock i Q) := k
theorem jq_block_ret {i : Nat} (k : JQ n w0 old .ret F H Q) : JQ n w0 old .ret F H (Exit.inBlock i Q) := k
theorem jq_block_same {i j : Nat} (h : Nat.beq j i = true) (k : JQ n w0 old .normal F H Q) : JQ n w0 old (.exit j) F H (Exit.inBlock i Q) := fun a w hF hH => by
  have := Nat.eq_of_beq_eq_true h
  simp only [Exit.inBlock, this, if_true]; exact k a w hF hH
theorem jq_block_other {i j : Nat} (h : Nat.beq j i = false) (k : JQ n w0 old (.exit j) F H Q) : JQ n w0 old (.exit j) F H (Exit.inBlock i Q) := fun a w hF hH => by
  have : j ≠ i := fun e => by subst e; simp at h
  simp only [Exit.inBlock, this, if_false]; exact k a w hF hH
theorem j_skip (k : JQ n w0 old .normal F H Q) : J P n w0 old .skip F H Q := fun a w hF hH => wp_skip (k a w hF hH)
theorem j_label {l : Nat} (k : JQ n w0 old .normal F H Q) : J P n w0 old (.label l) F H Q := fun a w hF hH => wp_label (k a w hF hH)
theorem j_exit {i : Nat} (k : JQ n w0 old (.exit i) F H Q) : J P n w0 old (.exit i) F H Q := fun a w hF hH => wp_exit (k a w hF hH)
theorem j_ret (k : JQ n w0 old .ret F H Q) : J P n w0 old .ret F H Q := fun a w hF hH => wp_ret (k a w hF hH)
theorem j_block {i : Nat} {x : Code} (k : J P n w0 old x F H (Exit.inBlock i Q)) : J P n w0 old (.block i x) F H Q := fun a w hF hH => wp_block (k a w hF hH)

theorem eval_bool {t : Nat} {b : Bool} (hF : Fr n F a) (h : Frm.get F t = some (true, .bool b)) : a.eval (.tmp t) = .bool b := ((hF.2.2 t _ h).2).1 rfl

theorem j_cond {t : Nat} {b : Bool} {x y : Code} (hc : Frm.get F t = some (true, .bool b)) (kx : b = true → J P n w0 old x F H Q) (ky : b = false → J P n w0 old y F H Q) : J P n w0 old (.cond (.tmp t) x y) F H Q :=
  fun a w hF hH => wp_cond_split (eval_bool hF hc) (fun hb => kx hb a w hF hH) (fun hb => ky hb a w hF hH)

/-- A loop: the state of a round is 's'. -/
theorem j_loop {σ : Type} {x : Code} (I : σ → Prop) (G : σ → Frm) (K : σ → List HFact) (μ : σ → Nat) (s0 : σ) (h0 : I s0)
    (hF : ∀ a, Fr n F a → Fr n (G s0) a) (hH : ∀ w, HInv w0 old H w → HInv w0 old (K s0) w)
    (round : ∀ s, I s → J P n w0 old x (G s) (K s) (Exit.then (fun a w => ∃ s', I s' ∧ μ s' < μ s ∧ Fr n (G s') a ∧ HInv w0 old (K s') w) Q)) : J P n w0 old (.loop x) F H Q := by
  intro a w hFa hHw
  let Good (m : Nat) (a : Act) (w : World) : Prop := ∃ s, I s ∧ μ s = m ∧ Fr n (G s) a ∧ HInv w0 old (K s) w
  have least : ∀ (m : Nat) a w, Good m a w → ∃ m', Good m' a w ∧ ∀ k, Good k a w → m' ≤ k := by
    intro m
    induction m using Nat.strongRecOn with
    | _ m ih =>
      intro a w hg
      by_cases hh : ∃ k, k < m ∧ Good k a w
      · obtain ⟨k, hk, hg'⟩ := hh
        exact ih k hk a w hg'
      · exact ⟨m, hg, fun k hk => Nat.le_of_not_lt fun hlt => hh ⟨k, hlt, hk⟩⟩
  let M (a : Act) (w : World) : Nat := by
    classical
    exact if h : ∃ m, Good m a w then Classical.choose (least _ a w (Classical.choose_spec h)) else 0
  have hM : ∀ m a w, Good m a w → Good (M a w) a w ∧ M a w ≤ m := by
    intro m a w hg
    have hex : ∃ m, Good m a w := ⟨m, hg⟩
    have hM' : M a w = Classical.choose (least _ a w (Classical.choose_spec hex)) := dif_pos hex
    have hs := Classical.choose_spec (least _ a w (Classical.choose_spec hex))
    rw [← hM'] at hs
    exact ⟨hs.1, hs.2 m hg⟩
  refine wp_loop (fun a w => ∃ m, Good m a w) M ⟨μ s0, s0, h0, rfl, hF a hFa, hH w hHw⟩ fun a w ⟨m, hg⟩ => ?_
  obtain ⟨s, hs, hm, h1, h2⟩ := (hM m a w hg).1
  refine wp_mono (round s hs a w h1 h2) fun e a' w' hq => ?_
  cases e with
  | normal =>
    obtain ⟨s', hs', hlt, h1', h2'⟩ := hq
    refine ⟨⟨μ s', s', hs', rfl, h1', h2'⟩, ?_⟩
    have := (hM (μ s') a' w' ⟨s', hs', rfl, h1', h2'⟩).2
    omega
  | _ => exact hq
end
end Go.Vx

namespace Go.Vx
open Go.RowKit

section
variable {P : Program} {ops : Array Oper} {o : Oper} {F : Frm} {w0 : World} {old : Nat → Prop} {H : List HFact} {n : Nat} {c : Bool}

theorem below_self (w : World) : Below w.heap.size w w := Below.refl _ _
theorem below_draw (w : World) : Below w.heap.size w { w with drawn := w.drawn + 1 } := ⟨rfl, rfl, rfl, Nat.le_refl _, fun _ _ => rfl⟩

/-! ### Values handed on -/
theorem v_move {x : Operand} {g : Bool} {V : Value} (ho : o.op = .move x) (hx : ev F x = some (g, V)) (hc : c = true → g = true) : VOp P ops w0 old o F H c V := by
  intro a w hl _ hcc
  have := ev_ab (a := a) hl (by simp [ho, Op.operands]) hx (hc hcc)
  simp only [OpV, execOp, ho, Sem.run_pure, yieldsUpon]
  exact ⟨below_self w, this⟩
theorem v_assign {x : Operand} {g : Bool} {V : Value} (ho : o.op = .assign x) (hx : ev F x = some (g, V)) (hc : c = true → g = true) : VOp P ops w0 old o F H c V := by
  intro a w hl _ hcc
  have := ev_ab (a := a) hl (by simp [ho, Op.operands]) hx (hc hcc)
  simp only [OpV, execOp, ho, Sem.run_pure, yieldsUpon]
  exact ⟨below_self w, this⟩
theorem v_pick {x y z : Operand} {g gy gz b : Bool} {Y Z : Value} (ho : o.op = .pick x y z) (hx : ev F x = some (g, .bool b)) (hc : c = true → g = true)
    (hy : ev F y = some (gy, Y)) (hz : ev F z = some (gz, Z)) (hcy : c = true → b = true → gy = true) (hcz : c = true → b = false → gz = true) : VOp P ops w0 old o F H c (bif b then Y else Z) := by
  intro a w hl _ hcc
  have h1 : a.eval x = .bool b := ev_ab (a := a) hl (by simp [ho, Op.operands]) hx (hc hcc)
  simp only [OpV, execOp, ho, h1, asBool, Sem.run_bind, Sem.run_pure, Result.andThen_ok, yieldsUpon]
  refine ⟨below_self w, ?_⟩
  cases b with
  | true => exact ev_ab (a := a) hl (by simp [ho, Op.operands]) hy (hcy hcc rfl)
  | false => exact ev_ab (a := a) hl (by simp [ho, Op.operands]) hz (hcz hcc rfl)
theorem VOp.cast {V V' : Value} (h : VOp P ops w0 old o F H c V) (e : V = V') : VOp P ops w0 old o F H c V' := e ▸ h
/-- 'x && y' -/
theorem v_and {x y : Operand} {g gy b b' : Bool} (ho : o.op = .pick x y (.const (.bool false))) (hx : ev F x = some (g, .bool b)) (hc : c = true → g = true)
    (hy : ev F y = some (gy, .bool b')) (hcy : c = true → b = true → gy = true) : VOp P ops w0 old o F H c (.bool (b && b')) :=
  (v_pick ho hx hc hy (gz := true) (Z := .bool false) rfl hcy (fun _ _ => rfl)).cast (by cases b <;> rfl)
/-- 'x || y' -/
theorem v_or {x y : Operand} {g gy b b' : Bool} (ho : o.op = .pick x (.const (.bool true)) y) (hx : ev F x = some (g, .bool b)) (hc : c = true → g = true)
    (hy : ev F y = some (gy, .bool b')) (hcy : c = true → b = false → gy = true) : VOp P ops w0 old o F H c (.bool (b || b')) :=
  (v_pick ho hx hc (gy := true) (Y := .bool true) rfl hy (fun _ _ => rfl) hcy).cast (by cases b <;> rfl)
theorem v_not {x : Operand} {T : TypeId} {g b : Bool} (ho : o.op = .unOp .not T x) (hx : ev F x = some (g, .bool b)) (hc : c = true → g = true) : VOp P ops w0 old o F H c (.bool (!b)) := by
  intro a w hl _ hcc
  have h1 : a.eval x = .bool b := ev_ab (a := a) hl (by simp [ho, Op.operands]) hx (hc hcc)
  simp only [OpV, execOp, ho, h1, Op.unary, Sem.run_bind, Sem.run_pure, Result.andThen_ok, yieldsUpon]
  exact ⟨below_self w, rfl⟩
theorem v_extract {x : Operand} {i : Nat} {g : Bool} {Vs : Array Value} {V : Value} (ho : o.op = .extract x i) (hx : ev F x = some (g, .tuple Vs)) (hc : c = true → g = true) (hi : Vs.toList[i]? = some V) : VOp P ops w0 old o F H c V := by
  intro a w hl _ hcc
  obtain ⟨vs, h1, h2⟩ := ev_ab (a := a) hl (by simp [ho, Op.operands]) hx (hc hcc)
  have get : ∀ {l L : List Value} {i : Nat}, Ab1L l L → L[i]? = some V → ∃ v, l[i]? = some v ∧ Ab1 v V := by
    intro l
    induction l with
    | nil => intro L i h hh; cases L <;> simp [Ab1L] at h hh
    | cons v l ih =>
      intro L i h hh
      cases L with
      | nil => simp at hh
      | cons V' L =>
        cases i with
        | zero => simp only [List.getElem?_cons_zero, Option.some.injEq] at hh; subst hh; exact ⟨v, rfl, h.1⟩
        | succ i => exact ih h.2 (by simpa using hh)
  obtain ⟨v, hv, hV⟩ := get h2 hi
  have hv' : vs[i]? = some v := by simpa using hv
  simp only [OpV, execOp, ho, h1, Instr.extract, hv', Sem.run_bind, Sem.run_pure, Result.andThen_ok, yieldsUpon]
  exact ⟨below_self w, hV.ab⟩

/-! ### Integers -/
def icmp (op : BinOp) (x y : Int) : Bool :=
  match op with
  | .eql => x == y
  | .neq => x != y
  | .lss => decide (x < y)
  | .leq => decide (x ≤ y)
  | .gtr => decide (x > y)
  | .geq => decide (x ≥ y)
  | _ => false
def isCmp : BinOp → Bool
  | .eql | .neq | .lss | .leq | .gtr | .geq => true
  | _ => false
def isArith : BinOp → Bool
  | .add | .sub | .mul => true
  | _ => false
def isArithF : BinOp → Bool
  | .add | .sub | .mul | .quo => true
  | _ => false
theorem v_icmp {op : BinOp} {T T' : TypeId} {x y : Operand} {gx gy : Bool} {k : IntKind} {X Y : Int} (ho : o.op = .binOp op T x y T') (hx : ev F x = some (gx, .int k X)) (hy : ev F y = some (gy, .int k Y)) (hop : isCmp op = true)
    (hcx : c = true → gx = true) (hcy : c = true → gy = true) : VOp P ops w0 old o F H c (.bool (icmp op X Y)) := by
  intro a w hl _ hcc
  have h1 : a.eval x = .int k X := ev_ab (a := a) hl (by simp [ho, Op.operands]) hx (hcx hcc)
  have h2 : a.eval y = .int k Y := ev_ab (a := a) hl (by simp [ho, Op.operands]) hy (hcy hcc)
  simp only [OpV, execOp, ho, h1, h2, eqGuard_at_int, Sem.run_bind, Sem.run_pure, Result.andThen_ok]
  cases op <;> simp [isCmp] at hop <;> simp [binOp, Op.intCmp, icmp, yieldsUpon] <;> exact ⟨below_self w, rfl⟩
def iarith (op : BinOp) (k : IntKind) (x y : Int) : Int :=
  match op with
  | .add => k.wrap (x + y)
  | .sub => k.wrap (x - y)
  | .mul => k.wrap (x * y)
  | _ => 0
theorem v_iarith {op : BinOp} {T T' : TypeId} {x y : Operand} {gx gy : Bool} {k : IntKind} {X Y : Int} (ho : o.op = .binOp op T x y T') (hx : ev F x = some (gx, .int k X)) (hy : ev F y = some (gy, .int k Y)) (hop : isArith op = true)
    (hcx : c = true → gx = true) (hcy : c = true → gy = true) : VOp P ops w0 old o F H c (.int k (iarith op k X Y)) := by
  intro a w hl _ hcc
  have h1 : a.eval x = .int k X := ev_ab (a := a) hl (by simp [ho, Op.operands]) hx (hcx hcc)
  have h2 : a.eval y = .int k Y := ev_ab (a := a) hl (by simp [ho, Op.operands]) hy (hcy hcc)
  simp only [OpV, execOp, ho, h1, h2, eqGuard_at_int, Sem.run_bind, Sem.run_pure, Result.andThen_ok]
  cases op <;> simp [isArith] at hop <;> simp [binOp, Op.intArith, iarith, yieldsUpon] <;> exact ⟨below_self w, rfl⟩
/-- The value of a sum, told. -/
theorem v_iarith' {op : BinOp} {T T' : TypeId} {x y : Operand} {gx gy : Bool} {k : IntKind} {X Y Z : Int} (ho : o.op = .binOp op T x y T') (hx : ev F x = some (gx, .int k X)) (hy : ev F y = some (gy, .int k Y)) (hop : isArith op = true)
    (hcx : c = true → gx = true) (hcy : c = true → gy = true) (hz : c = true → iarith op k X Y = Z) : VOp P ops w0 old o F H c (.int k Z) := fun a w hl hH hcc =>
  (v_iarith ho hx hy hop hcx hcy).cast (by rw [hz hcc]) a w hl hH hcc
theorem v_idiv {op : BinOp} {T T' : TypeId} {x y : Operand} {gx gy : Bool} {k : IntKind} {X Y Z : Int} (ho : o.op = .binOp op T x y T') (hx : ev F x = some (gx, .int k X)) (hy : ev F y = some (gy, .int k Y))
    (hcx : c = true → gx = true) (hcy : c = true → gy = true) (h0 : c = true → Y ≠ 0) (hz : c = true → (op = .quo ∧ k.wrap (X.tdiv Y) = Z) ∨ (op = .rem ∧ X.tmod Y = Z)) : VOp P ops w0 old o F H c (.int k Z) := by
  intro a w hl _ hcc
  have h1 : a.eval x = .int k X := ev_ab (a := a) hl (by simp [ho, Op.operands]) hx (hcx hcc)
  have h2 : a.eval y = .int k Y := ev_ab (a := a) hl (by simp [ho, Op.operands]) hy (hcy hcc)
  simp only [OpV, execOp, ho, h1, h2, eqGuard_at_int, Sem.run_bind, Sem.run_pure, Result.andThen_ok]
  rcases hz hcc with ⟨rfl, hz1⟩ | ⟨rfl, hz1⟩ <;> simp only [binOp, ne_eq, not_true_eq_false, if_false, Op.intDiv, if_neg (h0 hcc), Sem.run_pure, Result.andThen_ok, yieldsUpon] <;> exact ⟨below_self w, by rw [← hz1]; rfl⟩
theorem v_beq {op : BinOp} {T T' : TypeId} {x y : Operand} {gx gy : Bool} {X Y : Bool} (ho : o.op = .binOp op T x y T') (hx : ev F x = some (gx, .bool X)) (hy : ev F y = some (gy, .bool Y)) (hT : P.underlying T = some .bool)
    (hcx : c = true → gx = true) (hcy : c = true → gy = true) (hop : op = .eql) : VOp P ops w0 old o F H c (.bool (X == Y)) := by
  intro a w hl _ hcc
  subst hop
  have h1 : a.eval x = .bool X := ev_ab (a := a) hl (by simp [ho, Op.operands]) hx (hcx hcc)
  have h2 : a.eval y = .bool Y := ev_ab (a := a) hl (by simp [ho, Op.operands]) hy (hcy hcc)
  simp only [OpV, execOp, ho, h1, h2, eqGuard_at_bool, Sem.run_bind, Sem.run_pure, Result.andThen_ok]
  simp only [run_eql_bool w T X Y hT, Result.andThen_ok, yieldsUpon]
  exact ⟨below_self w, rfl⟩
/-! ### Floats -/
def fcmp (op : BinOp) (k : FloatKind) (x y : Nat) : Bool :=
  match op with
  | .eql => k.format.order x y == some .eq
  | .neq => k.format.order x y != some .eq
  | .lss => k.format.order x y == some .lt
  | .leq => k.format.order x y == some .lt || k.format.order x y == some .eq
  | .gtr => k.format.order x y == some .gt
  | .geq => k.format.order x y == some .gt || k.format.order x y == some .eq
  | _ => false
def farith (op : BinOp) (k : FloatKind) (x y : Nat) : Nat :=
  match op with
  | .add => fadd k x y
  | .sub => fsub k x y
  | .mul => fmul k x y
  | .quo => fdiv k x y
  | _ => 0
theorem ab_flt {v : Value} {k : FloatKind} {X : Nat} (h : Ab v (.float k X)) : ∃ b, v = .float k b ∧ b < 2 ^ k.format.width ∧ cn k b = X := h
theorem v_fcmp {op : BinOp} {T T' : TypeId} {x y : Operand} {gx gy : Bool} {k : FloatKind} {X Y : Nat} (ho : o.op = .binOp op T x y T') (hx : ev F x = some (gx, .float k X)) (hy : ev F y = some (gy, .float k Y)) (hop : isCmp op = true)
    (hcx : c = true → gx = true) (hcy : c = true → gy = true) : VOp P ops w0 old o F H c (.bool (fcmp op k X Y)) := by
  intro a w hl _ hcc
  obtain ⟨b1, h1, _, rfl⟩ := ab_flt (ev_ab (a := a) hl (by simp [ho, Op.operands]) hx (hcx hcc))
  obtain ⟨b2, h2, _, rfl⟩ := ab_flt (ev_ab (a := a) hl (by simp [ho, Op.operands]) hy (hcy hcc))
  simp only [OpV, execOp, ho, h1, h2, eqGuard_at_float, Sem.run_bind, Sem.run_pure, Result.andThen_ok]
  cases op <;> simp [isCmp] at hop <;> simp only [binOp, ne_eq, not_true_eq_false, if_false, Op.floatCmp, fcmp, order_cn, Sem.run_pure, Result.andThen_ok, yieldsUpon] <;> exact ⟨below_self w, rfl⟩

theorem nan_cut (k : FloatKind) (q : Question) (hq : (∃ x y, q = .nanBits k x y) ∨ (∃ x, q = .nanConv k x) ∨ (∃ m x y, q = .nanMinMax k m x y)) (t : Nat) : q.cut t < 2 ^ k.format.width ∧ isN k (q.cut t) = true := by
  have h1 : (t / 2) % (2 ^ 23 - 1) < 2 ^ 23 - 1 := Nat.mod_lt _ (by decide)
  have h2 : (t / 2) % (2 ^ 52 - 1) < 2 ^ 52 - 1 := Nat.mod_lt _ (by decide)
  have h3 : t % 2 < 2 := Nat.mod_lt _ (by decide)
  cases k
  · have e : q.cut t = (t % 2) * 2 ^ 31 + 0x7f800000 + 1 + (t / 2) % (2 ^ 23 - 1) := by
      rcases hq with ⟨x, y, rfl⟩ | ⟨x, rfl⟩ | ⟨m, x, y, rfl⟩ <;> rfl
    rw [e, show (2 : Nat) ^ FloatKind.f32.format.width = 4294967296 from rfl]
    simp only [isN, decide_eq_true_eq]
    generalize (t / 2) % (2 ^ 23 - 1) = u at *
    generalize t % 2 = s at *
    omega
  · have e : q.cut t = (t % 2) * 2 ^ 63 + 0x7ff0000000000000 + 1 + (t / 2) % (2 ^ 52 - 1) := by
      rcases hq with ⟨x, y, rfl⟩ | ⟨x, rfl⟩ | ⟨m, x, y, rfl⟩ <;> rfl
    rw [e, show (2 : Nat) ^ FloatKind.f64.format.width = 18446744073709551616 from rfl]
    simp only [isN, decide_eq_true_eq]
    generalize (t / 2) % (2 ^ 52 - 1) = u at *
    generalize t % 2 = s at *
    omega

theorem oc_some {k : FloatKind} {r : Nat} : oc k (some r) = cn k r := rfl
theorem oc_none (k : FloatKind) : oc k none = qnan k := by unfold oc; rw [cn_eq]; simp [isN_qnan]

theorem cn_nan {k : FloatKind} {b : Nat} (h : isN k b = true) : cn k b = qnan k := by rw [cn_eq, if_pos h]

/-- A operation of the model's, run: up to the bits of a not-a-number. -/
theorem run_oc {k : FloatKind} (r : Option Nat) (q : Question) (hq : (∃ x y, q = .nanBits k x y) ∨ (∃ x, q = .nanConv k x) ∨ (∃ m x y, q = .nanMinMax k m x y)) (hr : ∀ b, r = some b → b < 2 ^ k.format.width) (w : World) :
    ∃ b w', (match r with | some r => (pure (.float k r) : Sem Value) | none => do pure (.float k (← choose q))).run P w = .ok (.float k b) w' ∧ Below w.heap.size w w' ∧ b < 2 ^ k.format.width ∧ cn k b = oc k r := by
  cases r with
  | some b => exact ⟨b, w, rfl, below_self w, hr b rfl, rfl⟩
  | none =>
    have hn := nan_cut k q hq (w.tape w.drawn q)
    refine ⟨q.cut (w.tape w.drawn q), { w with drawn := w.drawn + 1 }, ?_, below_draw w, hn.1, by rw [oc_none, cn_nan hn.2]⟩
    have hf : q.forced = false := by rcases hq with ⟨x, y, rfl⟩ | ⟨x, rfl⟩ | ⟨m, x, y, rfl⟩ <;> rfl
    simp [hf]

theorem run_floatArith_any {op : BinOp} {k : FloatKind} (x y : Nat) (hop : isArithF op = true) (w : World) :
    ∃ b w', (Op.floatArith op k x y).run P w = .ok (.float k b) w' ∧ Below w.heap.size w w' ∧ b < 2 ^ k.format.width ∧ cn k b = farith op k (cn k x) (cn k y) := by
  have key : ∀ r : Option Nat, (∀ b, r = some b → b < 2 ^ k.format.width) → ∃ b w', (match r with | some r => (pure (.float k r) : Sem Value) | none => do pure (.float k (← choose (.nanBits k x y)))).run P w = .ok (.float k b) w' ∧ Below w.heap.size w w' ∧ b < 2 ^ k.format.width ∧ cn k b = oc k r :=
    fun r hr => run_oc r _ (.inl ⟨x, y, rfl⟩) hr w
  cases op <;> simp [isArithF] at hop <;> simp only [Op.floatArith, farith, Sem.run_bind, Sem.run_pure, Result.andThen_ok]
  · rw [fadd, add_cn]; exact key _ fun b h => k.format.add_lt h
  · rw [fsub, sub_cn]; exact key _ fun b h => k.format.sub_lt h
  · rw [fmul, mul_cn]; exact key _ fun b h => k.format.mul_lt h
  · rw [fdiv, div_cn]; exact key _ fun b h => k.format.div_lt h

theorem v_farith {op : BinOp} {T T' : TypeId} {x y : Operand} {gx gy : Bool} {k : FloatKind} {X Y : Nat} (ho : o.op = .binOp op T x y T') (hx : ev F x = some (gx, .float k X)) (hy : ev F y = some (gy, .float k Y)) (hop : isArithF op = true)
    (hcx : c = true → gx = true) (hcy : c = true → gy = true) : VOp P ops w0 old o F H c (.float k (farith op k X Y)) := by
  intro a w hl _ hcc
  obtain ⟨b1, h1, _, rfl⟩ := ab_flt (ev_ab (a := a) hl (by simp [ho, Op.operands]) hx (hcx hcc))
  obtain ⟨b2, h2, _, rfl⟩ := ab_flt (ev_ab (a := a) hl (by simp [ho, Op.operands]) hy (hcy hcc))
  obtain ⟨b, w', hr, hb, hlt, hcn⟩ := run_floatArith_any (P := P) (k := k) b1 b2 hop w
  have hbin : binOp op T (.float k b1) (.float k b2) = Op.floatArith op k b1 b2 := by
    cases op <;> simp [isArithF] at hop <;> simp only [binOp, ne_eq, not_true_eq_false, if_false]
  simp only [OpV, execOp, ho, h1, h2, eqGuard_at_float, Sem.run_bind, Sem.run_pure, Result.andThen_ok, hbin, hr, yieldsUpon]
  exact ⟨hb, b, rfl, hlt, hcn⟩

end
end Go.Vx

namespace Go.Vx
open Go.RowKit

section
variable {P : Program} {ops : Array Oper} {o : Oper} {F : Frm} {w0 : World} {old : Nat → Prop} {H : List HFact} {n : Nat} {c : Bool}

/-! ### Conversions -/
theorem v_i2i {S D : TypeId} {x : Operand} {g : Bool} {k q : IntKind} {X Z : Int} (ho : o.op = .convert S D x) (hx : ev F x = some (g, .int q X)) (hc : c = true → g = true)
    (hS : (P.underlying S).isSome = true) (hD : P.underlying D = some (.int k)) (hz : k.wrap X = Z) : VOp P ops w0 old o F H c (.int k Z) := by
  intro a w hl _ hcc
  have h1 : a.eval x = .int q X := ev_ab (a := a) hl (by simp [ho, Op.operands]) hx (hc hcc)
  obtain ⟨s, hs⟩ := Option.isSome_iff_exists.1 hS
  subst hz
  have hr : (convert S D (.int q X)).run P w = .ok (.int k (k.wrap X)) w := by
    cases s <;> simp [convert, run_underlying hs, run_underlying hD, Conv.intToInt]
  simp only [OpV, execOp, ho, h1, Sem.run_bind, hr, Sem.run_pure, Result.andThen_ok, yieldsUpon]
  exact ⟨below_self w, rfl⟩

/-- 'float32(n)', 'float64(n)' -/
def ofInt (k : FloatKind) (n : Int) : Nat := cn k (k.nearest n)
theorem v_i2f {S D : TypeId} {x : Operand} {g : Bool} {k : FloatKind} {q : IntKind} {X : Int} (ho : o.op = .convert S D x) (hx : ev F x = some (g, .int q X)) (hc : c = true → g = true)
    (hS : (P.underlying S).isSome = true) (hD : P.underlying D = some (.float k)) : VOp P ops w0 old o F H c (.float k (ofInt k X)) := by
  intro a w hl _ hcc
  have h1 : a.eval x = .int q X := ev_ab (a := a) hl (by simp [ho, Op.operands]) hx (hc hcc)
  simp only [OpV, execOp, ho, h1, Sem.run_bind, run_convert_int_float w S D q k X hS hD, Sem.run_pure, Result.andThen_ok, yieldsUpon]
  exact ⟨below_self w, _, rfl, k.format.write_lt (.number (X < 0) X.natAbs 0), rfl⟩

/-- 'float64(x)', 'float32(x)': what they give. -/
def conv (s d : FloatKind) (x : Nat) : Nat :=
  if s = d then x else
  match s.format.read x with
  | .nan _ _ => qnan d
  | .infinity b => cn d (d.format.write (.infinity b))
  | .number b m e => cn d (d.format.write (.number b m e))
/-- A finite number that is not too great for the other kind. -/
def fits (s d : FloatKind) (x : Nat) : Bool :=
  if s = d then true else
  match s.format.read x with
  | .number b m e => !(d.format.read (d.format.write (.number b m e))).isInfinity
  | _ => true
theorem read_cn {k : FloatKind} {b : Nat} (h : isN k b = false) : cn k b = b := by rw [cn_eq, h]; rfl
theorem run_conv {s d : FloatKind} (b : Nat) (hb : b < 2 ^ s.format.width) (hf : fits s d (cn s b) = true) (w : World) :
    ∃ r w', (Conv.floatToFloat s b d).run P w = .ok (.float d r) w' ∧ Below w.heap.size w w' ∧ r < 2 ^ d.format.width ∧ cn d r = conv s d (cn s b) := by
  by_cases e : s = d
  · subst e
    exact ⟨b, w, by simp [Conv.floatToFloat], below_self w, hb, by simp [conv]⟩
  · by_cases hn : isN s b = true
    · obtain ⟨x, f, h1⟩ := read_nan s b hn
      obtain ⟨x', f', h2⟩ := read_nan s (cn s b) (by rw [isN_cn]; exact hn)
      have hq := nan_cut d (.nanConv d b) (.inr (.inl ⟨b, rfl⟩)) (w.tape w.drawn (.nanConv d b))
      refine ⟨_, { w with drawn := w.drawn + 1 }, ?_, below_draw w, hq.1, ?_⟩
      · have hfc : (Question.nanConv d b).forced = false := rfl
        simp [Conv.floatToFloat, e, FloatKind.decode, h1, hfc]
      · rw [cn_nan hq.2]
        simp only [conv, if_neg e, h2]
    · rw [read_cn (by simpa using hn)] at hf ⊢
      have hnn := read_num s b (by simpa using hn)
      unfold fits at hf
      rw [if_neg e] at hf
      cases hr : s.format.read b with
      | nan x f => rw [hr] at hnn; cases hnn
      | infinity x =>
        refine ⟨_, w, by simp only [Conv.floatToFloat, if_neg e, FloatKind.decode, hr]; rfl, below_self w, d.format.write_lt _, ?_⟩
        simp only [conv, if_neg e, hr]
      | number x m p =>
        rw [hr] at hf
        simp only [Bool.not_eq_true'] at hf
        refine ⟨_, w, by simp only [Conv.floatToFloat, if_neg e, FloatKind.decode, FloatKind.encode, hr, hf]; rfl, below_self w, d.format.write_lt _, ?_⟩
        simp only [conv, if_neg e, hr]
theorem v_f2f {S D : TypeId} {x : Operand} {g : Bool} {s d : FloatKind} {X : Nat} (ho : o.op = .convert S D x) (hx : ev F x = some (g, .float s X)) (hc : c = true → g = true)
    (hS : (P.underlying S).isSome = true) (hD : P.underlying D = some (.float d)) (hf : c = true → fits s d X = true) : VOp P ops w0 old o F H c (.float d (conv s d X)) := by
  intro a w hl _ hcc
  obtain ⟨b, h1, hb, rfl⟩ := ab_flt (ev_ab (a := a) hl (by simp [ho, Op.operands]) hx (hc hcc))
  obtain ⟨u, hs⟩ := Option.isSome_iff_exists.1 hS
  obtain ⟨r, w', hr, h2, h3, h4⟩ := run_conv (P := P) b hb (hf hcc) w
  have hr' : (convert S D (.float s b)).run P w = .ok (.float d r) w' := by
    cases u <;> simp [convert, run_underlying hs, run_underlying hD, hr]
  simp only [OpV, execOp, ho, h1, Sem.run_bind, hr', Sem.run_pure, Result.andThen_ok, yieldsUpon]
  exact ⟨h2, r, rfl, h3, h4⟩

/-! ### Memory, read -/
/-- The address of a slice's cell. -/
def pat (A : Option Addr) (i : Nat) : Value := .pointer (A.map (·.add i))
def aggT (d : TypeDesc) : Bool := match d with | .struct _ | .array _ _ => true | _ => false
theorem run_isAgg {T : TypeId} {d : TypeDesc} (h : P.underlying T = some d) (w : World) : (isAgg T).run P w = .ok (aggT d) w := by
  unfold isAgg
  rw [Sem.run_bind, run_underlying h w]
  cases d <;> rfl

theorem run_loadAt1 {T : TypeId} {d : TypeDesc} (h : P.underlying T = some d) (hd : aggT d = false) {w : World} {ad : Addr} {v : Value} (hv : w.cell? ad = some v) : (Instr.loadAt T (.pointer (some ad))).run P w = .ok v w := by
  simp only [Instr.loadAt, Instr.sureAddr, Sem.run_bind, Sem.run_pure, Result.andThen_ok, loadVar, run_isAgg h, hd, Bool.false_eq_true, if_false, run_load, hv]

/-- A load of one cell of a block of the call's own. -/
theorem v_loadBox {T T' : TypeId} {d : TypeDesc} {x : Operand} {g : Bool} {b j : Nat} {cs : List Value} {V : Value} (ho : o.op = .load T x) (hT : P.underlying T = some d) (hd : aggT d = false)
    (hx : ev F x = some (g, .pointer (some ⟨b, j, none⟩))) (hc : c = true → g = true) (hH : HFact.box b T' cs ∈ H) (hj : cs[j]? = some V) : VOp P ops w0 old o F H c V := by
  intro a w hl hI hcc
  have h1 : a.eval x = .pointer (some ⟨b, j, none⟩) := ev_ab (a := a) hl (by simp [ho, Op.operands]) hx (hc hcc)
  obtain ⟨u, h2, _, h3⟩ := hI.readBox hH hj
  simp only [OpV, execOp, ho, h1, Sem.run_bind, run_loadAt1 hT hd h2, Sem.run_pure, Result.andThen_ok, yieldsUpon]
  exact ⟨below_self w, h3.ab⟩
theorem v_loadVec {T e : TypeId} {d : TypeDesc} {x : Operand} {g : Bool} {A : Option Addr} {cap j : Nat} {cs : List Value} {V : Value} (ho : o.op = .load T x) (hT : P.underlying T = some d) (hd : aggT d = false)
    (hx : ev F x = some (g, pat A j)) (hc : c = true → g = true) (hH : HFact.vec e A cap cs ∈ H) (hj : c = true → cs[j]? = some V) : VOp P ops w0 old o F H c V := by
  intro a w hl hI hcc
  have h1 : a.eval x = pat A j := ev_ab (a := a) hl (by simp [ho, Op.operands]) hx (hc hcc)
  obtain ⟨ad, u, rfl, h2, h3⟩ := hI.readVec hH (hj hcc)
  simp only [pat, Option.map_some] at h1
  simp only [OpV, execOp, ho, h1, Sem.run_bind, run_loadAt1 hT hd h2, Sem.run_pure, Result.andThen_ok, yieldsUpon]
  exact ⟨below_self w, h3.ab⟩
theorem v_loadRo {T : TypeId} {d : TypeDesc} {x : Operand} {g : Bool} {A : Option Addr} {j : Nat} {cs : List Value} {V : Value} (ho : o.op = .load T x) (hT : P.underlying T = some d) (hd : aggT d = false)
    (hx : ev F x = some (g, pat A j)) (hc : c = true → g = true) (hH : HFact.ro A cs ∈ H) (hj : c = true → cs[j]? = some V) : VOp P ops w0 old o F H c V := by
  intro a w hl hI hcc
  have h1 : a.eval x = pat A j := ev_ab (a := a) hl (by simp [ho, Op.operands]) hx (hc hcc)
  obtain ⟨ad, u, rfl, h2, h3⟩ := hI.readRo hH (hj hcc)
  simp only [pat, Option.map_some] at h1
  simp only [OpV, execOp, ho, h1, Sem.run_bind, run_loadAt1 hT hd h2, Sem.run_pure, Result.andThen_ok, yieldsUpon]
  exact ⟨below_self w, h3.ab⟩
/-- A load of a whole struct. -/
theorem v_loadS {T T' : TypeId} {d : TypeDesc} {x : Operand} {g : Bool} {b : Nat} {cs : List Value} (ho : o.op = .load T x) (hT : P.underlying T = some d) (hd : aggT d = true) (hs : (P.info? T).map (·.size) = some cs.length)
    (hx : ev F x = some (g, .pointer (some ⟨b, 0, none⟩))) (hc : c = true → g = true) (hH : HFact.box b T' cs ∈ H) : VOp P ops w0 old o F H c (.agg cs.toArray) := by
  intro a w hl hI hcc
  have h1 : a.eval x = .pointer (some ⟨b, 0, none⟩) := ev_ab (a := a) hl (by simp [ho, Op.operands]) hx (hc hcc)
  obtain ⟨cur, h2, h3⟩ := hI.facts _ hH
  have hsz : (P.info? T).map (·.size) = some cur.size := by rw [hs, ← h3.length]; simp
  have hr := run_loadVar_row (P := P) w b T' T cur (0, 0) d h2 hT (by cases d <;> first | rfl | cases hd) hsz
  simp only [OpV, execOp, ho, h1, Instr.loadAt, Instr.sureAddr, Sem.run_bind, Sem.run_pure, Result.andThen_ok, hr, yieldsUpon]
  exact ⟨below_self w, cur, rfl, by simpa using h3⟩
theorem v_nilCheck {x : Operand} {g : Bool} {ad : Addr} (ho : o.op = .nilCheck x) (hx : ev F x = some (g, .pointer (some ad))) (hc : c = true → g = true) : VOp P ops w0 old o F H c (.pointer (some ad)) := by
  intro a w hl _ hcc
  have h1 : a.eval x = .pointer (some ad) := ev_ab (a := a) hl (by simp [ho, Op.operands]) hx (hc hcc)
  simp only [OpV, execOp, ho, h1, Sem.run_pure, yieldsUpon]
  exact ⟨below_self w, rfl⟩
theorem v_nilCheckF {x : Operand} {g : Bool} {f : FuncId} {as bs : Array Value} (ho : o.op = .nilCheck x) (hx : ev F x = some (g, .func (.func f) as bs)) (hc : c = true → g = true) : VOp P ops w0 old o F H c (.func (.func f) as bs) := by
  intro a w hl _ hcc
  have h1 : a.eval x = .func (.func f) as bs := ev_ab (a := a) hl (by simp [ho, Op.operands]) hx (hc hcc)
  simp only [OpV, execOp, ho, h1, Sem.run_pure, yieldsUpon]
  exact ⟨below_self w, rfl⟩
def hasSize (P : Program) (T : TypeId) : Bool := match P.info? T with | some i => i.size != 0 | none => false
theorem v_fieldAddr {T : TypeId} {fs : Array Field} {f : Field} {i j : Nat} {x : Operand} {g : Bool} {b : Nat} (ho : o.op = .fieldAddr T x i) (hT : P.underlying T = some (.struct fs)) (hf : fs[i]? = some f) (hz : hasSize P f.type = true)
    (hx : ev F x = some (g, .pointer (some ⟨b, j, none⟩))) (hc : c = true → g = true) : VOp P ops w0 old o F H c (.pointer (some ⟨b, j + f.offset, none⟩)) := by
  intro a w hl _ hcc
  have h1 : a.eval x = .pointer (some ⟨b, j, none⟩) := ev_ab (a := a) hl (by simp [ho, Op.operands]) hx (hc hcc)
  cases hi : P.info? f.type with
  | none => simp [hasSize, hi] at hz
  | some ti =>
    have hsz : ti.size ≠ 0 := by simpa [hasSize, hi] using hz
    simp only [OpV, execOp, ho, h1, Instr.fieldAt, fieldPlace, sizeOf, typeInfo, Sem.run_bind, run_underlying hT, Instr.sureAddr, run_program, Sem.run_pure, Result.andThen_ok, hf, hi, if_neg hsz, yieldsUpon, Addr.add_lit]
    exact ⟨below_self w, rfl⟩
/-- The address of a slice's cell, of which the index is in range. -/
theorem v_indexAddr {T e : TypeId} {x y : Operand} {gx gy : Bool} {A : Option Addr} {N cap : Nat} {k : IntKind} {I : Int} {i : Nat} (ho : o.op = .indexAddr T x y) (hT : P.underlying T = some (.slice e)) (he : (P.info? e).map (·.size) = some 1)
    (hx : ev F x = some (gx, .slice A N cap)) (hy : ev F y = some (gy, .int k I)) (hcx : c = true → gx = true) (hcy : c = true → gy = true)
    (hA : ∀ w, HInv w0 old H w → A = none → N = 0) (hi : c = true → I = i ∧ i < N) : VOp P ops w0 old o F H c (pat A i) := by
  intro a w hl hI hcc
  have h1 : a.eval x = .slice A N cap := ev_ab (a := a) hl (by simp [ho, Op.operands]) hx (hcx hcc)
  have h2 : a.eval y = .int k I := ev_ab (a := a) hl (by simp [ho, Op.operands]) hy (hcy hcc)
  obtain ⟨rfl, hlt⟩ := hi hcc
  cases A with
  | none => have := hA w hI rfl; omega
  | some ad =>
    cases hie : P.info? e with
    | none => simp [hie] at he
    | some ti =>
      have hsz : ti.size = 1 := by simpa [hie] using he
      have hb : (0 : Int) ≤ (i : Int) ∧ (i : Int) < (N : Int) := by omega
      simp only [OpV, execOp, ho, h1, h2, Instr.indexAt, asIntOf, Sem.run_bind, run_underlying hT, Sem.run_pure, Result.andThen_ok, if_pos hb, sizeOf, typeInfo, run_program, hie, hsz, Nat.mul_one, Int.toNat_natCast, yieldsUpon]
      exact ⟨below_self w, rfl⟩
theorem hA_vec {e : TypeId} {A : Option Addr} {cap : Nat} {cs : List Value} (h : HFact.vec e A cap cs ∈ H) : ∀ w, HInv w0 old H w → A = none → cs.length = 0 := by
  intro w hI hA
  obtain ⟨xs, h1, _⟩ := hI.facts _ h
  rcases h1.2 with ⟨_, h0⟩ | ⟨g, cap', cur, h0, _⟩
  · exact h0
  · subst hA; cases h0
theorem hA_ro {A : Option Addr} {cs : List Value} (h : HFact.ro A cs ∈ H) : ∀ w, HInv w0 old H w → A = none → cs.length = 0 := by
  intro w hI hA
  cases cs with
  | nil => rfl
  | cons V r =>
    obtain ⟨ad, u, h1, _⟩ := hI.facts _ h 0 V rfl
    subst hA; cases h1
theorem v_len {T R : TypeId} {e : TypeId} {x : Operand} {g : Bool} {A : Option Addr} {N cap : Nat} (ho : o.op = .call { callee := .builtin .len, args := #[x], argTypes := #[T] }) (_hR : o.type = R) (hT : P.underlying T = some (.slice e))
    (hx : ev F x = some (g, .slice A N cap)) (hc : c = true → g = true) : VOp P ops w0 old o F H c (.int .i64 N) := by
  intro a w hl _ hcc
  have h1 : a.eval x = .slice A N cap := ev_ab (a := a) hl (by simp [ho, Op.operands, Call.operands]) hx (hc hcc)
  simp only [OpV, execOp, ho, resolve, invoke, builtin, List.map_toArray, List.map_cons, List.map_nil, h1, Builtin.len_, Sem.run_bind, Sem.run_pure, Result.andThen_ok, run_underlying hT, List.getElem?_toArray, List.getElem?_cons_zero, goInt, yieldsUpon]
  exact ⟨below_self w, rfl⟩

/-! ### Calls -/
/-- A function with a body, which the model enters. -/
def Enters (P : Program) (f : FuncId) : Prop := ∃ fn, P.funcs[f]? = some fn ∧ (fn.name == "runtime.NumGoroutine") = false ∧ fn.body.isNone = false
/-- A contract: on arguments like these, where memory is like this, the call gives a value like this, and leaves what was there. -/
def Con (P : Program) (f : FuncId) (Vs : List Value) (C : World → Prop) (V : Value) : Prop :=
  Enters P f ∧ ∀ w vs, C w → AbL vs Vs → Calls P f vs.toArray w (fun e w' => ∃ v, e = .returned v ∧ Below w.heap.size w w' ∧ Ab v V)

/-- All arguments, read off the frame. -/
def evL (F : Frm) (c : Bool) : List Operand → List Value → Prop
  | [], [] => True
  | x :: xs, V :: Vs => (∃ g, ev F x = some (g, V) ∧ (c = true → g = true)) ∧ evL F c xs Vs
  | _, _ => False
theorem ev_nil : evL F c [] [] := trivial
theorem ev_cons {x : Operand} {g : Bool} {V : Value} {xs : List Operand} {Vs : List Value} (h : ev F x = some (g, V)) (h1 : c = true → g = true) (h2 : evL F c xs Vs) : evL F c (x :: xs) (V :: Vs) := ⟨⟨g, h, h1⟩, h2⟩
theorem evL_ab {a : Act} (hl : Looks ops o F a) (hcc : c = true) : ∀ {xs : List Operand} {Vs : List Value}, (∀ x ∈ xs, x ∈ o.op.operands) → evL F c xs Vs → AbL (xs.map a.eval) Vs
  | [], [], _, _ => trivial
  | x :: xs, V :: Vs, hm, h => by
    obtain ⟨⟨g, h1, h2⟩, h3⟩ := h
    exact ⟨ev_ab hl (hm x (by simp)) h1 (h2 hcc), evL_ab hl hcc (fun y hy => hm y (by simp [hy])) h3⟩

theorem v_call {f : FuncId} {xs : List Operand} {ts : Array TypeId} {Vs : List Value} {V : Value} {C : World → Prop} (ho : o.op = .call { callee := .value (.func f), args := xs.toArray, argTypes := ts })
    (hcon : Con P f Vs C V) (hx : evL F c xs Vs) (hC : ∀ w, c = true → HInv w0 old H w → C w) : VOp P ops w0 old o F H c V := by
  intro a w hl hI hcc
  obtain ⟨⟨fn, hf, hn, hb⟩, hcon⟩ := hcon
  have h1 := evL_ab hl hcc (xs := xs) (fun x hx => by simp [ho, Op.operands, Call.operands, hx]) hx
  have h2 := hcon w _ (hC w hcc hI) h1
  simp only [OpV, execOp, ho, resolve, Sem.run_bind, Act.eval, Deferred.ofValue, Sem.run_pure, Result.andThen_ok, invoke, callFunc, run_program, hf, hn, hb, Bool.false_eq_true, if_false, List.map_toArray, Array.empty_append, Array.append_empty, yieldsUpon]
  refine Calls.mono ?_ (fun e w'' h => h)
  simpa using h2
end
end Go.Vx

namespace Go.Vx
open Go.RowKit

section
variable {P : Program} {ops : Array Oper} {o : Oper} {rest : List Oper} {F : Frm} {w0 : World} {old : Nat → Prop} {H : List HFact} {n : Nat} {c : Bool} {Q : Exit → Act → World → Prop}

theorem ab_agg {v : Value} {Cs : Array Value} (h : Ab v (.agg Cs)) : ∃ cs, v = .agg cs ∧ FlatL cs.toList Cs.toList := h
theorem ab_flat {v V : Value} (h : Ab v V) (hV : V.oneCell' = true) : Flat v V := by
  cases V <;> first | exact h | cases hV
theorem flat_cells {v V : Value} (h : Flat v V) : v.cells = #[v] := by
  have := h.one
  cases v <;> first | rfl | cases this

/-! ### New blocks -/
/-- The same of a struct. -/
theorem jl_boxS {T : TypeId} {x : Operand} {d : Nat} {Cs : Array Value} (ho : o.op = .box T x) (hd : o.dst = some d) (hdn : Nat.blt d n = true) (hg : o.guard = none) (hx : ev F x = some (true, .agg Cs))
    (k : ∀ b, JL P n w0 old ops rest ((d, true, .pointer (some ⟨b, 0, none⟩)) :: F) (.box b T Cs.toList :: H) Q) : JL P n w0 old ops (o :: rest) F H Q := by
  intro a w hF hH
  obtain ⟨cs, h1, h2⟩ := ab_agg (ev_ab (ops := ops) (o := o) (a := a) hF.looks (by simp [ho, Op.operands]) hx rfl)
  refine wpList_plain hg fun K hK => ?_
  have hr : OpV P o a w (fun v w' => v = .pointer (some ⟨w.heap.size, 0, none⟩) ∧ w' = w.alloc (.cells cs T)) := by
    simp only [OpV, execOp, ho, h1, Instr.box, newVar, newRow, Value.cells, Sem.run_bind, run_newObj, Sem.run_pure, Result.andThen_ok, yieldsUpon]
    refine ⟨?_, ?_⟩ <;> first | trivial | rfl
  refine hr.wp fun v w' ⟨e1, e2⟩ => hK _ _ ?_
  subst e1 e2
  rw [hd]
  exact k w.heap.size _ _ (hF.put hdn ⟨fun _ => rfl, fun h => (by cases h)⟩) (hH.alloc T cs Cs.toList h2)
/-- A new variable that holds its type's zero. -/
theorem jl_alloc {T : TypeId} {d : Nat} {z : Value} {Zs : List Value} (ho : o.op = .alloc T) (hd : o.dst = some d) (hdn : Nat.blt d n = true) (hg : o.guard = none) (hz : (P.info? T).map (·.zero) = some (some z)) (hZ : canL z.cells.toList = some Zs)
    (k : ∀ b, JL P n w0 old ops rest ((d, true, .pointer (some ⟨b, 0, none⟩)) :: F) (.box b T Zs :: H) Q) : JL P n w0 old ops (o :: rest) F H Q := by
  intro a w hF hH
  refine wpList_plain hg fun K hK => ?_
  have hr : OpV P o a w (fun v w' => v = .pointer (some ⟨w.heap.size, 0, none⟩) ∧ w' = w.alloc (.cells z.cells T)) := by
    cases hi : P.info? T with
    | none => simp [hi] at hz
    | some ti =>
      have hzz : ti.zero = some z := by simpa [hi] using hz
      simp only [OpV, execOp, ho, Instr.alloc, zeroValue, typeInfo, newVar, newRow, Sem.run_bind, run_program, hi, hzz, run_newObj, Sem.run_pure, Result.andThen_ok, yieldsUpon]
      refine ⟨?_, ?_⟩ <;> first | trivial | rfl
  refine hr.wp fun v w' ⟨e1, e2⟩ => hK _ _ ?_
  subst e1 e2
  rw [hd]
  exact k w.heap.size _ _ (hF.put hdn ⟨fun _ => rfl, fun h => (by cases h)⟩) (hH.alloc T z.cells Zs (canL_flat hZ))

/-! ### Stores -/
theorem run_storeAt1 {T : TypeId} (hT : (P.info? T).map (·.size) = some 1) {w : World} {ad : Addr} {u v V : Value} (hv : Flat v V) (hc : w.cell? ad = some u) (hf : w.frozen? ad = false) :
    (Instr.storeAt T (.pointer (some ad)) v).run P w = .ok () (w.setCell ad v) := by
  cases hi : P.info? T with
  | none => simp [hi] at hT
  | some ti =>
    have hsz : ti.size = 1 := by simpa [hi] using hT
    have hst : (store (ad.add 0) v).run P w = .ok () (w.setCell ad v) := by
      rw [Addr.add_zero', run_store P w _ v _ hv.one, hc]
      simp [hf]
    simp only [Instr.storeAt, Instr.sureAddr, storeVar, flat_cells hv, sizeOf, typeInfo, Sem.run_bind, run_program, hi, hsz, Sem.run_pure, Result.andThen_ok]
    simp only [List.size_toArray, List.length_cons, List.length_nil, Nat.zero_add, ne_eq, not_true_eq_false, if_false, storeCells, Sem.run_bind, hst, Result.andThen_ok, Sem.run_pure]
theorem jl_storeBox {T T' : TypeId} {x y : Operand} {b j i : Nat} {cs : List Value} {V : Value} (ho : o.op = .store T x y) (hd : o.dst = none) (hg : o.guard = none) (hT : (P.info? T).map (·.size) = some 1)
    (hx : ev F x = some (true, .pointer (some ⟨b, j, none⟩))) (hy : ev F y = some (true, V)) (hV : V.oneCell' = true) (hH : H[i]? = some (.box b T' cs)) (hj : Nat.blt j cs.length = true)
    (k : JL P n w0 old ops rest F (H.set i (.box b T' (cs.set j V))) Q) : JL P n w0 old ops (o :: rest) F H Q := by
  intro a w hF hI
  have h1 : a.eval x = .pointer (some ⟨b, j, none⟩) := ev_ab (ops := ops) (o := o) (a := a) hF.looks (by simp [ho, Op.operands]) hx rfl
  have h2 := ab_flat (ev_ab (ops := ops) (o := o) (a := a) hF.looks (by simp [ho, Op.operands]) hy rfl) hV
  have hjl : j < cs.length := by simpa [Nat.blt_eq] using hj
  obtain ⟨u, h3, h4, _⟩ := hI.readBox (List.mem_of_getElem? hH) (List.getElem?_eq_getElem hjl)
  refine wpList_plain hg fun K hK => ?_
  have hr : OpV P o a w (fun v w' => v = undef ∧ w' = w.setCell ⟨b, j, none⟩ (a.eval y)) := by
    simp only [OpV, execOp, ho, h1, Sem.run_bind, run_storeAt1 hT h2 h3 h4, Sem.run_pure, Result.andThen_ok, yieldsUpon]
    refine ⟨?_, ?_⟩ <;> first | trivial | rfl
  refine hr.wp fun v w' ⟨e1, e2⟩ => hK _ _ ?_
  subst e1 e2
  rw [hd]
  exact k _ _ hF (hI.setBox hH h2)
theorem jl_storeVec {T e : TypeId} {x y : Operand} {A : Option Addr} {cap j i : Nat} {cs : List Value} {V : Value} (ho : o.op = .store T x y) (hd : o.dst = none) (hg : o.guard = none) (hT : (P.info? T).map (·.size) = some 1)
    (hx : ev F x = some (true, pat A j)) (hy : ev F y = some (true, V)) (hV : V.oneCell' = true) (hH : H[i]? = some (.vec e A cap cs)) (hj : j < cs.length)
    (k : JL P n w0 old ops rest F (H.set i (.vec e A cap (cs.set j V))) Q) : JL P n w0 old ops (o :: rest) F H Q := by
  intro a w hF hI
  have h1 : a.eval x = pat A j := ev_ab (ops := ops) (o := o) (a := a) hF.looks (by simp [ho, Op.operands]) hx rfl
  have h2 := ab_flat (ev_ab (ops := ops) (o := o) (a := a) hF.looks (by simp [ho, Op.operands]) hy rfl) hV
  obtain ⟨ad, u, rfl, h3, _⟩ := hI.readVec (List.mem_of_getElem? hH) (List.getElem?_eq_getElem hj)
  have hfr : w.frozen? (ad.add j) = false := by
    obtain ⟨xs, ho', _⟩ := hI.facts _ (List.mem_of_getElem? hH)
    rcases ho'.2 with ⟨h0, _⟩ | ⟨g, cap', cur, h0, _, hh, _⟩
    · cases h0
    · injection h0 with h0; injection h0 with h0; subst h0
      rw [Addr.add_lit]; simp [World.frozen?, hh]
  simp only [pat, Option.map_some] at h1
  refine wpList_plain hg fun K hK => ?_
  have hr : OpV P o a w (fun v w' => v = undef ∧ w' = w.setCell (ad.add j) (a.eval y)) := by
    simp only [OpV, execOp, ho, h1, Sem.run_bind, run_storeAt1 hT h2 h3 hfr, Sem.run_pure, Result.andThen_ok, yieldsUpon]
    refine ⟨?_, ?_⟩ <;> first | trivial | rfl
  refine hr.wp fun v w' ⟨e1, e2⟩ => hK _ _ ?_
  subst e1 e2
  rw [hd]
  exact k _ _ hF (hI.setVec hH h2)
/-- A whole struct into a block of the call's own. -/
theorem jl_storeS {T T' : TypeId} {x y : Operand} {b i : Nat} {cs : List Value} {Cs : Array Value} (ho : o.op = .store T x y) (hd : o.dst = none) (hg : o.guard = none) (hT : (P.info? T).map (·.size) = some cs.length)
    (hx : ev F x = some (true, .pointer (some ⟨b, 0, none⟩))) (hy : ev F y = some (true, .agg Cs)) (hH : H[i]? = some (.box b T' cs)) (hl : Nat.beq Cs.toList.length cs.length = true)
    (k : JL P n w0 old ops rest F (H.set i (.box b T' Cs.toList)) Q) : JL P n w0 old ops (o :: rest) F H Q := by
  intro a w hF hI
  have h1 : a.eval x = .pointer (some ⟨b, 0, none⟩) := ev_ab (ops := ops) (o := o) (a := a) hF.looks (by simp [ho, Op.operands]) hx rfl
  obtain ⟨ds, h2, h2'⟩ := ab_agg (ev_ab (ops := ops) (o := o) (a := a) hF.looks (by simp [ho, Op.operands]) hy rfl)
  obtain ⟨cur, h3, h4⟩ := hI.facts _ (List.mem_of_getElem? hH)
  have e1 : ds.size = cs.length := by rw [← Nat.eq_of_beq_eq_true hl, ← h2'.length]; simp
  have e2 : cur.size = ds.size := by rw [e1, ← h4.length]; simp
  have hone : ds.all (·.oneCell') = true := Array.all_eq_true_iff_forall_mem.2 fun v hv => h2'.one v (by simpa using hv)
  refine wpList_plain hg fun K hK => ?_
  have hr : OpV P o a w (fun v w' => v = undef ∧ w' = w.setRow b ds) := by
    have hrun := run_storeVar_row (P := P) w b T' T cur ds h3 (by rw [hT, e1]) e2 hone
    simp only [OpV, execOp, ho, h1, h2, Instr.storeAt, Instr.sureAddr, Sem.run_bind, Sem.run_pure, Result.andThen_ok, hrun, yieldsUpon]
    refine ⟨?_, ?_⟩ <;> first | trivial | rfl
  refine hr.wp fun v w' ⟨e1, e2⟩ => hK _ _ ?_
  subst e1 e2
  rw [hd]
  exact k _ _ hF (hI.setRow hH h2')

/-! ### A function, entered and left -/
def undefFrm (Vs : List Value) (i : Nat) : Frm := match Vs with | [] => [] | V :: r => (i, true, V) :: undefFrm r (i + 1)

theorem undefFrm_get : ∀ {Vs : List Value} {i t : Nat} {e : Entry}, Frm.get (undefFrm Vs i) t = some e → ∃ V, e = (true, V) ∧ i ≤ t ∧ Vs[t - i]? = some V
  | [], _, _, _, h => by simp [undefFrm, Frm.get] at h
  | V :: r, i, t, e, h => by
    simp only [undefFrm, Frm.get] at h
    split at h
    · rename_i hb
      have := Nat.eq_of_beq_eq_true hb
      subst this
      injection h with h
      exact ⟨V, h.symm, Nat.le_refl _, by simp⟩
    · obtain ⟨U, h1, h2, h3⟩ := undefFrm_get h
      refine ⟨U, h1, by omega, ?_⟩
      rw [show t - i = (t - (i + 1)) + 1 by omega]
      simpa using h3

theorem AbL.get : ∀ {vs Vs : List Value} {i : Nat} {V : Value}, AbL vs Vs → Vs[i]? = some V → ∃ v, vs[i]? = some v ∧ Ab v V
  | [], [], _, _, _, h => by simp at h
  | v :: vs, V' :: Vs, 0, V, h, h' => by
    simp only [List.getElem?_cons_zero, Option.some.injEq] at h'
    subst h'
    exact ⟨v, rfl, h.1⟩
  | v :: vs, V' :: Vs, i + 1, V, h, h' => by
    simp only [List.getElem?_cons_succ] at h'
    obtain ⟨u, h1, h2⟩ := AbL.get h.2 h'
    exact ⟨u, by simpa using h1, h2⟩
theorem AbL.length : ∀ {vs Vs : List Value}, AbL vs Vs → vs.length = Vs.length
  | [], [], _ => rfl
  | _ :: _, _ :: _, h => congrArg (· + 1) (AbL.length h.2)

/-- The frame as the call finds it. -/
theorem fr_enter {vs Vs : List Value} (h : AbL vs Vs) (hn : Nat.ble Vs.length n = true) : Fr n (undefFrm Vs 0) { tmps := vs.toArray ++ Array.replicate (n - vs.toArray.size) undef, defers := [] } := by
  have hl := h.length
  have hn' : Vs.length ≤ n := by simpa using hn
  refine ⟨rfl, by simp; omega, fun t e he => ?_⟩
  obtain ⟨V, rfl, _, hV⟩ := undefFrm_get he
  have ht : t < Vs.length := by simpa using (List.getElem?_eq_some_iff.1 hV).1
  obtain ⟨v, hv, hab⟩ := h.get hV
  refine ⟨by omega, fun _ => ?_, fun h => (by cases h)⟩
  have hlt : t < vs.length := by omega
  have hv' : vs[t] = v := by
    have h2 := (List.getElem?_eq_some_iff.1 hv).2
    simpa using h2
  have hq : (vs.toArray ++ Array.replicate (n - vs.toArray.size) undef).getD t undef = v := by
    have h3 : t < (vs.toArray ++ Array.replicate (n - vs.toArray.size) undef).size := by simp; omega
    rw [Array.getD_eq_getD_getElem?, Array.getElem?_eq_getElem h3, Option.getD_some, Array.getElem_append_left (by simpa using hlt)]
    simpa using hv'
  rw [hq]
  exact hab

/-- How a call ends. -/
def Ends (V : Value) (w : World) : Ending → World → Prop := fun e w' => ∃ v, e = .returned v ∧ Below w.heap.size w w' ∧ Ab v V

/-- A call, by a walk of its body. -/
theorem con_intro {f : FuncId} {fn : Func} {body : Code} {Vs : List Value} {C : World → Prop} {V : Value} {H : List HFact} (hf : P.funcs[f]? = some fn) (hnm : (fn.name == "runtime.NumGoroutine") = false) (hb : fn.body = some body) (hn : Nat.ble Vs.length fn.ntmps = true)
    (hH : ∀ w, C w → HInv w (fun _ => False) H w)
    (k : ∀ w0, C w0 → J P fn.ntmps w0 (fun _ => False) body (undefFrm Vs 0) H (bodyPost P fn (Ends V w0))) : Con P f Vs C V := by
  refine ⟨⟨fn, hf, hnm, by rw [hb]; rfl⟩, fun w vs hC hvs => ?_⟩
  exact calls_of_wp hf hb (k w hC _ _ (fr_enter hvs hn) (hH w hC))

/-- The results are read out of slots. -/
theorem jq_ret1 {fn : Func} {t : Tmp} {V : Value} {e : Exit} (he : e = .ret ∨ e = .normal) (hr : fn.results = #[.tmp t]) (hV : Frm.get F t = some (true, V)) : JQ n w0 (fun _ => False) e F H (bodyPost P fn (Ends V w0)) := by
  intro a w hF hI
  have h1 := (hF.2.2 t _ hV).2.1 rfl
  have : a.defers = [] ∧ ∃ v, (results fn a.tmps).run P w = .ok v w ∧ Ends V w0 (.returned v) w := ⟨hF.1, _, results_tmp hr _ P w, _, rfl, hI.below, h1⟩
  rcases he with rfl | rfl <;> exact this
/-- The same; the value is told. -/
theorem jq_retE {fn : Func} {t : Tmp} {V V' : Value} {e : Exit} (he : e = .ret ∨ e = .normal) (hr : fn.results = #[.tmp t]) (hV : Frm.get F t = some (true, V')) (h : V' = V) : JQ n w0 (fun _ => False) e F H (bodyPost P fn (Ends V w0)) :=
  jq_ret1 he hr (h ▸ hV)
/-- Two results out of slots. -/
theorem jq_ret2E {fn : Func} {t u : Tmp} {V1 V2 V : Value} {e : Exit} (he : e = .ret ∨ e = .normal) (hr : fn.results = #[.tmp t, .tmp u]) (h1 : Frm.get F t = some (true, V1)) (h2 : Frm.get F u = some (true, V2)) (o1 : V1.oneCell' = true) (o2 : V2.oneCell' = true) (h : .tuple #[V1, V2] = V) :
    JQ n w0 (fun _ => False) e F H (bodyPost P fn (Ends V w0)) := by
  subst h
  intro a w hF hI
  have e1 := ab_flat ((hF.2.2 t _ h1).2.1 rfl) o1
  have e2 := ab_flat ((hF.2.2 u _ h2).2.1 rfl) o2
  have : a.defers = [] ∧ ∃ v, (results fn a.tmps).run P w = .ok v w ∧ Ends (.tuple #[V1, V2]) w0 (.returned v) w :=
    ⟨hF.1, _, results_tmp2 hr _ P w, _, rfl, hI.below, _, rfl, e1.ab1, e2.ab1, trivial⟩
  rcases he with rfl | rfl <;> exact this
/-- A struct, read out of its block. -/
theorem results_cellS {fn : Func} {p : Tmp} {T : TypeId} (h : fn.results = #[.cell p T]) {a : Act} {w : World} {d : TypeDesc} {b i : Nat} {T' : TypeId} {cs : List Value} (hF : Fr n F a) (hI : HInv w0 old H w)
    (hp : Frm.get F p = some (true, .pointer (some ⟨b, 0, none⟩))) (hH : H[i]? = some (.box b T' cs)) (hT : P.underlying T = some d) (hd : aggT d = true) (hs : (P.info? T).map (·.size) = some cs.length) :
    ∃ v, (results fn a.tmps).run P w = .ok v w ∧ Ab v (.agg cs.toArray) := by
  obtain ⟨cur, h1, h2⟩ := hI.facts _ (List.mem_of_getElem? hH)
  have h3 : a.tmps.getD p undef = .pointer (some ⟨b, 0, none⟩) := (hF.2.2 p _ hp).2.1 rfl
  exact ⟨_, results_cell_row h a.tmps w b T' cur (0, 0) d h3 h1 hT (by cases d <;> first | rfl | cases hd) (by rw [hs, ← h2.length]; simp), cur, rfl, by simpa using h2⟩
theorem jq_retS {fn : Func} {p : Tmp} {T T' : TypeId} {d : TypeDesc} {b i : Nat} {cs : List Value} {V : Value} {e : Exit} (he : e = .ret ∨ e = .normal) (hr : fn.results = #[.cell p T])
    (hp : Frm.get F p = some (true, .pointer (some ⟨b, 0, none⟩))) (hH : H[i]? = some (.box b T' cs)) (hT : P.underlying T = some d) (hd : aggT d = true) (hs : (P.info? T).map (·.size) = some cs.length) (h : .agg cs.toArray = V) :
    JQ n w0 (fun _ => False) e F H (bodyPost P fn (Ends V w0)) := by
  subst h
  intro a w hF hI
  obtain ⟨v, h1, h2⟩ := results_cellS (P := P) hr hF hI hp hH hT hd hs
  have : a.defers = [] ∧ ∃ v, (results fn a.tmps).run P w = .ok v w ∧ Ends (.agg cs.toArray) w0 (.returned v) w := ⟨hF.1, v, h1, _, rfl, hI.below, h2⟩
  rcases he with rfl | rfl <;> exact this
end
end Go.Vx

namespace Go.Vx
open Go.RowKit
section
variable {P : Program} {ops : Array Oper} {o : Oper} {rest : List Oper} {F : Frm} {w0 : World} {old : Nat → Prop} {H : List HFact} {n : Nat} {c : Bool} {Q : Exit → Act → World → Prop}

/-- A function without a body, of which the model tells what it gives. -/
def Ext (P : Program) (f : FuncId) (Vs : List Value) (V : Value) : Prop :=
  ∃ fn e, P.funcs[f]? = some fn ∧ (fn.name == "runtime.NumGoroutine") = false ∧ fn.body.isNone = true ∧ Extern.findNext fn = none ∧ Extern.find fn = some e ∧
    ∀ w vs, AbL vs Vs → ∃ v w', (e vs.toArray).run P w = .ok v w' ∧ Below w.heap.size w w' ∧ Ab v V

theorem v_ext {f : FuncId} {xs : List Operand} {ts : Array TypeId} {Vs : List Value} {V : Value} (ho : o.op = .call { callee := .value (.func f), args := xs.toArray, argTypes := ts })
    (hx : evL F c xs Vs) (he : c = true → Ext P f Vs V) : VOp P ops w0 old o F H c V := by
  intro a w hl _ hcc
  obtain ⟨fn, e, hf, hn, hb, h1, h2, h3⟩ := he hcc
  have h4 := evL_ab hl hcc (xs := xs) (fun x hx => by simp [ho, Op.operands, Call.operands, hx]) hx
  obtain ⟨v, w', hr, hb', hv⟩ := h3 w _ h4
  simp only [OpV, execOp, ho, resolve, Sem.run_bind, Act.eval, Deferred.ofValue, Sem.run_pure, Result.andThen_ok, invoke, List.map_toArray, Array.empty_append, Array.append_empty]
  rw [show (Act.eval a) = a.eval from rfl] at hr
  have := run_callFunc_extern hf hn hb h1 h2 (List.map a.eval xs).toArray w
  rw [hr] at this
  simp only [Result.andThen_ok] at this
  rw [this]
  exact ⟨hb', hv⟩

theorem cn_not {k : FloatKind} {b : Nat} (h : isN k (cn k b) = false) : cn k b = b := read_cn (by rw [isN_cn] at h; exact h)

theorem ext_f64bits {f : FuncId} {fn : Func} {X : Nat} (hf : P.funcs[f]? = some fn) (hn : (fn.name == "runtime.NumGoroutine") = false) (hb : fn.body.isNone = true) (h1 : Extern.findNext fn = none) (h2 : Extern.find fn = some Extern.MathFloatBits.float64bits) (hX : isN .f64 X = false) :
    Ext P f [.float .f64 X] (.int .u64 X) := by
  refine ⟨fn, _, hf, hn, hb, h1, h2, fun w vs hvs => ?_⟩
  match vs, hvs with
  | [v], hvs =>
    obtain ⟨b, rfl, hlt, rfl⟩ := ab_flt hvs.1
    rw [cn_not hX]
    exact ⟨_, w, rfl, below_self w, rfl⟩

/-! ### Read-only memory that a call is handed -/
def RoS (H : List HFact) (w : World) : Prop := ∀ f ∈ H, f.isOwn = false ∧ f.holds w
theorem ros_nil {w : World} : RoS [] w := fun _ h => by cases h
theorem ros_cons {w : World} {A : Option Addr} {cs : List Value} {H : List HFact} (h : (HFact.ro A cs).holds w) (h' : RoS H w) : RoS (.ro A cs :: H) w := fun f hf => by
  rcases List.mem_cons.1 hf with rfl | hf
  · exact ⟨rfl, h⟩
  · exact h' f hf
theorem RoS.inv {H : List HFact} {w : World} (h : RoS H w) : HInv w (fun _ => False) H w where
  os := rfl
  tape := rfl
  output := rfl
  size := Nat.le_refl _
  frame := fun _ _ _ => rfl
  facts := fun f hf => (h f hf).2
  new := fun f hf hm => by rw [(h f hf).1] at hm; cases hm
  apart := by
    refine List.Pairwise.imp_of_mem (R := fun _ _ => True) (fun {f g} hf hg _ hm => ?_) (List.pairwise_of_forall fun _ _ => trivial)
    rw [(h f hf).1, (h g hg).1] at hm
    cases hm
theorem HInv.boxRo {w : World} {b : Nat} {T : TypeId} {cs : List Value} (h : HInv w0 old H w) (hi : HFact.box b T cs ∈ H) : (HFact.ro (some ⟨b, 0, none⟩) cs).holds w := by
  intro i V hV
  obtain ⟨u, h1, _, h2⟩ := h.readBox hi hV
  exact ⟨_, u, rfl, by rw [Addr.add_lit, Nat.zero_add]; exact h1, h2⟩
theorem HInv.roRo {w : World} {A : Option Addr} {cs : List Value} (h : HInv w0 old H w) (hi : HFact.ro A cs ∈ H) : (HFact.ro A cs).holds w := h.facts _ hi

theorem v_loadRoB {T : TypeId} {d : TypeDesc} {x : Operand} {g : Bool} {b j : Nat} {cs : List Value} {V : Value} (ho : o.op = .load T x) (hT : P.underlying T = some d) (hd : aggT d = false)
    (hx : ev F x = some (g, .pointer (some ⟨b, j, none⟩))) (hc : c = true → g = true) (hH : HFact.ro (some ⟨b, 0, none⟩) cs ∈ H) (hj : cs[j]? = some V) : VOp P ops w0 old o F H c V := by
  intro a w hl hI hcc
  have h1 : a.eval x = .pointer (some ⟨b, j, none⟩) := ev_ab (a := a) hl (by simp [ho, Op.operands]) hx (hc hcc)
  obtain ⟨ad, u, he, h2, h3⟩ := hI.readRo hH hj
  injection he with he
  subst he
  rw [Addr.add_lit, Nat.zero_add] at h2
  simp only [OpV, execOp, ho, h1, Sem.run_bind, run_loadAt1 hT hd h2, Sem.run_pure, Result.andThen_ok, yieldsUpon]
  exact ⟨below_self w, h3.ab⟩

/-! ### Structs that are built -/
def setAll : List Value → List Nat → List Value → List Value
  | Z, i :: is, V :: Vs => setAll (Z.set i V) is Vs
  | Z, _, _ => Z
theorem fill_spec {place : Nat → Option (Nat × Nat)} : ∀ {is : List Nat} {vs Vs : List Value} {cells : Array Value} {Z : List Value}, (∀ i ∈ is, i < Z.length ∧ place i = some (i, 1)) → FlatL vs Vs → is.length = vs.length → FlatL cells.toList Z →
    ∃ cs, Instr.fill place cells (is.zip vs) = some cs ∧ FlatL cs.toList (setAll Z is Vs)
  | [], [], [], cells, Z, _, _, _, hz => ⟨cells, rfl, hz⟩
  | i :: is, v :: vs, V :: Vs, cells, Z, hp, hv, hl, hz => by
    obtain ⟨h1, h2⟩ := hp i (by simp)
    have hc : v.cells = #[v] := by
      have := hv.1.one
      cases v <;> first | rfl | cases this
    have hsz : cells.size = Z.length := by simpa using hz.length
    have hz' : FlatL (cells.setIfInBounds i v).toList (Z.set i V) := by rw [Array.toList_setIfInBounds]; exact hz.set i hv.1
    obtain ⟨cs, h3, h4⟩ := fill_spec (is := is) (vs := vs) (Vs := Vs) (cells := cells.setIfInBounds i v) (Z := Z.set i V)
      (fun j hj => by rw [List.length_set]; exact hp j (by simp [hj])) hv.2 (by simpa using hl) hz'
    refine ⟨cs, ?_, h4⟩
    simp only [List.zip_cons_cons, Instr.fill, h2, hc]
    have hle : i + 1 ≤ cells.size := by omega
    simp [Nat.not_lt.2 hle]
    exact h3
  | _ :: _, [], _, _, _, _, _, hl, _ => by simp at hl
  | [], _ :: _, _, _, _, _, _, hl, _ => by simp at hl
  | [], [], _ :: _, _, _, _, hv, _, _ => hv.elim
  | _ :: _, _ :: _, [], _, _, _, hv, _, _ => hv.elim

theorem AbL.flat : ∀ {vs Vs : List Value}, AbL vs Vs → Vs.all (·.oneCell') = true → FlatL vs Vs
  | [], [], _, _ => trivial
  | v :: vs, V :: Vs, h, ho => by
    simp only [List.all_cons, Bool.and_eq_true] at ho
    exact ⟨ab_flat h.1 ho.1, AbL.flat h.2 ho.2⟩

def places (k : Nat) : List (Nat × Nat) := (List.range k).map fun i => (i, 1)
theorem places_get {k i : Nat} (h : i < k) : (places k)[i]? = some (i, 1) := by simp [places, h]

theorem run_placesV {fs : List Field} {ps : List (Nat × Nat)} (h : fs.mapM (fun f => (P.info? f.type).map fun i => (f.offset, i.size)) = some ps) (w : World) :
    (fs.mapM (fun f => do pure (f.offset, ← sizeOf f.type) : Field → Sem (Nat × Nat))).run P w = .ok ps w := by
  induction fs generalizing ps with
  | nil => simp only [List.mapM_nil, Option.pure_def, Option.some.injEq] at h; subst h; rfl
  | cons f fs ih =>
    cases hi : P.info? f.type with
    | none => simp [List.mapM_cons, hi] at h
    | some i =>
      cases hq : fs.mapM (fun f => (P.info? f.type).map fun i => (f.offset, i.size)) with
      | none => simp [List.mapM_cons, hi, hq] at h
      | some qs =>
        simp only [List.mapM_cons, hi, hq, Option.map_some, Option.bind_eq_bind, Option.bind_some, Option.pure_def, Option.some.injEq] at h
        subst h
        simp only [List.mapM_cons, Sem.run_bind, sizeOf, typeInfo, run_program, hi, Sem.run_pure, Result.andThen_ok]
        have := ih hq
        simp only [sizeOf, typeInfo] at this
        rw [this]
        rfl

def placesOf (P : Program) (T : TypeId) : Option (List (Nat × Nat)) :=
  match P.underlying T with
  | some (.struct fs) => fs.toList.mapM (fun f => (P.info? f.type).map fun i => (f.offset, i.size))
  | _ => none
theorem v_build {T : TypeId} {fs : Array Field} {k : Nat} {parts : List (Nat × Operand)} {z : Array Value} {Zs Vs : List Value} (ho : o.op = .build T parts.toArray) (hT : P.underlying T = some (.struct fs))
    (hz : (P.info? T).map (·.zero) = some (some (.agg z))) (hp : placesOf P T = some (places k)) (hZ : canL z.toList = some Zs) (hk : Nat.beq Zs.length k = true)
    (hx : evL F c (parts.map (·.2)) Vs) (hV : Vs.all (·.oneCell') = true) (hi : (parts.all fun p => Nat.blt p.1 k) = true) :
    VOp P ops w0 old o F H c (.agg (setAll Zs (parts.map (·.1)) Vs).toArray) := by
  intro a w hl _ hcc
  have h1 := (evL_ab hl hcc (xs := parts.map (·.2)) (fun x hx => by simpa [ho, Op.operands] using hx) hx).flat hV
  have hk' := Nat.eq_of_beq_eq_true hk
  have hzl := canL_flat hZ
  obtain ⟨cs, h2, h3⟩ := fill_spec (place := fun i => (places k)[i]?) (is := parts.map (·.1)) (cells := z) (fun i hi' => by
    obtain ⟨p, hp', rfl⟩ := List.mem_map.1 hi'
    have := List.all_eq_true.1 hi p hp'
    have hlt : p.1 < k := by simpa [Nat.blt_eq] using this
    exact ⟨by omega, places_get hlt⟩) h1 (by simp) hzl
  have hpair : (parts.map fun p => (p.1, a.eval p.2)) = (parts.map (·.1)).zip ((parts.map (·.2)).map a.eval) := by
    rw [List.map_map, List.zip_map']
    rfl
  cases hi' : P.info? T with
  | none => simp [hi'] at hz
  | some ti =>
    have hzz : ti.zero = some (.agg z) := by simpa [hi'] using hz
    have hp' : fs.toList.mapM (fun f => (P.info? f.type).map fun i => (f.offset, i.size)) = some (places k) := by simpa only [placesOf, hT] using hp
    have hpl := run_placesV (P := P) hp' w
    simp only [OpV, execOp, ho, Instr.build, zeroValue, typeInfo, Sem.run_bind, run_program, hi', hzz, Sem.run_pure, Result.andThen_ok, run_underlying hT, List.map_toArray, Value.cells, Array.mapM_eq_mapM_toList, hpl, Sem.run_map]
    have e : (fun x => match x with | (i, x) => (i, a.eval x) : Nat × Operand → Nat × Value) = fun p => (p.1, a.eval p.2) := by funext p; rfl
    simp only [List.getElem?_toArray, hpair, h2, Sem.run_pure, Result.andThen_ok, yieldsUpon]
    exact ⟨below_self w, cs, rfl, by simpa using h3⟩

/-! ### Several results -/
def RetL (P : Program) (F : Frm) (H : List HFact) : List ResultVar → List Value → Prop
  | [], [] => True
  | .tmp t :: rs, V :: Vs => (Frm.get F t = some (true, V) ∧ V.oneCell' = true) ∧ RetL P F H rs Vs
  | .cell p T :: rs, V :: Vs => (∃ (b i : Nat) (T' : TypeId) (cs : List Value) (d : TypeDesc), Frm.get F p = some (true, .pointer (some ⟨b, 0, none⟩)) ∧ H[i]? = some (.box b T' cs) ∧ P.underlying T = some d ∧ aggT d = true ∧ (P.info? T).map (·.size) = some cs.length ∧ V = .agg cs.toArray) ∧ RetL P F H rs Vs
  | _, _ => False

theorem ret_nil : RetL P F H [] [] := trivial
theorem ret_tmp {t : Tmp} {V : Value} {rs : List ResultVar} {Vs : List Value} (h : Frm.get F t = some (true, V)) (h1 : V.oneCell' = true) (h2 : RetL P F H rs Vs) : RetL P F H (.tmp t :: rs) (V :: Vs) := ⟨⟨h, h1⟩, h2⟩
theorem ret_cell {p : Tmp} {b i : Nat} {T T' : TypeId} {cs : List Value} {d : TypeDesc} {rs : List ResultVar} {Vs : List Value} (h1 : Frm.get F p = some (true, .pointer (some ⟨b, 0, none⟩))) (h2 : H[i]? = some (.box b T' cs)) (h3 : P.underlying T = some d) (h4 : aggT d = true)
    (h5 : (P.info? T).map (·.size) = some cs.length) (h6 : RetL P F H rs Vs) : RetL P F H (.cell p T :: rs) (.agg cs.toArray :: Vs) := ⟨⟨b, i, T', cs, d, h1, h2, h3, h4, h5, rfl⟩, h6⟩

def resOne (tmps : Array Value) : ResultVar → Sem Value
  | .tmp t => pure (tmps.getD t undef)
  | .cell p t => do loadVar t (← asAddr (tmps.getD p undef))
theorem results_eq (fn : Func) (tmps : Array Value) : results fn tmps = (do let vs ← fn.results.mapM (resOne tmps); pure (if h : vs.size = 1 then vs[0] else .tuple vs)) := by
  unfold results
  congr 1
theorem ret_run {a : Act} {w : World} (hF : Fr n F a) (hI : HInv w0 old H w) : ∀ {rs : List ResultVar} {Vs : List Value}, RetL P F H rs Vs →
    ∃ vs, (rs.mapM (resOne a.tmps)).run P w = .ok vs w ∧ Ab1L vs Vs
  | [], [], _ => ⟨[], rfl, trivial⟩
  | .tmp t :: rs, V :: Vs, h => by
    obtain ⟨⟨h1, h2⟩, h3⟩ := h
    obtain ⟨vs, h4, h5⟩ := ret_run hF hI h3
    refine ⟨a.tmps.getD t undef :: vs, ?_, (ab_flat ((hF.2.2 t _ h1).2.1 rfl) h2).ab1, h5⟩
    simp only [List.mapM_cons, resOne, Sem.run_bind, Sem.run_pure, Result.andThen_ok, h4]
  | .cell p T :: rs, V :: Vs, h => by
    obtain ⟨⟨b, i, T', cs, d, h1, h2, h3, h4, h5, rfl⟩, h6⟩ := h
    obtain ⟨vs, h7, h8⟩ := ret_run hF hI h6
    obtain ⟨cur, g1, g2⟩ := hI.facts _ (List.mem_of_getElem? h2)
    have g3 : a.tmps.getD p undef = .pointer (some ⟨b, 0, none⟩) := (hF.2.2 p _ h1).2.1 rfl
    have g4 := run_loadVar_row (P := P) w b T' T cur (0, 0) d g1 h3 (by cases d <;> first | rfl | cases h4) (by rw [h5, ← g2.length]; simp)
    have g5 : (asAddr (a.tmps.getD p undef)).run P w = .ok ⟨b, 0, none⟩ w := by rw [g3]; rfl
    have g6 : (resOne a.tmps (.cell p T)).run P w = .ok (.agg cur) w := by
      simp only [resOne, Sem.run_bind, g5, Result.andThen_ok, g4]
    refine ⟨.agg cur :: vs, ?_, ⟨cur, rfl, by simpa using g2⟩, h8⟩
    simp only [List.mapM_cons, Sem.run_bind, Sem.run_pure, Result.andThen_ok, g6, h7]

theorem Ab1L.length : ∀ {vs Vs : List Value}, Ab1L vs Vs → vs.length = Vs.length
  | [], [], _ => rfl
  | _ :: _, _ :: _, h => congrArg (· + 1) (Ab1L.length h.2)

theorem jq_retM {fn : Func} {rs : List ResultVar} {Vs : List Value} {V : Value} {e : Exit} (he : e = .ret ∨ e = .normal) (hr : fn.results = rs.toArray) (h : RetL P F H rs Vs) (hl : Nat.blt 1 Vs.length = true) (hV : .tuple Vs.toArray = V) :
    JQ n w0 (fun _ => False) e F H (bodyPost P fn (Ends V w0)) := by
  subst hV
  intro a w hF hI
  obtain ⟨vs, h1, h2⟩ := ret_run (P := P) hF hI h
  have hl' : 1 < vs.length := by rw [h2.length]; simpa [Nat.blt_eq] using hl
  have hrun : (results fn a.tmps).run P w = .ok (.tuple vs.toArray) w := by
    rw [results_eq, hr, Array.mapM_eq_mapM_toList]
    simp only [Sem.run_bind, Sem.run_map, h1, Result.andThen_ok, Sem.run_pure]
    rw [dif_neg (by simp; omega)]
  have : a.defers = [] ∧ ∃ v, (results fn a.tmps).run P w = .ok v w ∧ Ends (.tuple Vs.toArray) w0 (.returned v) w := ⟨hF.1, _, hrun, _, rfl, hI.below, _, rfl, by simpa using h2⟩
  rcases he with rfl | rfl <;> exact this

/-! ### Conditions, named -/
theorem tt {c : Bool} : c = true → true = true := fun _ => rfl
theorem ii {c : Bool} : c = true → c = true := fun h => h
theorem ti {c b : Bool} : c = true → b = true → (true && (b == true)) = true := fun _ h => by rw [h]; rfl
theorem fi {c b : Bool} : c = true → b = false → (true && (b == false)) = true := fun _ h => by rw [h]; rfl
theorem fits_same {k : FloatKind} {x : Nat} : fits k k x = true := by simp [fits]
theorem iw_add {x y : Int} (h : -9223372036854775808 ≤ x + y ∧ x + y ≤ 9223372036854775807) : iarith .add .i64 x y = x + y := by
  simp only [iarith]
  exact IntWalk.i64_in _ h
theorem iw_sub {x y : Int} (h : -9223372036854775808 ≤ x - y ∧ x - y ≤ 9223372036854775807) : iarith .sub .i64 x y = x - y := by
  simp only [iarith]
  exact IntWalk.i64_in _ h

/-! ### A 32-bit number is a 64-bit one -/
theorem read_single {x : Nat} {s : Bool} {m : Nat} {e : Int} (h : FloatKind.f32.format.read x = .number s m e) : m < 16777216 ∧ -149 ≤ e ∧ e ≤ 104 := by
  unfold Ieee.Format.read at h
  have h1 : FloatKind.f32.format.signWeight = 2147483648 := rfl
  have h2 : FloatKind.f32.format.binade = 8388608 := rfl
  have h3 : FloatKind.f32.format.infRung = 2139095040 := rfl
  have h4 : FloatKind.f32.format.leastPlace = -149 := rfl
  simp only [h1, h2, h3, h4] at h
  split at h
  · injection h with _ hm he; omega
  · split at h
    · injection h with _ hm he
      have := Nat.mod_lt (x % 2147483648) (show 0 < 8388608 by omega)
      omega
    · split at h <;> cases h
theorem cut_zero (way : Ieee.Toward) (neg : Bool) (q : Nat) : way.cut neg q 0 = q := by
  cases way <;> simp [Ieee.Toward.cut, Nat.mod_one]
theorem read_word {k : FloatKind} {s : Bool} {r : Nat} (h : r < k.format.infRung) : (k.format.read (k.format.word s r)).isInfinity = false := by
  have h0 : k.format.infRung < k.format.signWeight := by cases k <;> decide
  have hs : 0 < k.format.signWeight := by omega
  have hr : k.format.word s r % k.format.signWeight = r := by
    unfold Ieee.Format.word
    split
    · rw [Nat.add_mod_left, Nat.mod_eq_of_lt (by omega)]
    · exact Nat.mod_eq_of_lt (by omega)
  unfold Ieee.Format.read
  simp only [hr, if_pos h]
  split <;> rfl
theorem fits_wide {x : Nat} : fits .f32 .f64 x = true := by
  unfold fits
  rw [if_neg (by decide)]
  cases hr : FloatKind.f32.format.read x with
  | infinity s => rfl
  | nan s f => rfl
  | number s m e =>
    obtain ⟨hm, he1, he2⟩ := read_single hr
    simp only [Bool.not_eq_true', Ieee.Format.write, Ieee.Format.nearest]
    by_cases h0 : m = 0
    · rw [if_pos h0]; exact read_word (by decide)
    · rw [if_neg h0]
      refine read_word ?_
      have hl : m.log2 ≤ 23 := by
        have := (Nat.log2_lt h0).2 (show m < 2 ^ 24 by omega)
        omega
      have h4 : FloatKind.f64.format.leastPlace = -1074 := rfl
      have h5 : (FloatKind.f64.format.fractionBits : Int) = 52 := rfl
      have h6 : FloatKind.f64.format.binade = 2 ^ 52 := rfl
      have h7 : FloatKind.f64.format.infRung = 2047 * 2 ^ 52 := rfl
      have hmax : max (e + (m.log2 : Int) - 52) (-1074) = e + (m.log2 : Int) - 52 := by omega
      simp only [h4, h5, h6, h7, hmax]
      have e1 : (e - (e + (m.log2 : Int) - 52)).toNat = 52 - m.log2 := by omega
      have e2 : ((e + (m.log2 : Int) - 52) - e).toNat = 0 := by omega
      rw [e1, e2, cut_zero]
      have hlt : m <<< (52 - m.log2) < 2 ^ 53 := by
        rw [Nat.shiftLeft_eq]
        have h8 : m < 2 ^ (m.log2 + 1) := Nat.lt_log2_self
        calc m * 2 ^ (52 - m.log2) < 2 ^ (m.log2 + 1) * 2 ^ (52 - m.log2) := Nat.mul_lt_mul_of_pos_right h8 (Nat.two_pow_pos _)
          _ = 2 ^ 53 := by rw [← Nat.pow_add]; congr 1; omega
      have hq : (e + (m.log2 : Int) - 52 - -1074).toNat ≤ 1149 := by omega
      refine Nat.lt_of_le_of_lt (Nat.min_le_left _ _) ?_
      have := Nat.mul_le_mul_right (2 ^ 52) hq
      omega
end
end Go.Vx

namespace Go.Vx
open Go.RowKit
section
variable {P : Program} {ops : Array Oper} {o : Oper} {rest : List Oper} {F G : Frm} {w0 w w' : World} {old : Nat → Prop} {H : List HFact} {n : Nat} {c : Bool} {Q : Exit → Act → World → Prop} {a : Act}

/-! ### Loops -/
def FSub : Frm → Frm → Prop
  | [], _ => True
  | (d, e) :: r, F => Frm.get F d = some e ∧ FSub r F
theorem fs_nil : FSub [] F := trivial
theorem fs_cons {d : Nat} {e : Entry} {r : Frm} (h : Frm.get F d = some e) (h2 : FSub r F) : FSub ((d, e) :: r) F := ⟨h, h2⟩
theorem FSub.get : ∀ {G F : Frm} {t : Nat} {e : Entry}, FSub G F → Frm.get G t = some e → Frm.get F t = some e
  | [], _, _, _, _, h => by simp [Frm.get] at h
  | (d, e') :: r, F, t, e, hs, h => by
    simp only [Frm.get] at h
    split at h
    · rename_i hb
      have := Nat.eq_of_beq_eq_true hb
      subst this
      rw [← h]; exact hs.1
    · exact FSub.get hs.2 h
theorem FSub.fr (hs : FSub G F) (h : Fr n F a) : Fr n G a := ⟨h.1, h.2.1, fun t e he => h.2.2 t e (hs.get he)⟩

/-- A loop over states: its frame, its facts. -/
theorem j_loop2 {σ : Type} {x : Code} (I : σ → Prop) (G : σ → Frm) (K : σ → List HFact) (μ : σ → Nat) (s0 : σ) (h0 : I s0) (hF : FSub (G s0) F) (hH : ∀ w, HInv w0 old H w → HInv w0 old (K s0) w)
    (round : ∀ s, I s → J P n w0 old x (G s) (K s) (Exit.then (fun a w => ∃ s', I s' ∧ μ s' < μ s ∧ Fr n (G s') a ∧ HInv w0 old (K s') w) Q)) : J P n w0 old (.loop x) F H Q :=
  j_loop I G K μ s0 h0 (fun _ h => hF.fr h) hH round
theorem jq_round {σ : Type} {I : σ → Prop} {G : σ → Frm} {K : σ → List HFact} {μ : σ → Nat} {m : Nat} (s' : σ) (hI : I s') (hμ : μ s' < m) (hF : FSub (G s') F) (hH : ∀ w, HInv w0 old H w → HInv w0 old (K s') w) :
    JQ n w0 old .normal F H (Exit.then (fun a w => ∃ s', I s' ∧ μ s' < m ∧ Fr n (G s') a ∧ HInv w0 old (K s') w) Q) :=
  fun _ _ hFr hIn => ⟨s', hI, hμ, hF.fr hFr, hH _ hIn⟩

/-! ### What is new -/
def Fresh (w w' : World) (Ks : List HFact) : Prop := (∀ f ∈ Ks, f.holds w' ∧ ∀ k, f.foot = some k → w.heap.size ≤ k) ∧ Ks.Pairwise HFact.off
theorem fresh_nil : Fresh w w' [] := ⟨fun f h => (by cases h), .nil⟩
theorem fresh_one {f : HFact} (h : f.holds w') (hk : ∀ k, f.foot = some k → w.heap.size ≤ k) : Fresh w w' [f] :=
  ⟨fun g hg => by rw [List.mem_singleton] at hg; subst hg; exact ⟨h, hk⟩, .cons (fun _ h => (by cases h)) .nil⟩
theorem HInv.addFresh {Ks : List HFact} (h : HInv w0 old H w) (hb : Below w.heap.size w w') (hf : Fresh w w' Ks) : HInv w0 old (Ks ++ H) w' := by
  have h' := h.grow hb
  refine ⟨h'.os, h'.tape, h'.output, h'.size, h'.frame, fun f hm => ?_, fun f hm ho k hk => ?_, ?_⟩
  · rcases List.mem_append.1 hm with hm | hm
    · exact (hf.1 f hm).1
    · exact h'.facts f hm
  · rcases List.mem_append.1 hm with hm | hm
    · exact .inl (Nat.le_trans h.size ((hf.1 f hm).2 k hk))
    · exact h'.new f hm ho k hk
  · refine List.pairwise_append.2 ⟨hf.2, h'.apart, fun f hf' g hg _ k hk hk' => ?_⟩
    have h1 := (hf.1 f hf').2 k hk
    have h2 := h.feet g hg k hk'
    omega

/-- An operation that yields something new. -/
def XOp (P : Program) (ops : Array Oper) (w0 : World) (old : Nat → Prop) (o : Oper) (F : Frm) (H : List HFact) {σ : Type} (V : σ → Value) (K : σ → List HFact) : Prop :=
  ∀ a w, Looks ops o F a → HInv w0 old H w → OpV P o a w (fun v w' => Below w.heap.size w w' ∧ ∃ s, Ab v (V s) ∧ Fresh w w' (K s))
theorem jl_x {σ : Type} {V : σ → Value} {K : σ → List HFact} {d : Nat} (hd : o.dst = some d) (hdn : Nat.blt d n = true) (hg : o.guard = none) (hx : XOp P ops w0 old o F H V K)
    (k : ∀ s, JL P n w0 old ops rest ((d, true, V s) :: F) (K s ++ H) Q) : JL P n w0 old ops (o :: rest) F H Q := by
  intro a w hF hH
  refine wpList_plain hg fun K' hK => (hx a w hF.looks hH).wp fun v w' ⟨h1, s, h2, h3⟩ => hK _ _ (k s _ _ ?_ (hH.addFresh h1 h3))
  rw [hd]
  exact hF.put hdn ⟨fun _ => h2, fun h => (by cases h)⟩

theorem jl_x1 {σ : Type} {V : σ → Value} {f : σ → HFact} {d : Nat} (hd : o.dst = some d) (hdn : Nat.blt d n = true) (hg : o.guard = none) (hx : XOp P ops w0 old o F H V (fun s => [f s]))
    (k : ∀ s, JL P n w0 old ops rest ((d, true, V s) :: F) (f s :: H) Q) : JL P n w0 old ops (o :: rest) F H Q := jl_x hd hdn hg hx k

/-- The call's results, with what is new about them. -/
def ConM (P : Program) (f : FuncId) (Vs : List Value) (C : World → Prop) {σ : Type} (V : σ → Value) (K : σ → List HFact) : Prop :=
  Enters P f ∧ ∀ w vs, C w → AbL vs Vs → Calls P f vs.toArray w (fun e w' => ∃ v, e = .returned v ∧ Below w.heap.size w w' ∧ ∃ s, Ab v (V s) ∧ Fresh w w' (K s))
theorem x_call {f : FuncId} {xs : List Operand} {ts : Array TypeId} {Vs : List Value} {σ : Type} {V : σ → Value} {K : σ → List HFact} {C : World → Prop} (ho : o.op = .call { callee := .value (.func f), args := xs.toArray, argTypes := ts })
    (hcon : ConM P f Vs C V K) (hx : evL F true xs Vs) (hC : ∀ w, HInv w0 old H w → C w) : XOp P ops w0 old o F H V K := by
  intro a w hl hI
  obtain ⟨⟨fn, hf, hn, hb⟩, hcon⟩ := hcon
  have h1 := evL_ab hl rfl (xs := xs) (fun x hx => by simp [ho, Op.operands, Call.operands, hx]) hx
  have h2 := hcon w _ (hC w hI) h1
  simp only [OpV, execOp, ho, resolve, Sem.run_bind, Act.eval, Deferred.ofValue, Sem.run_pure, Result.andThen_ok, invoke, callFunc, run_program, hf, hn, hb, Bool.false_eq_true, if_false, List.map_toArray, Array.empty_append, Array.append_empty, yieldsUpon]
  refine Calls.mono ?_ (fun e w'' h => h)
  simpa using h2

def EndsM {σ : Type} (V : σ → Value) (K : σ → List HFact) (w : World) : Ending → World → Prop := fun e w' => ∃ v, e = .returned v ∧ Below w.heap.size w w' ∧ ∃ s, Ab v (V s) ∧ Fresh w w' (K s)
theorem conM_intro {f : FuncId} {fn : Func} {body : Code} {Vs : List Value} {C : World → Prop} {σ : Type} {V : σ → Value} {K : σ → List HFact} {H : List HFact} (hf : P.funcs[f]? = some fn) (hnm : (fn.name == "runtime.NumGoroutine") = false) (hb : fn.body = some body) (hn : Nat.ble Vs.length fn.ntmps = true)
    (hH : ∀ w, C w → HInv w (fun _ => False) H w)
    (k : ∀ w0, C w0 → J P fn.ntmps w0 (fun _ => False) body (undefFrm Vs 0) H (bodyPost P fn (EndsM V K w0))) : ConM P f Vs C V K := by
  refine ⟨⟨fn, hf, hnm, by rw [hb]; rfl⟩, fun w vs hC hvs => ?_⟩
  exact calls_of_wp hf hb (k w hC _ _ (fr_enter hvs hn) (hH w hC))

/-- A nil slice is nobody's. -/
theorem HInv.addNil {e : TypeId} (h : HInv w0 old H w) : HInv w0 old (.vec e none 0 [] :: H) w := by
  have := h.addFresh (Ks := [.vec e none 0 []]) (Below.refl _ _) (fresh_one ⟨[], ⟨rfl, .inl ⟨rfl, rfl⟩⟩, trivial⟩ (fun k hk => by cases hk))
  exact this
theorem HInv.fresh {Ks : List HFact} (h : HInv w0 (fun _ => False) H w) (hs : Ks.Sublist H) (ho : Ks.all (·.isOwn) = true) : Fresh w0 w Ks := by
  refine ⟨fun f hf => ⟨h.facts f (hs.subset hf), fun k hk => ?_⟩, h.apart.sublist hs⟩
  rcases h.new f (hs.subset hf) (List.all_eq_true.1 ho f hf) k hk with h1 | h1
  · exact h1
  · exact h1.elim

/-- One result out of a slot. -/
theorem jq_retM1 {fn : Func} {t : Tmp} {σ : Type} {V : σ → Value} {K : σ → List HFact} {V' : Value} {e : Exit} (s : σ) (he : e = .ret ∨ e = .normal) (hr : fn.results = #[.tmp t]) (hV : Frm.get F t = some (true, V')) (hs : V' = V s)
    (hK : ∀ w, HInv w0 (fun _ => False) H w → Fresh w0 w (K s)) : JQ n w0 (fun _ => False) e F H (bodyPost P fn (EndsM V K w0)) := by
  subst hs
  intro a w hF hI
  have h1 := (hF.2.2 t _ hV).2.1 rfl
  have : a.defers = [] ∧ ∃ v, (results fn a.tmps).run P w = .ok v w ∧ EndsM V K w0 (.returned v) w := ⟨hF.1, _, results_tmp hr _ P w, _, rfl, hI.below, s, h1, hK w hI⟩
  rcases he with rfl | rfl <;> exact this
/-- One struct out of its block. -/
theorem jq_retMS {fn : Func} {p : Tmp} {T T' : TypeId} {d : TypeDesc} {b i : Nat} {cs : List Value} {σ : Type} {V : σ → Value} {K : σ → List HFact} {e : Exit} (s : σ) (he : e = .ret ∨ e = .normal) (hr : fn.results = #[.cell p T])
    (hp : Frm.get F p = some (true, .pointer (some ⟨b, 0, none⟩))) (hH : H[i]? = some (.box b T' cs)) (hT : P.underlying T = some d) (hd : aggT d = true) (hs : (P.info? T).map (·.size) = some cs.length) (h : .agg cs.toArray = V s)
    (hK : ∀ w, HInv w0 (fun _ => False) H w → Fresh w0 w (K s)) : JQ n w0 (fun _ => False) e F H (bodyPost P fn (EndsM V K w0)) := by
  intro a w hF hI
  obtain ⟨v, h1, h2⟩ := results_cellS (P := P) hr hF hI hp hH hT hd hs
  rw [h] at h2
  have : a.defers = [] ∧ ∃ v, (results fn a.tmps).run P w = .ok v w ∧ EndsM V K w0 (.returned v) w := ⟨hF.1, v, h1, _, rfl, hI.below, s, h2, hK w hI⟩
  rcases he with rfl | rfl <;> exact this
/-- Several. -/
theorem jq_retMM {fn : Func} {rs : List ResultVar} {Vs : List Value} {σ : Type} {V : σ → Value} {K : σ → List HFact} {e : Exit} (s : σ) (he : e = .ret ∨ e = .normal) (hr : fn.results = rs.toArray) (h : RetL P F H rs Vs) (hl : Nat.blt 1 Vs.length = true) (hV : .tuple Vs.toArray = V s)
    (hK : ∀ w, HInv w0 (fun _ => False) H w → Fresh w0 w (K s)) : JQ n w0 (fun _ => False) e F H (bodyPost P fn (EndsM V K w0)) := by
  intro a w hF hI
  obtain ⟨vs, h1, h2⟩ := ret_run (P := P) hF hI h
  have hl' : 1 < vs.length := by rw [h2.length]; simpa [Nat.blt_eq] using hl
  have hrun : (results fn a.tmps).run P w = .ok (.tuple vs.toArray) w := by
    rw [results_eq, hr, Array.mapM_eq_mapM_toList]
    simp only [Sem.run_bind, Sem.run_map, h1, Result.andThen_ok, Sem.run_pure]
    rw [dif_neg (by simp; omega)]
  have hab : Ab (.tuple vs.toArray) (V s) := by rw [← hV]; exact ⟨_, rfl, by simpa using h2⟩
  have : a.defers = [] ∧ ∃ v, (results fn a.tmps).run P w = .ok v w ∧ EndsM V K w0 (.returned v) w := ⟨hF.1, _, hrun, _, rfl, hI.below, s, hab, hK w hI⟩
  rcases he with rfl | rfl <;> exact this

/-! ### Slices that are made -/
theorem flatL_replicate {v V : Value} (h : Flat v V) : ∀ k, FlatL (List.replicate k v) (List.replicate k V)
  | 0 => trivial
  | k + 1 => by rw [List.replicate_succ, List.replicate_succ]; exact ⟨h, flatL_replicate h k⟩
theorem x_make {T e : TypeId} {x y : Operand} {kx ky : IntKind} {N by' : Nat} {z Z : Value} (ho : o.op = .makeSlice T x y) (hT : P.underlying T = some (.slice e)) (he : (P.info? e).map (·.size) = some 1) (hz : (P.info? e).map (·.zero) = some (some z)) (hZ : can0 z = some Z)
    (hby : (P.info? e).map (·.bytes) = some by') (hb8 : Nat.ble by' 64 = true) (hx : ev F x = some (true, .int kx (N : Int))) (hy : ev F y = some (true, .int ky (N : Int))) (hN : N ≤ 4294967296) :
    XOp P ops w0 old o F H (fun b : Nat => .slice (some ⟨b, 0, none⟩) N N) (fun b => [.vec e (some ⟨b, 0, none⟩) N (List.replicate N Z)]) := by
  intro a w hl hI
  have h1 : a.eval x = .int kx (N : Int) := ev_ab (a := a) hl (by simp [ho, Op.operands]) hx rfl
  have h2 : a.eval y = .int ky (N : Int) := ev_ab (a := a) hl (by simp [ho, Op.operands]) hy rfl
  cases hie : P.info? e with
  | none => simp [hie] at he
  | some ti =>
    simp only [hie, Option.map_some, Option.some.injEq] at he hz hby
    have hb8' : by' ≤ 64 := by simpa using hb8
    have hbn : ti.bytes * N ≤ 281474976710656 := by rw [hby]; exact Nat.le_trans (Nat.mul_le_mul hb8' hN) (by decide)
    have hml : N ≤ maxLen := by simp only [maxLen]; omega
    obtain ⟨w', h3, h4, h5⟩ := run_make_full (P := P) w 0 T e ti z 1 hT hie hz he kx ky N hbn hml (Nat.zero_le _)
    have hf := can0_flat hZ
    rw [flat_cells hf, Nat.mul_one, toList_madeCells_one] at h4
    simp only [OpV, execOp, ho, h1, h2, Sem.run_bind, h3, Sem.run_pure, Result.andThen_ok, yieldsUpon]
    refine ⟨⟨h5.os, h5.tape, h5.output, h5.size, fun k hk => h5.block k hk (by simp)⟩, w.heap.size, rfl, fresh_one ⟨List.replicate N z, ?_, flatL_replicate hf N⟩ fun k hk => ?_⟩
    · rw [List.length_replicate]; exact h4
    · simp only [HFact.foot, Option.map_some, Option.some.injEq] at hk; omega

/-- A literal. -/
theorem x_lit {T e : TypeId} {k : Nat} {parts : List (Nat × Operand)} {z Z : Value} {Vs Ws : List Value} (ho : o.op = .buildSlice T k parts.toArray) (hT : P.underlying T = some (.slice e)) (he : (P.info? e).map (·.size) = some 1) (hz : (P.info? e).map (·.zero) = some (some z)) (hZ : can0 z = some Z)
    (hk : Nat.ble k 1000 = true) (hx : evL F true (parts.map (·.2)) Vs) (hV : Vs.all (·.oneCell') = true) (hi : (parts.all fun p => Nat.blt p.1 k) = true) (hW : setAll (List.replicate k Z) (parts.map (·.1)) Vs = Ws) (hWl : Nat.beq Ws.length k = true) :
    XOp P ops w0 old o F H (fun b : Nat => .slice (some ⟨b, 0, none⟩) k k) (fun b => [.vec e (some ⟨b, 0, none⟩) k Ws]) := by
  intro a w hl hI
  have h1 := (evL_ab hl rfl (xs := parts.map (·.2)) (fun x hx => by simpa [ho, Op.operands] using hx) hx).flat hV
  have hk' : k ≤ 1000 := by simpa using hk
  have hWl' := Nat.eq_of_beq_eq_true hWl
  have hf := can0_flat hZ
  obtain ⟨cs, h2, h3⟩ := fill_spec (place := fun i => some (i * 1, 1)) (is := parts.map (·.1)) (cells := ((Array.range (k * 1)).map (z.cells[· % z.cells.size]!))) (Z := List.replicate k Z) (fun i hi' => by
    obtain ⟨p, hp', rfl⟩ := List.mem_map.1 hi'
    have := List.all_eq_true.1 hi p hp'
    have hlt : p.1 < k := by simpa [Nat.blt_eq] using this
    exact ⟨by simpa using hlt, by simp⟩) h1 (by simp) (by
      rw [flat_cells hf, Nat.mul_one]
      have := toList_madeCells_one z k
      simp only [madeCells] at this
      rw [this]
      exact flatL_replicate hf k)
  rw [hW] at h3
  have hpair : (parts.map fun p => (p.1, a.eval p.2)) = (parts.map (·.1)).zip ((parts.map (·.2)).map a.eval) := by
    rw [List.map_map, List.zip_map']
    rfl
  have hsz : cs.size = k := by have := h3.length; simp only [Array.length_toList] at this; omega
  have hml : k ≤ maxLen := by simp only [maxLen]; omega
  cases hie : P.info? e with
  | none => simp [hie] at he
  | some ti =>
    simp only [hie, Option.map_some, Option.some.injEq] at he hz
    have hrun : (Instr.buildSlice T k (parts.toArray.map fun (i, x) => (i, a.eval x))).run P w = .ok (.slice (some ⟨w.heap.size, 0, none⟩) k k) (w.alloc (.cells cs e)) := by
      have e : (parts.toArray.map fun (i, x) => (i, a.eval x)).toList = (parts.map (·.1)).zip ((parts.map (·.2)).map a.eval) := by
        rw [← hpair]; simp
      have hsmall : ¬ k * 1 > 16777216 := by omega
      by_cases h0 : k = 0
      · subst h0
        have hp0 : parts = [] := by
          cases parts with
          | nil => rfl
          | cons p r => simp [Nat.blt] at hi
        subst hp0
        have hcs : cs = #[] := by simpa using hsz
        subst hcs
        simp [Instr.buildSlice, run_underlying hT, sizeOf, typeInfo, hie, newRow, Instr.fill]
        congr 2
        exact Array.eq_empty_of_size_eq_zero (by simp)
      · have hk0 : ¬ k * 1 = 0 := by omega
        have hsm : ¬ k * 1 > 2 ^ 24 := by omega
        simp only [Instr.buildSlice, run_underlying hT, sizeOf, typeInfo, zeroValue, Sem.run_bind, run_program, hie, hz, he, Sem.run_pure, Result.andThen_ok, if_neg hsm, if_neg hk0, e, h2, newRow, run_newObj]
        rfl
    simp only [OpV, execOp, ho, Sem.run_bind, hrun, Sem.run_pure, Result.andThen_ok, yieldsUpon]
    have hown := World.ownsRow_lit (base := 0) (size := 1) (e := e) w cs k (Nat.zero_le _) hml (by omega)
    refine ⟨(Below.refl _ _).alloc (Nat.le_refl _) _, w.heap.size, rfl, fresh_one ⟨cs.toList, by rw [hWl']; exact hown, h3⟩ fun k hk => ?_⟩
    simp only [HFact.foot, Option.map_some, Option.some.injEq] at hk
    omega
end
end Go.Vx

namespace Go.Vx
open Go.RowKit
section
variable {P : Program} {ops : Array Oper} {o : Oper} {rest : List Oper} {F G : Frm} {w0 w w' : World} {old : Nat → Prop} {H : List HFact} {n : Nat} {c : Bool} {Q : Exit → Act → World → Prop} {a : Act}

/-- Fact number 'i' gives way to another one, over the same block or a new one; that block alone has turned. -/
theorem HInv.turn2 {w' : World} {i : Nat} {f f' : HFact} (h : HInv w0 old H w) (hi : H[i]? = some f) (hm : f.isOwn = true) (hfoot : ∀ k, f'.foot = some k → f.foot = some k ∨ w.heap.size ≤ k) (hf' : f'.holds w')
    (h1 : w'.os = w.os) (h2 : w'.tape = w.tape) (h3 : w'.output = w.output) (h4 : w.heap.size ≤ w'.heap.size) (hb : ∀ k, k < w.heap.size → f.foot ≠ some k → w'.heap[k]? = w.heap[k]?) :
    HInv w0 old (H.set i f') w' := by
  have hmem : f ∈ H := List.mem_of_getElem? hi
  have hlt : i < H.length := (List.getElem?_eq_some_iff.1 hi).1
  have hfeq : H[i] = f := (List.getElem?_eq_some_iff.1 hi).2
  have hother : ∀ j g, j ≠ i → H[j]? = some g → ∀ k, g.foot = some k → f.foot ≠ some k := by
    intro j g hj hg k hk hfk
    have hjl : j < H.length := (List.getElem?_eq_some_iff.1 hg).1
    have hg' : H[j] = g := (List.getElem?_eq_some_iff.1 hg).2
    rcases Nat.lt_or_gt_of_ne hj with hlt' | hlt'
    · have := List.pairwise_iff_getElem.1 h.apart j i hjl hlt hlt'
      rw [hg', hfeq] at this
      exact this (by simp [hm]) k hk hfk
    · have := List.pairwise_iff_getElem.1 h.apart i j hlt hjl hlt'
      rw [hg', hfeq] at this
      exact this (by simp [hm]) k hfk hk
  have hother' : ∀ j g, j ≠ i → H[j]? = some g → ∀ k, g.foot = some k → f'.foot ≠ some k := by
    intro j g hj hg k hk hfk
    rcases hfoot k hfk with h5 | h5
    · exact hother j g hj hg k hk h5
    · have := h.feet g (List.mem_of_getElem? hg) k hk; omega
  refine ⟨h1.trans h.os, h2.trans h.tape, h3.trans h.output, Nat.le_trans h.size h4, fun k hk ho => ?_, fun g hg => ?_, fun g hg hgm k hk => ?_, ?_⟩
  · refine (hb k (Nat.lt_of_lt_of_le hk h.size) fun e => ?_).trans (h.frame k hk ho)
    rcases h.new f hmem hm k e with h5 | h5
    · omega
    · exact ho h5
  · obtain ⟨j, hj, he⟩ := List.getElem_of_mem hg
    rw [List.getElem_set] at he
    split at he
    · subst he; exact hf'
    · rename_i hne
      have hj' : j < H.length := by simpa using hj
      have hgj : H[j]? = some g := List.getElem?_eq_some_iff.2 ⟨hj', he⟩
      refine HFact.holds_of_blocks (h.facts g (List.mem_of_getElem? hgj)) fun k hk => hb k (HFact.foot_lt (h.facts g (List.mem_of_getElem? hgj)) k hk) (hother j g (fun e => hne e.symm) hgj k hk)
  · obtain ⟨j, hj, he⟩ := List.getElem_of_mem hg
    rw [List.getElem_set] at he
    split at he
    · subst he
      rcases hfoot k hk with h5 | h5
      · exact h.new f hmem hm k h5
      · exact .inl (Nat.le_trans h.size h5)
    · have hj' : j < H.length := by simpa using hj
      exact h.new g (List.mem_of_getElem? (List.getElem?_eq_some_iff.2 ⟨hj', he⟩)) hgm k hk
  · refine List.pairwise_iff_getElem.2 fun a b ha hb' hab => ?_
    have ha' : a < H.length := by simpa using ha
    have hb'' : b < H.length := by simpa using hb'
    rw [List.getElem_set, List.getElem_set]
    have hp := List.pairwise_iff_getElem.1 h.apart a b ha' hb'' hab
    split
    · rename_i e
      subst e
      rw [if_neg (by omega)]
      intro _ k hk hk'
      exact hother' b _ (by omega) (List.getElem?_eq_getElem hb'') k hk' hk
    · split
      · rename_i e
        subst e
        intro _ k hk hk'
        exact hother' a _ (by omega) (List.getElem?_eq_getElem ha') k hk hk'
      · exact hp

/-! ### Appending -/
theorem ro_cells {B : Option Addr} {ns : List Value} (h : (HFact.ro B ns).holds w) : ∃ us, us.length = ns.length ∧ FlatL us ns ∧ ∀ j u, us[j]? = some u → ∃ ad, B = some ad ∧ w.cell? (ad.add j) = some u := by
  have hc : ∀ j, j < ns.length → ∃ u V, ns[j]? = some V ∧ Flat u V ∧ ∃ ad, B = some ad ∧ w.cell? (ad.add j) = some u := fun j hj => by
    obtain ⟨ad, u, h1, h2, h3⟩ := h j _ (List.getElem?_eq_getElem hj)
    exact ⟨u, _, List.getElem?_eq_getElem hj, h3, ad, h1, h2⟩
  let g : Nat → Value := fun j => if hj : j < ns.length then Classical.choose (hc j hj) else undef
  have hg : ∀ j, j < ns.length → ∃ V, ns[j]? = some V ∧ Flat (g j) V ∧ ∃ ad, B = some ad ∧ w.cell? (ad.add j) = some (g j) := fun j hj => by
    have : g j = Classical.choose (hc j hj) := dif_pos hj
    rw [this]
    exact Classical.choose_spec (hc j hj)
  refine ⟨(List.range ns.length).map g, by simp, FlatL.of_get (by simp) fun i V hV => ?_, fun j u hu => ?_⟩
  · have hi := (List.getElem?_eq_some_iff.1 hV).1
    obtain ⟨V', h1, h2, _⟩ := hg i hi
    rw [hV] at h1
    injection h1 with h1
    subst h1
    exact ⟨g i, by simp [List.getElem?_range hi], h2⟩
  · have hj : j < ns.length := by simpa using (List.getElem?_eq_some_iff.1 hu).1
    obtain ⟨V', _, _, ad, h3, h4⟩ := hg j hj
    simp only [List.getElem?_map, List.getElem?_range hj, Option.map_some, Option.some.injEq] at hu
    subst hu
    exact ⟨ad, h3, h4⟩

theorem run_append_none {t ty e : TypeId} {i : TypeInfo} (ht : P.underlying t = some (.slice e)) (hi : P.info? e = some i) {v : Value} {m cx : Nat} {xs : List Value} (hown : w.ownsRow 0 e 1 v m xs) :
    (Builtin.append_ #[t, t] ty #[v, .slice none 0 cx]).run P w = .ok v w := by
  rcases hown.2 with ⟨rfl, rfl⟩ | ⟨g, cap, cur, rfl, _, _, hnc, _⟩
  · simp [Builtin.append_, run_underlying ht, sizeOf, typeInfo, hi, Builtin.lenOf, Builtin.firstCells]
  · simp [Builtin.append_, run_underlying ht, sizeOf, typeInfo, hi, Builtin.lenOf, Builtin.firstCells, hnc, storeCells]

/-- What an append gives. -/
theorem run_append {T e ty : TypeId} {by' : Nat} {z Z : Value} (hT : P.underlying T = some (.slice e)) (he : (P.info? e).map (·.size) = some 1) (hz : (P.info? e).map (·.zero) = some (some z)) (hZ : can0 z = some Z)
    (hby : (P.info? e).map (·.bytes) = some by') (hb8 : Nat.ble by' 64 = true) {A B : Option Addr} {N M cap cx : Nat} {cs ns : List Value} (hf : (HFact.vec e A cap cs).holds w) (hs : (HFact.ro B ns).holds w) (hN : N = cs.length) (hM : M = ns.length) (hNM : N + M ≤ 4294967296) :
    ∃ A' cap' w', (Builtin.append_ #[T, T] ty #[.slice A N cap, .slice B M cx]).run P w = .ok (.slice A' (N + M) cap') w' ∧ (HFact.vec e A' cap' (cs ++ ns)).holds w' ∧ w.grownBy w' (A.map (·.block)) ∧
      (∀ k, A'.map (·.block) = some k → A.map (·.block) = some k ∨ w.heap.size ≤ k) := by
  subst hN hM
  obtain ⟨xs, h1, h2⟩ := hf
  obtain ⟨us, h3, h4, h5⟩ := ro_cells hs
  cases hie : P.info? e with
  | none => simp [hie] at he
  | some ti =>
    simp only [hie, Option.map_some, Option.some.injEq] at he hz hby
    cases B with
    | none =>
      have hn0 : ns = [] := by
        cases us with
        | nil => exact List.length_eq_zero_iff.1 h3.symm
        | cons u r => obtain ⟨ad, h6, _⟩ := h5 0 u rfl; cases h6
      subst hn0
      refine ⟨A, cap, w, by simpa using run_append_none hT hie h1, ⟨xs, by simpa using h1, by simpa using h2⟩, ⟨rfl, rfl, rfl, Nat.le_refl _, fun _ _ _ => rfl⟩, fun k hk => .inl hk⟩
    | some ad =>
      have hb8' : by' ≤ 64 := by simpa using hb8
      have hbn : (cs.length + ns.length) * by' ≤ 140737488355328 := Nat.le_trans (Nat.mul_le_mul hNM hb8') (by decide)
      have hml : cs.length + ns.length ≤ maxLen := by simp only [maxLen]; omega
      obtain ⟨v', w', h6, h7, h8, h9, h10⟩ := run_append_own_at (P := P) w 0 T ty e ti z 1 by' hT hie hz he hby (by rw [flat_cells (can0_flat hZ)]; rfl) (by decide) _ _ xs h1 ad us.length cx us (by simp) (fun j u hu => by
        obtain ⟨ad', h11, h12⟩ := h5 j u hu
        injection h11 with h11
        subst h11
        exact h12) h4.one (by rw [h3]; exact hml) (by rw [h3]; exact hbn) (Nat.zero_le _)
      rw [h3] at h6 h7
      rcases h7.2 with ⟨rfl, h0⟩ | ⟨g, cap', cur, rfl, r⟩
      · have : cs = [] ∧ ns = [] := by constructor <;> exact List.length_eq_zero_iff.1 (by omega)
        obtain ⟨rfl, rfl⟩ := this
        refine ⟨none, 0, w', h6, ⟨xs ++ us, h7, h2.append h4⟩, ?_, fun k hk => by cases hk⟩
        cases A <;> exact h8
      · refine ⟨some ⟨g, 0, none⟩, cap', w', h6, ⟨xs ++ us, by rw [List.length_append]; exact h7, h2.append h4⟩, ?_, fun k hk => ?_⟩
        · cases A <;> exact h8
        · simp only [Value.ownBlock] at h10
          simp only [Option.map_some, Option.some.injEq] at hk
          subst hk
          cases A with
          | none => rcases h10 with h10 | h10
                    · cases h10
                    · injection h10 with h10; exact .inr (by omega)
          | some a' => rcases h10 with h10 | h10
                       · exact .inl h10.symm
                       · injection h10 with h10; exact .inr (by omega)

theorem jl_append {T e : TypeId} {s x : Operand} {by' d i : Nat} {z Z : Value} {A B : Option Addr} {N M cap cx : Nat} {cs ns : List Value} (ho : o.op = .call { callee := .builtin .append, args := #[s, x], argTypes := #[T, T] }) (hd : o.dst = some d) (hdn : Nat.blt d n = true) (hg : o.guard = none)
    (hT : P.underlying T = some (.slice e)) (he : (P.info? e).map (·.size) = some 1) (hz : (P.info? e).map (·.zero) = some (some z)) (hZ : can0 z = some Z) (hby : (P.info? e).map (·.bytes) = some by') (hb8 : Nat.ble by' 64 = true)
    (hs : ev F s = some (true, .slice A N cap)) (hx : ev F x = some (true, .slice B M cx)) (hH : H[i]? = some (.vec e A cap cs)) (hsrc : ∀ w, HInv w0 old H w → (HFact.ro B ns).holds w) (hN : N = cs.length) (hM : M = ns.length) (hNM : N + M ≤ 4294967296)
    (k : ∀ A' cap', JL P n w0 old ops rest ((d, true, .slice A' (N + M) cap') :: F) (H.set i (.vec e A' cap' (cs ++ ns))) Q) : JL P n w0 old ops (o :: rest) F H Q := by
  intro a w hF hI
  have h1 : a.eval s = .slice A N cap := ev_ab (ops := ops) (o := o) (a := a) hF.looks (by simp [ho, Op.operands, Call.operands]) hs rfl
  have h2 : a.eval x = .slice B M cx := ev_ab (ops := ops) (o := o) (a := a) hF.looks (by simp [ho, Op.operands, Call.operands]) hx rfl
  obtain ⟨A', cap', w', h3, h4, h5, h6⟩ := run_append (ty := o.type) hT he hz hZ hby hb8 (hI.facts _ (List.mem_of_getElem? hH)) (hsrc w hI) hN hM hNM (cx := cx)
  refine wpList_plain hg fun K hK => ?_
  have hr : OpV P o a w (fun v u => v = .slice A' (N + M) cap' ∧ u = w') := by
    simp only [OpV, execOp, ho, resolve, invoke, builtin, List.map_toArray, List.map_cons, List.map_nil, h1, h2, h3, Sem.run_bind, Sem.run_pure, Result.andThen_ok, yieldsUpon]
    exact ⟨trivial, trivial⟩
  refine hr.wp fun v u ⟨e1, e2⟩ => hK _ _ ?_
  subst e1 e2
  rw [hd]
  refine k A' cap' _ _ (hF.put hdn ⟨fun _ => rfl, fun h => (by cases h)⟩) (hI.turn2 hH rfl h6 h4 h5.os h5.tape h5.output h5.size fun k hk hne => h5.block k hk ?_)
  intro e; exact hne e.symm

/-! ### A row that a call writes -/
/-! ### Parts of slices -/
def subA (A : Option Addr) (l cap : Nat) : Option Addr := if cap = l then A else A.map (·.add l)
theorem sub_holds {A : Option Addr} {cs : List Value} {l m cap : Nat} (h : (HFact.ro A cs).holds w) (hc : cs.length ≤ cap) : (HFact.ro (subA A l cap) ((cs.drop l).take m)).holds w := by
  intro i V hV
  rw [List.getElem?_take] at hV
  split at hV
  · rw [List.getElem?_drop] at hV
    obtain ⟨ad, u, rfl, h2, h3⟩ := h (l + i) V hV
    have hlt := (List.getElem?_eq_some_iff.1 hV).1
    unfold subA
    rw [if_neg (by omega)]
    refine ⟨ad.add l, u, rfl, ?_, h3⟩
    rw [← h2, Addr.add_add]
  · cases hV
theorem v_sliceHi {T e : TypeId} {x y : Operand} {A : Option Addr} {N cap h : Nat} {k : IntKind} {I : Int} (ho : o.op = .slice T x none (some y) none) (hT : P.underlying T = some (.slice e)) (he : (P.info? e).map (·.size) = some 1)
    (hx : ev F x = some (true, .slice A N cap)) (hy : ev F y = some (true, .int k I)) (hi : I = h ∧ h ≤ cap) : VOp P ops w0 old o F H true (.slice (subA A 0 cap) h cap) := by
  intro a w hl hI _
  have h1 : a.eval x = .slice A N cap := ev_ab (a := a) hl (by simp [ho, Op.operands]) hx rfl
  have h2 : a.eval y = .int k I := ev_ab (a := a) hl (by simp [ho, Op.operands]) hy rfl
  obtain ⟨rfl, hle⟩ := hi
  cases hie : P.info? e with
  | none => simp [hie] at he
  | some ti =>
    have hsz : ti.size = 1 := by simpa [hie] using he
    have hsb : ∀ code, (Instr.sliceBound (.int k (h : Int)) cap code).run P w = .ok h w := fun code => by
      have := run_sliceBound (P := P) (w := w) k (h : Int) cap code (by omega) (by omega)
      simpa using this
    simp only [OpV, execOp, ho, h1, h2, Instr.sliceAt, Instr.slice, Instr.sliceBounds, Option.map_none, Option.map_some, Sem.run_bind, run_underlying hT, Sem.run_pure, Result.andThen_ok, hsb, sizeOf, typeInfo, run_program, hie, hsz, Nat.mul_one, Nat.sub_zero, yieldsUpon]
    exact ⟨below_self w, rfl⟩
theorem v_sliceLo {T e : TypeId} {x y : Operand} {A : Option Addr} {N cap l : Nat} {k : IntKind} {I : Int} (ho : o.op = .slice T x (some y) none none) (hT : P.underlying T = some (.slice e)) (he : (P.info? e).map (·.size) = some 1)
    (hx : ev F x = some (true, .slice A N cap)) (hy : ev F y = some (true, .int k I)) (hi : I = l ∧ l ≤ N) : VOp P ops w0 old o F H true (.slice (subA A l cap) (N - l) (cap - l)) := by
  intro a w hl hI _
  have h1 : a.eval x = .slice A N cap := ev_ab (a := a) hl (by simp [ho, Op.operands]) hx rfl
  have h2 : a.eval y = .int k I := ev_ab (a := a) hl (by simp [ho, Op.operands]) hy rfl
  obtain ⟨rfl, hle⟩ := hi
  cases hie : P.info? e with
  | none => simp [hie] at he
  | some ti =>
    have hsz : ti.size = 1 := by simpa [hie] using he
    have hsb : ∀ code, (Instr.sliceBound (.int k (l : Int)) N code).run P w = .ok l w := fun code => by
      have := run_sliceBound (P := P) (w := w) k (l : Int) N code (by omega) (by omega)
      simpa using this
    simp only [OpV, execOp, ho, h1, h2, Instr.sliceAt, Instr.slice, Instr.sliceBounds, Option.map_none, Option.map_some, Sem.run_bind, run_underlying hT, Sem.run_pure, Result.andThen_ok, hsb, sizeOf, typeInfo, run_program, hie, hsz, Nat.mul_one, yieldsUpon]
    exact ⟨below_self w, rfl⟩

/-! ### Closures -/
theorem run_eqNil {T e : TypeId} (hT : P.underlying T = some (.slice e)) (A : Option Addr) (N cap : Nat) (w : World) : (binOp .eql T (.slice A N cap) (.slice none 0 0)).run P w = .ok (.bool A.isNone) w := by
  have h : (Op.equalIn Op.maxDepth T (.slice A N cap) (.slice none 0 0)).run P w = .ok A.isNone w := by
    have key : ∀ d, (Op.equalIn (d + 1) T (.slice A N cap) (.slice none 0 0)).run P w = .ok A.isNone w := fun d => by
      cases A <;> simp only [Op.equalIn, Sem.run_bind, run_underlying hT, Result.andThen_ok, Sem.run_pure, Option.isNone]
    exact key 9999
  simp [binOp, Op.equal, h]
theorem v_eqNil {T T' e : TypeId} {x : Operand} {A : Option Addr} {N cap : Nat} {g : Bool} (ho : o.op = .binOp .eql T x (.const (.slice none 0 0)) T') (hT : P.underlying T = some (.slice e)) (hx : ev F x = some (g, .slice A N cap)) (hc : c = true → g = true) : VOp P ops w0 old o F H c (.bool A.isNone) := by
  intro a w hl _ hcc
  have h1 : a.eval x = .slice A N cap := ev_ab (a := a) hl (by simp [ho, Op.operands]) hx (hc hcc)
  have h2 : a.eval (.const (.slice none 0 0)) = .slice none 0 0 := rfl
  simp only [OpV, execOp, ho, h1, h2, eqGuard_at_slice, Sem.run_bind, Sem.run_pure, Result.andThen_ok, run_eqNil hT, yieldsUpon]
  exact ⟨below_self w, rfl⟩

/-! ### Greatest and least -/
end
end Go.Vx

namespace Go.Vx
open Go.RowKit

/-! ### Regions that draw their order and end in steps whose order is told -/
section
variable {P : Program} {md : Region.Mode} {ops : Array Oper} {Q : Exit → Act → World → Prop}

def edgeB (md : Region.Mode) (ops : Array Oper) (j i : Nat) : Bool := match ops[j]? with | some o => o.after.toList.any fun e => Region.binds md e && e.on == i | none => false
/-- From 'j' an edge or several lead to 'i'. -/
def reach (md : Region.Mode) (ops : Array Oper) : Nat → Nat → Nat → Bool
  | 0, _, _ => false
  | f + 1, j, i => match ops[j]? with | some o => o.after.toList.any fun e => Region.binds md e && (e.on == i || reach md ops f e.on i) | none => false
/-- All edges lead back. -/
def backB (md : Region.Mode) (ops : Array Oper) : Bool := (List.range ops.size).all fun j => match ops[j]? with | some o => o.after.all fun e => !Region.binds md e || decide (e.on < j) | none => true
/-- The steps from number 'm' on come last, one after another; those before number 'k' have been. -/
def tailB (md : Region.Mode) (ops : Array Oper) (k m : Nat) : Bool :=
  backB md ops && ((List.range m).all fun i => decide (i < k) || reach md ops ops.size m i) && ((List.range (ops.size - m - 1)).all fun s => edgeB md ops (m + s + 1) (m + s))
def guardsB (ops : Array Oper) (m : Nat) : Bool := (List.range m).all fun j => match ops[j]? with | some o => (match o.guard with | some (g, _) => decide (g < m) | none => true) | none => true

theorem backB_spec (h : backB md ops = true) {j : Nat} {o : Oper} (ho : ops[j]? = some o) : ∀ e ∈ o.after, Region.binds md e = true → e.on < j := by
  intro e he hb
  have hj : j < ops.size := (Array.getElem?_eq_some_iff.1 ho).1
  have h1 := List.all_eq_true.1 h j (List.mem_range.2 hj)
  simp only [ho] at h1
  have := Array.all_eq_true_iff_forall_mem.1 h1 e he
  simpa [hb] using this
/-- What is listed, its grounds are. -/
def Closed (md : Region.Mode) (ops : Array Oper) (listed : Array Bool) : Prop := ∀ j o, listed.getD j false = true → ops[j]? = some o → ∀ e ∈ o.after, Region.binds md e = true → listed.getD e.on false = true
theorem reach_listed {listed : Array Bool} (hc : Closed md ops listed) : ∀ (f : Nat) {j i : Nat} {o : Oper}, ops[j]? = some o → (∀ e ∈ o.after, Region.binds md e = true → listed.getD e.on false = true) → reach md ops f j i = true → listed.getD i false = true
  | 0, _, _, _, _, _, h => by simp [reach] at h
  | f + 1, j, i, o, ho, hr, h => by
    simp only [reach, ho, List.any_eq_true] at h
    obtain ⟨e, he0, h1⟩ := h
    have he := Array.mem_toList_iff.1 he0
    simp only [Bool.and_eq_true, Bool.or_eq_true, beq_iff_eq] at h1
    obtain ⟨hb, h2⟩ := h1
    have hl := hr e he hb
    rcases h2 with rfl | h2
    · exact hl
    · cases hoo : ops[e.on]? with
      | none =>
        exfalso
        cases f with
        | zero => simp [reach] at h2
        | succ f => simp [reach, hoo] at h2
      | some o' => exact reach_listed hc f hoo (fun e' he' hb' => hc e.on o' hl hoo e' he' hb') h2

/-- Listed up to 'k'. -/
def Upto (listed : Array Bool) (N k : Nat) : Prop := listed.size = N ∧ ∀ j, j < N → listed.getD j false = decide (j < k)
theorem Upto.set {listed : Array Bool} {N k : Nat} (h : Upto listed N k) : Upto (listed.setIfInBounds k true) N (k + 1) := by
  refine ⟨by simp [h.1], fun j hj => ?_⟩
  by_cases e : k = j
  · subst e
    have : k < listed.size := by rw [h.1]; exact hj
    simp [this]
  · have h1 := h.2 j hj
    rw [getD_set_ne false e, h1]
    by_cases hk : j < k
    · simp [hk, Nat.lt_succ_of_lt hk]
    · have : ¬ j < k + 1 := by omega
      simp [hk, this]
theorem getD_ft {listed : Array Bool} {j : Nat} (hj : j < listed.size) : listed.getD j true = listed.getD j false := by simp [hj]

/-- The last steps. -/
theorem wpAny_tail {m : Nat} (hb : backB md ops = true) (he : ∀ s, m + s + 1 < ops.size → edgeB md ops (m + s + 1) (m + s) = true) :
    ∀ (l : List Oper) (s fuel : Nat) (listed : Array Bool) (a : Act) (w : World), (∀ j, l[j]? = ops[m + s + j]?) → m + s + l.length = ops.size → l.length ≤ fuel → Upto listed ops.size (m + s) → wpList P ops Q l a w → wpAny P md ops Q fuel listed a w
  | [], s, fuel, listed, a, w, hl, hn, _, hu, h => by
    have hready : Region.ready md ops listed = [] := by
      rw [List.eq_nil_iff_forall_not_mem]
      intro j hj
      obtain ⟨h0, o, ho, _⟩ := mem_ready.1 hj
      have hjs : j < ops.size := (Array.getElem?_eq_some_iff.1 ho).1
      rw [getD_ft (by rw [hu.1]; exact hjs), hu.2 j hjs] at h0
      simp at hn
      simp at h0
      omega
    cases fuel with
    | zero => exact ⟨hready, h⟩
    | succ f => exact ⟨fun _ => h, fun i hi => by rw [hready] at hi; cases hi⟩
  | o :: l, s, 0, _, _, _, _, _, hf, _, _ => by simp at hf
  | o :: l, s, fuel + 1, listed, a, w, hl, hn, hf, hu, h => by
    have h0 : ops[m + s]? = some o := by simpa using (hl 0).symm
    have hlt : m + s < ops.size := (Array.getElem?_eq_some_iff.1 h0).1
    have hin : m + s ∈ Region.ready md ops listed := by
      refine mem_ready.2 ⟨?_, o, h0, fun e he' hb' => ?_⟩
      · rw [getD_ft (by rw [hu.1]; exact hlt), hu.2 _ hlt]; simp
      · have := backB_spec hb h0 e he' hb'
        rw [hu.2 _ (by omega)]
        simpa using this
    refine ⟨fun hr => (by rw [hr] at hin; cases hin), fun i hi => ?_⟩
    have hi' : i = m + s := by
      obtain ⟨h1, oi, hoi, hall⟩ := mem_ready.1 hi
      have his : i < ops.size := (Array.getElem?_eq_some_iff.1 hoi).1
      rw [getD_ft (by rw [hu.1]; exact his), hu.2 i his] at h1
      simp only [decide_eq_false_iff_not, Nat.not_lt] at h1
      rcases Nat.eq_or_lt_of_le h1 with e | hgt
      · exact e.symm
      · exfalso
        obtain ⟨q, rfl⟩ : ∃ q, i = m + (s + q) + 1 := ⟨i - m - s - 1, by omega⟩
        have h2 := he (s + q) (by omega)
        simp only [edgeB, hoi, List.any_eq_true, Bool.and_eq_true, beq_iff_eq, Array.mem_toList_iff] at h2
        obtain ⟨e, he', hb', hon⟩ := h2
        have h3 := hall e he' hb'
        rw [hon, hu.2 _ (by omega)] at h3
        simp at h3
        omega
    subst hi'
    have ih := fun a' w' (hh : wpList P ops Q l a' w') => wpAny_tail hb he l (s + 1) fuel (listed.setIfInBounds (m + s) true) a' w' (fun j => by
      have := hl (j + 1)
      simp only [List.getElem?_cons_succ] at this
      rw [this]; congr 1; omega) (by simp at hn ⊢; omega) (by simpa using hf) (by have := hu.set; rwa [Nat.add_assoc] at this) hh
    unfold wpOp
    simp only [h0]
    rw [wpList] at h
    split
    · rename_i hw
      rw [if_pos hw] at h
      rcases h with h | h
      · exact .inl (Oper.wp_mono ih h)
      · exact .inr h
    · rename_i hw
      rw [if_neg hw] at h
      exact ih _ _ h

theorem getD_app_l {x y : Array Bool} {j : Nat} {d : Bool} (h : j < x.size) : (x ++ y).getD j d = x.getD j d := by
  simp [Array.getElem?_append, h]
theorem getD_app_r {x y : Array Bool} {j : Nat} {d : Bool} (h : x.size ≤ j) : (x ++ y).getD j d = y.getD (j - x.size) d := by
  simp [Array.getElem?_append, Nat.not_lt.2 h]

theorem getD_rep (N i : Nat) : (Array.replicate N false).getD i false = false := by
  by_cases h : i < N <;> simp [h]

variable {C : World → Prop} {n : Nat}

/-- The walk in any order, and then the last steps. -/
theorem wpAny_AT {p t : List Oper} {k : Nat} {QF : RF → Prop} (hB : tailB md (p ++ t).toArray k p.length = true) (hg : guardsB (p ++ t).toArray p.length = true) (ht : t ≠ []) (hlk : looksB p.toArray n = true)
    (hQ : ∀ F a w, F.Mono → FrR n F a w → C w → QF F → wpList P (p ++ t).toArray Q t a w) :
    ∀ (fuel : Nat) (listed : Array Bool) (F : RF) (a : Act) (w : World), listed.size = p.length → (∀ j, j < k → j < p.length → listed.getD j false = true) → Closed md (p ++ t).toArray listed → F.Mono → FrR n F a w → C w →
      wpAnyA P md p.toArray C QF fuel listed F → wpAny P md (p ++ t).toArray Q (fuel + t.length) (listed ++ Array.replicate t.length false) a w := by
  simp only [tailB, Bool.and_eq_true] at hB
  obtain ⟨⟨hb, hr⟩, hch⟩ := hB
  have hsz : (p ++ t).toArray.size = p.length + t.length := by simp
  have htl : 0 < t.length := List.length_pos_iff.2 ht
  have he : ∀ s, p.length + s + 1 < (p ++ t).toArray.size → edgeB md (p ++ t).toArray (p.length + s + 1) (p.length + s) = true := fun s hs => by
    have := List.all_eq_true.1 hch s (List.mem_range.2 (by omega))
    exact this
  have hop : ∀ {j : Nat}, j < p.length → (p ++ t).toArray[j]? = p.toArray[j]? := fun {j} hj => by simp [List.getElem?_append_left hj]
  -- all listed: the last steps
  have done : ∀ (fuel : Nat) (listed : Array Bool) (F : RF) (a : Act) (w : World), listed.size = p.length → (∀ j, j < p.length → listed.getD j false = true) → F.Mono → FrR n F a w → C w → QF F → wpAny P md (p ++ t).toArray Q (fuel + t.length) (listed ++ Array.replicate t.length false) a w := by
    intro fuel listed F a w hs hall hF hfr hC hq
    refine wpAny_tail (m := p.length) hb he t 0 (fuel + t.length) _ a w (fun j => by simp [List.getElem?_append_right]) (by simp) (by omega) ⟨by simp [hs], fun j hj => ?_⟩ (hQ F a w hF hfr hC hq)
    by_cases hjp : j < p.length
    · rw [getD_app_l (by rw [hs]; exact hjp), hall j hjp]; simp [hjp]
    · rw [getD_app_r (by rw [hs]; omega)]
      have : j - listed.size < t.length := by rw [hs]; omega
      simp [hjp, this]
  -- what is ready
  have some_ready : ∀ (listed : Array Bool), listed.size = p.length → ¬ (∀ j, j < p.length → listed.getD j false = true) → Region.ready md p.toArray listed ≠ [] := by
    intro listed hs hn hr0
    have hex : ∃ j, j < p.length ∧ listed.getD j false = false := by
      refine Classical.byContradiction fun hx => hn fun j hj => ?_
      cases hv : listed.getD j false
      · exact absurd ⟨j, hj, hv⟩ hx
      · rfl
    obtain ⟨j0, hj0⟩ := hex
    have least : ∀ q j, j ≤ q → j < p.length → listed.getD j false = false → ∃ i, i < p.length ∧ listed.getD i false = false ∧ ∀ r, r < i → listed.getD r false = true := by
      intro q
      induction q with
      | zero => intro j hjq hj hv; exact ⟨j, hj, hv, fun r hr => by omega⟩
      | succ q ih =>
        intro j hjq hj hv
        by_cases hx : ∃ r, r < j ∧ listed.getD r false = false
        · obtain ⟨r, hr1, hr2⟩ := hx
          exact ih r (by omega) (by omega) hr2
        · refine ⟨j, hj, hv, fun r hr => ?_⟩
          cases hv' : listed.getD r false
          · exact absurd ⟨r, hr, hv'⟩ hx
          · rfl
    obtain ⟨i, hi, hv, hlow⟩ := least j0 j0 (Nat.le_refl _) hj0.1 hj0.2
    have hoi : p.toArray[i]? = some p[i] := by simp [hi]
    have : i ∈ Region.ready md p.toArray listed := mem_ready.2 ⟨by rw [getD_ft (by rw [hs]; exact hi)]; exact hv, _, hoi, fun e he' hb' => hlow _ (backB_spec hb ((hop hi).trans hoi) e he' hb')⟩
    rw [hr0] at this
    cases this
  intro fuel
  induction fuel with
  | zero =>
    intro listed F a w hs hk hcl hF hfr hC h
    refine done 0 listed F a w hs (fun j hj => ?_) hF hfr hC h.2
    refine Classical.byContradiction fun hx => some_ready listed hs (fun hall => hx (hall j hj)) h.1
  | succ fuel ih =>
    intro listed F a w hs hk hcl hF hfr hC h
    by_cases hall : ∀ j, j < p.length → listed.getD j false = true
    · have hr0 : Region.ready md p.toArray listed = [] := by
        rw [List.eq_nil_iff_forall_not_mem]
        intro j hj
        obtain ⟨h0, o, ho, _⟩ := mem_ready.1 hj
        have hjs : j < p.length := by simpa using (Array.getElem?_eq_some_iff.1 ho).1
        rw [getD_ft (by rw [hs]; exact hjs), hall j hjs] at h0
        cases h0
      exact done (fuel + 1) listed F a w hs hall hF hfr hC (h.1 hr0)
    · have hne := some_ready listed hs hall
      have hL : ∀ {j : Nat} {d : Bool}, j < p.length → (listed ++ Array.replicate t.length false).getD j d = listed.getD j d := fun {j d} hj => getD_app_l (by rw [hs]; exact hj)
      -- what is ready of all is ready of the first part
      have only : ∀ i, i ∈ Region.ready md (p ++ t).toArray (listed ++ Array.replicate t.length false) → i < p.length ∧ i ∈ Region.ready md p.toArray listed := by
        intro i hi
        obtain ⟨h0, o, ho, hg'⟩ := mem_ready.1 hi
        have his : i < p.length + t.length := by rw [← hsz]; exact (Array.getElem?_eq_some_iff.1 ho).1
        by_cases hip : i < p.length
        · refine ⟨hip, mem_ready.2 ⟨by rw [hL hip] at h0; exact h0, o, by rw [← hop hip]; exact ho, fun e he' hb' => ?_⟩⟩
          have h1 := hg' e he' hb'
          have h2 := backB_spec hb ho e he' hb'
          rwa [hL (by omega)] at h1
        · exfalso
          -- the first of the last steps is ready, or a later one whose ground is not listed
          have hfirst : i = p.length := by
            rcases Nat.eq_or_lt_of_le (Nat.not_lt.1 hip) with e | hgt
            · exact e.symm
            · exfalso
              obtain ⟨q, rfl⟩ : ∃ q, i = p.length + q + 1 := ⟨i - p.length - 1, by omega⟩
              have h2 := he q (by rw [hsz]; omega)
              simp only [edgeB, ho, List.any_eq_true, Bool.and_eq_true, beq_iff_eq, Array.mem_toList_iff] at h2
              obtain ⟨e, he', hb', hon⟩ := h2
              have h3 := hg' e he' hb'
              rw [hon, getD_app_r (by rw [hs]; omega), getD_rep] at h3
              cases h3
          subst hfirst
          refine hall fun j hj => ?_
          have h2 := List.all_eq_true.1 hr j (List.mem_range.2 hj)
          simp only [Bool.or_eq_true, decide_eq_true_eq] at h2
          rcases h2 with h2 | h2
          · exact hk j h2 hj
          · refine reach_listed hcl _ ho (fun e he' hb' => ?_) h2
            have h3 := hg' e he' hb'
            have h4 := backB_spec hb ho e he' hb'
            rwa [hL h4] at h3
      have hexec : fuel + 1 + t.length = (fuel + t.length) + 1 := by omega
      rw [hexec]
      refine ⟨fun hr0 => ?_, fun i hi => ?_⟩
      · exfalso
        refine hne (List.eq_nil_iff_forall_not_mem.2 fun j hj => ?_)
        obtain ⟨h0, o, ho, hg'⟩ := mem_ready.1 hj
        have hjs : j < p.length := by simpa using (Array.getElem?_eq_some_iff.1 ho).1
        have : j ∈ Region.ready md (p ++ t).toArray (listed ++ Array.replicate t.length false) := mem_ready.2 ⟨by rw [hL hjs]; exact h0, o, by rw [hop hjs]; exact ho, fun e he' hb' => by
          have := backB_spec hb ((hop hjs).trans ho) e he' hb'
          rw [hL (by omega)]; exact hg' e he' hb'⟩
        rw [hr0] at this
        cases this
      · obtain ⟨hip, hi1⟩ := only i hi
        have h1 := wpOp_of_aOp (Q' := Q) (K' := wpAny P md (p ++ t).toArray Q (fuel + t.length) ((listed ++ Array.replicate t.length false).setIfInBounds i true)) hlk hF hfr hC (fun F' a' w' hF' hfr' hC' hh => by
          have hset : (listed ++ Array.replicate t.length false).setIfInBounds i true = listed.setIfInBounds i true ++ Array.replicate t.length false := by
            exact Array.setIfInBounds_append_left (by rw [hs]; exact hip)
          rw [hset]
          refine ih (listed.setIfInBounds i true) F' a' w' (by simp [hs]) (fun j hj hj' => getD_set_true (hk j hj hj')) ?_ hF' hfr' hC' hh
          intro j o hj ho e he' hb'
          by_cases hji : i = j
          · subst hji
            obtain ⟨_, o', ho', hg'⟩ := mem_ready.1 hi1
            rw [hop hip, ho'] at ho
            injection ho with ho
            subst ho
            exact getD_set_true (hg' e he' hb')
          · rw [getD_set_ne false hji] at hj
            exact getD_set_true (hcl j o hj ho e he' hb')) (h.2 i hi1)
        unfold wpOp at h1 ⊢
        rw [hop hip]
        cases ho : p.toArray[i]? with
        | none => simp only [ho] at h1 ⊢; exact h1
        | some o =>
          simp only [ho] at h1 ⊢
          have hw : Region.wanted o (yielded (p ++ t).toArray a.tmps) = Region.wanted o (yielded p.toArray a.tmps) := by
            unfold Region.wanted
            cases hgd : o.guard with
            | none => rfl
            | some gw =>
              have h2 := List.all_eq_true.1 hg i (List.mem_range.2 hip)
              simp only [hop hip, ho, hgd, decide_eq_true_eq] at h2
              simp only [yielded, hop h2]
          rw [hw]
          exact h1
end

section
variable {P : Program} {F : Frm} {w0 : World} {old : Nat → Prop} {H : List HFact} {n : Nat} {Q : Exit → Act → World → Prop}
theorem ja_nilT {ops ops' : Array Oper} {l' : List Oper} (hb : bnd n F = true) (k : JL P n w0 old ops' l' F H Q) : JA P n w0 old ops [] F H (fun _ a w => wpList P ops' Q l' a w) := ja_nil hb k
def tailOK (k m n : Nat) (l : List Oper) : Bool := tailB .any l.toArray k m && guardsB l.toArray m && Nat.blt m l.length && looksB (l.take m).toArray n && Region.lexB .any (l.take m).toArray

/-- A region that draws its order, whose last steps come last. -/
theorem j_drawT {id m : Nat} {l : List Oper} (hm : P.follows .mixedOrders = true) (hB : tailOK 0 m n l = true) (k : JA P n w0 old (l.take m).toArray (l.take m) F H (fun _ a w => wpList P l.toArray Q (l.drop m) a w)) : J P n w0 old (.region id l.toArray true) F H Q := by
  intro a w hF hH
  simp only [tailOK, Bool.and_eq_true, Region.lexB] at hB
  obtain ⟨⟨⟨⟨h1, h2⟩, h3⟩, h4⟩, h5⟩ := hB
  have hml : m < l.length := by simpa [Nat.blt_eq] using h3
  have hlen : (l.take m).length = m := by simp; omega
  have hsplit : l.take m ++ l.drop m = l := List.take_append_drop m l
  refine wp_region_any hm ?_
  have := wpAny_AT (P := P) (md := .any) (Q := Q) (n := n) (C := HInv w0 old H) (p := l.take m) (t := l.drop m) (k := 0) (QF := fun F' => ∀ a' w', FrR n F' a' w' → HInv w0 old H w' → wpList P l.toArray Q (l.drop m) a' w')
    (by rw [hsplit, hlen]; exact h1) (by rw [hsplit, hlen]; exact h2) (by intro h0; have := congrArg List.length h0; simp at this; omega) h4 (fun F' a' w' _ hfr hC hq => by rw [hsplit]; exact hq a' w' hfr hC)
    m (Array.replicate m false) (lift F) a { w with drawn := w.drawn + 1 } (by simp; omega) (fun j hj => by omega) (fun j o hj => by
      exfalso
      by_cases hjm : j < m <;> simp [hjm] at hj) (lift_mono F) hF.lift (hH.grow ⟨rfl, rfl, rfl, Nat.le_refl _, fun _ _ => rfl⟩) (by
      have := wpAnyA_lex (C := HInv w0 old H) (P := P) (md := .any) (l.take m) 0 (Array.replicate (l.take m).length false) (lift F) (by simp) (by simpa using h5.2) k
      rw [hlen] at this
      exact this)
  rw [hsplit] at this
  have e1 : m + (l.drop m).length = l.toArray.size := by simp; omega
  have e2 : Array.replicate m false ++ Array.replicate (l.drop m).length false = Array.replicate l.toArray.size false := by
    rw [Array.replicate_append_replicate, e1]
  rw [e1, e2] at this
  exact this
end
end Go.Vx

namespace Go.Vx
open Go.RowKit

/-! ### Regions that draw their order and make something new -/
/-- What an operation yields that makes something new. -/
structure XE : Type 1 where
  σ : Type
  V : σ → Value
  K : σ → List HFact

def FreshB (B : Nat) (w : World) (Ks : List HFact) : Prop := (∀ f ∈ Ks, f.holds w ∧ ∀ k, f.foot = some k → B ≤ k) ∧ Ks.Pairwise HFact.off
/-- A slot that holds something new. -/
def XR (B : Nat) (x : XE) : RP := fun w v => ∃ s, Ab v (x.V s) ∧ FreshB B w (x.K s)
theorem FreshB.mono {B : Nat} {w w' : World} {Ks : List HFact} (hb : Below w.heap.size w w') (h : FreshB B w Ks) : FreshB B w' Ks :=
  ⟨fun f hf => ⟨HFact.holds_of_blocks (h.1 f hf).1 fun k hk => hb.block k (HFact.foot_lt (h.1 f hf).1 k hk), (h.1 f hf).2⟩, h.2⟩
theorem XR.mono (B : Nat) (x : XE) : (XR B x).Mono := fun _ _ _ hb ⟨s, h1, h2⟩ => ⟨s, h1, h2.mono hb⟩

abbrev XF := List (Nat × XE)
def XF.get : XF → Nat → Option XE
  | [], _ => none
  | (d, e) :: r, t => match Nat.beq d t with | true => some e | false => XF.get r t
def liftX (B : Nat) (X : XF) (F : Frm) : RF := fun t => match Frm.get F t with
  | some e => fun _ v => En v e
  | none => match XF.get X t with | some x => XR B x | none => fun _ _ => True
theorem liftX_mono (B : Nat) (X : XF) (F : Frm) : (liftX B X F).Mono := by
  intro t w w' v hb h
  unfold liftX at *
  cases hg : Frm.get F t with
  | some e => rw [hg] at h; exact h
  | none =>
    rw [hg] at h
    simp only at h ⊢
    cases hx : XF.get X t with
    | none => trivial
    | some x => rw [hx] at h; exact XR.mono B x _ _ _ hb h
theorem liftX_nil (B : Nat) (F : Frm) : liftX B [] F = lift F := by
  funext t
  unfold liftX lift XF.get
  cases Frm.get F t <;> rfl
theorem liftX_cons (B : Nat) (X : XF) (F : Frm) (d : Nat) (e : Entry) : liftX B X ((d, e) :: F) = (liftX B X F).put (some d) (fun _ v => En v e) := by
  funext t
  simp only [liftX, RF.put, Frm.get]
  by_cases h : t = d
  · subst h; simp
  · have : Nat.beq d t = false := by rw [Bool.eq_false_iff]; intro hb; exact h (Nat.eq_of_beq_eq_true hb).symm
    simp [this, h]
theorem liftX_consX (B : Nat) (X : XF) (F : Frm) (d : Nat) (x : XE) (hd : Frm.get F d = none) : liftX B ((d, x) :: X) F = (liftX B X F).put (some d) (XR B x) := by
  funext t
  simp only [liftX, RF.put, XF.get]
  by_cases h : t = d
  · subst h; simp [hd]
  · have : Nat.beq d t = false := by rw [Bool.eq_false_iff]; intro hb; exact h (Nat.eq_of_beq_eq_true hb).symm
    simp [this, h]

section
variable {P : Program} {ops : Array Oper} {o : Oper} {rest : List Oper} {F : Frm} {w0 : World} {old : Nat → Prop} {H : List HFact} {n B : Nat} {c : Bool} {X : XF} {Q : Exit → Act → World → Prop}

/-- What is known of the world while such a region runs: 'B': as many blocks as there were at its start. -/
def CX (w0 : World) (old : Nat → Prop) (B : Nat) (H : List HFact) (w : World) : Prop := HInv w0 old H w ∧ B ≤ w.heap.size ∧ ∀ f ∈ H, ∀ k, f.foot = some k → k < B
theorem CX.grow {w w' : World} (h : CX w0 old B H w) (hb : Below w.heap.size w w') : CX w0 old B H w' := ⟨h.1.grow hb, Nat.le_trans h.2.1 hb.size, h.2.2⟩
/-- The facts about what is new join those that were known. -/
theorem CX.join {w : World} {Ks : List HFact} (h : CX w0 old B H w) (hB : w0.heap.size ≤ B) (hf : FreshB B w Ks) : HInv w0 old (Ks ++ H) w := by
  refine ⟨h.1.os, h.1.tape, h.1.output, h.1.size, h.1.frame, fun f hm => ?_, fun f hm ho k hk => ?_, ?_⟩
  · rcases List.mem_append.1 hm with hm | hm
    · exact (hf.1 f hm).1
    · exact h.1.facts f hm
  · rcases List.mem_append.1 hm with hm | hm
    · exact .inl (Nat.le_trans hB ((hf.1 f hm).2 k hk))
    · exact h.1.new f hm ho k hk
  · refine List.pairwise_append.2 ⟨hf.2, h.1.apart, fun f hf' g hg _ k hk hk' => ?_⟩
    have h1 := (hf.1 f hf').2 k hk
    have h2 := h.2.2 g hg k hk'
    omega

def JX (P : Program) (n : Nat) (w0 : World) (old : Nat → Prop) (B : Nat) (ops : Array Oper) (l : List Oper) (F : Frm) (X : XF) (H : List HFact) (Q : Exit → Act → World → Prop) : Prop :=
  AW P ops (CX w0 old B H) (fun F' => ∀ a' w', FrR n F' a' w' → CX w0 old B H w' → Q .normal a' w') l (liftX B X F)

theorem liftX_looks {a : Act} {w : World} (ha : ∀ t ∈ o.looksAt ops, liftX B X F t w (a.tmps.getD t undef)) : Looks ops o F a := fun t ht e he => by
  have := ha t ht
  simp only [liftX, he] at this
  exact this

theorem Fresh.toB {w w' : World} {Ks : List HFact} (h : Fresh w w' Ks) (hB : B ≤ w.heap.size) : FreshB B w' Ks := ⟨fun f hf => ⟨(h.1 f hf).1, fun k hk => Nat.le_trans hB ((h.1 f hf).2 k hk)⟩, h.2⟩
/-! ### Operations that look at several slots that hold something new: these are only read -/
def HFact.toRo : HFact → HFact
  | .box b _ cs => .ro (some ⟨b, 0, none⟩) cs
  | .vec _ A _ cs => .ro A cs
  | .ro A cs => .ro A cs
theorem HFact.toRo_holds {w : World} : ∀ {f : HFact}, f.holds w → f.toRo.holds w
  | .box b T cs, h => by
    intro i V hV
    obtain ⟨cur, h1, h2⟩ := h
    obtain ⟨u, hu, hf⟩ := h2.get hV
    exact ⟨_, u, rfl, by rw [Addr.add_lit, Nat.zero_add, cell_of_row w b i cur T (0, 0) h1]; simpa using hu, hf⟩
  | .vec e A c cs, h => by
    intro i V hV
    obtain ⟨xs, h1, h2⟩ := h
    obtain ⟨u, hu, hf⟩ := h2.get hV
    rcases h1.2 with ⟨h0, hn⟩ | ⟨g, cap, cur, h0, _⟩
    · simp [List.length_eq_zero_iff.1 hn] at hV
    · injection h0 with h0
      subst h0
      exact ⟨_, u, rfl, h1.cells rfl i u hu, hf⟩
  | .ro A cs, h => h
theorem HFact.toRo_own (f : HFact) : f.toRo.isOwn = false := by cases f <;> rfl
theorem HFact.toRo_foot {f : HFact} {k : Nat} (h : f.toRo.foot = some k) : f.foot = some k := by
  cases f with
  | box b T cs =>
    simp only [HFact.toRo, HFact.foot] at h
    split at h
    · cases h
    · simpa [HFact.foot] using h
  | vec e A c cs =>
    simp only [HFact.toRo, HFact.foot] at h
    split at h
    · cases h
    · exact h
  | ro A cs => exact h
def CO (w0 : World) (old : Nat → Prop) (B : Nat) (H : List HFact) (w : World) : Prop := HInv w0 old H w ∧ B ≤ w.heap.size ∧ ∀ f ∈ H, f.isOwn = true → ∀ k, f.foot = some k → k < B
theorem CO.join {w : World} {Ks : List HFact} (h : CO w0 old B H w) (hf : FreshB B w Ks) : CO w0 old B (Ks.map HFact.toRo ++ H) w := by
  refine ⟨⟨h.1.os, h.1.tape, h.1.output, h.1.size, h.1.frame, fun f hm => ?_, fun f hm ho k hk => ?_, ?_⟩, h.2.1, fun f hm ho k hk => ?_⟩
  · rcases List.mem_append.1 hm with hm | hm
    · obtain ⟨g, hg, rfl⟩ := List.mem_map.1 hm
      exact HFact.toRo_holds (hf.1 g hg).1
    · exact h.1.facts f hm
  · rcases List.mem_append.1 hm with hm | hm
    · obtain ⟨g, hg, rfl⟩ := List.mem_map.1 hm
      rw [HFact.toRo_own] at ho; cases ho
    · exact h.1.new f hm ho k hk
  · refine List.pairwise_append.2 ⟨?_, h.1.apart, fun f hf' g hg hm k hk hk' => ?_⟩
    · refine List.Pairwise.imp_of_mem (R := fun _ _ => True) (fun {f g} hf' hg _ hm => ?_) (List.pairwise_of_forall fun _ _ => trivial)
      obtain ⟨f', _, rfl⟩ := List.mem_map.1 hf'
      obtain ⟨g', _, rfl⟩ := List.mem_map.1 hg
      rw [HFact.toRo_own, HFact.toRo_own] at hm
      cases hm
    · obtain ⟨f', hf'', rfl⟩ := List.mem_map.1 hf'
      rw [HFact.toRo_own, Bool.false_or] at hm
      have h1 := (hf.1 f' hf'').2 k (HFact.toRo_foot hk)
      have h2 := h.2.2 g hg hm k hk'
      omega
  · rcases List.mem_append.1 hm with hm | hm
    · obtain ⟨g, hg, rfl⟩ := List.mem_map.1 hm
      rw [HFact.toRo_own] at ho; cases ho
    · exact h.2.2 f hm ho k hk
/-- At the end one new thing is opened. -/
theorem jx_nil1 {ops' : Array Oper} {l' : List Oper} {d : Nat} {x : XE} (hb : bnd n ((d, true, .bool true) :: F) = true) (hB : w0.heap.size ≤ B) (hX : XF.get X d = some x) (hFd : Frm.get F d = none)
    (k : ∀ s, JL P n w0 old ops' l' ((d, true, x.V s) :: F) (x.K s ++ H) Q) : JX P n w0 old B ops [] F X H (fun _ a w => wpList P ops' Q l' a w) := by
  intro a' w' hF hC
  simp only [bnd, Bool.and_eq_true] at hb
  have hd : d < n := by simpa [Nat.blt_eq] using hb.1
  have h0 := hF.2.2 d hd
  simp only [liftX, hFd, hX] at h0
  obtain ⟨s, h1, h2⟩ := h0
  refine k s a' w' ⟨hF.1, hF.2.1, fun t e he => ?_⟩ (hC.join hB h2)
  simp only [Frm.get] at he
  split at he
  · rename_i hq
    have := Nat.eq_of_beq_eq_true hq
    subst this
    injection he with he
    subst he
    exact ⟨hd, ⟨fun _ => h1, fun h => (by cases h)⟩⟩
  · have ht := bnd_spec hb.2 he
    have := hF.2.2 t ht
    simp only [liftX, he] at this
    exact ⟨ht, this⟩

end
end Go.Vx
