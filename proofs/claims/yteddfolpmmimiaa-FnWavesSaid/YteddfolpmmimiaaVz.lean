/- Theory for regions that make several new things; calls that write two rows. Over any program. -/
import Derived.Test.YteddfolpmmimiaaVx
namespace Go.Vx
open Go.RowKit
theorem m12 {α : Type} {a b0 b1 b2 b3 b4 b5 b6 b7 b8 b9 b10 b11 : α} {l : List α} : a ∈ b0 :: b1 :: b2 :: b3 :: b4 :: b5 :: b6 :: b7 :: b8 :: b9 :: b10 :: b11 :: a :: l := .tail _ m11
theorem m13 {α : Type} {a b0 b1 b2 b3 b4 b5 b6 b7 b8 b9 b10 b11 b12 : α} {l : List α} : a ∈ b0 :: b1 :: b2 :: b3 :: b4 :: b5 :: b6 :: b7 :: b8 :: b9 :: b10 :: b11 :: b12 :: a :: l := .tail _ m12
section
variable {P : Program} {ops : Array Oper} {o : Oper} {rest : List Oper} {F G : Frm} {w0 w w' : World} {old : Nat → Prop} {H : List HFact} {n : Nat} {c : Bool} {Q : Exit → Act → World → Prop} {a : Act}

theorem HInv.offAt {i j : Nat} {f g : HFact} (h : HInv w0 old H w) (hi : H[i]? = some f) (hj : H[j]? = some g) (hij : i ≠ j) : f.off g := by
  have hil : i < H.length := (List.getElem?_eq_some_iff.1 hi).1
  have hjl : j < H.length := (List.getElem?_eq_some_iff.1 hj).1
  have hie : H[i] = f := (List.getElem?_eq_some_iff.1 hi).2
  have hje : H[j] = g := (List.getElem?_eq_some_iff.1 hj).2
  rcases Nat.lt_or_gt_of_ne hij with hlt | hlt
  · have := List.pairwise_iff_getElem.1 h.apart i j hil hjl hlt
    rw [hie, hje] at this
    exact this
  · have := List.pairwise_iff_getElem.1 h.apart j i hjl hil hlt
    rw [hie, hje] at this
    exact HFact.off_symm this
/-- A struct that is read whole, of cells that are read only. -/
theorem v_loadSRo {T : TypeId} {d : TypeDesc} {x : Operand} {g : Bool} {b : Nat} {cs : List Value} (ho : o.op = .load T x) (hT : P.underlying T = some d) (hd : aggT d = true) (hs : (P.info? T).map (·.size) = some cs.length)
    (hx : ev F x = some (g, .pointer (some ⟨b, 0, none⟩))) (hc : c = true → g = true) (hH : HFact.ro (some ⟨b, 0, none⟩) cs ∈ H) : VOp P ops w0 old o F H c (.agg cs.toArray) := by
  intro a w hl hI hcc
  have h1 : a.eval x = .pointer (some ⟨b, 0, none⟩) := ev_ab (a := a) hl (by simp [ho, Op.operands]) hx (hc hcc)
  obtain ⟨us, h2, h3, h4⟩ := ro_cells (hI.facts _ hH)
  have hrun : (loadCells ⟨b, 0, none⟩ us.length).run P w = .ok us.toArray w := run_loadCells_list (P := P) w ⟨b, 0, none⟩ us fun j v hv => by
    obtain ⟨ad, he, hc'⟩ := h4 j v hv
    injection he with he
    subst he
    exact hc'
  have hr : (loadVar T ⟨b, 0, none⟩).run P w = .ok (.agg us.toArray) w := by
    cases hq : P.info? T with
    | none => simp [hq] at hs
    | some i =>
      have hsz : i.size = us.length := by rw [h2]; simpa [hq] using hs
      have hagg : (isAgg T).run P w = .ok true w := by
        unfold isAgg
        rw [Sem.run_bind, run_underlying hT w]
        cases d <;> first | rfl | cases hd
      simp [loadVar, Sem.run_bind, hagg, sizeOf, typeInfo, hq, hsz, hrun]
  simp only [OpV, execOp, ho, h1, Instr.loadAt, Instr.sureAddr, Sem.run_bind, Sem.run_pure, Result.andThen_ok, hr, yieldsUpon]
  exact ⟨below_self w, us.toArray, rfl, by simpa using h3⟩
variable {B : Nat} {X : XF}
end
end Go.Vx

namespace Go.Vx
open Go.RowKit

/-! ### Regions that draw their order and make several new things, which are known apart -/
/-- Block 'k' is told by a value. -/
def inV0 (k : Nat) : Value → Prop
  | .slice A _ _ => A.map (·.block) = some k
  | .pointer A => A.map (·.block) = some k
  | _ => False
def inV1 (k : Nat) : Value → Prop
  | .agg cs => ∃ c ∈ cs.toList, inV0 k c
  | v => inV0 k v
def inV (k : Nat) : Value → Prop
  | .tuple vs => ∃ c ∈ vs.toList, inV1 k c
  | v => inV1 k v
theorem flat_inV {k : Nat} {v V : Value} (h : Flat v V) : inV0 k v ↔ inV0 k V := by
  cases V <;> simp only [Flat] at h <;> first | exact h.elim | (obtain ⟨b, rfl, _⟩ := h; exact Iff.rfl) | (obtain ⟨a, b, rfl, _⟩ := h; exact Iff.rfl) | (subst h; exact Iff.rfl)
theorem flatL_inV {k : Nat} : ∀ {vs Vs : List Value}, FlatL vs Vs → ((∃ c ∈ vs, inV0 k c) ↔ ∃ c ∈ Vs, inV0 k c)
  | [], [], _ => Iff.rfl
  | v :: vs, V :: Vs, h => by
    have h1 := flat_inV (k := k) h.1
    have h2 := flatL_inV (k := k) h.2
    simp only [List.mem_cons, exists_eq_or_imp, h1, h2]
theorem flat1_inV {k : Nat} {v V : Value} (h : Flat v V) : inV1 k v ↔ inV1 k V := by
  have := flat_inV (k := k) h
  cases V <;> simp only [Flat] at h <;> first | exact h.elim | (obtain ⟨b, rfl, _⟩ := h; exact this) | (obtain ⟨a, b, rfl, _⟩ := h; exact this) | (subst h; exact Iff.rfl)
theorem ab1_inV {k : Nat} {v V : Value} (h : Ab1 v V) : inV1 k v ↔ inV1 k V := by
  cases V with
  | agg Cs => obtain ⟨cs, rfl, h⟩ := h; exact flatL_inV h
  | _ => exact flat1_inV h
theorem ab1L_inV {k : Nat} : ∀ {vs Vs : List Value}, Ab1L vs Vs → ((∃ c ∈ vs, inV1 k c) ↔ ∃ c ∈ Vs, inV1 k c)
  | [], [], _ => Iff.rfl
  | v :: vs, V :: Vs, h => by
    have h1 := ab1_inV (k := k) h.1
    have h2 := ab1L_inV (k := k) h.2
    simp only [List.mem_cons, exists_eq_or_imp, h1, h2]
theorem ab_inV {k : Nat} {v V : Value} (h : Ab v V) : inV k v ↔ inV k V := by
  cases V with
  | tuple Vs => obtain ⟨vs, rfl, h⟩ := h; exact ab1L_inV h
  | agg Cs => obtain ⟨cs, rfl, h⟩ := h; exact flatL_inV h
  | _ =>
    simp only [Ab, Ab1] at h
    have hf := h
    have := flat_inV (k := k) h
    simp only [Flat] at hf
    first | exact hf.elim | (obtain ⟨b, rfl, _⟩ := hf; exact this) | (obtain ⟨a, b, rfl, _⟩ := hf; exact this) | (subst hf; exact Iff.rfl)

/-- What is told of the blocks of what an operation yields: nothing; or that they are new, or those of some slots. -/
abbrev ZK := Option (List Tmp)
def ZK.ok (kd : ZK) (a : Act) (w w' : World) (v : Value) : Prop := match kd with
  | none => True
  | some ts => ∀ k, inV k v → (w.heap.size ≤ k ∧ k < w'.heap.size) ∨ ∃ t ∈ ts, inV k (a.tmps.getD t undef)
abbrev Origins := List (Tmp × List Nat)
def Origins.at : Origins → Tmp → Option (List Nat)
  | [], _ => none
  | (d, l) :: r, t => match Nat.beq d t with | true => some l | false => Origins.at r t
def disjB (l m : List Nat) : Bool := l.all fun x => m.all fun y => !Nat.beq x y
/-- Two slots whose blocks have nothing in common. -/
def Origins.apart (L : Origins) (t1 t2 : Tmp) : Bool := match L.at t1, L.at t2 with | some l, some m => disjB l m | _, _ => false
theorem disjB_spec {l m : List Nat} : disjB l m = true ↔ ∀ x ∈ l, x ∉ m := by
  simp only [disjB, List.all_eq_true, Bool.not_eq_true']
  constructor
  · intro h x hx hm
    have := h x hx x hm
    simp at this
  · intro h x hx y hy
    have : x ≠ y := fun e => h x hx (e ▸ hy)
    exact Bool.eq_false_iff.2 fun hb => this (Nat.eq_of_beq_eq_true hb)
/-- The slots so far are apart where it is told. -/
def GA (L : Origins) (D : Tmp → Prop) (a : Act) : Prop := ∀ t1 t2, D t1 → D t2 → L.apart t1 t2 = true → ∀ k, inV k (a.tmps.getD t1 undef) → ¬ inV k (a.tmps.getD t2 undef)

section
variable {P : Program} {ops : Array Oper} {C : World → Prop} {L : Origins}
def AOpZ (P : Program) (ops : Array Oper) (C : World → Prop) (L : Origins) (o : Oper) (F : RF) (R : RP) (kd : ZK) : Prop :=
  R.Mono ∧ ∀ a w, C w → (∀ t ∈ o.looksAt ops, F t w (a.tmps.getD t undef)) → GA L (· ∈ o.looksAt ops) a →
    if Region.wanted o (yielded ops a.tmps) then OpV P o a w (fun v w' => C w' ∧ Below w.heap.size w w' ∧ R w' v ∧ kd.ok a w w' v) else kd = none ∧ R w undef
def AZ (P : Program) (ops : Array Oper) (C : World → Prop) (L : Origins) (Q : RF → Prop) : List Oper → List ZK → RF → Prop
  | [], [], F => Q F
  | o :: l, kd :: kds, F => ∃ R, AOpZ P ops C L o F R kd ∧ AZ P ops C L Q l kds (F.put o.dst R)
  | _, _, _ => False
/-- What is known of the slots behind the first 'i' operations. -/
def Fup (F : RF) (Rs : Nat → RP) : List Oper → RF
  | [] => F
  | o :: l => Fup (F.put o.dst (Rs 0)) (fun i => Rs (i + 1)) l
theorem az_data {Q : RF → Prop} : ∀ {l : List Oper} {kds : List ZK} {F : RF}, AZ P ops C L Q l kds F → kds.length = l.length ∧ ∃ Rs : Nat → RP,
    (∀ i o, l[i]? = some o → AOpZ P ops C L o (Fup F Rs (l.take i)) (Rs i) (kds.getD i none)) ∧ Q (Fup F Rs l)
  | [], [], F, h => ⟨rfl, fun _ _ _ => True, fun i o hi => by simp at hi, h⟩
  | o :: l, kd :: kds, F, h => by
    obtain ⟨R, h1, h2⟩ := h
    obtain ⟨h3, Rs, h4, h5⟩ := az_data h2
    refine ⟨by simp [h3], fun i => match i with | 0 => R | i + 1 => Rs i, fun i o' hi => ?_, h5⟩
    cases i with
    | zero =>
      simp only [List.getElem?_cons_zero, Option.some.injEq] at hi
      subst hi
      exact h1
    | succ i =>
      simp only [List.getElem?_cons_succ] at hi
      exact h4 i o' hi
  | [], _ :: _, _, h => h.elim
  | _ :: _, [], _, h => h.elim
/-- No slot is written twice. -/
def onceB : List Oper → Bool
  | [] => true
  | o :: l => (match o.dst with | some d => l.all (fun o' => match o'.dst with | some d' => !Nat.beq d d' | none => true) | none => true) && onceB l
theorem fup_at {F : RF} : ∀ {l : List Oper} {Rs : Nat → RP} {t : Tmp}, onceB l = true → (∀ (i : Nat) (o : Oper), l[i]? = some o → o.dst = some t → Fup F Rs l t = Rs i) ∧ ((∀ (i : Nat) (o : Oper), l[i]? = some o → o.dst ≠ some t) → Fup F Rs l t = F t)
  | [], Rs, t, _ => ⟨fun i o h => by simp at h, fun _ => rfl⟩
  | o :: l, Rs, t, h => by
    simp only [onceB, Bool.and_eq_true] at h
    obtain ⟨h1, h2⟩ := h
    refine ⟨fun i o' hi hd => ?_, fun hno => ?_⟩
    · cases i with
      | zero =>
        simp only [List.getElem?_cons_zero, Option.some.injEq] at hi
        subst hi
        simp only [Fup]
        rw [(fup_at (F := F.put o.dst (Rs 0)) h2).2]
        · simp [RF.put, hd]
        · intro j o'' hj he
          rw [hd] at h1
          have := List.all_eq_true.1 h1 o'' (List.mem_of_getElem? hj)
          simp [he] at this
      | succ i =>
        simp only [List.getElem?_cons_succ] at hi
        simp only [Fup]
        exact (fup_at (F := F.put o.dst (Rs 0)) h2).1 i o' hi hd
    · simp only [Fup]
      rw [(fup_at (F := F.put o.dst (Rs 0)) h2).2 fun i o' hi => hno (i + 1) o' (by simpa using hi)]
      have h0 := hno 0 o rfl
      cases hd : o.dst with
      | none => rfl
      | some d => simp [RF.put]; intro e; exact absurd (by rw [hd, e]) h0
theorem onceB_take : ∀ {l : List Oper} (i : Nat), onceB l = true → onceB (l.take i) = true
  | [], i, _ => by simp [onceB]
  | o :: l, 0, _ => rfl
  | o :: l, i + 1, h => by
    simp only [onceB, Bool.and_eq_true, List.take_succ_cons] at h ⊢
    refine ⟨?_, onceB_take i h.2⟩
    cases hd : o.dst with
    | none => rfl
    | some d =>
      rw [hd] at h
      simp only [List.all_eq_true] at h ⊢
      exact fun o' ho' => h.1 o' (List.mem_of_mem_take ho')
theorem onceB_inj {l : List Oper} (h : onceB l = true) {i j : Nat} {o o' : Oper} {t : Tmp} (hi : l[i]? = some o) (hj : l[j]? = some o') (e1 : o.dst = some t) (e2 : o'.dst = some t) : i = j := by
  induction l generalizing i j with
  | nil => simp at hi
  | cons q l ih =>
    simp only [onceB, Bool.and_eq_true] at h
    cases i with
    | zero =>
      cases j with
      | zero => rfl
      | succ j =>
        exfalso
        simp only [List.getElem?_cons_zero, Option.some.injEq] at hi
        subst hi
        simp only [List.getElem?_cons_succ] at hj
        have h1 := h.1
        rw [e1] at h1
        have := List.all_eq_true.1 h1 o' (List.mem_of_getElem? hj)
        simp [e2] at this
    | succ i =>
      cases j with
      | zero =>
        exfalso
        simp only [List.getElem?_cons_zero, Option.some.injEq] at hj
        subst hj
        simp only [List.getElem?_cons_succ] at hi
        have h1 := h.1
        rw [e2] at h1
        have := List.all_eq_true.1 h1 o (List.mem_of_getElem? hi)
        simp [e1] at this
      | succ j =>
        simp only [List.getElem?_cons_succ] at hi hj
        rw [ih h.2 hi hj]
/-- What an operation looks at that the region writes, it waits for. -/
def waitsB (md : Region.Mode) (l : List Oper) : Bool :=
  (List.range l.length).all fun i => (List.range l.length).all fun j => match l[i]?, l[j]? with
    | some o, some o' => (match o'.dst with | some d => !(o.looksAt l.toArray).contains d || edgeB md l.toArray i j | none => true)
    | _, _ => true
/-- The told origins are right. -/
def originsB (L : Origins) (l : List Oper) (kds : List ZK) : Bool :=
  (L.all fun p => !p.2.isEmpty) &&
  (L.all fun p => (List.range l.length).any fun i => match l[i]?, kds.getD i none with | some o, some _ => (match o.dst with | some d => Nat.beq d p.1 | none => false) | _, _ => false) &&
  (List.range l.length).all fun i => match l[i]?, kds.getD i none with
    | some o, some ts => o.guard.isNone && (match o.dst with
      | some d => (match L.at d with | some l1 => ts.all fun t => (o.looksAt l.toArray).contains t && (match L.at t with | some l2 => l2.all fun x => l1.contains x | none => false) | none => true)
      | none => true)
    | _, _ => true

variable {md : Region.Mode} {Q : Exit → Act → World → Prop}
/-- A walk in any order that keeps something of what is listed, and then the last steps. -/
theorem wpAny_St {p t : List Oper} {St : Array Bool → Act → World → Prop} (hB : tailB md (p ++ t).toArray 0 p.length = true) (hg : guardsB (p ++ t).toArray p.length = true) (ht : t ≠ [])
    (hQ : ∀ listed a w, listed.size = p.length → (∀ j, j < p.length → listed.getD j false = true) → St listed a w → wpList P (p ++ t).toArray Q t a w)
    (hS : ∀ (listed : Array Bool) (a : Act) (w : World) (i : Nat) (K : Act → World → Prop), listed.size = p.length → St listed a w → i ∈ Region.ready md p.toArray listed → (∀ a' w', St (listed.setIfInBounds i true) a' w' → K a' w') → wpOp P p.toArray Q i K a w) :
    ∀ (fuel : Nat) (listed : Array Bool) (a : Act) (w : World), listed.size = p.length → listed.toList.count false ≤ fuel → Closed md (p ++ t).toArray listed → St listed a w → wpAny P md (p ++ t).toArray Q (fuel + t.length) (listed ++ Array.replicate t.length false) a w := by
  simp only [tailB, Bool.and_eq_true] at hB
  obtain ⟨⟨hb, hr⟩, hch⟩ := hB
  have hsz : (p ++ t).toArray.size = p.length + t.length := by simp
  have htl : 0 < t.length := List.length_pos_iff.2 ht
  have he : ∀ s, p.length + s + 1 < (p ++ t).toArray.size → edgeB md (p ++ t).toArray (p.length + s + 1) (p.length + s) = true := fun s hs => List.all_eq_true.1 hch s (List.mem_range.2 (by omega))
  have hop : ∀ {j : Nat}, j < p.length → (p ++ t).toArray[j]? = p.toArray[j]? := fun {j} hj => by simp [List.getElem?_append_left hj]
  have done : ∀ (fuel : Nat) (listed : Array Bool) (a : Act) (w : World), listed.size = p.length → (∀ j, j < p.length → listed.getD j false = true) → St listed a w → wpAny P md (p ++ t).toArray Q (fuel + t.length) (listed ++ Array.replicate t.length false) a w := by
    intro fuel listed a w hs hall hq
    refine wpAny_tail (m := p.length) hb he t 0 (fuel + t.length) _ a w (fun j => by simp [List.getElem?_append_right]) (by simp) (by omega) ⟨by simp [hs], fun j hj => ?_⟩ (hQ listed a w hs hall hq)
    by_cases hjp : j < p.length
    · rw [getD_app_l (by rw [hs]; exact hjp), hall j hjp]; simp [hjp]
    · rw [getD_app_r (by rw [hs]; omega)]
      have : j - listed.size < t.length := by rw [hs]; omega
      simp [hjp, this]
  have some_ready : ∀ (listed : Array Bool), listed.size = p.length → ¬ (∀ j, j < p.length → listed.getD j false = true) → Region.ready md p.toArray listed ≠ [] := by
    intro listed hs hn hr0
    have hex : ∃ j, j < p.length ∧ listed.getD j false = false := by
      refine Classical.byContradiction fun hx => hn fun j hj => ?_
      cases hv : listed.getD j false
      · exact absurd ⟨j, hj, hv⟩ hx
      · rfl
    obtain ⟨j0, hj0⟩ := hex
    have least : ∀ q j, j ≤ q → j < p.length → listed.getD j false = false → ∃ i, i < p.length ∧ listed.getD i false = false ∧ ∀ r, r < i → listed.getD r false = true := by
      intro q
      induction q with
      | zero => intro j hjq hj hv; exact ⟨j, hj, hv, fun r hr => by omega⟩
      | succ q ih =>
        intro j hjq hj hv
        by_cases hx : ∃ r, r < j ∧ listed.getD r false = false
        · obtain ⟨r, hr1, hr2⟩ := hx
          exact ih r (by omega) (by omega) hr2
        · refine ⟨j, hj, hv, fun r hr => ?_⟩
          cases hv' : listed.getD r false
          · exact absurd ⟨r, hr, hv'⟩ hx
          · rfl
    obtain ⟨i, hi, hv, hlow⟩ := least j0 j0 (Nat.le_refl _) hj0.1 hj0.2
    have hoi : p.toArray[i]? = some p[i] := by simp [hi]
    have : i ∈ Region.ready md p.toArray listed := mem_ready.2 ⟨by rw [getD_ft (by rw [hs]; exact hi)]; exact hv, _, hoi, fun e he' hb' => hlow _ (backB_spec hb ((hop hi).trans hoi) e he' hb')⟩
    rw [hr0] at this
    cases this
  intro fuel
  induction fuel with
  | zero =>
    intro listed a w hs hc hcl h
    refine done 0 listed a w hs (fun j hj => ?_) h
    have h0 : listed.toList.count false = 0 := by omega
    rw [List.count_eq_zero] at h0
    cases hv : listed.getD j false
    · exfalso
      refine h0 ?_
      have hj' : j < listed.size := by omega
      have : listed[j] = false := by simpa [hj'] using hv
      rw [← this]
      exact Array.mem_toList_iff.2 (Array.getElem_mem hj')
    · rfl
  | succ fuel ih =>
    intro listed a w hs hc hcl h
    by_cases hall : ∀ j, j < p.length → listed.getD j false = true
    · exact done (fuel + 1) listed a w hs hall h
    · have hne := some_ready listed hs hall
      have hL : ∀ {j : Nat} {d : Bool}, j < p.length → (listed ++ Array.replicate t.length false).getD j d = listed.getD j d := fun {j d} hj => getD_app_l (by rw [hs]; exact hj)
      have only : ∀ i, i ∈ Region.ready md (p ++ t).toArray (listed ++ Array.replicate t.length false) → i < p.length ∧ i ∈ Region.ready md p.toArray listed := by
        intro i hi
        obtain ⟨h0, o, ho, hg'⟩ := mem_ready.1 hi
        have his : i < p.length + t.length := by rw [← hsz]; exact (Array.getElem?_eq_some_iff.1 ho).1
        by_cases hip : i < p.length
        · refine ⟨hip, mem_ready.2 ⟨by rw [hL hip] at h0; exact h0, o, by rw [← hop hip]; exact ho, fun e he' hb' => ?_⟩⟩
          have h1 := hg' e he' hb'
          have h2 := backB_spec hb ho e he' hb'
          rwa [hL (by omega)] at h1
        · exfalso
          have hfirst : i = p.length := by
            rcases Nat.eq_or_lt_of_le (Nat.not_lt.1 hip) with e | hgt
            · exact e.symm
            · exfalso
              obtain ⟨q, rfl⟩ : ∃ q, i = p.length + q + 1 := ⟨i - p.length - 1, by omega⟩
              have h2 := he q (by rw [hsz]; omega)
              simp only [edgeB, ho, List.any_eq_true, Bool.and_eq_true, beq_iff_eq, Array.mem_toList_iff] at h2
              obtain ⟨e, he', hb', hon⟩ := h2
              have h3 := hg' e he' hb'
              rw [hon, getD_app_r (by rw [hs]; omega), getD_rep] at h3
              cases h3
          subst hfirst
          refine hall fun j hj => ?_
          have h2 := List.all_eq_true.1 hr j (List.mem_range.2 hj)
          simp only [Nat.not_lt_zero, decide_false, Bool.false_or] at h2
          refine reach_listed hcl _ ho (fun e he' hb' => ?_) h2
          have h3 := hg' e he' hb'
          have h4 := backB_spec hb ho e he' hb'
          rwa [hL h4] at h3
      have hexec : fuel + 1 + t.length = (fuel + t.length) + 1 := by omega
      rw [hexec]
      refine ⟨fun hr0 => ?_, fun i hi => ?_⟩
      · exfalso
        refine hne (List.eq_nil_iff_forall_not_mem.2 fun j hj => ?_)
        obtain ⟨h0, o, ho, hg'⟩ := mem_ready.1 hj
        have hjs : j < p.length := by simpa using (Array.getElem?_eq_some_iff.1 ho).1
        have : j ∈ Region.ready md (p ++ t).toArray (listed ++ Array.replicate t.length false) := mem_ready.2 ⟨by rw [hL hjs]; exact h0, o, by rw [hop hjs]; exact ho, fun e he' hb' => by
          have := backB_spec hb ((hop hjs).trans ho) e he' hb'
          rw [hL (by omega)]; exact hg' e he' hb'⟩
        rw [hr0] at this
        cases this
      · obtain ⟨hip, hi1⟩ := only i hi
        have hi0 : listed.getD i false = false := by
          have := (mem_ready.1 hi1).1
          rwa [getD_ft (by rw [hs]; exact hip)] at this
        have h1 := hS listed a w i (wpAny P md (p ++ t).toArray Q (fuel + t.length) ((listed ++ Array.replicate t.length false).setIfInBounds i true)) hs h hi1 (fun a' w' hh => by
          have hset : (listed ++ Array.replicate t.length false).setIfInBounds i true = listed.setIfInBounds i true ++ Array.replicate t.length false := Array.setIfInBounds_append_left (by rw [hs]; exact hip)
          rw [hset]
          refine ih (listed.setIfInBounds i true) a' w' (by simp [hs]) ?_ ?_ hh
          · have hil : i < listed.toList.length := by simp [hs]; exact hip
            have hv : listed.toList[i] = false := by
              have hj' : i < listed.size := by omega
              simpa [hj'] using hi0
            rw [Array.toList_setIfInBounds, List.count_set hil, hv]
            have : 0 < listed.toList.count false := List.count_pos_iff.2 (by rw [← hv]; exact List.getElem_mem hil)
            rw [show (false == false) = true from rfl, show (true == false) = false from rfl, if_pos rfl, if_neg (by decide)]
            omega
          · intro j o hj ho e he' hb'
            by_cases hji : i = j
            · subst hji
              obtain ⟨_, o', ho', hg'⟩ := mem_ready.1 hi1
              rw [hop hip, ho'] at ho
              injection ho with ho
              subst ho
              exact getD_set_true (hg' e he' hb')
            · rw [getD_set_ne false hji] at hj
              exact getD_set_true (hcl j o hj ho e he' hb'))
        unfold wpOp at h1 ⊢
        rw [hop hip]
        cases ho : p.toArray[i]? with
        | none => simp only [ho] at h1 ⊢; exact h1
        | some o =>
          simp only [ho] at h1 ⊢
          have hw : Region.wanted o (yielded (p ++ t).toArray a.tmps) = Region.wanted o (yielded p.toArray a.tmps) := by
            unfold Region.wanted
            cases hgd : o.guard with
            | none => rfl
            | some gw =>
              have h2 := List.all_eq_true.1 hg i (List.mem_range.2 hip)
              simp only [hop hip, ho, hgd, decide_eq_true_eq] at h2
              simp only [yielded, hop h2]
          rw [hw]
          exact h1
end

section
variable {P : Program} {L : Origins} {C : World → Prop} {n : Nat}
/-- What is known when some operations of the region have been carried out. -/
structure ZSt (l : List Oper) (L : Origins) (C : World → Prop) (n : Nat) (F : RF) (Rs : Nat → RP) (S : Array Bool) (a : Act) (w : World) : Prop where
  defers : a.defers = []
  size : a.tmps.size = n
  c : C w
  done : ∀ t, t < n → ∀ (i : Nat) (o : Oper), l[i]? = some o → o.dst = some t → S.getD i false = true → Rs i w (a.tmps.getD t undef)
  rest : ∀ t, t < n → (∀ (i : Nat) (o : Oper), l[i]? = some o → o.dst = some t → S.getD i false = false) → F t w (a.tmps.getD t undef)
  apart : GA L (fun t => ∃ (i : Nat) (o : Oper), l[i]? = some o ∧ o.dst = some t ∧ S.getD i false = true) a
  bound : ∀ t (i : Nat) (o : Oper), l[i]? = some o → o.dst = some t → S.getD i false = true → (L.at t).isSome = true → ∀ k, inV k (a.tmps.getD t undef) → k < w.heap.size

theorem Origins.mem : ∀ {L : Origins} {t : Tmp} {os : List Nat}, L.at t = some os → (t, os) ∈ L
  | [], _, _, h => by cases h
  | (d, l) :: r, t, os, h => by
    simp only [Origins.at] at h
    split at h
    · rename_i hb
      have := Nat.eq_of_beq_eq_true hb
      subst this
      injection h with h
      subst h
      exact .head _
    · exact .tail _ (Origins.mem h)
theorem originsB_spec {l : List Oper} {kds : List ZK} (h : originsB L l kds = true) :
    (∀ t os, L.at t = some os → os ≠ [] ∧ ∃ (i : Nat) (o : Oper), l[i]? = some o ∧ o.dst = some t ∧ (kds.getD i none).isSome = true) ∧
    (∀ (i : Nat) (o : Oper) ts, l[i]? = some o → kds.getD i none = some ts → o.guard = none ∧ ∀ d, o.dst = some d → ∀ l1, L.at d = some l1 → ∀ t ∈ ts, t ∈ o.looksAt l.toArray ∧ ∃ l2, L.at t = some l2 ∧ ∀ x ∈ l2, x ∈ l1) := by
  simp only [originsB, Bool.and_eq_true] at h
  obtain ⟨⟨h1, h2⟩, h3⟩ := h
  refine ⟨fun t os ht => ?_, fun i o ts hi hk => ?_⟩
  · have hm := Origins.mem ht
    refine ⟨?_, ?_⟩
    · have := List.all_eq_true.1 h1 _ hm
      intro e; simp [e] at this
    · have := List.all_eq_true.1 h2 _ hm
      obtain ⟨i, _, hi⟩ := List.any_eq_true.1 this
      split at hi
      · rename_i o ts ho hk
        split at hi
        · rename_i d hd
          have e := Nat.eq_of_beq_eq_true hi
          subst e
          exact ⟨i, o, ho, hd, by rw [hk]; rfl⟩
        · cases hi
      · cases hi
  · have hlt : i < l.length := (List.getElem?_eq_some_iff.1 hi).1
    have := List.all_eq_true.1 h3 i (List.mem_range.2 hlt)
    simp only [hi, hk, Bool.and_eq_true] at this
    obtain ⟨g1, g2⟩ := this
    refine ⟨by simpa using g1, fun d hd l1 hl1 t ht => ?_⟩
    simp only [hd, hl1] at g2
    have g3 := List.all_eq_true.1 g2 t ht
    simp only [Bool.and_eq_true] at g3
    refine ⟨by simpa using g3.1, ?_⟩
    have g4 := g3.2
    split at g4
    · rename_i l2 hl2
      exact ⟨l2, hl2, fun x hx => by simpa using List.all_eq_true.1 g4 x hx⟩
    · cases g4
theorem Origins.apart_spec {t1 t2 : Tmp} (h : L.apart t1 t2 = true) : ∃ l1 l2, L.at t1 = some l1 ∧ L.at t2 = some l2 ∧ ∀ x ∈ l1, x ∉ l2 := by
  unfold Origins.apart at h
  split at h
  · rename_i l1 l2 h1 h2
    exact ⟨l1, l2, h1, h2, disjB_spec.1 h⟩
  · cases h
theorem Origins.apart_of {t1 t2 : Tmp} {l1 l2 : List Nat} (h1 : L.at t1 = some l1) (h2 : L.at t2 = some l2) (h : ∀ x ∈ l1, x ∉ l2) : L.apart t1 t2 = true := by
  unfold Origins.apart
  rw [h1, h2]
  exact disjB_spec.2 h
theorem Origins.apart_symm {t1 t2 : Tmp} (h : L.apart t1 t2 = true) : L.apart t2 t1 = true := by
  obtain ⟨l1, l2, h1, h2, h3⟩ := Origins.apart_spec h
  exact Origins.apart_of h2 h1 fun x hx hx' => h3 x hx' hx
theorem waitsB_spec {md : Region.Mode} {l : List Oper} (h : waitsB md l = true) {i j : Nat} {o o' : Oper} {t : Tmp} (hi : l[i]? = some o) (hj : l[j]? = some o') (hd : o'.dst = some t) (ht : t ∈ o.looksAt l.toArray) : edgeB md l.toArray i j = true := by
  have h1 := List.all_eq_true.1 (List.all_eq_true.1 h i (List.mem_range.2 (List.getElem?_eq_some_iff.1 hi).1)) j (List.mem_range.2 (List.getElem?_eq_some_iff.1 hj).1)
  simp only [hi, hj, hd, Bool.or_eq_true, Bool.not_eq_true'] at h1
  rcases h1 with h1 | h1
  · exfalso
    have : (o.looksAt l.toArray).contains t = true := by simpa using ht
    rw [this] at h1; cases h1
  · exact h1
theorem edgeB_listed {md : Region.Mode} {l : List Oper} {i j : Nat} {o : Oper} {S : Array Bool} (h : edgeB md l.toArray i j = true) (hi : l[i]? = some o) (hr : ∀ e ∈ o.after, Region.binds md e = true → S.getD e.on false = true) : S.getD j false = true := by
  simp only [edgeB, List.getElem?_toArray, hi, List.any_eq_true, Bool.and_eq_true, beq_iff_eq, Array.mem_toList_iff] at h
  obtain ⟨e, he, hb, hon⟩ := h
  rw [← hon]
  exact hr e he hb

theorem put_at {a : Act} {d : Option Tmp} {v : Value} {t : Tmp} (h : d ≠ some t) : (a.put d v).tmps.getD t undef = a.tmps.getD t undef := by
  cases d with
  | none => rfl
  | some d =>
    have : d ≠ t := fun e => h (by rw [e])
    simp [Act.put, Array.getElem?_setIfInBounds_ne this]
theorem put_self {a : Act} {v : Value} {t : Tmp} (h : t < a.tmps.size) : (a.put (some t) v).tmps.getD t undef = v := by
  simp [Act.put, h]

/-- One operation more. -/
theorem ZSt.step {l : List Oper} {kds : List ZK} {F : RF} {Rs : Nat → RP} {S : Array Bool} {a : Act} {w w' : World} {i : Nat} {o : Oper} {v : Value} (h : ZSt l L C n F Rs S a w) (hone : onceB l = true) (hor : originsB L l kds = true) (hw : waitsB .any l = true) (hF : F.Mono) (hRs : ∀ i, (Rs i).Mono ∨ l[i]? = none)
    (hi : l[i]? = some o) (hdn : ∀ d, o.dst = some d → d < n) (hS : i < S.size) (hr : ∀ e ∈ o.after, Region.binds .any e = true → S.getD e.on false = true) (hu : S.getD i false = false)
    (hC : C w') (hb : Below w.heap.size w w') (hv : Rs i w' v) (hk : (kds.getD i none).ok a w w' v) : ZSt l L C n F Rs (S.setIfInBounds i true) (a.put o.dst v) w' := by
  obtain ⟨or1, or2⟩ := originsB_spec hor
  have hmono : ∀ {j : Nat} {o' : Oper}, l[j]? = some o' → (Rs j).Mono := fun {j o'} hj => by
    rcases hRs j with h1 | h1
    · exact h1
    · rw [hj] at h1; cases h1
  have hset : ∀ {j : Nat}, (S.setIfInBounds i true).getD j false = true → j ≠ i → S.getD j false = true := fun {j} hj hne => by
    rwa [getD_set_ne false (fun e => hne e.symm)] at hj
  have hseti : (S.setIfInBounds i true).getD i false = true := by simp [hS]
  -- which operation writes a slot
  have who : ∀ {t : Tmp} {j : Nat} {o' : Oper}, l[j]? = some o' → o'.dst = some t → o.dst = some t → j = i := fun {t j o'} hj hd hd' => onceB_inj hone hj hi hd hd'
  -- slots that the operation looks at
  have hlook : ∀ {t : Tmp} {os : List Nat}, t ∈ o.looksAt l.toArray → L.at t = some os → ∃ (j : Nat) (o' : Oper), l[j]? = some o' ∧ o'.dst = some t ∧ S.getD j false = true := fun {t os} ht hos => by
    obtain ⟨_, j, o', hj, hd, _⟩ := or1 t os hos
    exact ⟨j, o', hj, hd, edgeB_listed (waitsB_spec hw hi hj hd ht) hi hr⟩
  -- what the new value tells of blocks
  have hnew : ∀ {d : Tmp} {l1 : List Nat}, o.dst = some d → L.at d = some l1 → ∀ k, inV k v → (w.heap.size ≤ k ∧ k < w'.heap.size) ∨ ∃ t l2, t ∈ o.looksAt l.toArray ∧ L.at t = some l2 ∧ (∀ x ∈ l2, x ∈ l1) ∧ inV k (a.tmps.getD t undef) := fun {d l1} hd hl1 k hkv => by
    obtain ⟨_, j, o', hj, hd', hks⟩ := or1 d l1 hl1
    have hji := who hj hd' hd
    subst hji
    cases hkd : kds.getD j none with
    | none => rw [hkd] at hks; cases hks
    | some ts =>
      rw [hkd] at hk
      rcases hk k hkv with h1 | ⟨t, ht, h2⟩
      · exact .inl h1
      · right
        obtain ⟨h3, l2, h4, h5⟩ := (or2 j o ts hi hkd).2 d hd l1 hl1 t ht
        exact ⟨t, l2, h3, h4, h5, h2⟩
  have hbound : ∀ {t : Tmp} {j : Nat} {o' : Oper}, l[j]? = some o' → o'.dst = some t → (S.setIfInBounds i true).getD j false = true → (L.at t).isSome = true → ∀ k, inV k ((a.put o.dst v).tmps.getD t undef) → k < w'.heap.size := fun {t j o'} hj hd hl hsome k hkv => by
    by_cases e : o.dst = some t
    · have hlt := hdn t e
      rw [e, put_self (by rw [h.size]; exact hlt)] at hkv
      obtain ⟨l1, hl1⟩ := Option.isSome_iff_exists.1 hsome
      rcases hnew e hl1 k hkv with h1 | ⟨t', l2, h2, h3, _, h5⟩
      · exact h1.2
      · obtain ⟨j', o'', hj', hd', hS'⟩ := hlook h2 h3
        have := h.bound t' j' o'' hj' hd' hS' (by rw [h3]; rfl) k h5
        have := hb.size
        omega
    · rw [put_at e] at hkv
      have hji : j ≠ i := fun e' => e (by subst e'; rw [hi] at hj; injection hj with hj; rw [hj]; exact hd)
      have := h.bound t j o' hj hd (hset hl hji) hsome k hkv
      have := hb.size
      omega
  -- two slots: one of them is the new one
  have hap : ∀ {t1 t2 : Tmp}, o.dst = some t1 → (∃ (j : Nat) (o' : Oper), l[j]? = some o' ∧ o'.dst = some t2 ∧ (S.setIfInBounds i true).getD j false = true) → L.apart t1 t2 = true → ∀ k, inV k ((a.put o.dst v).tmps.getD t1 undef) → ¬ inV k ((a.put o.dst v).tmps.getD t2 undef) := by
    rintro t1 t2 e1 ⟨j, o', hj, hd2, hl2⟩ hh k hk1 hk2
    obtain ⟨l1, l2, a1, a2, a3⟩ := Origins.apart_spec hh
    have hlt := hdn t1 e1
    rw [e1, put_self (by rw [h.size]; exact hlt)] at hk1
    by_cases e2 : o.dst = some t2
    · rw [e1] at e2
      injection e2 with e2
      subst e2
      rw [a1] at a2
      injection a2 with a2
      subst a2
      obtain ⟨hne, _⟩ := or1 t1 l1 a1
      obtain ⟨x, hx⟩ := List.exists_mem_of_ne_nil _ hne
      exact a3 x hx hx
    · rw [put_at e2] at hk2
      have hji : j ≠ i := fun e' => e2 (by subst e'; rw [hi] at hj; injection hj with hj; rw [hj]; exact hd2)
      have hl2' := hset hl2 hji
      rcases hnew e1 a1 k hk1 with h1 | ⟨t', l3, h2, h3, h4, h5⟩
      · have := h.bound t2 j o' hj hd2 hl2' (by rw [a2]; rfl) k hk2
        omega
      · exact h.apart t' t2 (hlook h2 h3) ⟨j, o', hj, hd2, hl2'⟩ (Origins.apart_of h3 a2 fun x hx => a3 x (h4 x hx)) k h5 hk2
  refine ⟨?_, ?_, hC, ?_, ?_, ?_, fun t j o' hj hd hl hs => hbound hj hd hl hs⟩
  · cases o.dst <;> exact h.defers
  · cases hd : o.dst with
    | none => exact h.size
    | some d => simp [Act.put, h.size]
  · intro t ht j o' hj hd hl
    by_cases e : o.dst = some t
    · have hji := who hj hd e
      subst hji
      rw [e, put_self (by rw [h.size]; exact ht)]
      exact hv
    · rw [put_at e]
      have hji : j ≠ i := fun e' => e (by subst e'; rw [hi] at hj; injection hj with hj; rw [hj]; exact hd)
      exact hmono hj _ _ _ hb (h.done t ht j o' hj hd (hset hl hji))
  · intro t ht hno
    have e : o.dst ≠ some t := fun e => by have := hno i o hi e; rw [hseti] at this; cases this
    rw [put_at e]
    refine hF t _ _ _ hb (h.rest t ht fun j o' hj hd => ?_)
    have hji : j ≠ i := fun e' => e (by subst e'; rw [hi] at hj; injection hj with hj; rw [hj]; exact hd)
    have := hno j o' hj hd
    rwa [getD_set_ne false (fun e => hji e.symm)] at this
  · intro t1 t2 d1 d2 hh k hk1
    by_cases e1 : o.dst = some t1
    · exact hap e1 d2 hh k hk1
    · by_cases e2 : o.dst = some t2
      · intro hk2
        exact hap e2 d1 (Origins.apart_symm hh) k hk2 hk1
      · rw [put_at e1] at hk1
        rw [put_at e2]
        obtain ⟨j1, o1, q1, q2, q3⟩ := d1
        obtain ⟨j2, o2, r1, r2, r3⟩ := d2
        have n1 : j1 ≠ i := fun e' => e1 (by subst e'; rw [hi] at q1; injection q1 with q1; rw [q1]; exact q2)
        have n2 : j2 ≠ i := fun e' => e2 (by subst e'; rw [hi] at r1; injection r1 with r1; rw [r1]; exact r2)
        exact h.apart t1 t2 ⟨j1, o1, q1, q2, hset q3 n1⟩ ⟨j2, o2, r1, r2, hset r3 n2⟩ hh k hk1

def zOK (L : Origins) (kds : List ZK) (p : List Oper) (n : Nat) : Bool :=
  onceB p && originsB L p kds && waitsB .any p && (p.all fun o => match o.dst with | some d => Nat.blt d n | none => true) && looksB p.toArray n

theorem wpAny_Z {Q : Exit → Act → World → Prop} {p t : List Oper} {kds : List ZK} {F : RF} {QF : RF → Prop} {a : Act} {w : World} (hB : tailB .any (p ++ t).toArray 0 p.length = true) (hg : guardsB (p ++ t).toArray p.length = true) (ht : t ≠ [])
    (hz : zOK L kds p n = true) (hF : F.Mono) (hfr : FrR n F a w) (hC : C w)
    (hQ : ∀ F' a w, FrR n F' a w → C w → GA L (fun _ => True) a → QF F' → wpList P (p ++ t).toArray Q t a w) (h : AZ P p.toArray C L QF p kds F) :
    wpAny P .any (p ++ t).toArray Q (p.length + t.length) (Array.replicate p.length false ++ Array.replicate t.length false) a w := by
  simp only [zOK, Bool.and_eq_true] at hz
  obtain ⟨⟨⟨⟨z1, z2⟩, z3⟩, z4⟩, z5⟩ := hz
  obtain ⟨hlen, Rs, hobl, hend⟩ := az_data h
  have hb : backB .any (p ++ t).toArray = true := by
    simp only [tailB, Bool.and_eq_true] at hB
    exact hB.1.1
  have hdn : ∀ {i : Nat} {o : Oper}, p[i]? = some o → ∀ d, o.dst = some d → d < n := fun {i o} hi d hd => by
    have := List.all_eq_true.1 z4 o (List.mem_of_getElem? hi)
    simp only [hd] at this
    simpa [Nat.blt_eq] using this
  obtain ⟨or1, _⟩ := originsB_spec z2
  have hmono : ∀ i, (Rs i).Mono ∨ p[i]? = none := fun i => by
    cases hi : p[i]? with
    | none => exact .inr rfl
    | some o => exact .inl (hobl i o hi).1
  refine wpAny_St (St := ZSt p L C n F Rs) hB hg ht (fun listed a w hs hall hst => ?_) (fun listed a w i K hs hst hi hK => ?_) p.length _ a w (by simp) (by simp) (fun j o hj => by
    exfalso
    by_cases hjm : j < p.length <;> simp [hjm] at hj) ?_
  · have hfup : ∀ t, t < n → Fup F Rs p t w (a.tmps.getD t undef) := fun t ht => by
      by_cases hex : ∃ (i : Nat) (o : Oper), p[i]? = some o ∧ o.dst = some t
      · obtain ⟨i, o, hi, hd⟩ := hex
        rw [(fup_at (F := F) z1).1 i o hi hd]
        exact hst.done t ht i o hi hd (hall i (List.getElem?_eq_some_iff.1 hi).1)
      · have hno : ∀ (i : Nat) (o : Oper), p[i]? = some o → o.dst ≠ some t := fun i o hi hd => hex ⟨i, o, hi, hd⟩
        rw [(fup_at (F := F) z1).2 hno]
        exact hst.rest t ht fun i o hi hd => absurd hd (hno i o hi)
    refine hQ _ a w ⟨hst.defers, hst.size, hfup⟩ hst.c (fun t1 t2 _ _ hh => ?_) hend
    obtain ⟨l1, l2, a1, a2, _⟩ := Origins.apart_spec hh
    obtain ⟨_, j1, o1, q1, q2, _⟩ := or1 t1 l1 a1
    obtain ⟨_, j2, o2, r1, r2, _⟩ := or1 t2 l2 a2
    exact hst.apart t1 t2 ⟨j1, o1, q1, q2, hall j1 (List.getElem?_eq_some_iff.1 q1).1⟩ ⟨j2, o2, r1, r2, hall j2 (List.getElem?_eq_some_iff.1 r1).1⟩ hh
  · obtain ⟨hu, o, ho, hr⟩ := mem_ready.1 hi
    have ho' : p[i]? = some o := by simpa using ho
    have hil : i < p.length := (List.getElem?_eq_some_iff.1 ho').1
    have hu' : listed.getD i false = false := by rwa [getD_ft (by rw [hs]; exact hil)] at hu
    -- what the operation looks at
    have hlk : ∀ u ∈ o.looksAt p.toArray, Fup F Rs (p.take i) u w (a.tmps.getD u undef) := fun u htl => by
      have htn : u < n := looksB_spec z5 ho u htl
      by_cases hex : ∃ (j : Nat) (o' : Oper), p[j]? = some o' ∧ o'.dst = some u
      · obtain ⟨j, o', hj, hd⟩ := hex
        have hed := waitsB_spec z3 ho' hj hd htl
        have hlt : j < i := by
          simp only [edgeB, ho, List.any_eq_true, Bool.and_eq_true, beq_iff_eq, Array.mem_toList_iff] at hed
          obtain ⟨e, he, hbe, hon⟩ := hed
          have : (p ++ t).toArray[i]? = some o := by
            rw [List.getElem?_toArray, List.getElem?_append_left hil]; exact ho'
          have := backB_spec hb this e he hbe
          omega
        rw [(fup_at (F := F) (onceB_take i z1)).1 j o' (by rw [List.getElem?_take, if_pos hlt]; exact hj) hd]
        exact hst.done u htn j o' hj hd (edgeB_listed hed ho' hr)
      · have hno : ∀ (j : Nat) (o' : Oper), p[j]? = some o' → o'.dst ≠ some u := fun j o' hj hd => hex ⟨j, o', hj, hd⟩
        rw [(fup_at (F := F) (onceB_take i z1)).2 fun j o' hj => hno j o' (by rw [List.getElem?_take] at hj; split at hj; exact hj; cases hj)]
        exact hst.rest u htn fun j o' hj hd => absurd hd (hno j o' hj)
    have hga : GA L (· ∈ o.looksAt p.toArray) a := fun t1 t2 m1 m2 hh => by
      obtain ⟨l1, l2, a1, a2, _⟩ := Origins.apart_spec hh
      obtain ⟨_, j1, o1, q1, q2, _⟩ := or1 t1 l1 a1
      obtain ⟨_, j2, o2, r1, r2, _⟩ := or1 t2 l2 a2
      exact hst.apart t1 t2 ⟨j1, o1, q1, q2, edgeB_listed (waitsB_spec z3 ho' q1 q2 m1) ho' hr⟩ ⟨j2, o2, r1, r2, edgeB_listed (waitsB_spec z3 ho' r1 r2 m2) ho' hr⟩ hh
    have hob := (hobl i o ho').2 a w hst.c hlk hga
    have hstep := fun {w' : World} {v : Value} => ZSt.step (w' := w') (v := v) hst z1 z2 z3 hF hmono ho' (hdn ho') (by rw [hs]; exact hil) hr hu'
    unfold wpOp
    simp only [ho]
    split
    · rename_i hw
      rw [if_pos hw] at hob
      exact .inl (hob.wp fun v w' ⟨h1, h2, h3, h4⟩ => hK _ _ (hstep h1 h2 h3 h4))
    · rename_i hw
      rw [if_neg hw] at hob
      refine hK _ _ (hstep hst.c (Below.refl _ _) hob.2 ?_)
      rw [hob.1]
      trivial
  · refine ⟨hfr.1, hfr.2.1, hC, fun t _ i o _ _ hl => ?_, fun t ht _ => hfr.2.2 t ht, fun t1 t2 d1 => ?_, fun t i o _ _ hl => ?_⟩
    · exfalso
      by_cases hjm : i < p.length <;> simp [hjm] at hl
    · exfalso
      obtain ⟨j, o, _, _, hl⟩ := d1
      by_cases hjm : j < p.length <;> simp [hjm] at hl
    · exfalso
      by_cases hjm : i < p.length <;> simp [hjm] at hl
end
end Go.Vx

namespace Go.Vx
open Go.RowKit
/-- A value without an address. -/
def noBlk : Value → Bool
  | .slice .. | .pointer _ => false
  | _ => true
theorem noBlk_not {k : Nat} {v : Value} (h : noBlk v = true) : ¬ inV0 k v := by
  cases v <;> first | (cases h; done) | exact fun h => h
theorem inV_agg1 {k : Nat} {x : Value} {rest : List Value} (hr : rest.all noBlk = true) (h : inV k (.agg (x :: rest).toArray)) : inV0 k x := by
  obtain ⟨c, hc, h⟩ := h
  rcases List.mem_cons.1 (by simpa using hc) with rfl | hc
  · exact h
  · exact absurd h (noBlk_not (List.all_eq_true.1 hr c hc))
theorem inV_agg1' {k : Nat} {x : Value} {rest : List Value} (h : inV0 k x) : inV k (.agg (x :: rest).toArray) := ⟨x, by simp, h⟩
theorem inV_agg2 {k : Nat} {x y : Value} (h : inV k (.agg #[x, y])) : inV0 k x ∨ inV0 k y := by
  obtain ⟨c, hc, h⟩ := h
  simp only [List.mem_cons, List.not_mem_nil, or_false] at hc
  rcases hc with rfl | rfl
  · exact .inl h
  · exact .inr h
theorem inV_agg2l {k : Nat} {x y : Value} (h : inV0 k x) : inV k (.agg #[x, y]) := ⟨x, .head _, h⟩
theorem inV_agg2r {k : Nat} {x y : Value} (h : inV0 k y) : inV k (.agg #[x, y]) := ⟨y, .tail _ (.head _), h⟩
/-- A value of one cell without an address. -/
def noBlk1 : Value → Bool
  | .slice .. | .pointer _ | .agg _ | .tuple _ => false
  | _ => true
theorem noBlk1_not {k : Nat} {v : Value} (h : noBlk1 v = true) : ¬ inV1 k v := by
  cases v <;> first | (cases h; done) | exact fun h => h
theorem inV_tup1 {k : Nat} {x : Value} {rest : List Value} (hr : rest.all noBlk1 = true) (h : inV k (.tuple (x :: rest).toArray)) : inV1 k x := by
  obtain ⟨c, hc, h⟩ := h
  rcases List.mem_cons.1 (by simpa using hc) with rfl | hc
  · exact h
  · exact absurd h (noBlk1_not (List.all_eq_true.1 hr c hc))
theorem inV_tup1' {k : Nat} {x : Value} {rest : List Value} (h : inV1 k x) : inV k (.tuple (x :: rest).toArray) := ⟨x, by simp, h⟩
theorem inV_tup2 {k : Nat} {cs : List Value} {y : Value} {rest : List Value} (hx : cs.all noBlk = true) (hr : rest.all noBlk1 = true) (h : inV k (.tuple (.agg cs.toArray :: y :: rest).toArray)) : inV1 k y := by
  obtain ⟨c, hc, h⟩ := h
  rw [List.toList_toArray] at hc
  rcases List.mem_cons.1 hc with rfl | hc
  · obtain ⟨d, hd, h⟩ := h
    exact absurd h (noBlk_not (List.all_eq_true.1 hx d (by simpa using hd)))
  · rcases List.mem_cons.1 hc with rfl | hc
    · exact h
    · exact absurd h (noBlk1_not (List.all_eq_true.1 hr c hc))
theorem inV_tup2' {k : Nat} {x y : Value} {rest : List Value} (h : inV1 k y) : inV k (.tuple (x :: y :: rest).toArray) := ⟨y, by simp, h⟩
theorem mem1 {α : Type} {f g : α} (h : f ∈ [g]) : f = g := List.mem_singleton.1 h
theorem mem2 {α : Type} {f g g' : α} (h : f ∈ [g, g']) : f = g ∨ f = g' := by
  simpa using h
section
variable {P : Program} {ops : Array Oper} {o : Oper} {rest : List Oper} {kds : List ZK} {F : Frm} {w0 : World} {old : Nat → Prop} {H : List HFact} {n B : Nat} {c : Bool} {X : XF} {L : Origins} {Q : Exit → Act → World → Prop}
def JZ (P : Program) (n : Nat) (w0 : World) (old : Nat → Prop) (B : Nat) (ops : Array Oper) (L : Origins) (l : List Oper) (kds : List ZK) (F : Frm) (X : XF) (H : List HFact) (Q : Exit → Act → World → Prop) : Prop :=
  AZ P ops (CX w0 old B H) L (fun F' => ∀ a' w', FrR n F' a' w' → CX w0 old B H w' → GA L (fun _ => True) a' → Q .normal a' w') l kds (liftX B X F)

/-- An operation of which nothing new comes. -/
theorem jz_op {d : Nat} {V : Value} (hd : o.dst = some d) (hg : GOp F ops o c) (hv : VOp P ops w0 old o F H c V)
    (k : JZ P n w0 old B ops L rest kds ((d, c, V) :: F) X H Q) : JZ P n w0 old B ops L (o :: rest) (none :: kds) F X H Q := by
  refine ⟨fun _ v => En v (c, V), ⟨fun _ _ _ _ h => h, fun a w hC ha _ => ?_⟩, ?_⟩
  · have hl := liftX_looks ha
    have hw := hg.wanted hl
    cases c with
    | true =>
      rw [if_pos hw]
      exact (hv a w hl hC.1 rfl).mono fun v w' ⟨h1, h2⟩ => ⟨hC.grow h1, h1, ⟨fun _ => h2, fun h => (by cases h)⟩, trivial⟩
    | false =>
      rw [if_neg (by rw [hw]; exact Bool.false_ne_true)]
      exact ⟨rfl, fun h => (by cases h), fun _ => rfl⟩
  · rw [hd, ← liftX_cons]
    exact k
/-- An operation that makes something new. -/
theorem jz_x {σ : Type} {V : σ → Value} {K : σ → List HFact} {d : Nat} (hd : o.dst = some d) (hg : o.guard = none) (hF : Frm.get F d = none) (hx : XOp P ops w0 old o F H V K) (hV : ∀ s k, inV k (V s) → ∃ f ∈ K s, f.foot = some k)
    (k : JZ P n w0 old B ops L rest kds F ((d, ⟨σ, V, K⟩) :: X) H Q) : JZ P n w0 old B ops L (o :: rest) (some [] :: kds) F X H Q := by
  refine ⟨XR B ⟨σ, V, K⟩, ⟨XR.mono _ _, fun a w hC ha _ => ?_⟩, ?_⟩
  · have hl := liftX_looks ha
    rw [if_pos (by simp [Region.wanted, hg])]
    refine (hx a w hl hC.1).mono fun v w' ⟨h1, s, h2, h3⟩ => ⟨hC.grow h1, h1, ⟨s, h2, h3.toB hC.2.1⟩, fun k hk => .inl ?_⟩
    obtain ⟨f, hf, hfk⟩ := hV s k ((ab_inV h2).1 hk)
    exact ⟨(h3.1 f hf).2 k hfk, HFact.foot_lt (h3.1 f hf).1 k hfk⟩
  · rw [hd, ← liftX_consX _ _ _ _ _ hF]
    exact k
theorem looks_open {a : Act} {t : Nat} {V : Value} (hl : Looks ops o F a) (h : Ab (a.tmps.getD t undef) V) : Looks ops o ((t, true, V) :: F) a := fun u hu e he => by
  simp only [Frm.get] at he
  split at he
  · rename_i hb
    have := Nat.eq_of_beq_eq_true hb
    subst this
    injection he with he
    subst he
    exact ⟨fun _ => h, fun h => (by cases h)⟩
  · exact hl u hu e he
/-- A plain value that an operation makes of something new. -/
theorem jz_v1 {d t : Nat} {σ0 : Type} {V0 : σ0 → Value} {K0 : σ0 → List HFact} {V : Value} (hd : o.dst = some d) (hg : o.guard = none) (hB : w0.heap.size ≤ B) (hX : XF.get X t = some ⟨σ0, V0, K0⟩) (hFt : Frm.get F t = none) (ht : (o.looksAt ops).contains t = true)
    (hv : ∀ s, VOp P ops w0 old o ((t, true, V0 s) :: F) (K0 s ++ H) true V)
    (k : JZ P n w0 old B ops L rest kds ((d, true, V) :: F) X H Q) : JZ P n w0 old B ops L (o :: rest) (none :: kds) F X H Q := by
  refine ⟨fun _ v => En v (true, V), ⟨fun _ _ _ _ h => h, fun a w hC ha _ => ?_⟩, ?_⟩
  · have hl := liftX_looks ha
    rw [if_pos (by simp [Region.wanted, hg])]
    have h0 := ha t (by simpa using ht)
    simp only [liftX, hFt, hX] at h0
    obtain ⟨s, h1, h2⟩ := h0
    exact (hv s a w (looks_open hl h1) (hC.join hB h2) rfl).mono fun v w' ⟨h3, h4⟩ => ⟨hC.grow h3, h3, ⟨fun _ => h4, fun h => (by cases h)⟩, trivial⟩
  · rw [hd, ← liftX_cons]
    exact k
/-- What an operation makes of something new, without anything newer. -/
theorem jz_xv {d t : Nat} {σ0 : Type} {V0 : σ0 → Value} {K0 : σ0 → List HFact} {V : σ0 → Value} (hd : o.dst = some d) (hg : o.guard = none) (hF : Frm.get F d = none) (hB : w0.heap.size ≤ B) (hX : XF.get X t = some ⟨σ0, V0, K0⟩) (hFt : Frm.get F t = none) (ht : (o.looksAt ops).contains t = true)
    (hv : ∀ s, VOp P ops w0 old o ((t, true, V0 s) :: F) (K0 s ++ H) true (V s)) (hV : ∀ s k, inV k (V s) → inV k (V0 s))
    (k : JZ P n w0 old B ops L rest kds F ((d, ⟨σ0, V, K0⟩) :: X) H Q) : JZ P n w0 old B ops L (o :: rest) (some [t] :: kds) F X H Q := by
  refine ⟨XR B ⟨σ0, V, K0⟩, ⟨XR.mono _ _, fun a w hC ha _ => ?_⟩, ?_⟩
  · have hl := liftX_looks ha
    rw [if_pos (by simp [Region.wanted, hg])]
    have h0 := ha t (by simpa using ht)
    simp only [liftX, hFt, hX] at h0
    obtain ⟨s, h1, h2⟩ := h0
    exact (hv s a w (looks_open hl h1) (hC.join hB h2) rfl).mono fun v w' ⟨h3, h4⟩ => ⟨hC.grow h3, h3, ⟨s, h4, h2.mono h3⟩, fun k hk => .inr ⟨t, .head _, (ab_inV h1).2 (hV s k ((ab_inV h4).1 hk))⟩⟩
  · rw [hd, ← liftX_consX _ _ _ _ _ hF]
    exact k
theorem FreshB.app {w : World} {K1 K2 : List HFact} {v1 v2 V1 V2 : Value} (h1 : FreshB B w K1) (h2 : FreshB B w K2) (a1 : Ab v1 V1) (a2 : Ab v2 V2) (i1 : ∀ f ∈ K1, ∀ k, f.foot = some k → inV k V1) (i2 : ∀ f ∈ K2, ∀ k, f.foot = some k → inV k V2)
    (hap : ∀ k, inV k v1 → ¬ inV k v2) : FreshB B w (K1 ++ K2) := by
  refine ⟨fun f hf => ?_, List.pairwise_append.2 ⟨h1.2, h2.2, fun f hf g hg _ k hk hk' => hap k ((ab_inV a1).2 (i1 f hf k hk)) ((ab_inV a2).2 (i2 g hg k hk'))⟩⟩
  rcases List.mem_append.1 hf with hf | hf
  · exact h1.1 f hf
  · exact h2.1 f hf
/-- What an operation makes of two new things that are apart. -/
theorem jz_xv2 {d t1 t2 : Nat} {σ1 σ2 : Type} {V1 : σ1 → Value} {K1 : σ1 → List HFact} {V2 : σ2 → Value} {K2 : σ2 → List HFact} {V : σ1 → σ2 → Value} (hd : o.dst = some d) (hg : o.guard = none) (hF : Frm.get F d = none) (hB : w0.heap.size ≤ B) (hX1 : XF.get X t1 = some ⟨σ1, V1, K1⟩) (hX2 : XF.get X t2 = some ⟨σ2, V2, K2⟩) (hF1 : Frm.get F t1 = none) (hF2 : Frm.get F t2 = none)
    (ht1 : (o.looksAt ops).contains t1 = true) (ht2 : (o.looksAt ops).contains t2 = true) (hap : L.apart t1 t2 = true) (i1 : ∀ s, ∀ f ∈ K1 s, ∀ k, f.foot = some k → inV k (V1 s)) (i2 : ∀ s, ∀ f ∈ K2 s, ∀ k, f.foot = some k → inV k (V2 s))
    (hv : ∀ s1 s2, VOp P ops w0 old o ((t2, true, V2 s2) :: (t1, true, V1 s1) :: F) ((K1 s1 ++ K2 s2) ++ H) true (V s1 s2)) (hV : ∀ s1 s2 k, inV k (V s1 s2) → inV k (V1 s1) ∨ inV k (V2 s2))
    (k : JZ P n w0 old B ops L rest kds F ((d, ⟨σ1 × σ2, fun s => V s.1 s.2, fun s => K1 s.1 ++ K2 s.2⟩) :: X) H Q) : JZ P n w0 old B ops L (o :: rest) (some [t1, t2] :: kds) F X H Q := by
  refine ⟨XR B ⟨σ1 × σ2, fun s => V s.1 s.2, fun s => K1 s.1 ++ K2 s.2⟩, ⟨XR.mono _ _, fun a w hC ha hga => ?_⟩, ?_⟩
  · have hl := liftX_looks ha
    rw [if_pos (by simp [Region.wanted, hg])]
    have m1 : t1 ∈ o.looksAt ops := by simpa using ht1
    have m2 : t2 ∈ o.looksAt ops := by simpa using ht2
    have h0 := ha t1 m1
    have g0 := ha t2 m2
    simp only [liftX, hF1, hX1] at h0
    simp only [liftX, hF2, hX2] at g0
    obtain ⟨s1, h1, h2⟩ := h0
    obtain ⟨s2, g1, g2⟩ := g0
    have hfr := FreshB.app h2 g2 h1 g1 (i1 s1) (i2 s2) (hga t1 t2 m1 m2 hap)
    exact (hv s1 s2 a w (looks_open (looks_open hl h1) g1) (hC.join hB hfr) rfl).mono fun v w' ⟨h3, h4⟩ => ⟨hC.grow h3, h3, ⟨(s1, s2), h4, hfr.mono h3⟩, fun k hk => .inr (by
      rcases hV s1 s2 k ((ab_inV h4).1 hk) with h5 | h5
      · exact ⟨t1, .head _, (ab_inV h1).2 h5⟩
      · exact ⟨t2, .tail _ (.head _), (ab_inV g1).2 h5⟩)⟩
  · rw [hd, ← liftX_consX _ _ _ _ _ hF]
    exact k
/-- A new block, of an operation of such a region. -/
theorem x_alloc {T : TypeId} {z : Value} {Zs : List Value} (ho : o.op = .alloc T) (hz : (P.info? T).map (·.zero) = some (some z)) (hZ : canL z.cells.toList = some Zs) :
    XOp P ops w0 old o F H (fun b : Nat => .pointer (some ⟨b, 0, none⟩)) (fun b => [.box b T Zs]) := by
  intro a w _ _
  have hr : OpV P o a w (fun v w' => v = .pointer (some ⟨w.heap.size, 0, none⟩) ∧ w' = w.alloc (.cells z.cells T)) := by
    cases hi : P.info? T with
    | none => simp [hi] at hz
    | some ti =>
      have hzz : ti.zero = some z := by simpa [hi] using hz
      simp only [OpV, execOp, ho, Instr.alloc, zeroValue, typeInfo, newVar, newRow, Sem.run_bind, run_program, hi, hzz, run_newObj, Sem.run_pure, Result.andThen_ok, yieldsUpon]
      refine ⟨?_, ?_⟩ <;> first | trivial | rfl
  refine hr.mono fun v w' ⟨e1, e2⟩ => ?_
  subst e1 e2
  refine ⟨(Below.refl _ _).alloc (Nat.le_refl _) _, w.heap.size, rfl, fresh_one ⟨z.cells, heap_alloc_new w _, canL_flat hZ⟩ fun k hk => ?_⟩
  simp only [HFact.foot, Option.some.injEq] at hk
  omega
/-- At the end one new thing is opened. -/
theorem jz_nil1 {ops' : Array Oper} {l' : List Oper} {d : Nat} {σ0 : Type} {V0 : σ0 → Value} {K0 : σ0 → List HFact} (hb : bnd n ((d, true, .bool true) :: F) = true) (hB : w0.heap.size ≤ B) (hX : XF.get X d = some ⟨σ0, V0, K0⟩) (hFd : Frm.get F d = none)
    (k : ∀ s, JL P n w0 old ops' l' ((d, true, V0 s) :: F) (K0 s ++ H) Q) : JZ P n w0 old B ops L [] [] F X H (fun _ a w => wpList P ops' Q l' a w) := fun a' w' hF hC _ =>
  jx_nil1 (P := P) (ops := ops) (Q := Q) (ops' := ops') (l' := l') hb hB hX hFd k a' w' hF hC
/-- Two new things, apart. -/
theorem jz_nil2 {ops' : Array Oper} {l' : List Oper} {d1 d2 : Nat} {σ1 σ2 : Type} {V1 : σ1 → Value} {K1 : σ1 → List HFact} {V2 : σ2 → Value} {K2 : σ2 → List HFact} (hb : bnd n ((d1, true, .bool true) :: (d2, true, .bool true) :: F) = true) (hB : w0.heap.size ≤ B) (hX1 : XF.get X d1 = some ⟨σ1, V1, K1⟩) (hX2 : XF.get X d2 = some ⟨σ2, V2, K2⟩) (hF1 : Frm.get F d1 = none) (hF2 : Frm.get F d2 = none) (hap : L.apart d1 d2 = true)
    (i1 : ∀ s, ∀ f ∈ K1 s, ∀ k, f.foot = some k → inV k (V1 s)) (i2 : ∀ s, ∀ f ∈ K2 s, ∀ k, f.foot = some k → inV k (V2 s))
    (k : ∀ s1 s2, JL P n w0 old ops' l' ((d1, true, V1 s1) :: (d2, true, V2 s2) :: F) ((K1 s1 ++ K2 s2) ++ H) Q) : JZ P n w0 old B ops L [] [] F X H (fun _ a w => wpList P ops' Q l' a w) := by
  intro a' w' hF hC hga
  simp only [bnd, Bool.and_eq_true] at hb
  have hd1 : d1 < n := by simpa [Nat.blt_eq] using hb.1
  have hd2 : d2 < n := by simpa [Nat.blt_eq] using hb.2.1
  have h0 := hF.2.2 d1 hd1
  have g0 := hF.2.2 d2 hd2
  simp only [liftX, hF1, hX1] at h0
  simp only [liftX, hF2, hX2] at g0
  obtain ⟨s1, h1, h2⟩ := h0
  obtain ⟨s2, g1, g2⟩ := g0
  have hfr := FreshB.app h2 g2 h1 g1 (i1 s1) (i2 s2) (hga d1 d2 trivial trivial hap)
  refine k s1 s2 a' w' ⟨hF.1, hF.2.1, fun t e he => ?_⟩ (hC.join hB hfr)
  simp only [Frm.get] at he
  split at he
  · rename_i hq
    have := Nat.eq_of_beq_eq_true hq
    subst this
    injection he with he
    subst he
    exact ⟨hd1, ⟨fun _ => h1, fun h => (by cases h)⟩⟩
  · split at he
    · rename_i hq
      have := Nat.eq_of_beq_eq_true hq
      subst this
      injection he with he
      subst he
      exact ⟨hd2, ⟨fun _ => g1, fun h => (by cases h)⟩⟩
    · have ht := bnd_spec hb.2.2 he
      have := hF.2.2 t ht
      simp only [liftX, he] at this
      exact ⟨ht, this⟩

/-- A region that draws its order and makes several new things; its last steps come last. -/
theorem j_drawZ {id m : Nat} {l : List Oper} (L : Origins) (kds : List ZK) (hm : P.follows .mixedOrders = true) (hB : (tailB .any l.toArray 0 m && guardsB l.toArray m && Nat.blt m l.length && zOK L kds (l.take m) n) = true)
    (k : ∀ B, w0.heap.size ≤ B → JZ P n w0 old B (l.take m).toArray L (l.take m) kds F [] H (fun _ a w => wpList P l.toArray Q (l.drop m) a w)) : J P n w0 old (.region id l.toArray true) F H Q := by
  intro a w hF hH
  simp only [Bool.and_eq_true] at hB
  obtain ⟨⟨⟨h1, h2⟩, h3⟩, h4⟩ := hB
  have hml : m < l.length := by simpa [Nat.blt_eq] using h3
  have hlen : (l.take m).length = m := by simp; omega
  have hsplit : l.take m ++ l.drop m = l := List.take_append_drop m l
  have k' := k w.heap.size hH.size
  have hC : CX w0 old w.heap.size H { w with drawn := w.drawn + 1 } := ⟨hH.grow ⟨rfl, rfl, rfl, Nat.le_refl _, fun _ _ => rfl⟩, Nat.le_refl _, hH.feet⟩
  refine wp_region_any hm ?_
  have := wpAny_Z (P := P) (Q := Q) (n := n) (L := L) (C := CX w0 old w.heap.size H) (p := l.take m) (t := l.drop m) (kds := kds) (F := liftX w.heap.size [] F) (a := a) (w := { w with drawn := w.drawn + 1 })
    (QF := fun F' => ∀ a' w', FrR n F' a' w' → CX w0 old w.heap.size H w' → GA L (fun _ => True) a' → wpList P l.toArray Q (l.drop m) a' w')
    (by rw [hsplit, hlen]; exact h1) (by rw [hsplit, hlen]; exact h2) (by intro h0; have := congrArg List.length h0; simp at this; omega) h4 (liftX_mono _ _ _) (by rw [liftX_nil]; exact hF.lift) hC
    (fun F' a' w' hfr hC hga hq => by rw [hsplit]; exact hq a' w' hfr hC hga) k'
  rw [hsplit, hlen] at this
  have e1 : m + (l.drop m).length = l.toArray.size := by simp; omega
  have e2 : Array.replicate m false ++ Array.replicate (l.drop m).length false = Array.replicate l.toArray.size false := by
    rw [Array.replicate_append_replicate, e1]
  rw [e1, e2] at this
  exact this
/-- A struct that is built, told cell by cell. -/
theorem v_buildW {T : TypeId} {fs : Array Field} {k : Nat} {parts : List (Nat × Operand)} {z : Array Value} {Zs Vs Ws : List Value} (ho : o.op = .build T parts.toArray) (hT : P.underlying T = some (.struct fs))
    (hz : (P.info? T).map (·.zero) = some (some (.agg z))) (hp : placesOf P T = some (places k)) (hZ : canL z.toList = some Zs) (hk : Nat.beq Zs.length k = true) (hx : evL F c (parts.map (·.2)) Vs) (hV : Vs.all (·.oneCell') = true)
    (hi : (parts.all fun p => Nat.blt p.1 k) = true) (hW : setAll Zs (parts.map (·.1)) Vs = Ws) : VOp P ops w0 old o F H c (.agg Ws.toArray) := hW ▸ v_build ho hT hz hp hZ hk hx hV hi
/-- An operation that makes something new and looks at several new things: these are only read. -/
def PZ (P : Program) (ops : Array Oper) (w0 : World) (old : Nat → Prop) (B : Nat) (o : Oper) (F : Frm) (X : XF) (H : List HFact) {σ : Type} (V : σ → Value) (K : σ → List HFact) : Prop :=
  ∀ a w, Looks ops o F a → (∀ t ∈ o.looksAt ops, ∀ x, XF.get X t = some x → Frm.get F t = none → XR B x w (a.tmps.getD t undef)) → CO w0 old B H w → OpV P o a w (fun v w' => Below w.heap.size w w' ∧ ∃ s, Ab v (V s) ∧ Fresh w w' (K s))
theorem pz_open {σ σ0 : Type} {V : σ → Value} {K : σ → List HFact} {V0 : σ0 → Value} {K0 : σ0 → List HFact} (t : Nat) (hX : XF.get X t = some ⟨σ0, V0, K0⟩) (hFt : Frm.get F t = none) (ht : (o.looksAt ops).contains t = true)
    (k : ∀ s, PZ P ops w0 old B o ((t, true, V0 s) :: F) X ((K0 s).map HFact.toRo ++ H) V K) : PZ P ops w0 old B o F X H V K := by
  intro a w hl hx hC
  obtain ⟨s, h1, h2⟩ := hx t (by simpa using ht) _ hX hFt
  refine k s a w (looks_open hl h1) (fun u hu y hy hF => hx u hu y hy ?_) (hC.join h2)
  simp only [Frm.get] at hF
  split at hF
  · cases hF
  · exact hF
theorem pz_x {σ : Type} {V : σ → Value} {K : σ → List HFact} (h : XOp P ops w0 old o F H V K) : PZ P ops w0 old B o F X H V K := fun a w hl _ hC => h a w hl hC.1
theorem jz_px {σ : Type} {V : σ → Value} {K : σ → List HFact} {d : Nat} (hd : o.dst = some d) (hg : o.guard = none) (hF : Frm.get F d = none) (h : PZ P ops w0 old B o F X H V K) (hV : ∀ s k, inV k (V s) → ∃ f ∈ K s, f.foot = some k)
    (k : JZ P n w0 old B ops L rest kds F ((d, ⟨σ, V, K⟩) :: X) H Q) : JZ P n w0 old B ops L (o :: rest) (some [] :: kds) F X H Q := by
  refine ⟨XR B ⟨σ, V, K⟩, ⟨XR.mono _ _, fun a w hC ha _ => ?_⟩, ?_⟩
  · rw [if_pos (by simp [Region.wanted, hg])]
    refine (h a w (liftX_looks ha) (fun t ht x hx hF => by have := ha t ht; simp only [liftX, hF, hx] at this; exact this) ⟨hC.1, hC.2.1, fun f hf _ => hC.2.2 f hf⟩).mono fun v w' ⟨h1, s, h2, h3⟩ => ⟨hC.grow h1, h1, ⟨s, h2, h3.toB hC.2.1⟩, fun k hk => .inl ?_⟩
    obtain ⟨f, hf, hfk⟩ := hV s k ((ab_inV h2).1 hk)
    exact ⟨(h3.1 f hf).2 k hfk, HFact.foot_lt (h3.1 f hf).1 k hfk⟩
  · rw [hd, ← liftX_consX _ _ _ _ _ hF]
    exact k
end
end Go.Vx

namespace Go.Vx
open Go.RowKit

/-! ### Regions that make several new things, and in which pure steps may come behind a store -/
section
variable {P : Program} {ops : Array Oper} {C : World → Prop} {L : Origins} {md : Region.Mode} {Q : Exit → Act → World → Prop}
/-- The steps from number 'm' on come last, one after another; those in 'fl' need not be over before the first of these, but before the second. -/
def floatB (md : Region.Mode) (ops : Array Oper) (fl : List Nat) (m : Nat) : Bool :=
  backB md ops && ((List.range m).all fun i => fl.contains i || reach md ops ops.size m i) && ((List.range (ops.size - m - 1)).all fun s => edgeB md ops (m + s + 1) (m + s)) &&
  Region.noSelect ops && (fl.all fun i => match ops[i]? with | some oi => (List.range ops.size).all (fun j => (Nat.blt j m && !fl.contains j) || Nat.beq j i || edgeB md ops j i || match ops[j]? with | some oj => oi.apart ops oj | none => true) | none => true)
theorem floatB_spec {md : Region.Mode} {ops : Array Oper} {fl : List Nat} {m : Nat} (h : floatB md ops fl m = true) : backB md ops = true ∧ (∀ j, j < m → j ∉ fl → reach md ops ops.size m j = true) ∧ True ∧ (∀ s, s < ops.size - m - 1 → edgeB md ops (m + s + 1) (m + s) = true) ∧
    (∀ (j : Nat) (o : Oper) cs b, ops[j]? = some o → o.op ≠ .select cs b) ∧ ∀ i ∈ fl, ∀ (j : Nat) (oj oi : Oper), ops[i]? = some oi → ops[j]? = some oj → (m ≤ j ∨ j ∈ fl) → j ≠ i → (∀ e ∈ oj.after, Region.binds md e = true → e.on ≠ i) → oi.apart ops oj = true := by
  simp only [floatB, Bool.and_eq_true] at h
  obtain ⟨⟨⟨⟨h1, h2⟩, h3⟩, h4⟩, h5⟩ := h
  refine ⟨h1, fun j hj hjf => ?_, trivial, fun s hs => List.all_eq_true.1 h3 s (List.mem_range.2 hs), Region.noSelect_spec h4, fun i hi j oj oi hoi hoj hmj hne hno => ?_⟩
  · have := List.all_eq_true.1 h2 j (List.mem_range.2 hj)
    simp only [Bool.or_eq_true] at this
    rcases this with h | h
    · exact absurd (by simpa using h) hjf
    · exact h
  · have h6 := List.all_eq_true.1 h5 i hi
    simp only [hoi] at h6
    have h7 := List.all_eq_true.1 h6 j (List.mem_range.2 (Array.getElem?_eq_some_iff.1 hoj).1)
    simp only [hoj, Bool.or_eq_true] at h7
    rcases h7 with ((h7 | h7) | h7) | h7
    · exfalso
      simp only [Bool.and_eq_true, Nat.blt_eq, Bool.not_eq_true'] at h7
      rcases hmj with hmj | hmj
      · omega
      · have : fl.contains j = true := by simpa using hmj
        rw [this] at h7; cases h7.2
    · exact absurd (Nat.eq_of_beq_eq_true h7) hne
    · exfalso
      simp only [edgeB, hoj, List.any_eq_true, Bool.and_eq_true, beq_iff_eq, Array.mem_toList_iff] at h7
      obtain ⟨e, he, hb, hon⟩ := h7
      exact hno e he hb hon
    · exact h7
/-- The same, where some pure steps may come behind the first one of the last steps. A walk in any order that keeps something of what is listed, and then the last steps. -/
theorem wpAny_StF {p t : List Oper} {fl : List Nat} {St : Array Bool → Act → World → Prop} (hB : floatB md (p ++ t).toArray fl p.length = true) (hg : guardsB (p ++ t).toArray p.length = true) (ht : 1 < t.length)
    (hQ : ∀ listed a w, listed.size = p.length → (∀ j, j < p.length → listed.getD j false = true) → St listed a w → wpList P (p ++ t).toArray Q t a w)
    (hS : ∀ (listed : Array Bool) (a : Act) (w : World) (i : Nat) (K : Act → World → Prop), listed.size = p.length → St listed a w → i ∈ Region.ready md p.toArray listed → (∀ a' w', St (listed.setIfInBounds i true) a' w' → K a' w') → wpOp P p.toArray Q i K a w)
    (hP : ∀ (listed : Array Bool) (a : Act) (w : World) (i : Nat) (o : Oper), listed.size = p.length → St listed a w → i ∈ Region.ready md p.toArray listed → i ∈ fl → p[i]? = some o → ∃ v, (o.guard = none ∧ ∀ w', (execOp a.eval o).run P w' = .ok (.value v) w') ∧ St (listed.setIfInBounds i true) (a.put o.dst v) w)
    (hpan : ∀ c a d v w, Q (.panic c) (a.put d v) w → Q (.panic c) a w) :
    ∀ (fuel : Nat) (listed : Array Bool) (a : Act) (w : World), listed.size = p.length → listed.toList.count false ≤ fuel → Closed md (p ++ t).toArray listed → St listed a w → wpAny P md (p ++ t).toArray Q (fuel + t.length) (listed ++ Array.replicate t.length false) a w := by
  obtain ⟨hb, hr, hfl, hch, hsel, hap⟩ := floatB_spec hB
  have hsz : (p ++ t).toArray.size = p.length + t.length := by simp
  have htl : 0 < t.length := by omega
  have he : ∀ s, p.length + s + 1 < (p ++ t).toArray.size → edgeB md (p ++ t).toArray (p.length + s + 1) (p.length + s) = true := fun s hs => hch s (by omega)
  have hop : ∀ {j : Nat}, j < p.length → (p ++ t).toArray[j]? = p.toArray[j]? := fun {j} hj => by simp [List.getElem?_append_left hj]
  have done : ∀ (fuel : Nat) (listed : Array Bool) (a : Act) (w : World), listed.size = p.length → (∀ j, j < p.length → listed.getD j false = true) → St listed a w → wpAny P md (p ++ t).toArray Q (fuel + t.length) (listed ++ Array.replicate t.length false) a w := by
    intro fuel listed a w hs hall hq
    refine wpAny_tail (m := p.length) hb he t 0 (fuel + t.length) _ a w (fun j => by simp [List.getElem?_append_right]) (by simp) (by omega) ⟨by simp [hs], fun j hj => ?_⟩ (hQ listed a w hs hall hq)
    by_cases hjp : j < p.length
    · rw [getD_app_l (by rw [hs]; exact hjp), hall j hjp]; simp [hjp]
    · rw [getD_app_r (by rw [hs]; omega)]
      have : j - listed.size < t.length := by rw [hs]; omega
      simp [hjp, this]
  have least_free : ∀ (listed : Array Bool), listed.size = p.length → ¬ (∀ j, j < p.length → listed.getD j false = true) → ∃ i, ∃ _ : i < p.length, listed.getD i false = false ∧ ∀ r, r < i → listed.getD r false = true := by
    intro listed hs hn
    have hex : ∃ j, j < p.length ∧ listed.getD j false = false := by
      refine Classical.byContradiction fun hx => hn fun j hj => ?_
      cases hv : listed.getD j false
      · exact absurd ⟨j, hj, hv⟩ hx
      · rfl
    obtain ⟨j0, hj0⟩ := hex
    have least : ∀ q j, j ≤ q → j < p.length → listed.getD j false = false → ∃ i, ∃ _ : i < p.length, listed.getD i false = false ∧ ∀ r, r < i → listed.getD r false = true := by
      intro q
      induction q with
      | zero => intro j hjq hj hv; exact ⟨j, hj, hv, fun r hr => by omega⟩
      | succ q ih =>
        intro j hjq hj hv
        by_cases hx : ∃ r, r < j ∧ listed.getD r false = false
        · obtain ⟨r, hr1, hr2⟩ := hx
          exact ih r (by omega) (by omega) hr2
        · refine ⟨j, hj, hv, fun r hr => ?_⟩
          cases hv' : listed.getD r false
          · exact absurd ⟨r, hr, hv'⟩ hx
          · rfl
    exact least j0 j0 (Nat.le_refl _) hj0.1 hj0.2
  have some_ready : ∀ (listed : Array Bool), listed.size = p.length → ¬ (∀ j, j < p.length → listed.getD j false = true) → Region.ready md p.toArray listed ≠ [] := by
    intro listed hs hn hr0
    have hex : ∃ j, j < p.length ∧ listed.getD j false = false := by
      refine Classical.byContradiction fun hx => hn fun j hj => ?_
      cases hv : listed.getD j false
      · exact absurd ⟨j, hj, hv⟩ hx
      · rfl
    obtain ⟨j0, hj0⟩ := hex
    have least : ∀ q j, j ≤ q → j < p.length → listed.getD j false = false → ∃ i, i < p.length ∧ listed.getD i false = false ∧ ∀ r, r < i → listed.getD r false = true := by
      intro q
      induction q with
      | zero => intro j hjq hj hv; exact ⟨j, hj, hv, fun r hr => by omega⟩
      | succ q ih =>
        intro j hjq hj hv
        by_cases hx : ∃ r, r < j ∧ listed.getD r false = false
        · obtain ⟨r, hr1, hr2⟩ := hx
          exact ih r (by omega) (by omega) hr2
        · refine ⟨j, hj, hv, fun r hr => ?_⟩
          cases hv' : listed.getD r false
          · exact absurd ⟨r, hr, hv'⟩ hx
          · rfl
    obtain ⟨i, hi, hv, hlow⟩ := least j0 j0 (Nat.le_refl _) hj0.1 hj0.2
    have hoi : p.toArray[i]? = some p[i] := by simp [hi]
    have : i ∈ Region.ready md p.toArray listed := mem_ready.2 ⟨by rw [getD_ft (by rw [hs]; exact hi)]; exact hv, _, hoi, fun e he' hb' => hlow _ (backB_spec hb ((hop hi).trans hoi) e he' hb')⟩
    rw [hr0] at this
    cases this
  intro fuel
  induction fuel with
  | zero =>
    intro listed a w hs hc hcl h
    refine done 0 listed a w hs (fun j hj => ?_) h
    have h0 : listed.toList.count false = 0 := by omega
    rw [List.count_eq_zero] at h0
    cases hv : listed.getD j false
    · exfalso
      refine h0 ?_
      have hj' : j < listed.size := by omega
      have : listed[j] = false := by simpa [hj'] using hv
      rw [← this]
      exact Array.mem_toList_iff.2 (Array.getElem_mem hj')
    · rfl
  | succ fuel ih =>
    intro listed a w hs hc hcl h
    by_cases hall : ∀ j, j < p.length → listed.getD j false = true
    · exact done (fuel + 1) listed a w hs hall h
    · by_cases hnf : ∀ j, j < p.length → j ∉ fl → listed.getD j false = true
      · -- a pure step that waits: it is taken first
        obtain ⟨i, hi, hv, hlow⟩ := least_free listed hs hall
        have hif : i ∈ fl := Classical.byContradiction fun h => by rw [hnf i hi h] at hv; cases hv
        have hoi : p[i]? = some p[i] := by simp [hi]
        have hoa : (p ++ t).toArray[i]? = some p[i] := by rw [hop hi]; simp [hi]
        have hL : ∀ {j : Nat} {d : Bool}, j < p.length → (listed ++ Array.replicate t.length false).getD j d = listed.getD j d := fun {j d} hj => getD_app_l (by rw [hs]; exact hj)
        have hin1 : i ∈ Region.ready md p.toArray listed := mem_ready.2 ⟨by rw [getD_ft (by rw [hs]; exact hi)]; exact hv, _, by simp [hi], fun e he' hb' => hlow _ (backB_spec hb hoa e he' hb')⟩
        have hin : i ∈ Region.ready md (p ++ t).toArray (listed ++ Array.replicate t.length false) := mem_ready.2 ⟨by rw [hL hi, getD_ft (by rw [hs]; exact hi)]; exact hv, _, hoa, fun e he' hb' => by
          have := backB_spec hb hoa e he' hb'
          rw [hL (by omega)]; exact hlow _ this⟩
        obtain ⟨v, ⟨hg0, hv1⟩, hst⟩ := hP listed a w i _ hs h hin1 hif hoi
        have hexec : fuel + 1 + t.length = (fuel + t.length) + 1 := by omega
        rw [hexec]
        refine wpAny_first hoa hsel (fun c a w hh => hpan c a _ _ w hh) _ _ a w (fun j oj hj hne hun hno => hap i hif j oj _ hoa hj (by
          by_cases hjp : j < p.length
          · by_cases hjf : j ∈ fl
            · exact .inr hjf
            · exfalso
              rw [hL hjp, getD_ft (by rw [hs]; exact hjp), hnf j hjp hjf] at hun
              cases hun
          · exact .inl (by omega)) hne hno) hin (.inl ⟨by simp [Region.wanted, hg0], hv1⟩) ?_
        have hset : (listed ++ Array.replicate t.length false).setIfInBounds i true = listed.setIfInBounds i true ++ Array.replicate t.length false := Array.setIfInBounds_append_left (by rw [hs]; exact hi)
        rw [hset]
        refine ih (listed.setIfInBounds i true) _ w (by simp [hs]) ?_ ?_ hst
        · have hil : i < listed.toList.length := by simp [hs]; exact hi
          have hvv : listed.toList[i] = false := by
            have hj' : i < listed.size := by omega
            simpa [hj'] using hv
          rw [Array.toList_setIfInBounds, List.count_set hil, hvv]
          have : 0 < listed.toList.count false := List.count_pos_iff.2 (by rw [← hvv]; exact List.getElem_mem hil)
          rw [show (false == false) = true from rfl, show (true == false) = false from rfl, if_pos rfl, if_neg (by decide)]
          omega
        · intro j o hj ho e he' hb'
          by_cases hji : i = j
          · subst hji
            rw [hoa] at ho
            injection ho with ho
            subst ho
            exact getD_set_true (hlow _ (backB_spec hb hoa e he' hb'))
          · rw [getD_set_ne false hji] at hj
            exact getD_set_true (hcl j o hj ho e he' hb')
      have hne := some_ready listed hs hall
      have hL : ∀ {j : Nat} {d : Bool}, j < p.length → (listed ++ Array.replicate t.length false).getD j d = listed.getD j d := fun {j d} hj => getD_app_l (by rw [hs]; exact hj)
      have only : ∀ i, i ∈ Region.ready md (p ++ t).toArray (listed ++ Array.replicate t.length false) → i < p.length ∧ i ∈ Region.ready md p.toArray listed := by
        intro i hi
        obtain ⟨h0, o, ho, hg'⟩ := mem_ready.1 hi
        have his : i < p.length + t.length := by rw [← hsz]; exact (Array.getElem?_eq_some_iff.1 ho).1
        by_cases hip : i < p.length
        · refine ⟨hip, mem_ready.2 ⟨by rw [hL hip] at h0; exact h0, o, by rw [← hop hip]; exact ho, fun e he' hb' => ?_⟩⟩
          have h1 := hg' e he' hb'
          have h2 := backB_spec hb ho e he' hb'
          rwa [hL (by omega)] at h1
        · exfalso
          have hfirst : i = p.length := by
            rcases Nat.eq_or_lt_of_le (Nat.not_lt.1 hip) with e | hgt
            · exact e.symm
            · exfalso
              obtain ⟨q, rfl⟩ : ∃ q, i = p.length + q + 1 := ⟨i - p.length - 1, by omega⟩
              have h2 := he q (by rw [hsz]; omega)
              simp only [edgeB, ho, List.any_eq_true, Bool.and_eq_true, beq_iff_eq, Array.mem_toList_iff] at h2
              obtain ⟨e, he', hb', hon⟩ := h2
              have h3 := hg' e he' hb'
              rw [hon, getD_app_r (by rw [hs]; omega), getD_rep] at h3
              cases h3
          subst hfirst
          refine hnf fun j hj hjf => ?_
          have h2 := hr j hj hjf
          refine reach_listed hcl _ ho (fun e he' hb' => ?_) h2
          have h3 := hg' e he' hb'
          have h4 := backB_spec hb ho e he' hb'
          rwa [hL h4] at h3
      have hexec : fuel + 1 + t.length = (fuel + t.length) + 1 := by omega
      rw [hexec]
      refine ⟨fun hr0 => ?_, fun i hi => ?_⟩
      · exfalso
        refine hne (List.eq_nil_iff_forall_not_mem.2 fun j hj => ?_)
        obtain ⟨h0, o, ho, hg'⟩ := mem_ready.1 hj
        have hjs : j < p.length := by simpa using (Array.getElem?_eq_some_iff.1 ho).1
        have : j ∈ Region.ready md (p ++ t).toArray (listed ++ Array.replicate t.length false) := mem_ready.2 ⟨by rw [hL hjs]; exact h0, o, by rw [hop hjs]; exact ho, fun e he' hb' => by
          have := backB_spec hb ((hop hjs).trans ho) e he' hb'
          rw [hL (by omega)]; exact hg' e he' hb'⟩
        rw [hr0] at this
        cases this
      · obtain ⟨hip, hi1⟩ := only i hi
        have hi0 : listed.getD i false = false := by
          have := (mem_ready.1 hi1).1
          rwa [getD_ft (by rw [hs]; exact hip)] at this
        have h1 := hS listed a w i (wpAny P md (p ++ t).toArray Q (fuel + t.length) ((listed ++ Array.replicate t.length false).setIfInBounds i true)) hs h hi1 (fun a' w' hh => by
          have hset : (listed ++ Array.replicate t.length false).setIfInBounds i true = listed.setIfInBounds i true ++ Array.replicate t.length false := Array.setIfInBounds_append_left (by rw [hs]; exact hip)
          rw [hset]
          refine ih (listed.setIfInBounds i true) a' w' (by simp [hs]) ?_ ?_ hh
          · have hil : i < listed.toList.length := by simp [hs]; exact hip
            have hv : listed.toList[i] = false := by
              have hj' : i < listed.size := by omega
              simpa [hj'] using hi0
            rw [Array.toList_setIfInBounds, List.count_set hil, hv]
            have : 0 < listed.toList.count false := List.count_pos_iff.2 (by rw [← hv]; exact List.getElem_mem hil)
            rw [show (false == false) = true from rfl, show (true == false) = false from rfl, if_pos rfl, if_neg (by decide)]
            omega
          · intro j o hj ho e he' hb'
            by_cases hji : i = j
            · subst hji
              obtain ⟨_, o', ho', hg'⟩ := mem_ready.1 hi1
              rw [hop hip, ho'] at ho
              injection ho with ho
              subst ho
              exact getD_set_true (hg' e he' hb')
            · rw [getD_set_ne false hji] at hj
              exact getD_set_true (hcl j o hj ho e he' hb'))
        unfold wpOp at h1 ⊢
        rw [hop hip]
        cases ho : p.toArray[i]? with
        | none => simp only [ho] at h1 ⊢; exact h1
        | some o =>
          simp only [ho] at h1 ⊢
          have hw : Region.wanted o (yielded (p ++ t).toArray a.tmps) = Region.wanted o (yielded p.toArray a.tmps) := by
            unfold Region.wanted
            cases hgd : o.guard with
            | none => rfl
            | some gw =>
              have h2 := List.all_eq_true.1 hg i (List.mem_range.2 hip)
              simp only [hop hip, ho, hgd, decide_eq_true_eq] at h2
              simp only [yielded, hop h2]
          rw [hw]
          exact h1
end

section
variable {P : Program} {L : Origins} {C : World → Prop} {n : Nat}
/-- A step that looks at its operands alone. -/
def pureB (o : Oper) : Bool := match o.op with
  | .extract _ _ | .move _ | .pick _ _ _ => true
  | _ => false
def pureFl (fl : List Nat) (p : List Oper) : Bool := fl.all fun i => match p[i]? with | some o => o.guard.isNone && pureB o | none => true
theorem pureFl_spec {fl : List Nat} {p : List Oper} (h : pureFl fl p = true) {i : Nat} {o : Oper} (hi : i ∈ fl) (ho : p[i]? = some o) : o.guard = none ∧ pureB o = true := by
  have := List.all_eq_true.1 h i hi
  simp only [ho, Bool.and_eq_true] at this
  exact ⟨by simpa using this.1, this.2⟩
theorem pure_yields {o : Oper} {a : Act} {w : World} {R : Value → World → Prop} (hp : pureB o = true) (h : OpV P o a w R) : ∃ v, (∀ w', (execOp a.eval o).run P w' = .ok (.value v) w') ∧ R v w := by
  cases hop : o.op with
  | extract x i =>
    unfold OpV at h
    simp only [execOp, hop, Instr.extract] at h ⊢
    cases hx : a.eval x with
    | tuple vs =>
      rw [hx] at h
      simp only at h ⊢
      cases hv : vs[i]? with
      | none => simp [hv, yieldsUpon] at h
      | some v => simp [hv, yieldsUpon] at h ⊢; exact h
    | _ => rw [hx] at h; simp [yieldsUpon] at h
  | move x =>
    unfold OpV at h
    simp only [execOp, hop, Sem.run_pure, yieldsUpon] at h ⊢
    exact ⟨_, fun _ => rfl, h⟩
  | pick x y z =>
    unfold OpV at h
    simp only [execOp, hop] at h ⊢
    cases hx : a.eval x with
    | bool b =>
      rw [hx] at h
      simp only [asBool, Sem.run_bind, Sem.run_pure, Result.andThen_ok, yieldsUpon] at h ⊢
      exact ⟨_, fun _ => rfl, h⟩
    | _ => rw [hx] at h; simp [asBool, yieldsUpon] at h
  | _ => simp [pureB, hop] at hp
end

/-- How a panic ends does not hang on the slots. -/
def PanOK (Q : Exit → Act → World → Prop) : Prop := ∀ c a d v w, Q (.panic c) (a.put d v) w → Q (.panic c) a w
theorem panOK_then {K : Act → World → Prop} {Q : Exit → Act → World → Prop} (h : PanOK Q) : PanOK (Exit.then K Q) := h
theorem panOK_in {i : Nat} {Q : Exit → Act → World → Prop} (h : PanOK Q) : PanOK (Exit.inBlock i Q) := h
theorem panOK_body {P : Program} {fn : Func} {R : Ending → World → Prop} : PanOK (bodyPost P fn R) := fun _ _ d _ _ h => by cases d <;> exact h
section
variable {P : Program} {w0 : World} {old : Nat → Prop} {F : Frm} {H : List HFact} {n : Nat} {Q : Exit → Act → World → Prop}
end
end Go.Vx
