/- From a row to a contract: arguments opened, the end shut. Over any program. -/
import Derived.Test.YteddfolpmmimiaaSq
import Derived.ProofKit
import Derived.Lib.SmallJoins
import Derived.Deep.Slices
namespace Go.Vx
open Go.RowKit Go.ChangeShapes Go.WideShapes Go.ChangeAt Go.Joins Go.Deep

/-! ### From a row to a contract: the arguments of a law, opened -/
section
variable {H : Type} {enc : TypeId × Value → H} {P : Program} {w : World} {base : Nat} {spare : Nat → Bool} {held : Bool}

theorem opY {t : TypeId} {fuel : Nat} {cs : List Value} {x : DataW H × List MemPlace} (ht : P.underlying t = some (.int .u8)) (h : DataW.trod enc P w base spare held fuel t cs = some x) :
    ∃ (c : Value) (n : Int), cs = [c] ∧ Flat c (.int .u8 n) ∧ 0 ≤ n ∧ n < 256 := by
  obtain ⟨n, h1, _, h3⟩ := DataW.trod_int ht h
  refine ⟨_, n, h1, rfl, ?_⟩
  have : 0 ≤ n ∧ n ≤ 255 := by simpa [Lit.wf, IntKind.min, IntKind.max, IntKind.signed, IntKind.bits] using h3
  omega

/-- A slice of bytes. -/
theorem opSlY {t e : TypeId} {fuel : Nat} {cs : List Value} {x : DataW H × List MemPlace} (ht : P.underlying t = some (.slice e)) (he : P.underlying e = some (.int .u8)) (hE : P.cellsOf e = 1) (h : DataW.trod enc P w base spare held fuel t cs = some x) :
    ∃ (c : Value) (A : Option Addr) (cap N : Nat) (g : Nat → Nat), cs = [c] ∧ Flat c (.slice A N cap) ∧ (HFact.ro A (tabY N g)).holds w ∧ (∀ j, j < N → g j < 256) ∧ N ≤ maxLen := by
  rcases open_slice ht h with ⟨h1, _⟩ | ⟨a, len, cap, m, n, D, Pl, h1, _, hl, hc, hm, _, hi⟩
  · exact ⟨_, none, 0, 0, fun _ => 0, h1, rfl, fun i V hV => by simp [tabY] at hV, fun j hj => by omega, by simp [maxLen]⟩
  · have hlm : len ≤ m := by rw [hm]; split <;> omega
    have hcell : ∀ i, i < len → ∃ X : Int, w.cell? (a.add i) = some (.int .u8 X) ∧ 0 ≤ X ∧ X < 256 := by
      intro i hil
      obtain ⟨cs', h2, h3⟩ := hi i (by omega)
      rw [hE, Nat.mul_one] at h2
      obtain ⟨_, hcl, hat⟩ := World.cells?_some h2
      obtain ⟨c, X, rfl, h4, h5⟩ := opY he h3
      have h4' : c = .int .u8 X := h4
      subst h4'
      refine ⟨X, ?_, h5⟩
      have := hat 0 (by simp)
      simpa [Addr.add_zero'] using this
    let g : Nat → Nat := fun i => if h : i < len then (Classical.choose (hcell i h)).toNat else 0
    have hg : ∀ i (h : i < len), w.cell? (a.add i) = some (.int .u8 (g i : Int)) ∧ g i < 256 := by
      intro i h
      have : g i = (Classical.choose (hcell i h)).toNat := dif_pos h
      have hs := Classical.choose_spec (hcell i h)
      have e : ((g i : Nat) : Int) = Classical.choose (hcell i h) := by rw [this]; omega
      exact ⟨by rw [e]; exact hs.1, by omega⟩
    refine ⟨_, some a, cap, len, g, h1, rfl, ?_, fun j hj => (hg j hj).2, by omega⟩
    intro i V hV
    have hil : i < len := by
      have := (List.getElem?_eq_some_iff.1 hV).1
      rwa [tabY_length] at this
    rw [tabY_get hil] at hV
    injection hV with hV
    subst hV
    exact ⟨a, _, rfl, (hg i hil).1, rfl⟩

/-- The arguments read behind the call as they did before. -/
theorem trodAll_stays (hl : laidOutB P = true) {w' : World} {sp' : Nat → Bool} (hb : Below w.heap.size w w') : ∀ {ts : List TypeId} {vs : List Value} {ds : List (DataW H)} {ps : List MemPlace}, (∀ t ∈ ts, P.readableRec t = true ∧ t < P.types.size) →
    DataW.TrodAll enc P w 0 (fun _ => true) true ts vs ds ps → (∀ x ∈ ps, x.block < w.heap.size) → (∀ x ∈ ps, sp' x.block = true) → DataW.TrodAll enc P w' 0 sp' true ts vs ds ps
  | [], vs, ds, ps, _, h, _, _ => by
    obtain ⟨rfl, rfl, rfl⟩ := trodAll_nil h
    exact trodAll_mk0
  | t :: ts, vs, ds, ps, ht, h, hlt, hsp => by
    obtain ⟨v, vs', d, ds', p, q, rfl, rfl, rfl, hd, hrest⟩ := trodAll_cons h
    obtain ⟨h1, h2⟩ := ht t (by simp)
    exact trodAll_cons_mk (WideElems.Trod_stays hl h1 h2 hd (fun x hx => hb.same (hlt x (by simp [hx]))) (fun x hx => hsp x (by simp [hx])))
      (trodAll_stays hl hb (fun u hu => ht u (by simp [hu])) hrest (fun x hx => hlt x (by simp [hx])) (fun x hx => hsp x (by simp [hx])))

/-- The end of a law's row: it answered true, and nothing that was there has turned. -/
theorem law_post {f : Func} {s : ChangeSpec} {t : TypeId} {W W' : World} {args : Array Value} {ds : List (DataW H)} {before : List MemPlace} (hl : laidOutB P = true) (hvars : s.vars = []) (hr : f.resultTypes = #[t]) (ht : P.underlying t = some .bool)
    (hread : ∀ u ∈ f.params.toList, P.readableRec u = true ∧ u < P.types.size)
    (hW : DataW.Whole enc P f.params.toList s.vars false W args.toList ds [] before) (hA : DataW.TrodAll enc P W 0 (fun _ => true) true f.params.toList args.toList ds before)
    (h1 : (s.fn H (ds ++ [])).results = [.lit (.bool true)]) (h2 : (s.fn H (ds ++ [])).args = ds) (h3 : (s.fn H (ds ++ [])).vars = []) (hb : Below W.heap.size W W') :
    s.post enc P f false true false false W args (.bool true) W' := by
  have hlt : ∀ p ∈ before, p.block < W.heap.size := fun p hp => hW.lt p hp
  have hargs : ∀ sp : Nat → Bool, (∀ p ∈ before, sp p.block = true) → DataW.TrodAll enc P W' 0 sp true f.params.toList args.toList (s.fn H (ds ++ [])).args before := fun sp hsp => by
    rw [h2]; exact trodAll_stays hl hb hread hA hlt hsp
  have hres : ∀ (b : Nat) (sp : Nat → Bool) (hd : Bool), DataW.TrodAll enc P W' b sp hd f.resultTypes.toList ((Value.bool true).resultList f.resultTypes.size) (s.fn H (ds ++ [])).results [] := fun b sp hd => by
    rw [h1, hr]; exact trodAll_mk1 (shut_bool ht true)
  have hv : ∀ sp : Nat → Bool, DataW.TrodVars enc P W' sp s.vars (s.fn H (ds ++ [])).vars [] := fun sp => by rw [hvars, h3]; rfl
  have hold : ∀ p ∈ before, (fun b => decide (b < W.heap.size)) p.block = true := fun p hp => by simpa using hlt p hp
  have hok : ∀ (j : Nat) (t' : TypeId) (r : Value), f.resultTypes[j]? = some t' → ((Value.bool true).resultList f.resultTypes.size)[j]? = some r → Value.okWide P W' .any 0 t' r := ok_one hr rfl (okWide_bool_mk ht true)
  refine ⟨ds, [], before, [], before, [], hW, hres _ _ _, hargs _ hold, hv _, World.keptBut_mono (fun p hp => ⟨hp, Or.inr (by simpa using hp)⟩) (hb.frame (· ∈ before)), fun _ => ?_⟩
  obtain ⟨_, _, _, _, _, hz, hn⟩ := hW
  refine ⟨hok, _, _, ([] ++ before) ++ [], ⟨[] ++ before, [], trodAll_append (hargs _ (fun _ _ => rfl)) (hres _ _ _), hv _, rfl, ?_, ?_⟩, ?_⟩
  · intro b off hp
    have hin : MemPlace.cell b off ∈ before := by simpa using hp
    rw [hb.frozen (hlt _ hin)]
    exact hz b off hin
  · intro ha
    have := hn ha
    simpa using this
  · intro p hp _
    simpa using hp

theorem cells_flat {v c : Value} (hv : v.oneCell' = true) (h : v.cells.toList = [c]) : v = c := by
  cases v <;> first | (cases hv; done) | (simpa [Value.cells] using h)
theorem okw_slice {r : Reach} {b0 : Nat} {t e : TypeId} {v : Value} (ht : P.underlying t = some (.slice e)) (h : Value.okWide P w r b0 t v) : v.oneCell' = true := by
  cases v <;> first | rfl | simp [Value.okWide, ht, Cell.okWide, Cell.ok] at h
end
end Go.Vx
