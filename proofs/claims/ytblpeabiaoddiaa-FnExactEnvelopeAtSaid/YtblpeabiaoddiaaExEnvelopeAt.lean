/- The law FnExactEnvelopeAt answers true for every input, and its arguments read as before. No conditions. -/
import Derived.Test.YtblpeabiaoddiaaCoEnvelopeAt
import Derived.Test.YtblpeabiaoddiaaRow
import Derived.Test.YtblpeabiaoddiaaRows
namespace Go.Proofs.Ytblpeabiaoddiaa
open Go.ChangeShapes Go.WideShapes Go.ChangeAt Go.RowKit Go.Vx

set_option maxRecDepth 100000 in
theorem FnExactEnvelopeAt_lifted (os : Os) (started : os.Started) (H : Type) (enc : TypeId × Value → H) :
    ReturnsInHanded {} Try.checked os 12 .any (Rows.fnExactEnvelopeAtSpec.pre6 enc Try.prog Try.f12 Rows.fnExactEnvelopeAtRow.domain false) (Rows.fnExactEnvelopeAtSpec.post enc Try.prog Try.f12 false true false false) := by
  refine returnsInHanded_of_change (C := Try.checked) (by kernel_rfl) started (by kernel_rfl) Try.func12
    (ChangeSpec.witness6 (enc := enc) (C := Try.checked) false ⟨#[], #[.agg #[.slice none 0 0, .slice none 0 0], .int .i64 0], []⟩ 8 (by kernel_rfl) (by kernel_rfl) (by kernel_rfl) (by kernel_rfl)) ?_
  intro W base args ds gs before hval0 hW hcnd _
  have hval : ∀ (j : Nat) t v, Try.f12.params[j]? = some t → args[j]? = some v → Value.okWide Try.prog W .any base t v := hval0
  have hW' := hW
  obtain ⟨p, q, hA0, hV, rfl, hfz, hnd⟩ := hW
  obtain ⟨rfl, rfl⟩ := trodVars_none hV
  have hA : DataW.TrodAll enc Try.prog W 0 (fun _ => true) true Try.f12.params.toList args.toList ds p := hA0
  have hA2 := hA
  rw [Try.params12] at hA2 hval
  obtain ⟨v0, v1, d0, d1, p0, p1, hargs, rfl, hps, h0, h1⟩ := trodAll_two hA2
  simp only [List.append_nil] at hW'
  obtain ⟨cs0, n0, hv0, hl0, hf0⟩ := opAgg Try.underlying53 (by kernel_rfl) (by kernel_rfl) (hval 0 53 v0 rfl (by rw [hargs]; rfl)) h0
  subst hv0
  obtain ⟨x0_0, x0_1, hcs0⟩ : ∃ x0_0 x0_1 : Value, cs0 = [x0_0, x0_1] := len2 (hl0.trans rfl)
  subst hcs0
  obtain ⟨y0_0, hy0_0⟩ := hf0 0 _ rfl
  obtain ⟨c0_0, tA, tC, tN, t, e0_0, f0_0, r0_0, k0_0, l0_0⟩ := opSlI Try.underlying51 Try.underlying2 (by kernel_rfl) hy0_0
  have ex0_0 : x0_0 = c0_0 := one_eq e0_0
  subst ex0_0
  obtain ⟨y0_1, hy0_1⟩ := hf0 1 _ rfl
  obtain ⟨c0_1, vA, vC, vN, v, e0_1, f0_1, r0_1, k0_1, l0_1⟩ := opSl Try.underlying22 Try.underlying23 (by kernel_rfl) hy0_1
  have ex0_1 : x0_1 = c0_1 := one_eq e0_1
  subst ex0_1
  obtain ⟨fu1, hfu1⟩ := h1
  obtain ⟨c1, x, e1, f1, k1⟩ := opI Try.underlying2 hfu1
  have ev1 := cells_flat (okw_int Try.underlying2 (hval 1 2 v1 rfl (by rw [hargs]; rfl))) e1
  subst ev1
  have hcon := (c_law_EnvelopeAt tA tN tC t vA vN vC v x (by simp only [maxLen] at l0_0; omega) (by simp only [maxLen] at l0_1; omega)).2 W [.agg #[x0_0, x0_1], v1] (ros_cons r0_0 (ros_cons r0_1 ros_nil)) ⟨⟨_, rfl, ⟨f0_0, ⟨f0_1, trivial⟩⟩⟩, ⟨f1.ab, trivial⟩⟩
  have hargs' : args = [.agg #[x0_0, x0_1], v1].toArray := hargs
  rw [hargs']
  refine Calls.mono hcon fun e W' ⟨v, he, hb, hv⟩ => ?_
  have hv' : v = .bool true := hv
  subst he hv'
  refine ⟨_, rfl, ?_⟩
  rw [← hargs']
  exact law_post (by kernel_rfl) rfl rfl Try.underlying4 (by rw [Try.params12]; intro u hu; simp only [List.mem_cons, List.not_mem_nil, or_false] at hu; rcases hu with rfl | rfl <;> exact ⟨by kernel_rfl, of_decide_eq_true (by kernel_rfl)⟩) hW' hA rfl rfl rfl hb

theorem FnExactEnvelopeAt_holds : Rows.FnExactEnvelopeAtSaid :=
  OpenClaim.holds_of_wide 12 Try.f12 rfl rfl rfl rfl rfl rfl rfl ⟨rfl, rfl, rfl, rfl, rfl⟩ rfl rfl rfl rfl rfl (by kernel_rfl) Try.func12 (by kernel_rfl)
    (of_decide_eq_true (by kernel_rfl)) (by unfold Func.isWrapper; first | (rw [if_pos (by decide +kernel)]; kernel_rfl) | (rw [if_neg (by decide +kernel)]; exact ⟨rfl, rfl⟩))
    (fun os started H enc _ => FnExactEnvelopeAt_lifted os started H enc)
#print axioms FnExactEnvelopeAt_holds

end Go.Proofs.Ytblpeabiaoddiaa
