/- The law FnExactShapeBy answers true for every input, and its arguments read as before. No conditions. -/
import Derived.Test.YtblpeabiaoddiaaCoShapeBy
import Derived.Test.YtblpeabiaoddiaaRow
import Derived.Test.YtblpeabiaoddiaaRows
namespace Go.Proofs.Ytblpeabiaoddiaa
open Go.ChangeShapes Go.WideShapes Go.ChangeAt Go.RowKit Go.Vx

set_option maxRecDepth 100000 in
theorem FnExactShapeBy_lifted (os : Os) (started : os.Started) (H : Type) (enc : TypeId × Value → H) :
    ReturnsInHanded {} Try.checked os 13 .any (Rows.fnExactShapeBySpec.pre6 enc Try.prog Try.f13 Rows.fnExactShapeByRow.domain false) (Rows.fnExactShapeBySpec.post enc Try.prog Try.f13 false true false false) := by
  refine returnsInHanded_of_change (C := Try.checked) (by kernel_rfl) started (by kernel_rfl) Try.func13
    (ChangeSpec.witness6 (enc := enc) (C := Try.checked) false ⟨#[], #[.slice none 0 0, .agg #[.slice none 0 0, .slice none 0 0]], []⟩ 8 (by kernel_rfl) (by kernel_rfl) (by kernel_rfl) (by kernel_rfl)) ?_
  intro W base args ds gs before hval0 hW hcnd _
  have hval : ∀ (j : Nat) t v, Try.f13.params[j]? = some t → args[j]? = some v → Value.okWide Try.prog W .any base t v := hval0
  have hW' := hW
  obtain ⟨p, q, hA0, hV, rfl, hfz, hnd⟩ := hW
  obtain ⟨rfl, rfl⟩ := trodVars_none hV
  have hA : DataW.TrodAll enc Try.prog W 0 (fun _ => true) true Try.f13.params.toList args.toList ds p := hA0
  have hA2 := hA
  rw [Try.params13] at hA2 hval
  obtain ⟨v0, v1, d0, d1, p0, p1, hargs, rfl, hps, h0, h1⟩ := trodAll_two hA2
  simp only [List.append_nil] at hW'
  obtain ⟨fu0, hfu0⟩ := h0
  obtain ⟨c0, cA, cC, cN, c, e0, f0, r0, k0, l0⟩ := opSl Try.underlying22 Try.underlying23 (by kernel_rfl) hfu0
  have ev0 := cells_flat (okw_slice Try.underlying22 (hval 0 22 v0 rfl (by rw [hargs]; rfl))) e0
  subst ev0
  obtain ⟨cs1, n1, hv1, hl1, hf1⟩ := opAgg Try.underlying53 (by kernel_rfl) (by kernel_rfl) (hval 1 53 v1 rfl (by rw [hargs]; rfl)) h1
  subst hv1
  obtain ⟨x1_0, x1_1, hcs1⟩ : ∃ x1_0 x1_1 : Value, cs1 = [x1_0, x1_1] := len2 (hl1.trans rfl)
  subst hcs1
  obtain ⟨y1_0, hy1_0⟩ := hf1 0 _ rfl
  obtain ⟨c1_0, tA, tC, tN, t, e1_0, f1_0, r1_0, k1_0, l1_0⟩ := opSlI Try.underlying51 Try.underlying2 (by kernel_rfl) hy1_0
  have ex1_0 : x1_0 = c1_0 := one_eq e1_0
  subst ex1_0
  obtain ⟨y1_1, hy1_1⟩ := hf1 1 _ rfl
  obtain ⟨c1_1, vA, vC, vN, v, e1_1, f1_1, r1_1, k1_1, l1_1⟩ := opSl Try.underlying22 Try.underlying23 (by kernel_rfl) hy1_1
  have ex1_1 : x1_1 = c1_1 := one_eq e1_1
  subst ex1_1
  have hcon := (c_law_ShapeBy cA cN cC c tA tN tC t vA vN vC v (by simp only [maxLen] at l1_0; omega) (by simp only [maxLen] at l1_1; omega)).2 W [v0, .agg #[x1_0, x1_1]] (ros_cons r0 (ros_cons r1_0 (ros_cons r1_1 ros_nil))) ⟨f0.ab, ⟨⟨_, rfl, ⟨f1_0, ⟨f1_1, trivial⟩⟩⟩, trivial⟩⟩
  have hargs' : args = [v0, .agg #[x1_0, x1_1]].toArray := hargs
  rw [hargs']
  refine Calls.mono hcon fun e W' ⟨v, he, hb, hv⟩ => ?_
  have hv' : v = .bool true := hv
  subst he hv'
  refine ⟨_, rfl, ?_⟩
  rw [← hargs']
  exact law_post (by kernel_rfl) rfl rfl Try.underlying4 (by rw [Try.params13]; intro u hu; simp only [List.mem_cons, List.not_mem_nil, or_false] at hu; rcases hu with rfl | rfl <;> exact ⟨by kernel_rfl, of_decide_eq_true (by kernel_rfl)⟩) hW' hA rfl rfl rfl hb

theorem FnExactShapeBy_holds : Rows.FnExactShapeBySaid :=
  OpenClaim.holds_of_wide 13 Try.f13 rfl rfl rfl rfl rfl rfl rfl ⟨rfl, rfl, rfl, rfl, rfl⟩ rfl rfl rfl rfl rfl (by kernel_rfl) Try.func13 (by kernel_rfl)
    (of_decide_eq_true (by kernel_rfl)) (by unfold Func.isWrapper; first | (rw [if_pos (by decide +kernel)]; kernel_rfl) | (rw [if_neg (by decide +kernel)]; exact ⟨rfl, rfl⟩))
    (fun os started H enc _ => FnExactShapeBy_lifted os started H enc)
#print axioms FnExactShapeBy_holds

end Go.Proofs.Ytblpeabiaoddiaa
