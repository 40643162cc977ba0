/- The law FnWaves answers true for every input, and its arguments read as before. No conditions. -/
import Derived.Test.YteddfolpmmimiaaCoLawW
import Derived.Test.YteddfolpmmimiaaRow
import Derived.Test.YteddfolpmmimiaaRows
namespace Go.Proofs.Yteddfolpmmimiaa
open Go.ChangeShapes Go.WideShapes Go.ChangeAt Go.RowKit Go.Vx

set_option maxRecDepth 100000 in
theorem FnWaves_lifted (os : Os) (started : os.Started) (H : Type) (enc : TypeId × Value → H) :
    ReturnsInHanded {} Try.checked os 4 .any (Rows.fnWavesSpec.pre6 enc Try.prog Try.f4 Rows.fnWavesRow.domain false) (Rows.fnWavesSpec.post enc Try.prog Try.f4 false true false false) := by
  refine returnsInHanded_of_change (C := Try.checked) (by kernel_rfl) started (by kernel_rfl) Try.func4
    (ChangeSpec.witness6 (enc := enc) (C := Try.checked) false ⟨#[], #[.slice none 0 0, .slice none 0 0], []⟩ 8 (by kernel_rfl) (by kernel_rfl) (by kernel_rfl) (by kernel_rfl)) ?_
  intro W base args ds gs before hval0 hW hcnd _
  have hval : ∀ (j : Nat) t v, Try.f4.params[j]? = some t → args[j]? = some v → Value.okWide Try.prog W .any base t v := hval0
  have hW' := hW
  obtain ⟨p, q, hA0, hV, rfl, hfz, hnd⟩ := hW
  obtain ⟨rfl, rfl⟩ := trodVars_none hV
  have hA : DataW.TrodAll enc Try.prog W 0 (fun _ => true) true Try.f4.params.toList args.toList ds p := hA0
  have hA2 := hA
  rw [Try.params4] at hA2 hval
  obtain ⟨v0, v1, d0, d1, p0, p1, hargs, rfl, hps, h0, h1⟩ := trodAll_two hA2
  simp only [List.append_nil] at hW'
  obtain ⟨fu0, hfu0⟩ := h0
  obtain ⟨c0, aA, aC, aN, a, e0, f0, r0, k0, l0⟩ := opSlY Try.underlying22 Try.underlying5 (by kernel_rfl) hfu0
  have ev0 := cells_flat (okw_slice Try.underlying22 (hval 0 22 v0 rfl (by rw [hargs]; rfl))) e0
  subst ev0
  obtain ⟨fu1, hfu1⟩ := h1
  obtain ⟨c1, bA, bC, bN, b, e1, f1, r1, k1, l1⟩ := opSlY Try.underlying22 Try.underlying5 (by kernel_rfl) hfu1
  have ev1 := cells_flat (okw_slice Try.underlying22 (hval 1 22 v1 rfl (by rw [hargs]; rfl))) e1
  subst ev1
  have hcon := (c_law_FnWaves aA aN aC a bA bN bC b k0 k1).2 W [v0, v1] (ros_cons r0 (ros_cons r1 ros_nil)) ⟨f0.ab, ⟨f1.ab, trivial⟩⟩
  have hargs' : args = [v0, v1].toArray := hargs
  rw [hargs']
  refine Calls.mono hcon fun e W' ⟨v, he, hb, hv⟩ => ?_
  have hv' : v = .bool true := hv
  subst he hv'
  refine ⟨_, rfl, ?_⟩
  rw [← hargs']
  exact law_post (by kernel_rfl) rfl rfl Try.underlying4 (by rw [Try.params4]; intro u hu; simp only [List.mem_cons, List.not_mem_nil, or_false] at hu; rcases hu with rfl | rfl <;> exact ⟨by kernel_rfl, of_decide_eq_true (by kernel_rfl)⟩) hW' hA rfl rfl rfl hb

theorem FnWaves_holds : Rows.FnWavesSaid :=
  OpenClaim.holds_of_wide 4 Try.f4 rfl rfl rfl rfl rfl rfl rfl ⟨rfl, rfl, rfl, rfl, rfl⟩ rfl rfl rfl rfl rfl (by kernel_rfl) Try.func4 (by kernel_rfl)
    (of_decide_eq_true (by kernel_rfl)) (by unfold Func.isWrapper; first | (rw [if_pos (by decide +kernel)]; kernel_rfl) | (rw [if_neg (by decide +kernel)]; exact ⟨rfl, rfl⟩))
    (fun os started H enc _ => FnWaves_lifted os started H enc)
#print axioms FnWaves_holds

end Go.Proofs.Yteddfolpmmimiaa
