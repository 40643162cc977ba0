/- The law FnExactRunWaves answers true for every input, and its arguments read as before. No conditions. -/
import Derived.Test.YtpchbkahcicaeaaCoRunWaves
import Derived.Test.YtpchbkahcicaeaaRow
import Derived.Test.YtpchbkahcicaeaaRows
namespace Go.Proofs.Ytpchbkahcicaeaa
open Go.ChangeShapes Go.WideShapes Go.ChangeAt Go.RowKit Go.Vx

set_option maxRecDepth 100000 in
theorem FnExactRunWaves_lifted (os : Os) (started : os.Started) (H : Type) (enc : TypeId × Value → H) :
    ReturnsInHanded {} Try.checked os 10 .any (Rows.fnExactRunWavesSpec.pre6 enc Try.prog Try.f10 Rows.fnExactRunWavesRow.domain false) (Rows.fnExactRunWavesSpec.post enc Try.prog Try.f10 false true false false) := by
  refine returnsInHanded_of_change (C := Try.checked) (by kernel_rfl) started (by kernel_rfl) Try.func10
    (ChangeSpec.witness6 (enc := enc) (C := Try.checked) false ⟨#[], #[.agg #[.slice none 0 0, .float .f32 0, .float .f32 0, .float .f32 0], .agg #[.slice none 0 0, .slice none 0 0], .slice none 0 0], []⟩ 8 (by kernel_rfl) (by kernel_rfl) (by kernel_rfl) (by kernel_rfl)) ?_
  intro W base args ds gs before hval0 hW hcnd _
  have hval : ∀ (j : Nat) t v, Try.f10.params[j]? = some t → args[j]? = some v → Value.okWide Try.prog W .any base t v := hval0
  have hW' := hW
  obtain ⟨p, q, hA0, hV, rfl, hfz, hnd⟩ := hW
  obtain ⟨rfl, rfl⟩ := trodVars_none hV
  have hA : DataW.TrodAll enc Try.prog W 0 (fun _ => true) true Try.f10.params.toList args.toList ds p := hA0
  have hA2 := hA
  rw [Try.params10] at hA2 hval
  obtain ⟨v0, v1, v2, d0, d1, d2, p0, p1, p2, hargs, rfl, hps, h0, h1, h2⟩ := trodAll_three hA2
  simp only [List.append_nil] at hW'
  obtain ⟨cs0, n0, hv0, hl0, hf0⟩ := opAgg Try.underlying25 (by kernel_rfl) (by kernel_rfl) (hval 0 25 v0 rfl (by rw [hargs]; rfl)) h0
  subst hv0
  obtain ⟨x0_0, x0_1, x0_2, x0_3, hcs0⟩ : ∃ x0_0 x0_1 x0_2 x0_3 : Value, cs0 = [x0_0, x0_1, x0_2, x0_3] := len4 (hl0.trans rfl)
  subst hcs0
  obtain ⟨y0_0, hy0_0⟩ := hf0 0 _ rfl
  obtain ⟨c0_0, aA, aC, aN, a, e0_0, f0_0, r0_0, k0_0, l0_0⟩ := opSl Try.underlying22 Try.underlying23 (by kernel_rfl) hy0_0
  have ex0_0 : x0_0 = c0_0 := one_eq e0_0
  subst ex0_0
  obtain ⟨y0_1, hy0_1⟩ := hf0 1 _ rfl
  obtain ⟨c0_1, l, e0_1, f0_1, k0_1⟩ := opF Try.underlying23 hy0_1
  have ex0_1 : x0_1 = c0_1 := one_eq e0_1
  subst ex0_1
  obtain ⟨y0_2, hy0_2⟩ := hf0 2 _ rfl
  obtain ⟨c0_2, th, e0_2, f0_2, k0_2⟩ := opF Try.underlying23 hy0_2
  have ex0_2 : x0_2 = c0_2 := one_eq e0_2
  subst ex0_2
  obtain ⟨y0_3, hy0_3⟩ := hf0 3 _ rfl
  obtain ⟨c0_3, lp, e0_3, f0_3, k0_3⟩ := opF Try.underlying23 hy0_3
  have ex0_3 : x0_3 = c0_3 := one_eq e0_3
  subst ex0_3
  obtain ⟨cs1, n1, hv1, hl1, hf1⟩ := opAgg Try.underlying39 (by kernel_rfl) (by kernel_rfl) (hval 1 39 v1 rfl (by rw [hargs]; rfl)) h1
  subst hv1
  obtain ⟨x1_0, x1_1, hcs1⟩ : ∃ x1_0 x1_1 : Value, cs1 = [x1_0, x1_1] := len2 (hl1.trans rfl)
  subst hcs1
  obtain ⟨y1_0, hy1_0⟩ := hf1 0 _ rfl
  obtain ⟨c1_0, cA, cC, cN, c, e1_0, f1_0, r1_0, k1_0, l1_0⟩ := opSl Try.underlying22 Try.underlying23 (by kernel_rfl) hy1_0
  have ex1_0 : x1_0 = c1_0 := one_eq e1_0
  subst ex1_0
  obtain ⟨y1_1, hy1_1⟩ := hf1 1 _ rfl
  obtain ⟨c1_1, dA, dC, dN, d, e1_1, f1_1, r1_1, k1_1, l1_1⟩ := opSl Try.underlying22 Try.underlying23 (by kernel_rfl) hy1_1
  have ex1_1 : x1_1 = c1_1 := one_eq e1_1
  subst ex1_1
  obtain ⟨fu2, hfu2⟩ := h2
  obtain ⟨c2, fA, fC, fN, f, e2, f2, r2, k2, l2⟩ := opSl Try.underlying22 Try.underlying23 (by kernel_rfl) hfu2
  have ev2 := cells_flat (okw_slice Try.underlying22 (hval 2 22 v2 rfl (by rw [hargs]; rfl))) e2
  subst ev2
  have hcon := (c_law_RunWaves aA aN aC a l th lp cA cN cC c dA dN dC d fA fN fC f (by simp only [maxLen] at l0_0; omega) (by simp only [maxLen] at l1_0; omega) (by simp only [maxLen] at l1_1; omega)).2 W [.agg #[x0_0, x0_1, x0_2, x0_3], .agg #[x1_0, x1_1], v2] (ros_cons r0_0 (ros_cons r1_0 (ros_cons r1_1 (ros_cons r2 ros_nil)))) ⟨⟨_, rfl, ⟨f0_0, ⟨f0_1, ⟨f0_2, ⟨f0_3, trivial⟩⟩⟩⟩⟩, ⟨⟨_, rfl, ⟨f1_0, ⟨f1_1, trivial⟩⟩⟩, ⟨f2.ab, trivial⟩⟩⟩
  have hargs' : args = [.agg #[x0_0, x0_1, x0_2, x0_3], .agg #[x1_0, x1_1], v2].toArray := hargs
  rw [hargs']
  refine Calls.mono hcon fun e W' ⟨v, he, hb, hv⟩ => ?_
  have hv' : v = .bool true := hv
  subst he hv'
  refine ⟨_, rfl, ?_⟩
  rw [← hargs']
  exact law_post (by kernel_rfl) rfl rfl Try.underlying4 (by rw [Try.params10]; intro u hu; simp only [List.mem_cons, List.not_mem_nil, or_false] at hu; rcases hu with rfl | rfl | rfl <;> exact ⟨by kernel_rfl, of_decide_eq_true (by kernel_rfl)⟩) hW' hA rfl rfl rfl hb

theorem FnExactRunWaves_holds : Rows.FnExactRunWavesSaid :=
  OpenClaim.holds_of_wide 10 Try.f10 rfl rfl rfl rfl rfl rfl rfl ⟨rfl, rfl, rfl, rfl, rfl⟩ rfl rfl rfl rfl rfl (by kernel_rfl) Try.func10 (by kernel_rfl)
    (of_decide_eq_true (by kernel_rfl)) (by unfold Func.isWrapper; first | (rw [if_pos (by decide +kernel)]; kernel_rfl) | (rw [if_neg (by decide +kernel)]; exact ⟨rfl, rfl⟩))
    (fun os started H enc _ => FnExactRunWaves_lifted os started H enc)
#print axioms FnExactRunWaves_holds

end Go.Proofs.Ytpchbkahcicaeaa
