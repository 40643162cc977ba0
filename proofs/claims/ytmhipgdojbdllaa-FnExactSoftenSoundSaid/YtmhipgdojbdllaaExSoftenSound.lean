/- The law FnExactSoftenSound answers true for every input, and its arguments read as before. No conditions. -/
import Derived.Test.YtmhipgdojbdllaaCoSoftenSound
import Derived.Test.YtmhipgdojbdllaaRow
import Derived.Test.YtmhipgdojbdllaaRows
namespace Go.Proofs.Ytmhipgdojbdllaa
open Go.ChangeShapes Go.WideShapes Go.ChangeAt Go.RowKit Go.Vx

set_option maxRecDepth 100000 in
theorem FnExactSoftenSound_lifted (os : Os) (started : os.Started) (H : Type) (enc : TypeId × Value → H) :
    ReturnsInHanded {} Try.checked os 13 .any (Rows.fnExactSoftenSoundSpec.pre6 enc Try.prog Try.f13 Rows.fnExactSoftenSoundRow.domain false) (Rows.fnExactSoftenSoundSpec.post enc Try.prog Try.f13 false true false false) := by
  refine returnsInHanded_of_change (C := Try.checked) (by kernel_rfl) started (by kernel_rfl) Try.func13
    (ChangeSpec.witness6 (enc := enc) (C := Try.checked) false ⟨#[], #[.slice none 0 0, .int .i64 0, .int .i64 0], []⟩ 8 (by kernel_rfl) (by kernel_rfl) (by kernel_rfl) (by kernel_rfl)) ?_
  intro W base args ds gs before hval0 hW hcnd _
  have hval : ∀ (j : Nat) t v, Try.f13.params[j]? = some t → args[j]? = some v → Value.okWide Try.prog W .any base t v := hval0
  have hW' := hW
  obtain ⟨p, q, hA0, hV, rfl, hfz, hnd⟩ := hW
  obtain ⟨rfl, rfl⟩ := trodVars_none hV
  have hA : DataW.TrodAll enc Try.prog W 0 (fun _ => true) true Try.f13.params.toList args.toList ds p := hA0
  have hA2 := hA
  rw [Try.params13] at hA2 hval
  obtain ⟨v0, v1, v2, d0, d1, d2, p0, p1, p2, hargs, rfl, hps, h0, h1, h2⟩ := trodAll_three hA2
  simp only [List.append_nil] at hW'
  obtain ⟨fu0, hfu0⟩ := h0
  obtain ⟨c0, aA, aC, aN, a, e0, f0, r0, k0, l0⟩ := opSl Try.underlying22 Try.underlying26 (by kernel_rfl) hfu0
  have ev0 := cells_flat (okw_slice Try.underlying22 (hval 0 22 v0 rfl (by rw [hargs]; rfl))) e0
  subst ev0
  obtain ⟨fu1, hfu1⟩ := h1
  obtain ⟨c1, d, e1, f1, k1⟩ := opI Try.underlying2 hfu1
  have ev1 := cells_flat (okw_int Try.underlying2 (hval 1 2 v1 rfl (by rw [hargs]; rfl))) e1
  subst ev1
  obtain ⟨fu2, hfu2⟩ := h2
  obtain ⟨c2, e, e2, f2, k2⟩ := opI Try.underlying2 hfu2
  have ev2 := cells_flat (okw_int Try.underlying2 (hval 2 2 v2 rfl (by rw [hargs]; rfl))) e2
  subst ev2
  have hcon := (c_law_SoftenSound aA aN aC a d e).2 W [v0, v1, v2] (ros_cons r0 ros_nil) ⟨f0.ab, ⟨f1.ab, ⟨f2.ab, trivial⟩⟩⟩
  have hargs' : args = [v0, v1, v2].toArray := hargs
  rw [hargs']
  refine Calls.mono hcon fun e W' ⟨v, he, hb, hv⟩ => ?_
  have hv' : v = .bool true := hv
  subst he hv'
  refine ⟨_, rfl, ?_⟩
  rw [← hargs']
  exact law_post (by kernel_rfl) rfl rfl Try.underlying4 (by rw [Try.params13]; intro u hu; simp only [List.mem_cons, List.not_mem_nil, or_false] at hu; rcases hu with rfl | rfl | rfl <;> exact ⟨by kernel_rfl, of_decide_eq_true (by kernel_rfl)⟩) hW' hA rfl rfl rfl hb

theorem FnExactSoftenSound_holds : Rows.FnExactSoftenSoundSaid :=
  OpenClaim.holds_of_wide 13 Try.f13 rfl rfl rfl rfl rfl rfl rfl ⟨rfl, rfl, rfl, rfl, rfl⟩ rfl rfl rfl rfl rfl (by kernel_rfl) Try.func13 (by kernel_rfl)
    (of_decide_eq_true (by kernel_rfl)) (by unfold Func.isWrapper; first | (rw [if_pos (by decide +kernel)]; kernel_rfl) | (rw [if_neg (by decide +kernel)]; exact ⟨rfl, rfl⟩))
    (fun os started H enc _ => FnExactSoftenSound_lifted os started H enc)
#print axioms FnExactSoftenSound_holds

end Go.Proofs.Ytmhipgdojbdllaa
