/- The law FnExactLoudOf answers true for every input, and its arguments read as before. No conditions. -/
import Derived.Test.YtblpeabiaoddiaaCoLoudOf
import Derived.Test.YtblpeabiaoddiaaRow
import Derived.Test.YtblpeabiaoddiaaRows
namespace Go.Proofs.Ytblpeabiaoddiaa
open Go.ChangeShapes Go.WideShapes Go.ChangeAt Go.RowKit Go.Vx

set_option maxRecDepth 100000 in
theorem FnExactLoudOf_lifted (os : Os) (started : os.Started) (H : Type) (enc : TypeId × Value → H) :
    ReturnsInHanded {} Try.checked os 14 .any (Rows.fnExactLoudOfSpec.pre6 enc Try.prog Try.f14 Rows.fnExactLoudOfRow.domain false) (Rows.fnExactLoudOfSpec.post enc Try.prog Try.f14 false true false false) := by
  refine returnsInHanded_of_change (C := Try.checked) (by kernel_rfl) started (by kernel_rfl) Try.func14
    (ChangeSpec.witness6 (enc := enc) (C := Try.checked) false ⟨#[], #[.slice none 0 0], []⟩ 8 (by kernel_rfl) (by kernel_rfl) (by kernel_rfl) (by kernel_rfl)) ?_
  intro W base args ds gs before hval0 hW hcnd _
  have hval : ∀ (j : Nat) t v, Try.f14.params[j]? = some t → args[j]? = some v → Value.okWide Try.prog W .any base t v := hval0
  have hW' := hW
  obtain ⟨p, q, hA0, hV, rfl, hfz, hnd⟩ := hW
  obtain ⟨rfl, rfl⟩ := trodVars_none hV
  have hA : DataW.TrodAll enc Try.prog W 0 (fun _ => true) true Try.f14.params.toList args.toList ds p := hA0
  have hA2 := hA
  rw [Try.params14] at hA2 hval
  obtain ⟨v0, d0, p0, hargs, rfl, hps, h0⟩ := trodAll_1 hA2
  simp only [List.append_nil] at hW'
  obtain ⟨fu0, hfu0⟩ := h0
  obtain ⟨c0, cA, cC, cN, c, e0, f0, r0, k0, l0⟩ := opSl Try.underlying22 Try.underlying23 (by kernel_rfl) hfu0
  have ev0 := cells_flat (okw_slice Try.underlying22 (hval 0 22 v0 rfl (by rw [hargs]; rfl))) e0
  subst ev0
  have hcon := (c_law_LoudOf cA cN cC c).2 W [v0] (ros_cons r0 ros_nil) ⟨f0.ab, trivial⟩
  have hargs' : args = [v0].toArray := hargs
  rw [hargs']
  refine Calls.mono hcon fun e W' ⟨v, he, hb, hv⟩ => ?_
  have hv' : v = .bool true := hv
  subst he hv'
  refine ⟨_, rfl, ?_⟩
  rw [← hargs']
  exact law_post (by kernel_rfl) rfl rfl Try.underlying4 (by rw [Try.params14]; intro u hu; simp only [List.mem_cons, List.not_mem_nil, or_false] at hu; subst hu; exact ⟨by kernel_rfl, of_decide_eq_true (by kernel_rfl)⟩) hW' hA rfl rfl rfl hb

theorem FnExactLoudOf_holds : Rows.FnExactLoudOfSaid :=
  OpenClaim.holds_of_wide 14 Try.f14 rfl rfl rfl rfl rfl rfl rfl ⟨rfl, rfl, rfl, rfl, rfl⟩ rfl rfl rfl rfl rfl (by kernel_rfl) Try.func14 (by kernel_rfl)
    (of_decide_eq_true (by kernel_rfl)) (by unfold Func.isWrapper; first | (rw [if_pos (by decide +kernel)]; kernel_rfl) | (rw [if_neg (by decide +kernel)]; exact ⟨rfl, rfl⟩))
    (fun os started H enc _ => FnExactLoudOf_lifted os started H enc)
#print axioms FnExactLoudOf_holds

end Go.Proofs.Ytblpeabiaoddiaa
