/- The law FnExactNoteRate answers true for every input, and its arguments read as before. No conditions. -/
import Derived.Test.YthhkkhjiaflkpaaCoNoteRate
import Derived.Test.YthhkkhjiaflkpaaRow
import Derived.Test.YthhkkhjiaflkpaaRows
namespace Go.Proofs.Ythhkkhjiaflkpaa
open Go.ChangeShapes Go.WideShapes Go.ChangeAt Go.RowKit Go.Vx

set_option maxRecDepth 100000 in
theorem FnExactNoteRate_lifted (os : Os) (started : os.Started) (H : Type) (enc : TypeId × Value → H) :
    ReturnsInHanded {} Try.checked os 8 .any (Rows.fnExactNoteRateSpec.pre6 enc Try.prog Try.f8 Rows.fnExactNoteRateRow.domain false) (Rows.fnExactNoteRateSpec.post enc Try.prog Try.f8 false true false false) := by
  refine returnsInHanded_of_change (C := Try.checked) (by kernel_rfl) started (by kernel_rfl) Try.func8
    (ChangeSpec.witness6 (enc := enc) (C := Try.checked) false ⟨#[], #[.float .f32 0], []⟩ 8 (by kernel_rfl) (by kernel_rfl) (by kernel_rfl) (by kernel_rfl)) ?_
  intro W base args ds gs before hval0 hW hcnd _
  have hval : ∀ (j : Nat) t v, Try.f8.params[j]? = some t → args[j]? = some v → Value.okWide Try.prog W .any base t v := hval0
  have hW' := hW
  obtain ⟨p, q, hA0, hV, rfl, hfz, hnd⟩ := hW
  obtain ⟨rfl, rfl⟩ := trodVars_none hV
  have hA : DataW.TrodAll enc Try.prog W 0 (fun _ => true) true Try.f8.params.toList args.toList ds p := hA0
  have hA2 := hA
  rw [Try.params8] at hA2 hval
  obtain ⟨v0, d0, p0, hargs, rfl, hps, h0⟩ := trodAll_1 hA2
  simp only [List.append_nil] at hW'
  obtain ⟨fu0, hfu0⟩ := h0
  obtain ⟨c0, x, e0, f0, k0⟩ := opF Try.underlying22 hfu0
  have ev0 := cells_flat (okw_float Try.underlying22 (hval 0 22 v0 rfl (by rw [hargs]; rfl))) e0
  subst ev0
  have hcon := (c_law_NoteRate x).2 W [v0] trivial ⟨f0.ab, trivial⟩
  have hargs' : args = [v0].toArray := hargs
  rw [hargs']
  refine Calls.mono hcon fun e W' ⟨v, he, hb, hv⟩ => ?_
  have hv' : v = .bool true := hv
  subst he hv'
  refine ⟨_, rfl, ?_⟩
  rw [← hargs']
  exact law_post (by kernel_rfl) rfl rfl Try.underlying4 (by rw [Try.params8]; intro u hu; simp only [List.mem_cons, List.not_mem_nil, or_false] at hu; subst hu; exact ⟨by kernel_rfl, of_decide_eq_true (by kernel_rfl)⟩) hW' hA rfl rfl rfl hb

theorem FnExactNoteRate_holds : Rows.FnExactNoteRateSaid :=
  OpenClaim.holds_of_wide 8 Try.f8 rfl rfl rfl rfl rfl rfl rfl ⟨rfl, rfl, rfl, rfl, rfl⟩ rfl rfl rfl rfl rfl (by kernel_rfl) Try.func8 (by kernel_rfl)
    (of_decide_eq_true (by kernel_rfl)) (by unfold Func.isWrapper; first | (rw [if_pos (by decide +kernel)]; kernel_rfl) | (rw [if_neg (by decide +kernel)]; exact ⟨rfl, rfl⟩))
    (fun os started H enc _ => FnExactNoteRate_lifted os started H enc)
#print axioms FnExactNoteRate_holds

end Go.Proofs.Ythhkkhjiaflkpaa
