/- The law FnExactValidVoice answers true for every input, and its argument reads as before. No conditions. -/
import Derived.Test.YthhkkhjiaflkpaaCon
import Derived.Test.YthhkkhjiaflkpaaRow
import Derived.Test.YthhkkhjiaflkpaaRows
namespace Go.Proofs.Ythhkkhjiaflkpaa
open Go.ChangeShapes Go.WideShapes Go.ChangeAt Go.RowKit Go.Vx

set_option maxRecDepth 100000 in
theorem FnExactValidVoice_lifted (os : Os) (started : os.Started) (H : Type) (enc : TypeId × Value → H) :
    ReturnsInHanded {} Try.checked os 4 .any (Rows.fnExactValidVoiceSpec.pre6 enc Try.prog Try.f4 Rows.fnExactValidVoiceRow.domain false) (Rows.fnExactValidVoiceSpec.post enc Try.prog Try.f4 false true false false) := by
  refine returnsInHanded_of_change (C := Try.checked) (by kernel_rfl) started (by kernel_rfl) Try.func4
    (ChangeSpec.witness6 (enc := enc) (C := Try.checked) false ⟨#[], #[.agg #[.float .f32 0, .float .f32 0, .int .i64 0]], []⟩ 8 (by kernel_rfl) (by kernel_rfl) (by kernel_rfl) (by kernel_rfl)) ?_
  intro W base args ds gs before hval0 hW hcnd _
  have hval : ∀ (j : Nat) t v, Try.f4.params[j]? = some t → args[j]? = some v → Value.okWide Try.prog W .any base t v := hval0
  have hW' := hW
  obtain ⟨p, q, hA0, hV, rfl, hfz, hnd⟩ := hW
  obtain ⟨rfl, rfl⟩ := trodVars_none hV
  have hA : DataW.TrodAll enc Try.prog W 0 (fun _ => true) true Try.f4.params.toList args.toList ds p := hA0
  have hA2 := hA
  rw [Try.params4] at hA2 hval
  obtain ⟨v0, d0, p0, hargs, rfl, hps, h0⟩ := trodAll_1 hA2
  simp only [List.append_nil] at hW'
  obtain ⟨cs0, n0, hv0, hl0, hf0⟩ := opAgg Try.underlying30 (by kernel_rfl) (by kernel_rfl) (hval 0 30 v0 rfl (by rw [hargs]; rfl)) h0
  subst hv0
  obtain ⟨x0_0, x0_1, x0_2, hcs0⟩ : ∃ x0_0 x0_1 x0_2 : Value, cs0 = [x0_0, x0_1, x0_2] := len3 (hl0.trans rfl)
  subst hcs0
  obtain ⟨y0_0, hy0_0⟩ := hf0 0 _ rfl
  obtain ⟨c0_0, p, e0_0, f0_0, k0_0⟩ := opF Try.underlying22 hy0_0
  have ex0_0 : x0_0 = c0_0 := one_eq e0_0
  subst ex0_0
  obtain ⟨y0_1, hy0_1⟩ := hf0 1 _ rfl
  obtain ⟨c0_1, n, e0_1, f0_1, k0_1⟩ := opF Try.underlying22 hy0_1
  have ex0_1 : x0_1 = c0_1 := one_eq e0_1
  subst ex0_1
  obtain ⟨y0_2, hy0_2⟩ := hf0 2 _ rfl
  obtain ⟨c0_2, s, e0_2, f0_2, k0_2⟩ := opI Try.underlying2 hy0_2
  have ex0_2 : x0_2 = c0_2 := one_eq e0_2
  subst ex0_2
  have hcon := (c_law_ValidVoice p n s).2 W [.agg #[x0_0, x0_1, x0_2]] trivial ⟨⟨_, rfl, ⟨f0_0, ⟨f0_1, ⟨f0_2, trivial⟩⟩⟩⟩, trivial⟩
  have hargs' : args = [.agg #[x0_0, x0_1, x0_2]].toArray := hargs
  rw [hargs']
  refine Calls.mono hcon fun e W' ⟨v, he, hb, hv⟩ => ?_
  have hv' : v = .bool true := hv
  subst he hv'
  refine ⟨_, rfl, ?_⟩
  rw [← hargs']
  exact law_post (by kernel_rfl) rfl rfl Try.underlying4 (by rw [Try.params4]; intro u hu; simp only [List.mem_cons, List.not_mem_nil, or_false] at hu; subst hu; exact ⟨by kernel_rfl, of_decide_eq_true (by kernel_rfl)⟩) hW' hA rfl rfl rfl hb

theorem FnExactValidVoice_holds : Rows.FnExactValidVoiceSaid :=
  OpenClaim.holds_of_wide 4 Try.f4 rfl rfl rfl rfl rfl rfl rfl ⟨rfl, rfl, rfl, rfl, rfl⟩ rfl rfl rfl rfl rfl (by kernel_rfl) Try.func4 (by kernel_rfl)
    (of_decide_eq_true (by kernel_rfl)) (by unfold Func.isWrapper; first | (rw [if_pos (by decide +kernel)]; kernel_rfl) | (rw [if_neg (by decide +kernel)]; exact ⟨rfl, rfl⟩))
    (fun os started H enc _ => FnExactValidVoice_lifted os started H enc)
#print axioms FnExactValidVoice_holds

end Go.Proofs.Ythhkkhjiaflkpaa
