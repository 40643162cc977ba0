/- The law FnExactTrembleOf answers true for every input, and its arguments read as before. No conditions. -/
import Derived.Test.YthhkkhjiaflkpaaCoTrembleOf
import Derived.Test.YthhkkhjiaflkpaaRow
import Derived.Test.YthhkkhjiaflkpaaRows
namespace Go.Proofs.Ythhkkhjiaflkpaa
open Go.ChangeShapes Go.WideShapes Go.ChangeAt Go.RowKit Go.Vx

set_option maxRecDepth 100000 in
theorem FnExactTrembleOf_lifted (os : Os) (started : os.Started) (H : Type) (enc : TypeId × Value → H) :
    ReturnsInHanded {} Try.checked os 14 .any (Rows.fnExactTrembleOfSpec.pre6 enc Try.prog Try.f14 Rows.fnExactTrembleOfRow.domain false) (Rows.fnExactTrembleOfSpec.post enc Try.prog Try.f14 false true false false) := by
  refine returnsInHanded_of_change (C := Try.checked) (by kernel_rfl) started (by kernel_rfl) Try.func14
    (ChangeSpec.witness6 (enc := enc) (C := Try.checked) false ⟨#[], #[.float .f32 0, .float .f32 0, .float .f32 0, .int .i64 0], []⟩ 8 (by kernel_rfl) (by kernel_rfl) (by kernel_rfl) (by kernel_rfl)) ?_
  intro W base args ds gs before hval0 hW hcnd _
  have hval : ∀ (j : Nat) t v, Try.f14.params[j]? = some t → args[j]? = some v → Value.okWide Try.prog W .any base t v := hval0
  have hW' := hW
  obtain ⟨p, q, hA0, hV, rfl, hfz, hnd⟩ := hW
  obtain ⟨rfl, rfl⟩ := trodVars_none hV
  have hA : DataW.TrodAll enc Try.prog W 0 (fun _ => true) true Try.f14.params.toList args.toList ds p := hA0
  have hA2 := hA
  rw [Try.params14] at hA2 hval
  obtain ⟨v0, v1, v2, v3, d0, d1, d2, d3, p0, p1, p2, p3, hargs, rfl, hps, h0, h1, h2, h3⟩ := trodAll_four hA2
  simp only [List.append_nil] at hW'
  obtain ⟨fu0, hfu0⟩ := h0
  obtain ⟨c0, x, e0, f0, k0⟩ := opF Try.underlying22 hfu0
  have ev0 := cells_flat (okw_float Try.underlying22 (hval 0 22 v0 rfl (by rw [hargs]; rfl))) e0
  subst ev0
  obtain ⟨fu1, hfu1⟩ := h1
  obtain ⟨c1, y, e1, f1, k1⟩ := opF Try.underlying22 hfu1
  have ev1 := cells_flat (okw_float Try.underlying22 (hval 1 22 v1 rfl (by rw [hargs]; rfl))) e1
  subst ev1
  obtain ⟨fu2, hfu2⟩ := h2
  obtain ⟨c2, z, e2, f2, k2⟩ := opF Try.underlying22 hfu2
  have ev2 := cells_flat (okw_float Try.underlying22 (hval 2 22 v2 rfl (by rw [hargs]; rfl))) e2
  subst ev2
  obtain ⟨fu3, hfu3⟩ := h3
  obtain ⟨c3, m, e3, f3, k3⟩ := opI Try.underlying2 hfu3
  have ev3 := cells_flat (okw_int Try.underlying2 (hval 3 2 v3 rfl (by rw [hargs]; rfl))) e3
  subst ev3
  have hcon := (c_law_TrembleOf x y z m).2 W [v0, v1, v2, v3] trivial ⟨f0.ab, ⟨f1.ab, ⟨f2.ab, ⟨f3.ab, trivial⟩⟩⟩⟩
  have hargs' : args = [v0, v1, v2, v3].toArray := hargs
  rw [hargs']
  refine Calls.mono hcon fun e W' ⟨v, he, hb, hv⟩ => ?_
  have hv' : v = .bool true := hv
  subst he hv'
  refine ⟨_, rfl, ?_⟩
  rw [← hargs']
  exact law_post (by kernel_rfl) rfl rfl Try.underlying4 (by rw [Try.params14]; intro u hu; simp only [List.mem_cons, List.not_mem_nil, or_false] at hu; rcases hu with rfl | rfl | rfl | rfl <;> exact ⟨by kernel_rfl, of_decide_eq_true (by kernel_rfl)⟩) hW' hA rfl rfl rfl hb

theorem FnExactTrembleOf_holds : Rows.FnExactTrembleOfSaid :=
  OpenClaim.holds_of_wide 14 Try.f14 rfl rfl rfl rfl rfl rfl rfl ⟨rfl, rfl, rfl, rfl, rfl⟩ rfl rfl rfl rfl rfl (by kernel_rfl) Try.func14 (by kernel_rfl)
    (of_decide_eq_true (by kernel_rfl)) (by unfold Func.isWrapper; first | (rw [if_pos (by decide +kernel)]; kernel_rfl) | (rw [if_neg (by decide +kernel)]; exact ⟨rfl, rfl⟩))
    (fun os started H enc _ => FnExactTrembleOf_lifted os started H enc)
#print axioms FnExactTrembleOf_holds

end Go.Proofs.Ythhkkhjiaflkpaa
