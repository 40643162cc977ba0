/- Contracts of functions of the program and of the reference. -/
import Derived.Test.YtpchbkahcicaeaaCon
namespace Go.Vx
open Go.Proofs
set_option maxRecDepth 4000
set_option maxHeartbeats 4000000
attribute [local irreducible] J JL JQ JA VOp Con Ext XOp ConM ConW ConW2
theorem c_peakI (A : Option Addr) (N cap : Nat) (g : Nat → Nat) (hN : N ≤ 4294967296) : Con Try.prog 88 [.slice A N cap] (RoS [.ro A (tab N g)]) (peakV absF N g) := by
  refine con_intro (H := [.ro A (tab N g)]) Try.func88 (by decide) rfl rfl (fun w h => h.inv) (fun w0 _ => ?_)
  (repeat' (first
    | refine j_part (by omega) ?_
    | refine j_partI (by omega) ?_
    | (refine j_loop2 (σ := Nat) (fun i => sound N g = true ∧ i ≤ N ∧ pkB absF g i < N) (fun i => [(0, true, .slice A N cap), (5, true, .int .i64 ((pkB absF g i : Nat))), (16, true, .slice A N cap), (17, true, .int .i64 (N)), (18, true, .int .i64 (i))]) (fun i => [.ro A (tab N g)]) (fun i => N - i) 0 (by simp_all [icmp, pkB, fold] <;> omega) (fs_cons rfl (fs_cons (by first | rfl | rfl) (fs_cons rfl (fs_cons rfl (fs_cons rfl fs_nil))))) (fun _ h => h) ?_; intro i hi)
    | (exact jq_round (i + 1) (by exact ⟨hi.1, by omega, pkB_lt (by omega) (i + 1) (by omega)⟩) (by omega) (fs_cons rfl (fs_cons (by first | rfl | (rw [pkB_yes ‹_›]; rfl) | (rw [pkB_no ‹_›]; rfl)) (fs_cons rfl (fs_cons rfl (fs_cons rfl fs_nil))))) (fun _ h => h))
    | refine j_condLt rfl (fun _ => ?_) (fun _ => ?_)
    | refine j_condLe rfl (fun _ => ?_) (fun _ => ?_)
    | refine j_condGt rfl (fun _ => ?_) (fun _ => ?_)
    | refine j_condGe rfl (fun _ => ?_) (fun _ => ?_)
    | refine j_condNe rfl (fun _ => ?_) (fun _ => ?_)
    | refine j_condEq rfl (fun _ => ?_) (fun _ => ?_)
    | refine j_condOrLt rfl (fun _ => ?_) (fun _ => ?_)
    | refine j_condAndLt rfl (fun _ => ?_) (fun _ => ?_)
    | refine j_condAndGe rfl (fun _ => ?_) (fun _ => ?_)
    | refine j_seq ?_
    | refine jq_then ?_
    | refine j_block ?_
    | refine j_ret ?_
    | refine jq_then_ret ?_
    | refine jq_block_ret ?_
    | refine jq_block_normal ?_
    | refine jq_then_exit ?_
    | refine jq_block_same rfl ?_
    | refine jq_block_other rfl ?_
    | refine j_skip ?_
    | refine j_exit ?_
    | refine j_label ?_
    | refine j_cond rfl (fun _ => ?_) (fun _ => ?_)
    | (refine j_region (id := 0) ?_
       refine jl_op rfl rfl (.none rfl) (v_assign rfl rfl tt) ?_
       refine jl_op rfl rfl (.none rfl) (v_assign rfl rfl tt) ?_
       refine jl_op rfl rfl (.none rfl) (v_assign rfl rfl tt) ?_
       refine jl_nil ?_)
    | (refine j_region (id := 1) ?_
       refine jl_op rfl rfl (.none rfl) (v_move rfl rfl tt) ?_
       refine jl_op rfl rfl (.none rfl) (v_call (f := 78) (xs := [_]) rfl (c_isSoundI _ _ _ _ hN) (ev_cons rfl tt ev_nil) (by intro w hc hI; first | trivial | (exfalso; simp_all; done) | (clear hc; repeat' (first | exact ros_nil | refine ros_cons ?_ ?_ | exact hI.roRo (by first | exact m0 | exact m1 | exact m2 | exact m3 | exact m4 | exact m5 | exact m6 | exact m7 | exact m8 | exact m9 | exact m10 | exact m11 | exact m12 | exact m13 | exact m14 | exact m15 | exact m16 | exact m17 | exact m18 | exact m19 | exact m20 | exact m21 | exact m22 | exact m23 | exact m24 | exact m25 | exact m26 | exact m27) | exact hI.boxRo (by first | exact m0 | exact m1 | exact m2 | exact m3 | exact m4 | exact m5 | exact m6 | exact m7 | exact m8 | exact m9 | exact m10 | exact m11 | exact m12 | exact m13 | exact m14 | exact m15 | exact m16 | exact m17 | exact m18 | exact m19 | exact m20 | exact m21 | exact m22 | exact m23 | exact m24 | exact m25 | exact m26 | exact m27) | exact HInv.vecRo hI (by first | exact m0 | exact m1 | exact m2 | exact m3 | exact m4 | exact m5 | exact m6 | exact m7 | exact m8 | exact m9 | exact m10 | exact m11 | exact m12 | exact m13 | exact m14 | exact m15 | exact m16 | exact m17 | exact m18 | exact m19 | exact m20 | exact m21 | exact m22 | exact m23 | exact m24 | exact m25 | exact m26 | exact m27))))) ?_
       refine jl_op rfl rfl (.none rfl) (v_not rfl rfl tt) ?_
       refine jl_op rfl rfl (.none rfl) (v_move rfl rfl tt) ?_
       refine jl_op rfl rfl (.some rfl rfl rfl) (v_move rfl rfl tt) ?_
       refine jl_op rfl rfl (.some rfl rfl rfl) (v_len rfl rfl Try.underlying22 rfl ii) ?_
       refine jl_op rfl rfl (.some rfl rfl rfl) (v_icmp rfl rfl rfl rfl ii tt) ?_
       refine jl_op rfl rfl (.none rfl) (v_or rfl rfl tt rfl fi) ?_
       refine jl_nil ?_)
    | (refine j_region (id := 2) ?_
       refine jl_op rfl rfl (.none rfl) (v_assign rfl rfl tt) ?_
       refine jl_op rfl rfl (.none rfl) (v_assign rfl rfl tt) ?_
       refine jl_op rfl rfl (.none rfl) (v_assign rfl rfl tt) ?_
       refine jl_nil ?_)
    | (refine j_region (id := 3) ?_
       refine jl_op rfl rfl (.none rfl) (v_assign rfl rfl tt) ?_
       refine jl_nil ?_)
    | (refine j_region (id := 4) ?_
       refine jl_op rfl rfl (.none rfl) (v_move rfl rfl tt) ?_
       refine jl_op rfl rfl (.none rfl) (v_len rfl rfl Try.underlying22 rfl tt) ?_
       refine jl_op rfl rfl (.none rfl) (v_move rfl rfl tt) ?_
       refine jl_nil ?_)
    | (refine j_region (id := 5) ?_
       refine jl_op rfl rfl (.none rfl) (v_icmp rfl rfl rfl rfl tt tt) ?_
       refine jl_nil ?_)
    | (refine j_region (id := 6) ?_
       refine jl_op rfl rfl (.none rfl) (v_move rfl rfl tt) ?_
       refine jl_op rfl rfl (.none rfl) (v_indexAddr rfl Try.underlying22 (by kernel_rfl) rfl rfl tt tt (by first | exact hA_some | exact hA_roT (by first | exact m0 | exact m1 | exact m2 | exact m3 | exact m4 | exact m5 | exact m6 | exact m7 | exact m8 | exact m9 | exact m10 | exact m11 | exact m12 | exact m13 | exact m14 | exact m15 | exact m16 | exact m17 | exact m18 | exact m19 | exact m20 | exact m21 | exact m22 | exact m23 | exact m24 | exact m25 | exact m26 | exact m27) | exact hA_vecT (by first | exact m0 | exact m1 | exact m2 | exact m3 | exact m4 | exact m5 | exact m6 | exact m7 | exact m8 | exact m9 | exact m10 | exact m11 | exact m12 | exact m13 | exact m14 | exact m15 | exact m16 | exact m17 | exact m18 | exact m19 | exact m20 | exact m21 | exact m22 | exact m23 | exact m24 | exact m25 | exact m26 | exact m27) | exact hA_vecP (by first | exact m0 | exact m1 | exact m2 | exact m3 | exact m4 | exact m5 | exact m6 | exact m7 | exact m8 | exact m9 | exact m10 | exact m11 | exact m12 | exact m13 | exact m14 | exact m15 | exact m16 | exact m17 | exact m18 | exact m19 | exact m20 | exact m21 | exact m22 | exact m23 | exact m24 | exact m25 | exact m26 | exact m27) | exact hA_roI (by first | exact m0 | exact m1 | exact m2 | exact m3 | exact m4 | exact m5 | exact m6 | exact m7 | exact m8 | exact m9 | exact m10 | exact m11 | exact m12 | exact m13 | exact m14 | exact m15 | exact m16 | exact m17 | exact m18 | exact m19 | exact m20 | exact m21 | exact m22 | exact m23 | exact m24 | exact m25 | exact m26 | exact m27) | exact hA_vecI (by first | exact m0 | exact m1 | exact m2 | exact m3 | exact m4 | exact m5 | exact m6 | exact m7 | exact m8 | exact m9 | exact m10 | exact m11 | exact m12 | exact m13 | exact m14 | exact m15 | exact m16 | exact m17 | exact m18 | exact m19 | exact m20 | exact m21 | exact m22 | exact m23 | exact m24 | exact m25 | exact m26 | exact m27) | exact hA_vecPI (by first | exact m0 | exact m1 | exact m2 | exact m3 | exact m4 | exact m5 | exact m6 | exact m7 | exact m8 | exact m9 | exact m10 | exact m11 | exact m12 | exact m13 | exact m14 | exact m15 | exact m16 | exact m17 | exact m18 | exact m19 | exact m20 | exact m21 | exact m22 | exact m23 | exact m24 | exact m25 | exact m26 | exact m27) | exact hA_vecPS (by first | exact m0 | exact m1 | exact m2 | exact m3 | exact m4 | exact m5 | exact m6 | exact m7 | exact m8 | exact m9 | exact m10 | exact m11 | exact m12 | exact m13 | exact m14 | exact m15 | exact m16 | exact m17 | exact m18 | exact m19 | exact m20 | exact m21 | exact m22 | exact m23 | exact m24 | exact m25 | exact m26 | exact m27) | exact hA_ro (by first | exact m0 | exact m1 | exact m2 | exact m3 | exact m4 | exact m5 | exact m6 | exact m7 | exact m8 | exact m9 | exact m10 | exact m11 | exact m12 | exact m13 | exact m14 | exact m15 | exact m16 | exact m17 | exact m18 | exact m19 | exact m20 | exact m21 | exact m22 | exact m23 | exact m24 | exact m25 | exact m26 | exact m27) | exact hA_vec (by first | exact m0 | exact m1 | exact m2 | exact m3 | exact m4 | exact m5 | exact m6 | exact m7 | exact m8 | exact m9 | exact m10 | exact m11 | exact m12 | exact m13 | exact m14 | exact m15 | exact m16 | exact m17 | exact m18 | exact m19 | exact m20 | exact m21 | exact m22 | exact m23 | exact m24 | exact m25 | exact m26 | exact m27)) (fun _hc => ⟨(by first | with_reducible rfl | exact (Int.toNat_of_nonneg (by omega)).symm | (have hc := g_gt _hc; exact (Int.toNat_of_nonneg (by omega)).symm)), (by first | omega | (rw [tab_length]; omega) | (rw [part_length]; omega) | (rw [tabI_length]; omega) | (rw [partI_length]; omega) | (rw [List.length_set, part_length]; omega))⟩)) ?_
       first | refine jl_op rfl rfl (.none rfl) (v_loadVec rfl Try.underlying23 (by rfl) rfl tt (by first | exact m0 | exact m1 | exact m2 | exact m3 | exact m4 | exact m5 | exact m6 | exact m7 | exact m8 | exact m9 | exact m10 | exact m11 | exact m12 | exact m13 | exact m14 | exact m15 | exact m16 | exact m17 | exact m18 | exact m19 | exact m20 | exact m21 | exact m22 | exact m23 | exact m24 | exact m25 | exact m26 | exact m27) (fun _ => (by first | with_reducible exact part_get_ge (by omega) (by omega) | with_reducible exact tab_get (by omega) | with_reducible exact tabI_get (by omega) | with_reducible exact part_get (by omega) | exact part_get_ge (by omega) (by omega) | exact tab_get (by omega) | exact tabI_get (by omega) | exact part_get (by omega) | exact part_set_get (by omega) | exact partI_get (by omega) | assumption | rfl))) ?_ | refine jl_op rfl rfl (.none rfl) (v_loadRo rfl Try.underlying23 (by rfl) rfl tt (by first | exact m0 | exact m1 | exact m2 | exact m3 | exact m4 | exact m5 | exact m6 | exact m7 | exact m8 | exact m9 | exact m10 | exact m11 | exact m12 | exact m13 | exact m14 | exact m15 | exact m16 | exact m17 | exact m18 | exact m19 | exact m20 | exact m21 | exact m22 | exact m23 | exact m24 | exact m25 | exact m26 | exact m27) (fun _ => (by first | with_reducible exact part_get_ge (by omega) (by omega) | with_reducible exact tab_get (by omega) | with_reducible exact tabI_get (by omega) | with_reducible exact part_get (by omega) | exact part_get_ge (by omega) (by omega) | exact tab_get (by omega) | exact tabI_get (by omega) | exact part_get (by omega) | exact part_set_get (by omega) | exact partI_get (by omega) | assumption | rfl))) ?_
       refine jl_op rfl rfl (.none rfl) (v_assign rfl rfl tt) ?_
       refine jl_op rfl rfl (.none rfl) (v_assign rfl rfl tt) ?_
       refine jl_nil ?_)
    | (refine j_draw (id := 7) (by kernel_rfl) (by kernel_rfl) ?_
       refine ja_op rfl (.none rfl) (v_move rfl rfl tt) ?_
       refine ja_op rfl (.none rfl) (v_call (f := 103) (xs := [_]) rfl (c_absNumber _ (sound_fin hi.1 (by omega))) (ev_cons rfl tt ev_nil) (by intro w hc hI; first | trivial | (exfalso; simp_all; done) | (clear hc; repeat' (first | exact ros_nil | refine ros_cons ?_ ?_ | exact hI.roRo (by first | exact m0 | exact m1 | exact m2 | exact m3 | exact m4 | exact m5 | exact m6 | exact m7 | exact m8 | exact m9 | exact m10 | exact m11 | exact m12 | exact m13 | exact m14 | exact m15 | exact m16 | exact m17 | exact m18 | exact m19 | exact m20 | exact m21 | exact m22 | exact m23 | exact m24 | exact m25 | exact m26 | exact m27) | exact hI.boxRo (by first | exact m0 | exact m1 | exact m2 | exact m3 | exact m4 | exact m5 | exact m6 | exact m7 | exact m8 | exact m9 | exact m10 | exact m11 | exact m12 | exact m13 | exact m14 | exact m15 | exact m16 | exact m17 | exact m18 | exact m19 | exact m20 | exact m21 | exact m22 | exact m23 | exact m24 | exact m25 | exact m26 | exact m27) | exact HInv.vecRo hI (by first | exact m0 | exact m1 | exact m2 | exact m3 | exact m4 | exact m5 | exact m6 | exact m7 | exact m8 | exact m9 | exact m10 | exact m11 | exact m12 | exact m13 | exact m14 | exact m15 | exact m16 | exact m17 | exact m18 | exact m19 | exact m20 | exact m21 | exact m22 | exact m23 | exact m24 | exact m25 | exact m26 | exact m27))))) ?_
       refine ja_op rfl (.none rfl) (v_move rfl rfl tt) ?_
       refine ja_op rfl (.none rfl) (v_move rfl rfl tt) ?_
       refine ja_op rfl (.none rfl) (v_indexAddr rfl Try.underlying22 (by kernel_rfl) rfl rfl tt tt (by first | exact hA_some | exact hA_roT (by first | exact m0 | exact m1 | exact m2 | exact m3 | exact m4 | exact m5 | exact m6 | exact m7 | exact m8 | exact m9 | exact m10 | exact m11 | exact m12 | exact m13 | exact m14 | exact m15 | exact m16 | exact m17 | exact m18 | exact m19 | exact m20 | exact m21 | exact m22 | exact m23 | exact m24 | exact m25 | exact m26 | exact m27) | exact hA_vecT (by first | exact m0 | exact m1 | exact m2 | exact m3 | exact m4 | exact m5 | exact m6 | exact m7 | exact m8 | exact m9 | exact m10 | exact m11 | exact m12 | exact m13 | exact m14 | exact m15 | exact m16 | exact m17 | exact m18 | exact m19 | exact m20 | exact m21 | exact m22 | exact m23 | exact m24 | exact m25 | exact m26 | exact m27) | exact hA_vecP (by first | exact m0 | exact m1 | exact m2 | exact m3 | exact m4 | exact m5 | exact m6 | exact m7 | exact m8 | exact m9 | exact m10 | exact m11 | exact m12 | exact m13 | exact m14 | exact m15 | exact m16 | exact m17 | exact m18 | exact m19 | exact m20 | exact m21 | exact m22 | exact m23 | exact m24 | exact m25 | exact m26 | exact m27) | exact hA_roI (by first | exact m0 | exact m1 | exact m2 | exact m3 | exact m4 | exact m5 | exact m6 | exact m7 | exact m8 | exact m9 | exact m10 | exact m11 | exact m12 | exact m13 | exact m14 | exact m15 | exact m16 | exact m17 | exact m18 | exact m19 | exact m20 | exact m21 | exact m22 | exact m23 | exact m24 | exact m25 | exact m26 | exact m27) | exact hA_vecI (by first | exact m0 | exact m1 | exact m2 | exact m3 | exact m4 | exact m5 | exact m6 | exact m7 | exact m8 | exact m9 | exact m10 | exact m11 | exact m12 | exact m13 | exact m14 | exact m15 | exact m16 | exact m17 | exact m18 | exact m19 | exact m20 | exact m21 | exact m22 | exact m23 | exact m24 | exact m25 | exact m26 | exact m27) | exact hA_vecPI (by first | exact m0 | exact m1 | exact m2 | exact m3 | exact m4 | exact m5 | exact m6 | exact m7 | exact m8 | exact m9 | exact m10 | exact m11 | exact m12 | exact m13 | exact m14 | exact m15 | exact m16 | exact m17 | exact m18 | exact m19 | exact m20 | exact m21 | exact m22 | exact m23 | exact m24 | exact m25 | exact m26 | exact m27) | exact hA_vecPS (by first | exact m0 | exact m1 | exact m2 | exact m3 | exact m4 | exact m5 | exact m6 | exact m7 | exact m8 | exact m9 | exact m10 | exact m11 | exact m12 | exact m13 | exact m14 | exact m15 | exact m16 | exact m17 | exact m18 | exact m19 | exact m20 | exact m21 | exact m22 | exact m23 | exact m24 | exact m25 | exact m26 | exact m27) | exact hA_ro (by first | exact m0 | exact m1 | exact m2 | exact m3 | exact m4 | exact m5 | exact m6 | exact m7 | exact m8 | exact m9 | exact m10 | exact m11 | exact m12 | exact m13 | exact m14 | exact m15 | exact m16 | exact m17 | exact m18 | exact m19 | exact m20 | exact m21 | exact m22 | exact m23 | exact m24 | exact m25 | exact m26 | exact m27) | exact hA_vec (by first | exact m0 | exact m1 | exact m2 | exact m3 | exact m4 | exact m5 | exact m6 | exact m7 | exact m8 | exact m9 | exact m10 | exact m11 | exact m12 | exact m13 | exact m14 | exact m15 | exact m16 | exact m17 | exact m18 | exact m19 | exact m20 | exact m21 | exact m22 | exact m23 | exact m24 | exact m25 | exact m26 | exact m27)) (fun _hc => ⟨(by first | with_reducible rfl | exact (Int.toNat_of_nonneg (by omega)).symm | (have hc := g_gt _hc; exact (Int.toNat_of_nonneg (by omega)).symm)), (by first | omega | (rw [tab_length]; omega) | (rw [part_length]; omega) | (rw [tabI_length]; omega) | (rw [partI_length]; omega) | (rw [List.length_set, part_length]; omega))⟩)) ?_
       first | refine ja_op rfl (.none rfl) (v_loadVec rfl Try.underlying23 (by rfl) rfl tt (by first | exact m0 | exact m1 | exact m2 | exact m3 | exact m4 | exact m5 | exact m6 | exact m7 | exact m8 | exact m9 | exact m10 | exact m11 | exact m12 | exact m13 | exact m14 | exact m15 | exact m16 | exact m17 | exact m18 | exact m19 | exact m20 | exact m21 | exact m22 | exact m23 | exact m24 | exact m25 | exact m26 | exact m27) (fun _ => (by first | with_reducible exact part_get_ge (by omega) (by omega) | with_reducible exact tab_get (by omega) | with_reducible exact tabI_get (by omega) | with_reducible exact part_get (by omega) | exact part_get_ge (by omega) (by omega) | exact tab_get (by omega) | exact tabI_get (by omega) | exact part_get (by omega) | exact part_set_get (by omega) | exact partI_get (by omega) | assumption | rfl))) ?_ | refine ja_op rfl (.none rfl) (v_loadRo rfl Try.underlying23 (by rfl) rfl tt (by first | exact m0 | exact m1 | exact m2 | exact m3 | exact m4 | exact m5 | exact m6 | exact m7 | exact m8 | exact m9 | exact m10 | exact m11 | exact m12 | exact m13 | exact m14 | exact m15 | exact m16 | exact m17 | exact m18 | exact m19 | exact m20 | exact m21 | exact m22 | exact m23 | exact m24 | exact m25 | exact m26 | exact m27) (fun _ => (by first | with_reducible exact part_get_ge (by omega) (by omega) | with_reducible exact tab_get (by omega) | with_reducible exact tabI_get (by omega) | with_reducible exact part_get (by omega) | exact part_get_ge (by omega) (by omega) | exact tab_get (by omega) | exact tabI_get (by omega) | exact part_get (by omega) | exact part_set_get (by omega) | exact partI_get (by omega) | assumption | rfl))) ?_
       refine ja_op rfl (.none rfl) (v_call (f := 103) (xs := [_]) rfl (c_absNumber _ (sound_fin hi.1 (by omega))) (ev_cons rfl tt ev_nil) (by intro w hc hI; first | trivial | (exfalso; simp_all; done) | (clear hc; repeat' (first | exact ros_nil | refine ros_cons ?_ ?_ | exact hI.roRo (by first | exact m0 | exact m1 | exact m2 | exact m3 | exact m4 | exact m5 | exact m6 | exact m7 | exact m8 | exact m9 | exact m10 | exact m11 | exact m12 | exact m13 | exact m14 | exact m15 | exact m16 | exact m17 | exact m18 | exact m19 | exact m20 | exact m21 | exact m22 | exact m23 | exact m24 | exact m25 | exact m26 | exact m27) | exact hI.boxRo (by first | exact m0 | exact m1 | exact m2 | exact m3 | exact m4 | exact m5 | exact m6 | exact m7 | exact m8 | exact m9 | exact m10 | exact m11 | exact m12 | exact m13 | exact m14 | exact m15 | exact m16 | exact m17 | exact m18 | exact m19 | exact m20 | exact m21 | exact m22 | exact m23 | exact m24 | exact m25 | exact m26 | exact m27) | exact HInv.vecRo hI (by first | exact m0 | exact m1 | exact m2 | exact m3 | exact m4 | exact m5 | exact m6 | exact m7 | exact m8 | exact m9 | exact m10 | exact m11 | exact m12 | exact m13 | exact m14 | exact m15 | exact m16 | exact m17 | exact m18 | exact m19 | exact m20 | exact m21 | exact m22 | exact m23 | exact m24 | exact m25 | exact m26 | exact m27))))) ?_
       refine ja_op rfl (.none rfl) (v_fcmp rfl rfl rfl rfl tt tt) ?_
       refine ja_nil rfl ?_)
    | (refine j_region (id := 8) ?_
       refine jl_op rfl rfl (.none rfl) (v_move rfl rfl tt) ?_
       refine jl_op rfl rfl (.none rfl) (v_assign rfl rfl tt) ?_
       refine jl_nil ?_)
    | (refine j_region (id := 9) ?_
       refine jl_op rfl rfl (.none rfl) (v_iarith' rfl rfl rfl rfl tt tt (by first | exact fun _ => iw_add (by omega) | exact fun _ => rfl)) ?_
       refine jl_op rfl rfl (.none rfl) (v_move rfl rfl tt) ?_
       refine jl_nil ?_)
    | (refine j_region (id := 10) ?_
       refine jl_op rfl rfl (.none rfl) (v_move rfl rfl tt) ?_
       refine jl_op rfl rfl (.none rfl) (v_move rfl rfl tt) ?_
       refine jl_op rfl rfl (.none rfl) (v_move rfl rfl tt) ?_
       refine jl_op rfl rfl (.none rfl) (v_indexAddr rfl Try.underlying22 (by kernel_rfl) rfl rfl tt tt (by first | exact hA_some | exact hA_roT (by first | exact m0 | exact m1 | exact m2 | exact m3 | exact m4 | exact m5 | exact m6 | exact m7 | exact m8 | exact m9 | exact m10 | exact m11 | exact m12 | exact m13 | exact m14 | exact m15 | exact m16 | exact m17 | exact m18 | exact m19 | exact m20 | exact m21 | exact m22 | exact m23 | exact m24 | exact m25 | exact m26 | exact m27) | exact hA_vecT (by first | exact m0 | exact m1 | exact m2 | exact m3 | exact m4 | exact m5 | exact m6 | exact m7 | exact m8 | exact m9 | exact m10 | exact m11 | exact m12 | exact m13 | exact m14 | exact m15 | exact m16 | exact m17 | exact m18 | exact m19 | exact m20 | exact m21 | exact m22 | exact m23 | exact m24 | exact m25 | exact m26 | exact m27) | exact hA_vecP (by first | exact m0 | exact m1 | exact m2 | exact m3 | exact m4 | exact m5 | exact m6 | exact m7 | exact m8 | exact m9 | exact m10 | exact m11 | exact m12 | exact m13 | exact m14 | exact m15 | exact m16 | exact m17 | exact m18 | exact m19 | exact m20 | exact m21 | exact m22 | exact m23 | exact m24 | exact m25 | exact m26 | exact m27) | exact hA_roI (by first | exact m0 | exact m1 | exact m2 | exact m3 | exact m4 | exact m5 | exact m6 | exact m7 | exact m8 | exact m9 | exact m10 | exact m11 | exact m12 | exact m13 | exact m14 | exact m15 | exact m16 | exact m17 | exact m18 | exact m19 | exact m20 | exact m21 | exact m22 | exact m23 | exact m24 | exact m25 | exact m26 | exact m27) | exact hA_vecI (by first | exact m0 | exact m1 | exact m2 | exact m3 | exact m4 | exact m5 | exact m6 | exact m7 | exact m8 | exact m9 | exact m10 | exact m11 | exact m12 | exact m13 | exact m14 | exact m15 | exact m16 | exact m17 | exact m18 | exact m19 | exact m20 | exact m21 | exact m22 | exact m23 | exact m24 | exact m25 | exact m26 | exact m27) | exact hA_vecPI (by first | exact m0 | exact m1 | exact m2 | exact m3 | exact m4 | exact m5 | exact m6 | exact m7 | exact m8 | exact m9 | exact m10 | exact m11 | exact m12 | exact m13 | exact m14 | exact m15 | exact m16 | exact m17 | exact m18 | exact m19 | exact m20 | exact m21 | exact m22 | exact m23 | exact m24 | exact m25 | exact m26 | exact m27) | exact hA_vecPS (by first | exact m0 | exact m1 | exact m2 | exact m3 | exact m4 | exact m5 | exact m6 | exact m7 | exact m8 | exact m9 | exact m10 | exact m11 | exact m12 | exact m13 | exact m14 | exact m15 | exact m16 | exact m17 | exact m18 | exact m19 | exact m20 | exact m21 | exact m22 | exact m23 | exact m24 | exact m25 | exact m26 | exact m27) | exact hA_ro (by first | exact m0 | exact m1 | exact m2 | exact m3 | exact m4 | exact m5 | exact m6 | exact m7 | exact m8 | exact m9 | exact m10 | exact m11 | exact m12 | exact m13 | exact m14 | exact m15 | exact m16 | exact m17 | exact m18 | exact m19 | exact m20 | exact m21 | exact m22 | exact m23 | exact m24 | exact m25 | exact m26 | exact m27) | exact hA_vec (by first | exact m0 | exact m1 | exact m2 | exact m3 | exact m4 | exact m5 | exact m6 | exact m7 | exact m8 | exact m9 | exact m10 | exact m11 | exact m12 | exact m13 | exact m14 | exact m15 | exact m16 | exact m17 | exact m18 | exact m19 | exact m20 | exact m21 | exact m22 | exact m23 | exact m24 | exact m25 | exact m26 | exact m27)) (fun _hc => ⟨(by first | with_reducible rfl | exact (Int.toNat_of_nonneg (by omega)).symm | (have hc := g_gt _hc; exact (Int.toNat_of_nonneg (by omega)).symm)), (by first | omega | (rw [tab_length]; omega) | (rw [part_length]; omega) | (rw [tabI_length]; omega) | (rw [partI_length]; omega) | (rw [List.length_set, part_length]; omega))⟩)) ?_
       first | refine jl_op rfl rfl (.none rfl) (v_loadVec rfl Try.underlying23 (by rfl) rfl tt (by first | exact m0 | exact m1 | exact m2 | exact m3 | exact m4 | exact m5 | exact m6 | exact m7 | exact m8 | exact m9 | exact m10 | exact m11 | exact m12 | exact m13 | exact m14 | exact m15 | exact m16 | exact m17 | exact m18 | exact m19 | exact m20 | exact m21 | exact m22 | exact m23 | exact m24 | exact m25 | exact m26 | exact m27) (fun _ => (by first | with_reducible exact part_get_ge (by omega) (by omega) | with_reducible exact tab_get (by omega) | with_reducible exact tabI_get (by omega) | with_reducible exact part_get (by omega) | exact part_get_ge (by omega) (by omega) | exact tab_get (by omega) | exact tabI_get (by omega) | exact part_get (by omega) | exact part_set_get (by omega) | exact partI_get (by omega) | assumption | rfl))) ?_ | refine jl_op rfl rfl (.none rfl) (v_loadRo rfl Try.underlying23 (by rfl) rfl tt (by first | exact m0 | exact m1 | exact m2 | exact m3 | exact m4 | exact m5 | exact m6 | exact m7 | exact m8 | exact m9 | exact m10 | exact m11 | exact m12 | exact m13 | exact m14 | exact m15 | exact m16 | exact m17 | exact m18 | exact m19 | exact m20 | exact m21 | exact m22 | exact m23 | exact m24 | exact m25 | exact m26 | exact m27) (fun _ => (by first | with_reducible exact part_get_ge (by omega) (by omega) | with_reducible exact tab_get (by omega) | with_reducible exact tabI_get (by omega) | with_reducible exact part_get (by omega) | exact part_get_ge (by omega) (by omega) | exact tab_get (by omega) | exact tabI_get (by omega) | exact part_get (by omega) | exact part_set_get (by omega) | exact partI_get (by omega) | assumption | rfl))) ?_
       refine jl_op rfl rfl (.none rfl) (v_call (f := 103) (xs := [_]) rfl (c_absNumber _ (sound_fin hi.1 (by omega))) (ev_cons rfl tt ev_nil) (by intro w hc hI; first | trivial | (exfalso; simp_all; done) | (clear hc; repeat' (first | exact ros_nil | refine ros_cons ?_ ?_ | exact hI.roRo (by first | exact m0 | exact m1 | exact m2 | exact m3 | exact m4 | exact m5 | exact m6 | exact m7 | exact m8 | exact m9 | exact m10 | exact m11 | exact m12 | exact m13 | exact m14 | exact m15 | exact m16 | exact m17 | exact m18 | exact m19 | exact m20 | exact m21 | exact m22 | exact m23 | exact m24 | exact m25 | exact m26 | exact m27) | exact hI.boxRo (by first | exact m0 | exact m1 | exact m2 | exact m3 | exact m4 | exact m5 | exact m6 | exact m7 | exact m8 | exact m9 | exact m10 | exact m11 | exact m12 | exact m13 | exact m14 | exact m15 | exact m16 | exact m17 | exact m18 | exact m19 | exact m20 | exact m21 | exact m22 | exact m23 | exact m24 | exact m25 | exact m26 | exact m27) | exact HInv.vecRo hI (by first | exact m0 | exact m1 | exact m2 | exact m3 | exact m4 | exact m5 | exact m6 | exact m7 | exact m8 | exact m9 | exact m10 | exact m11 | exact m12 | exact m13 | exact m14 | exact m15 | exact m16 | exact m17 | exact m18 | exact m19 | exact m20 | exact m21 | exact m22 | exact m23 | exact m24 | exact m25 | exact m26 | exact m27))))) ?_
       refine jl_op rfl rfl (.none rfl) (v_assign rfl rfl tt) ?_
       refine jl_op rfl rfl (.none rfl) (v_assign rfl rfl tt) ?_
       refine jl_op rfl rfl (.none rfl) (v_assign rfl rfl tt) ?_
       refine jl_nil ?_)))
  all_goals first | exact jq_ret3E (.inl rfl) Try.results88 rfl rfl rfl rfl rfl rfl (by rw [peakV, show peakOk N g = false from by unfold peakOk; cases h1 : sound N g <;> simp_all]; rfl) | (obtain rfl : i = N := (by omega); exact jq_ret3E (.inl rfl) Try.results88 rfl rfl rfl rfl rfl rfl (by rw [peakV, show peakOk i g = true from by unfold peakOk; simp_all]; rfl))
theorem c_peakY (A : Option Addr) (N cap : Nat) (g : Nat → Nat) (hN : N ≤ 4294967296) (kc : ∀ j, j < N → Can (g j)) (hok : peakOk N g = true) : Con Try.prog 88 [.slice A N cap] (RoS [.ro A (tab N g)]) (.tuple #[.int .i64 (pkB sizeS g N : Nat), F (topP N g), .bool true]) := by
  have h := c_peakI A N cap g hN
  rw [peak_same kc, peakV, hok] at h
  exact h
theorem c_peakN (A : Option Addr) (N cap : Nat) (g : Nat → Nat) (hN : N ≤ 4294967296) (kc : ∀ j, j < N → Can (g j)) (hok : peakOk N g = false) : Con Try.prog 88 [.slice A N cap] (RoS [.ro A (tab N g)]) (.tuple #[.int .i64 0, F 0, .bool false]) := by
  have h := c_peakI A N cap g hN
  rw [peak_same kc, peakV, hok] at h
  exact h
theorem c_toPeakF (i y : Nat) (B : Nat) (x : Nat) : Con Try.prog 90 [.int .i64 i, F y, .pointer (some ⟨B, 0, none⟩)] (RoS [.ro (some ⟨B, 0, none⟩) [F x]]) (.float .f32 (farith .mul .f32 y x)) := by
  refine con_intro (H := [.ro (some ⟨B, 0, none⟩) [F x]]) Try.func90 (by decide) rfl rfl (fun w h => h.inv) (fun w0 _ => ?_)
  (repeat' (first
    | refine j_condLt rfl (fun _ => ?_) (fun _ => ?_)
    | refine j_condLe rfl (fun _ => ?_) (fun _ => ?_)
    | refine j_condGt rfl (fun _ => ?_) (fun _ => ?_)
    | refine j_condGe rfl (fun _ => ?_) (fun _ => ?_)
    | refine j_condNe rfl (fun _ => ?_) (fun _ => ?_)
    | refine j_condEq rfl (fun _ => ?_) (fun _ => ?_)
    | refine j_condOrLt rfl (fun _ => ?_) (fun _ => ?_)
    | refine j_condAndLt rfl (fun _ => ?_) (fun _ => ?_)
    | refine j_condAndGe rfl (fun _ => ?_) (fun _ => ?_)
    | refine j_seq ?_
    | refine jq_then ?_
    | refine j_block ?_
    | refine j_ret ?_
    | refine jq_then_ret ?_
    | refine jq_block_ret ?_
    | refine jq_block_normal ?_
    | refine jq_then_exit ?_
    | refine jq_block_same rfl ?_
    | refine jq_block_other rfl ?_
    | refine j_skip ?_
    | refine j_exit ?_
    | refine j_label ?_
    | refine j_cond rfl (fun _ => ?_) (fun _ => ?_)
    | (refine j_region (id := 0) ?_
       refine jl_op rfl rfl (.none rfl) (v_assign rfl rfl tt) ?_
       refine jl_nil ?_)
    | (refine j_region (id := 1) ?_
       refine jl_op rfl rfl (.none rfl) (v_move rfl rfl tt) ?_
       first | refine jl_op rfl rfl (.none rfl) (v_loadBox rfl Try.underlying23 (by rfl) rfl tt (by first | exact m0 | exact m1 | exact m2 | exact m3 | exact m4 | exact m5 | exact m6 | exact m7 | exact m8 | exact m9 | exact m10 | exact m11 | exact m12 | exact m13 | exact m14 | exact m15 | exact m16 | exact m17 | exact m18 | exact m19 | exact m20 | exact m21 | exact m22 | exact m23 | exact m24 | exact m25 | exact m26 | exact m27) (by rfl)) ?_ | refine jl_op rfl rfl (.none rfl) (v_loadRoB rfl Try.underlying23 (by rfl) rfl tt (by first | exact m0 | exact m1 | exact m2 | exact m3 | exact m4 | exact m5 | exact m6 | exact m7 | exact m8 | exact m9 | exact m10 | exact m11 | exact m12 | exact m13 | exact m14 | exact m15 | exact m16 | exact m17 | exact m18 | exact m19 | exact m20 | exact m21 | exact m22 | exact m23 | exact m24 | exact m25 | exact m26 | exact m27) (by rfl)) ?_
       refine jl_op rfl rfl (.none rfl) (v_farith rfl rfl rfl rfl tt tt) ?_
       refine jl_op rfl rfl (.none rfl) (v_assign rfl rfl tt) ?_
       refine jl_nil ?_)))
  all_goals exact jq_ret1 (.inl rfl) Try.results90 rfl
theorem c_toPeakI (A : Option Addr) (N cap : Nat) (g : Nat → Nat) (x : Nat) (hN : N ≤ 4294967296) (kc : ∀ j, j < N → Can (g j)) : ConM Try.prog 47 [.slice A N cap, F x] (RoS [.ro A (tab N g)]) (listV (toPeak N g x && allB N (fun j => fin (farith .mul .f32 (g j) (farith .quo .f32 x (topP N g))))) N) (listK 23 (toPeak N g x && allB N (fun j => fin (farith .mul .f32 (g j) (farith .quo .f32 x (topP N g))))) N (fun j => farith .mul .f32 (g j) (farith .quo .f32 x (topP N g)))) := by
  refine conM_intro (H := [.ro A (tab N g)]) Try.func47 (by decide) rfl rfl (fun w h => h.inv) (fun w0 _ => ?_)
  cases hok : peakOk N g
  all_goals (repeat' (first
    | refine j_condLt rfl (fun _ => ?_) (fun _ => ?_)
    | refine j_condLe rfl (fun _ => ?_) (fun _ => ?_)
    | refine j_condGt rfl (fun _ => ?_) (fun _ => ?_)
    | refine j_condGe rfl (fun _ => ?_) (fun _ => ?_)
    | refine j_condNe rfl (fun _ => ?_) (fun _ => ?_)
    | refine j_condEq rfl (fun _ => ?_) (fun _ => ?_)
    | refine j_condOrLt rfl (fun _ => ?_) (fun _ => ?_)
    | refine j_condAndLt rfl (fun _ => ?_) (fun _ => ?_)
    | refine j_condAndGe rfl (fun _ => ?_) (fun _ => ?_)
    | refine j_seq ?_
    | refine jq_then ?_
    | refine j_block ?_
    | refine j_ret ?_
    | refine jq_then_ret ?_
    | refine jq_block_ret ?_
    | refine jq_block_normal ?_
    | refine jq_then_exit ?_
    | refine jq_block_same rfl ?_
    | refine jq_block_other rfl ?_
    | refine j_skip ?_
    | refine j_exit ?_
    | refine j_label ?_
    | refine j_cond rfl (fun _ => ?_) (fun _ => ?_)
    | (refine j_region (id := 0) ?_
       refine jl_op rfl rfl (.none rfl) (v_assign rfl rfl tt) ?_
       refine jl_op rfl rfl (.none rfl) (v_assign rfl rfl tt) ?_
       refine jl_nil ?_)
    | (refine j_region (id := 1) ?_
       refine jl_op rfl rfl (.none rfl) (v_move rfl rfl tt) ?_
       first | refine jl_op rfl rfl (.none rfl) (v_call (f := 88) (xs := [_]) rfl (c_peakY _ _ _ _ hN kc (by assumption)) (ev_cons rfl tt ev_nil) (by intro w hc hI; first | trivial | (exfalso; simp_all; done) | (clear hc; repeat' (first | exact ros_nil | refine ros_cons ?_ ?_ | exact hI.roRo (by first | exact m0 | exact m1 | exact m2 | exact m3 | exact m4 | exact m5 | exact m6 | exact m7 | exact m8 | exact m9 | exact m10 | exact m11 | exact m12 | exact m13 | exact m14 | exact m15 | exact m16 | exact m17 | exact m18 | exact m19 | exact m20 | exact m21 | exact m22 | exact m23 | exact m24 | exact m25 | exact m26 | exact m27) | exact hI.boxRo (by first | exact m0 | exact m1 | exact m2 | exact m3 | exact m4 | exact m5 | exact m6 | exact m7 | exact m8 | exact m9 | exact m10 | exact m11 | exact m12 | exact m13 | exact m14 | exact m15 | exact m16 | exact m17 | exact m18 | exact m19 | exact m20 | exact m21 | exact m22 | exact m23 | exact m24 | exact m25 | exact m26 | exact m27) | exact HInv.vecRo hI (by first | exact m0 | exact m1 | exact m2 | exact m3 | exact m4 | exact m5 | exact m6 | exact m7 | exact m8 | exact m9 | exact m10 | exact m11 | exact m12 | exact m13 | exact m14 | exact m15 | exact m16 | exact m17 | exact m18 | exact m19 | exact m20 | exact m21 | exact m22 | exact m23 | exact m24 | exact m25 | exact m26 | exact m27))))) ?_ | refine jl_op rfl rfl (.none rfl) (v_call (f := 88) (xs := [_]) rfl (c_peakN _ _ _ _ hN kc (by assumption)) (ev_cons rfl tt ev_nil) (by intro w hc hI; first | trivial | (exfalso; simp_all; done) | (clear hc; repeat' (first | exact ros_nil | refine ros_cons ?_ ?_ | exact hI.roRo (by first | exact m0 | exact m1 | exact m2 | exact m3 | exact m4 | exact m5 | exact m6 | exact m7 | exact m8 | exact m9 | exact m10 | exact m11 | exact m12 | exact m13 | exact m14 | exact m15 | exact m16 | exact m17 | exact m18 | exact m19 | exact m20 | exact m21 | exact m22 | exact m23 | exact m24 | exact m25 | exact m26 | exact m27) | exact hI.boxRo (by first | exact m0 | exact m1 | exact m2 | exact m3 | exact m4 | exact m5 | exact m6 | exact m7 | exact m8 | exact m9 | exact m10 | exact m11 | exact m12 | exact m13 | exact m14 | exact m15 | exact m16 | exact m17 | exact m18 | exact m19 | exact m20 | exact m21 | exact m22 | exact m23 | exact m24 | exact m25 | exact m26 | exact m27) | exact HInv.vecRo hI (by first | exact m0 | exact m1 | exact m2 | exact m3 | exact m4 | exact m5 | exact m6 | exact m7 | exact m8 | exact m9 | exact m10 | exact m11 | exact m12 | exact m13 | exact m14 | exact m15 | exact m16 | exact m17 | exact m18 | exact m19 | exact m20 | exact m21 | exact m22 | exact m23 | exact m24 | exact m25 | exact m26 | exact m27))))) ?_
       refine jl_op rfl rfl (.none rfl) (v_move rfl rfl tt) ?_
       refine jl_op rfl rfl (.none rfl) (v_extract rfl rfl tt rfl) ?_
       refine jl_op rfl rfl (.none rfl) (v_extract rfl rfl tt rfl) ?_
       refine jl_op rfl rfl (.none rfl) (v_extract rfl rfl tt rfl) ?_
       refine jl_op rfl rfl (.none rfl) (v_assign rfl rfl tt) ?_
       refine jl_op rfl rfl (.none rfl) (v_assign rfl rfl tt) ?_
       refine jl_op rfl rfl (.none rfl) (v_assign rfl rfl tt) ?_
       refine jl_nil ?_)
    | (refine j_region (id := 2) ?_
       refine jl_op rfl rfl (.none rfl) (v_move rfl rfl tt) ?_
       refine jl_op rfl rfl (.none rfl) (v_not rfl rfl tt) ?_
       refine jl_op rfl rfl (.none rfl) (v_move rfl rfl tt) ?_
       refine jl_op rfl rfl (.some rfl rfl rfl) (v_move rfl rfl tt) ?_
       refine jl_op rfl rfl (.some rfl rfl rfl) (v_fcmp rfl rfl rfl rfl ii tt) ?_
       refine jl_op rfl rfl (.none rfl) (v_or rfl rfl tt rfl fi) ?_
       refine jl_op rfl rfl (.none rfl) (v_move rfl rfl tt) ?_
       refine jl_op rfl rfl (.some rfl rfl rfl) (v_move rfl rfl tt) ?_
       refine jl_op rfl rfl (.some rfl rfl rfl) (v_call (f := 52) (xs := [_]) rfl (c_IsFinite ..) (ev_cons rfl ii ev_nil) (by intro w hc hI; first | trivial | (exfalso; simp_all; done) | (clear hc; repeat' (first | exact ros_nil | refine ros_cons ?_ ?_ | exact hI.roRo (by first | exact m0 | exact m1 | exact m2 | exact m3 | exact m4 | exact m5 | exact m6 | exact m7 | exact m8 | exact m9 | exact m10 | exact m11 | exact m12 | exact m13 | exact m14 | exact m15 | exact m16 | exact m17 | exact m18 | exact m19 | exact m20 | exact m21 | exact m22 | exact m23 | exact m24 | exact m25 | exact m26 | exact m27) | exact hI.boxRo (by first | exact m0 | exact m1 | exact m2 | exact m3 | exact m4 | exact m5 | exact m6 | exact m7 | exact m8 | exact m9 | exact m10 | exact m11 | exact m12 | exact m13 | exact m14 | exact m15 | exact m16 | exact m17 | exact m18 | exact m19 | exact m20 | exact m21 | exact m22 | exact m23 | exact m24 | exact m25 | exact m26 | exact m27) | exact HInv.vecRo hI (by first | exact m0 | exact m1 | exact m2 | exact m3 | exact m4 | exact m5 | exact m6 | exact m7 | exact m8 | exact m9 | exact m10 | exact m11 | exact m12 | exact m13 | exact m14 | exact m15 | exact m16 | exact m17 | exact m18 | exact m19 | exact m20 | exact m21 | exact m22 | exact m23 | exact m24 | exact m25 | exact m26 | exact m27))))) ?_
       refine jl_op rfl rfl (.some rfl rfl rfl) (v_not rfl rfl ii) ?_
       refine jl_op rfl rfl (.none rfl) (v_or rfl rfl tt rfl fi) ?_
       refine jl_op rfl rfl (.none rfl) (v_move rfl rfl tt) ?_
       refine jl_op rfl rfl (.some rfl rfl rfl) (v_move rfl rfl tt) ?_
       refine jl_op rfl rfl (.some rfl rfl rfl) (v_fcmp rfl rfl rfl rfl ii tt) ?_
       refine jl_op rfl rfl (.none rfl) (v_or rfl rfl tt rfl fi) ?_
       refine jl_nil ?_)
    | (refine j_region (id := 3) ?_
       refine jl_op rfl rfl (.none rfl) (v_assign rfl rfl tt) ?_
       refine jl_op rfl rfl (.none rfl) (v_assign rfl rfl tt) ?_
       refine jl_nil ?_)
    | (refine j_region (id := 4) ?_
       refine jl_op rfl rfl (.none rfl) (v_move rfl rfl tt) ?_
       refine jl_op rfl rfl (.none rfl) (v_move rfl rfl tt) ?_
       refine jl_op rfl rfl (.none rfl) (v_farith rfl rfl rfl rfl tt tt) ?_
       refine jl_alloc rfl rfl rfl rfl zero23 (by rfl) (fun b9 => ?_)
       first | refine jl_storeBox (i := 0) rfl rfl rfl (by kernel_rfl) rfl rfl rfl rfl rfl ?_ | refine jl_storeBox (i := 1) rfl rfl rfl (by kernel_rfl) rfl rfl rfl rfl rfl ?_ | refine jl_storeBox (i := 2) rfl rfl rfl (by kernel_rfl) rfl rfl rfl rfl rfl ?_ | refine jl_storeBox (i := 3) rfl rfl rfl (by kernel_rfl) rfl rfl rfl rfl rfl ?_ | refine jl_storeBox (i := 4) rfl rfl rfl (by kernel_rfl) rfl rfl rfl rfl rfl ?_ | refine jl_storeBox (i := 5) rfl rfl rfl (by kernel_rfl) rfl rfl rfl rfl rfl ?_ | refine jl_storeBox (i := 6) rfl rfl rfl (by kernel_rfl) rfl rfl rfl rfl rfl ?_ | refine jl_storeBox (i := 7) rfl rfl rfl (by kernel_rfl) rfl rfl rfl rfl rfl ?_
       refine jl_nil ?_)
    | (refine j_region (id := 5) ?_
       refine jl_op rfl rfl (.none rfl) (v_move rfl rfl tt) ?_
       refine jl_op rfl rfl (.none rfl) (v_makeFunc rfl (ev_cons rfl tt ev_nil) (fun vs h => by exact abL_exact rfl h)) ?_
       refine jl_x rfl rfl rfl (x_call (f := 89) (xs := [_, _]) rfl (c_changedSound _ _ _ _ (fun j => farith .mul .f32 (g j) (farith .quo .f32 x (topP N g))) _ [.pointer (some ⟨b9, 0, none⟩)] [.ro (some ⟨b9, 0, none⟩) [F (farith .quo .f32 x (topP N g))]] hN (abL_self rfl) (by simp [HFact.isOwn]) (fun j hj => c_toPeakF ..)) (ev_cons rfl tt (ev_cons rfl tt ev_nil)) (by intro w hI; first | trivial | (repeat' (first | exact ros_nil | refine ros_cons ?_ ?_ | exact hI.roRo (by first | exact m0 | exact m1 | exact m2 | exact m3 | exact m4 | exact m5 | exact m6 | exact m7 | exact m8 | exact m9 | exact m10 | exact m11 | exact m12 | exact m13 | exact m14 | exact m15 | exact m16 | exact m17 | exact m18 | exact m19 | exact m20 | exact m21 | exact m22 | exact m23 | exact m24 | exact m25 | exact m26 | exact m27) | exact hI.boxRo (by first | exact m0 | exact m1 | exact m2 | exact m3 | exact m4 | exact m5 | exact m6 | exact m7 | exact m8 | exact m9 | exact m10 | exact m11 | exact m12 | exact m13 | exact m14 | exact m15 | exact m16 | exact m17 | exact m18 | exact m19 | exact m20 | exact m21 | exact m22 | exact m23 | exact m24 | exact m25 | exact m26 | exact m27) | exact HInv.vecRo hI (by first | exact m0 | exact m1 | exact m2 | exact m3 | exact m4 | exact m5 | exact m6 | exact m7 | exact m8 | exact m9 | exact m10 | exact m11 | exact m12 | exact m13 | exact m14 | exact m15 | exact m16 | exact m17 | exact m18 | exact m19 | exact m20 | exact m21 | exact m22 | exact m23 | exact m24 | exact m25 | exact m26 | exact m27))))) (fun s36 => ?_)
       refine jl_op rfl rfl (.none rfl) (v_extract rfl rfl tt rfl) ?_
       refine jl_op rfl rfl (.none rfl) (v_extract rfl rfl tt rfl) ?_
       refine jl_op rfl rfl (.none rfl) (v_assign rfl rfl tt) ?_
       refine jl_op rfl rfl (.none rfl) (v_assign rfl rfl tt) ?_
       refine jl_nil ?_)))
  all_goals (try simp only [show cn FloatKind.f32 0 = 0 from rfl] at *)
  all_goals first | exact ret_no Try.results47 rfl rfl (toPeak_no1 hok) | exact ret_no Try.results47 rfl rfl (toPeak_no2 hok (by assumption)) | exact ret_pass 0 Try.results47 rfl rfl rfl (toPeak_yes hok (by assumption)) | (exfalso; rename_i hx; simp at hx; done)
theorem c_l02Least (x : Nat) : Con Try.prog 85 [.float .f32 x] (fun _ => True) (.bool (least x)) := by
  refine con_intro (H := []) Try.func85 (by decide) rfl rfl (fun w _ => HInv.refl w) (fun w0 _ => ?_)
  (repeat' (first
    | refine j_condLt rfl (fun _ => ?_) (fun _ => ?_)
    | refine j_condLe rfl (fun _ => ?_) (fun _ => ?_)
    | refine j_condGt rfl (fun _ => ?_) (fun _ => ?_)
    | refine j_condGe rfl (fun _ => ?_) (fun _ => ?_)
    | refine j_condNe rfl (fun _ => ?_) (fun _ => ?_)
    | refine j_condEq rfl (fun _ => ?_) (fun _ => ?_)
    | refine j_condOrLt rfl (fun _ => ?_) (fun _ => ?_)
    | refine j_condAndLt rfl (fun _ => ?_) (fun _ => ?_)
    | refine j_condAndGe rfl (fun _ => ?_) (fun _ => ?_)
    | refine j_seq ?_
    | refine jq_then ?_
    | refine j_block ?_
    | refine j_ret ?_
    | refine jq_then_ret ?_
    | refine jq_block_ret ?_
    | refine jq_block_normal ?_
    | refine jq_then_exit ?_
    | refine jq_block_same rfl ?_
    | refine jq_block_other rfl ?_
    | refine j_skip ?_
    | refine j_exit ?_
    | refine j_label ?_
    | refine j_cond rfl (fun _ => ?_) (fun _ => ?_)
    | (refine j_region (id := 0) ?_
       refine jl_op rfl rfl (.none rfl) (v_assign rfl rfl tt) ?_
       refine jl_nil ?_)
    | (refine j_region (id := 1) ?_
       refine jl_op rfl rfl (.none rfl) (v_move rfl rfl tt) ?_
       refine jl_op rfl rfl (.none rfl) (v_call (f := 73) (xs := [_]) rfl (c_l01Finite ..) (ev_cons rfl tt ev_nil) (by intro w hc hI; first | trivial | (exfalso; simp_all; done) | (clear hc; repeat' (first | exact ros_nil | refine ros_cons ?_ ?_ | exact hI.roRo (by first | exact m0 | exact m1 | exact m2 | exact m3 | exact m4 | exact m5 | exact m6 | exact m7 | exact m8 | exact m9 | exact m10 | exact m11 | exact m12 | exact m13 | exact m14 | exact m15 | exact m16 | exact m17 | exact m18 | exact m19 | exact m20 | exact m21 | exact m22 | exact m23 | exact m24 | exact m25 | exact m26 | exact m27) | exact hI.boxRo (by first | exact m0 | exact m1 | exact m2 | exact m3 | exact m4 | exact m5 | exact m6 | exact m7 | exact m8 | exact m9 | exact m10 | exact m11 | exact m12 | exact m13 | exact m14 | exact m15 | exact m16 | exact m17 | exact m18 | exact m19 | exact m20 | exact m21 | exact m22 | exact m23 | exact m24 | exact m25 | exact m26 | exact m27) | exact HInv.vecRo hI (by first | exact m0 | exact m1 | exact m2 | exact m3 | exact m4 | exact m5 | exact m6 | exact m7 | exact m8 | exact m9 | exact m10 | exact m11 | exact m12 | exact m13 | exact m14 | exact m15 | exact m16 | exact m17 | exact m18 | exact m19 | exact m20 | exact m21 | exact m22 | exact m23 | exact m24 | exact m25 | exact m26 | exact m27))))) ?_
       refine jl_op rfl rfl (.none rfl) (v_move rfl rfl tt) ?_
       refine jl_op rfl rfl (.some rfl rfl rfl) (v_move rfl rfl tt) ?_
       refine jl_op rfl rfl (.some rfl rfl rfl) (v_fcmp rfl rfl rfl rfl ii tt) ?_
       refine jl_op rfl rfl (.none rfl) (v_and rfl rfl tt rfl ti) ?_
       refine jl_op rfl rfl (.none rfl) (v_assign rfl rfl tt) ?_
       refine jl_nil ?_)))
  all_goals exact jq_ret1 (.inl rfl) Try.results85 rfl
theorem c_toPeakS (A : Option Addr) (N cap : Nat) (g : Nat → Nat) (x : Nat) (hN : N ≤ 4294967296) : ConM Try.prog 46 [.slice A N cap, F x] (RoS [.ro A (tab N g)]) (listV (toPeak N g x && allB N (fun j => fin (farith .mul .f32 (g j) (farith .quo .f32 x (topP N g))))) N) (listK 23 (toPeak N g x && allB N (fun j => fin (farith .mul .f32 (g j) (farith .quo .f32 x (topP N g))))) N (fun j => farith .mul .f32 (g j) (farith .quo .f32 x (topP N g)))) := by
  refine conM_intro (H := [.ro A (tab N g)]) Try.func46 (by decide) rfl rfl (fun w h => h.inv) (fun w0 _ => ?_)
  (repeat' (first
    | refine j_part (by omega) ?_
    | refine j_partI (by omega) ?_
    | (refine j_loop2 (σ := Nat × Option Addr × Nat) (fun s => s.1 ≤ N) (fun s => [(0, true, .slice A N cap), (8, true, F (farith .quo .f32 x (topP N g))), (9, true, .slice s.2.1 s.1 s.2.2), (36, true, .int .i64 (N)), (37, true, .int .i64 (s.1))]) (fun s => [.vec 23 s.2.1 s.2.2 (tab s.1 (fun j => farith .mul .f32 (g j) (farith .quo .f32 x (topP N g)))), .ro A (tab N g)]) (fun s => N - s.1) (0, _, _) (by omega) (fs_cons rfl (fs_cons rfl (fs_cons rfl (fs_cons rfl (fs_cons rfl fs_nil))))) (fun w h => h) ?_; intro s hi; obtain ⟨i, Z, zc⟩ := s; dsimp only at hi ⊢)
    | (exact jq_round (i + 1, _, _) (by omega) (by omega) (fs_cons rfl (fs_cons rfl (fs_cons rfl (fs_cons rfl (fs_cons rfl fs_nil))))) (fun w h => by rw [← tab_succ]; exact h.sub (List.sublist_cons_self _ _)))
    | refine j_condLt rfl (fun _ => ?_) (fun _ => ?_)
    | refine j_condLe rfl (fun _ => ?_) (fun _ => ?_)
    | refine j_condGt rfl (fun _ => ?_) (fun _ => ?_)
    | refine j_condGe rfl (fun _ => ?_) (fun _ => ?_)
    | refine j_condNe rfl (fun _ => ?_) (fun _ => ?_)
    | refine j_condEq rfl (fun _ => ?_) (fun _ => ?_)
    | refine j_condOrLt rfl (fun _ => ?_) (fun _ => ?_)
    | refine j_condAndLt rfl (fun _ => ?_) (fun _ => ?_)
    | refine j_condAndGe rfl (fun _ => ?_) (fun _ => ?_)
    | refine j_seq ?_
    | refine jq_then ?_
    | refine j_block ?_
    | refine j_ret ?_
    | refine jq_then_ret ?_
    | refine jq_block_ret ?_
    | refine jq_block_normal ?_
    | refine jq_then_exit ?_
    | refine jq_block_same rfl ?_
    | refine jq_block_other rfl ?_
    | refine j_skip ?_
    | refine j_exit ?_
    | refine j_label ?_
    | refine j_cond rfl (fun _ => ?_) (fun _ => ?_)
    | (refine j_region (id := 0) ?_
       refine jl_op rfl rfl (.none rfl) (v_assign rfl rfl tt) ?_
       refine jl_op rfl rfl (.none rfl) (v_assign rfl rfl tt) ?_
       refine jl_nil ?_)
    | (refine j_region (id := 1) ?_
       refine jl_op rfl rfl (.none rfl) (v_move rfl rfl tt) ?_
       refine jl_op rfl rfl (.none rfl) (v_call (f := 84) (xs := [_]) rfl (c_l03Sound _ _ _ _ hN) (ev_cons rfl tt ev_nil) (by intro w hc hI; first | trivial | (exfalso; simp_all; done) | (clear hc; repeat' (first | exact ros_nil | refine ros_cons ?_ ?_ | exact hI.roRo (by first | exact m0 | exact m1 | exact m2 | exact m3 | exact m4 | exact m5 | exact m6 | exact m7 | exact m8 | exact m9 | exact m10 | exact m11 | exact m12 | exact m13 | exact m14 | exact m15 | exact m16 | exact m17 | exact m18 | exact m19 | exact m20 | exact m21 | exact m22 | exact m23 | exact m24 | exact m25 | exact m26 | exact m27) | exact hI.boxRo (by first | exact m0 | exact m1 | exact m2 | exact m3 | exact m4 | exact m5 | exact m6 | exact m7 | exact m8 | exact m9 | exact m10 | exact m11 | exact m12 | exact m13 | exact m14 | exact m15 | exact m16 | exact m17 | exact m18 | exact m19 | exact m20 | exact m21 | exact m22 | exact m23 | exact m24 | exact m25 | exact m26 | exact m27) | exact HInv.vecRo hI (by first | exact m0 | exact m1 | exact m2 | exact m3 | exact m4 | exact m5 | exact m6 | exact m7 | exact m8 | exact m9 | exact m10 | exact m11 | exact m12 | exact m13 | exact m14 | exact m15 | exact m16 | exact m17 | exact m18 | exact m19 | exact m20 | exact m21 | exact m22 | exact m23 | exact m24 | exact m25 | exact m26 | exact m27))))) ?_
       refine jl_op rfl rfl (.none rfl) (v_not rfl rfl tt) ?_
       refine jl_op rfl rfl (.none rfl) (v_move rfl rfl tt) ?_
       refine jl_op rfl rfl (.some rfl rfl rfl) (v_move rfl rfl tt) ?_
       refine jl_op rfl rfl (.some rfl rfl rfl) (v_len rfl rfl Try.underlying22 rfl ii) ?_
       refine jl_op rfl rfl (.some rfl rfl rfl) (v_icmp rfl rfl rfl rfl ii tt) ?_
       refine jl_op rfl rfl (.none rfl) (v_or rfl rfl tt rfl fi) ?_
       refine jl_op rfl rfl (.none rfl) (v_move rfl rfl tt) ?_
       refine jl_op rfl rfl (.some rfl rfl rfl) (v_move rfl rfl tt) ?_
       refine jl_op rfl rfl (.some rfl rfl rfl) (v_call (f := 85) (xs := [_]) rfl (c_l02Least ..) (ev_cons rfl ii ev_nil) (by intro w hc hI; first | trivial | (exfalso; simp_all; done) | (clear hc; repeat' (first | exact ros_nil | refine ros_cons ?_ ?_ | exact hI.roRo (by first | exact m0 | exact m1 | exact m2 | exact m3 | exact m4 | exact m5 | exact m6 | exact m7 | exact m8 | exact m9 | exact m10 | exact m11 | exact m12 | exact m13 | exact m14 | exact m15 | exact m16 | exact m17 | exact m18 | exact m19 | exact m20 | exact m21 | exact m22 | exact m23 | exact m24 | exact m25 | exact m26 | exact m27) | exact hI.boxRo (by first | exact m0 | exact m1 | exact m2 | exact m3 | exact m4 | exact m5 | exact m6 | exact m7 | exact m8 | exact m9 | exact m10 | exact m11 | exact m12 | exact m13 | exact m14 | exact m15 | exact m16 | exact m17 | exact m18 | exact m19 | exact m20 | exact m21 | exact m22 | exact m23 | exact m24 | exact m25 | exact m26 | exact m27) | exact HInv.vecRo hI (by first | exact m0 | exact m1 | exact m2 | exact m3 | exact m4 | exact m5 | exact m6 | exact m7 | exact m8 | exact m9 | exact m10 | exact m11 | exact m12 | exact m13 | exact m14 | exact m15 | exact m16 | exact m17 | exact m18 | exact m19 | exact m20 | exact m21 | exact m22 | exact m23 | exact m24 | exact m25 | exact m26 | exact m27))))) ?_
       refine jl_op rfl rfl (.some rfl rfl rfl) (v_not rfl rfl ii) ?_
       refine jl_op rfl rfl (.none rfl) (v_or rfl rfl tt rfl fi) ?_
       refine jl_nil ?_)
    | (refine j_region (id := 2) ?_
       refine jl_op rfl rfl (.none rfl) (v_assign rfl rfl tt) ?_
       refine jl_op rfl rfl (.none rfl) (v_assign rfl rfl tt) ?_
       refine jl_nil ?_)
    | (refine j_region (id := 3) ?_
       refine jl_op rfl rfl (.none rfl) (v_move rfl rfl tt) ?_
       refine jl_op rfl rfl (.none rfl) (v_call (f := 86) (xs := [_]) rfl (c_l03Peak _ _ _ _ hN (toPeakS_pos (by assumption))) (ev_cons rfl tt ev_nil) (by intro w hc hI; first | trivial | (exfalso; simp_all; done) | (clear hc; repeat' (first | exact ros_nil | refine ros_cons ?_ ?_ | exact hI.roRo (by first | exact m0 | exact m1 | exact m2 | exact m3 | exact m4 | exact m5 | exact m6 | exact m7 | exact m8 | exact m9 | exact m10 | exact m11 | exact m12 | exact m13 | exact m14 | exact m15 | exact m16 | exact m17 | exact m18 | exact m19 | exact m20 | exact m21 | exact m22 | exact m23 | exact m24 | exact m25 | exact m26 | exact m27) | exact hI.boxRo (by first | exact m0 | exact m1 | exact m2 | exact m3 | exact m4 | exact m5 | exact m6 | exact m7 | exact m8 | exact m9 | exact m10 | exact m11 | exact m12 | exact m13 | exact m14 | exact m15 | exact m16 | exact m17 | exact m18 | exact m19 | exact m20 | exact m21 | exact m22 | exact m23 | exact m24 | exact m25 | exact m26 | exact m27) | exact HInv.vecRo hI (by first | exact m0 | exact m1 | exact m2 | exact m3 | exact m4 | exact m5 | exact m6 | exact m7 | exact m8 | exact m9 | exact m10 | exact m11 | exact m12 | exact m13 | exact m14 | exact m15 | exact m16 | exact m17 | exact m18 | exact m19 | exact m20 | exact m21 | exact m22 | exact m23 | exact m24 | exact m25 | exact m26 | exact m27))))) ?_
       refine jl_op rfl rfl (.none rfl) (v_move rfl rfl tt) ?_
       refine jl_op rfl rfl (.none rfl) (v_extract rfl rfl tt rfl) ?_
       refine jl_op rfl rfl (.none rfl) (v_extract rfl rfl tt rfl) ?_
       refine jl_op rfl rfl (.none rfl) (v_assign rfl rfl tt) ?_
       refine jl_op rfl rfl (.none rfl) (v_assign rfl rfl tt) ?_
       refine jl_nil ?_)
    | (refine j_region (id := 4) ?_
       refine jl_op rfl rfl (.none rfl) (v_move rfl rfl tt) ?_
       refine jl_op rfl rfl (.none rfl) (v_fcmp rfl rfl rfl rfl tt tt) ?_
       refine jl_nil ?_)
    | (refine j_region (id := 5) ?_
       refine jl_op rfl rfl (.none rfl) (v_assign rfl rfl tt) ?_
       refine jl_op rfl rfl (.none rfl) (v_assign rfl rfl tt) ?_
       refine jl_nil ?_)
    | (refine j_region (id := 6) ?_
       refine jl_op rfl rfl (.none rfl) (v_move rfl rfl tt) ?_
       refine jl_op rfl rfl (.none rfl) (v_move rfl rfl tt) ?_
       refine jl_op rfl rfl (.none rfl) (v_farith rfl rfl rfl rfl tt tt) ?_
       refine jl_op rfl rfl (.none rfl) (v_assign rfl rfl tt) ?_
       refine jl_nil ?_)
    | (refine j_region (id := 7) ?_
       refine jl_x1 rfl rfl rfl (x_lit (Ws := []) (Z := F 0) rfl Try.underlying22 (by kernel_rfl) zero23 rfl rfl ev_nil rfl rfl rfl rfl) (fun b34 => ?_)
       refine jl_op rfl rfl (.none rfl) (v_assign rfl rfl tt) ?_
       refine jl_nil ?_)
    | (refine j_region (id := 8) ?_
       refine jl_op rfl rfl (.none rfl) (v_move rfl rfl tt) ?_
       refine jl_op rfl rfl (.none rfl) (v_len rfl rfl Try.underlying22 rfl tt) ?_
       refine jl_op rfl rfl (.none rfl) (v_move rfl rfl tt) ?_
       refine jl_nil ?_)
    | (refine j_region (id := 9) ?_
       refine jl_op rfl rfl (.none rfl) (v_icmp rfl rfl rfl rfl tt tt) ?_
       refine jl_nil ?_)
    | (refine j_region (id := 10) ?_
       refine jl_op rfl rfl (.none rfl) (v_move rfl rfl tt) ?_
       refine jl_op rfl rfl (.none rfl) (v_assign rfl rfl tt) ?_
       refine jl_nil ?_)
    | (refine j_region (id := 11) ?_
       refine jl_op rfl rfl (.none rfl) (v_move rfl rfl tt) ?_
       refine jl_op rfl rfl (.none rfl) (v_move rfl rfl tt) ?_
       refine jl_op rfl rfl (.none rfl) (v_move rfl rfl tt) ?_
       refine jl_op rfl rfl (.none rfl) (v_indexAddr rfl Try.underlying22 (by kernel_rfl) rfl rfl tt tt (by first | exact hA_some | exact hA_roT (by first | exact m0 | exact m1 | exact m2 | exact m3 | exact m4 | exact m5 | exact m6 | exact m7 | exact m8 | exact m9 | exact m10 | exact m11 | exact m12 | exact m13 | exact m14 | exact m15 | exact m16 | exact m17 | exact m18 | exact m19 | exact m20 | exact m21 | exact m22 | exact m23 | exact m24 | exact m25 | exact m26 | exact m27) | exact hA_vecT (by first | exact m0 | exact m1 | exact m2 | exact m3 | exact m4 | exact m5 | exact m6 | exact m7 | exact m8 | exact m9 | exact m10 | exact m11 | exact m12 | exact m13 | exact m14 | exact m15 | exact m16 | exact m17 | exact m18 | exact m19 | exact m20 | exact m21 | exact m22 | exact m23 | exact m24 | exact m25 | exact m26 | exact m27) | exact hA_vecP (by first | exact m0 | exact m1 | exact m2 | exact m3 | exact m4 | exact m5 | exact m6 | exact m7 | exact m8 | exact m9 | exact m10 | exact m11 | exact m12 | exact m13 | exact m14 | exact m15 | exact m16 | exact m17 | exact m18 | exact m19 | exact m20 | exact m21 | exact m22 | exact m23 | exact m24 | exact m25 | exact m26 | exact m27) | exact hA_roI (by first | exact m0 | exact m1 | exact m2 | exact m3 | exact m4 | exact m5 | exact m6 | exact m7 | exact m8 | exact m9 | exact m10 | exact m11 | exact m12 | exact m13 | exact m14 | exact m15 | exact m16 | exact m17 | exact m18 | exact m19 | exact m20 | exact m21 | exact m22 | exact m23 | exact m24 | exact m25 | exact m26 | exact m27) | exact hA_vecI (by first | exact m0 | exact m1 | exact m2 | exact m3 | exact m4 | exact m5 | exact m6 | exact m7 | exact m8 | exact m9 | exact m10 | exact m11 | exact m12 | exact m13 | exact m14 | exact m15 | exact m16 | exact m17 | exact m18 | exact m19 | exact m20 | exact m21 | exact m22 | exact m23 | exact m24 | exact m25 | exact m26 | exact m27) | exact hA_vecPI (by first | exact m0 | exact m1 | exact m2 | exact m3 | exact m4 | exact m5 | exact m6 | exact m7 | exact m8 | exact m9 | exact m10 | exact m11 | exact m12 | exact m13 | exact m14 | exact m15 | exact m16 | exact m17 | exact m18 | exact m19 | exact m20 | exact m21 | exact m22 | exact m23 | exact m24 | exact m25 | exact m26 | exact m27) | exact hA_vecPS (by first | exact m0 | exact m1 | exact m2 | exact m3 | exact m4 | exact m5 | exact m6 | exact m7 | exact m8 | exact m9 | exact m10 | exact m11 | exact m12 | exact m13 | exact m14 | exact m15 | exact m16 | exact m17 | exact m18 | exact m19 | exact m20 | exact m21 | exact m22 | exact m23 | exact m24 | exact m25 | exact m26 | exact m27) | exact hA_ro (by first | exact m0 | exact m1 | exact m2 | exact m3 | exact m4 | exact m5 | exact m6 | exact m7 | exact m8 | exact m9 | exact m10 | exact m11 | exact m12 | exact m13 | exact m14 | exact m15 | exact m16 | exact m17 | exact m18 | exact m19 | exact m20 | exact m21 | exact m22 | exact m23 | exact m24 | exact m25 | exact m26 | exact m27) | exact hA_vec (by first | exact m0 | exact m1 | exact m2 | exact m3 | exact m4 | exact m5 | exact m6 | exact m7 | exact m8 | exact m9 | exact m10 | exact m11 | exact m12 | exact m13 | exact m14 | exact m15 | exact m16 | exact m17 | exact m18 | exact m19 | exact m20 | exact m21 | exact m22 | exact m23 | exact m24 | exact m25 | exact m26 | exact m27)) (fun _hc => ⟨(by first | with_reducible rfl | exact (Int.toNat_of_nonneg (by omega)).symm | (have hc := g_gt _hc; exact (Int.toNat_of_nonneg (by omega)).symm)), (by first | omega | (rw [tab_length]; omega) | (rw [part_length]; omega) | (rw [tabI_length]; omega) | (rw [partI_length]; omega) | (rw [List.length_set, part_length]; omega))⟩)) ?_
       first | refine jl_op rfl rfl (.none rfl) (v_loadVec rfl Try.underlying23 (by rfl) rfl tt (by first | exact m0 | exact m1 | exact m2 | exact m3 | exact m4 | exact m5 | exact m6 | exact m7 | exact m8 | exact m9 | exact m10 | exact m11 | exact m12 | exact m13 | exact m14 | exact m15 | exact m16 | exact m17 | exact m18 | exact m19 | exact m20 | exact m21 | exact m22 | exact m23 | exact m24 | exact m25 | exact m26 | exact m27) (fun _ => (by first | with_reducible exact part_get_ge (by omega) (by omega) | with_reducible exact tab_get (by omega) | with_reducible exact tabI_get (by omega) | with_reducible exact part_get (by omega) | exact part_get_ge (by omega) (by omega) | exact tab_get (by omega) | exact tabI_get (by omega) | exact part_get (by omega) | exact part_set_get (by omega) | exact partI_get (by omega) | assumption | rfl))) ?_ | refine jl_op rfl rfl (.none rfl) (v_loadRo rfl Try.underlying23 (by rfl) rfl tt (by first | exact m0 | exact m1 | exact m2 | exact m3 | exact m4 | exact m5 | exact m6 | exact m7 | exact m8 | exact m9 | exact m10 | exact m11 | exact m12 | exact m13 | exact m14 | exact m15 | exact m16 | exact m17 | exact m18 | exact m19 | exact m20 | exact m21 | exact m22 | exact m23 | exact m24 | exact m25 | exact m26 | exact m27) (fun _ => (by first | with_reducible exact part_get_ge (by omega) (by omega) | with_reducible exact tab_get (by omega) | with_reducible exact tabI_get (by omega) | with_reducible exact part_get (by omega) | exact part_get_ge (by omega) (by omega) | exact tab_get (by omega) | exact tabI_get (by omega) | exact part_get (by omega) | exact part_set_get (by omega) | exact partI_get (by omega) | assumption | rfl))) ?_
       refine jl_op rfl rfl (.none rfl) (v_move rfl rfl tt) ?_
       refine jl_op rfl rfl (.none rfl) (v_farith rfl rfl rfl rfl tt tt) ?_
       refine jl_x1 rfl rfl rfl (x_lit (Ws := [_]) (Z := F 0) rfl Try.underlying22 (by kernel_rfl) zero23 rfl rfl (ev_cons rfl tt ev_nil) rfl rfl rfl rfl) (fun b47 => ?_)
       first | refine jl_append (i := 0) (by' := 4) (Z := F 0) rfl rfl rfl rfl Try.underlying22 (by kernel_rfl) zero23 rfl (by kernel_rfl) (by rfl) rfl rfl rfl (fun w hI => by first | exact hI.vecRo (by first | exact m0 | exact m1 | exact m2 | exact m3 | exact m4 | exact m5 | exact m6 | exact m7 | exact m8 | exact m9 | exact m10 | exact m11 | exact m12 | exact m13 | exact m14 | exact m15 | exact m16 | exact m17 | exact m18 | exact m19 | exact m20 | exact m21 | exact m22 | exact m23 | exact m24 | exact m25 | exact m26 | exact m27) | exact hI.roRo (by first | exact m0 | exact m1 | exact m2 | exact m3 | exact m4 | exact m5 | exact m6 | exact m7 | exact m8 | exact m9 | exact m10 | exact m11 | exact m12 | exact m13 | exact m14 | exact m15 | exact m16 | exact m17 | exact m18 | exact m19 | exact m20 | exact m21 | exact m22 | exact m23 | exact m24 | exact m25 | exact m26 | exact m27)) (by first | rfl | exact (tab_length ..).symm | exact (part_length ..).symm | exact (tabI_length ..).symm | exact (partI_length ..).symm | exact (List.length_replicate ..).symm) (by first | rfl | exact (tab_length ..).symm | exact (part_length ..).symm | exact (tabI_length ..).symm | exact (partI_length ..).symm | exact (List.length_replicate ..).symm) (by omega) (fun A48 c48 => ?_) | refine jl_append (i := 1) (by' := 4) (Z := F 0) rfl rfl rfl rfl Try.underlying22 (by kernel_rfl) zero23 rfl (by kernel_rfl) (by rfl) rfl rfl rfl (fun w hI => by first | exact hI.vecRo (by first | exact m0 | exact m1 | exact m2 | exact m3 | exact m4 | exact m5 | exact m6 | exact m7 | exact m8 | exact m9 | exact m10 | exact m11 | exact m12 | exact m13 | exact m14 | exact m15 | exact m16 | exact m17 | exact m18 | exact m19 | exact m20 | exact m21 | exact m22 | exact m23 | exact m24 | exact m25 | exact m26 | exact m27) | exact hI.roRo (by first | exact m0 | exact m1 | exact m2 | exact m3 | exact m4 | exact m5 | exact m6 | exact m7 | exact m8 | exact m9 | exact m10 | exact m11 | exact m12 | exact m13 | exact m14 | exact m15 | exact m16 | exact m17 | exact m18 | exact m19 | exact m20 | exact m21 | exact m22 | exact m23 | exact m24 | exact m25 | exact m26 | exact m27)) (by first | rfl | exact (tab_length ..).symm | exact (part_length ..).symm | exact (tabI_length ..).symm | exact (partI_length ..).symm | exact (List.length_replicate ..).symm) (by first | rfl | exact (tab_length ..).symm | exact (part_length ..).symm | exact (tabI_length ..).symm | exact (partI_length ..).symm | exact (List.length_replicate ..).symm) (by omega) (fun A48 c48 => ?_) | refine jl_append (i := 2) (by' := 4) (Z := F 0) rfl rfl rfl rfl Try.underlying22 (by kernel_rfl) zero23 rfl (by kernel_rfl) (by rfl) rfl rfl rfl (fun w hI => by first | exact hI.vecRo (by first | exact m0 | exact m1 | exact m2 | exact m3 | exact m4 | exact m5 | exact m6 | exact m7 | exact m8 | exact m9 | exact m10 | exact m11 | exact m12 | exact m13 | exact m14 | exact m15 | exact m16 | exact m17 | exact m18 | exact m19 | exact m20 | exact m21 | exact m22 | exact m23 | exact m24 | exact m25 | exact m26 | exact m27) | exact hI.roRo (by first | exact m0 | exact m1 | exact m2 | exact m3 | exact m4 | exact m5 | exact m6 | exact m7 | exact m8 | exact m9 | exact m10 | exact m11 | exact m12 | exact m13 | exact m14 | exact m15 | exact m16 | exact m17 | exact m18 | exact m19 | exact m20 | exact m21 | exact m22 | exact m23 | exact m24 | exact m25 | exact m26 | exact m27)) (by first | rfl | exact (tab_length ..).symm | exact (part_length ..).symm | exact (tabI_length ..).symm | exact (partI_length ..).symm | exact (List.length_replicate ..).symm) (by first | rfl | exact (tab_length ..).symm | exact (part_length ..).symm | exact (tabI_length ..).symm | exact (partI_length ..).symm | exact (List.length_replicate ..).symm) (by omega) (fun A48 c48 => ?_) | refine jl_append (i := 3) (by' := 4) (Z := F 0) rfl rfl rfl rfl Try.underlying22 (by kernel_rfl) zero23 rfl (by kernel_rfl) (by rfl) rfl rfl rfl (fun w hI => by first | exact hI.vecRo (by first | exact m0 | exact m1 | exact m2 | exact m3 | exact m4 | exact m5 | exact m6 | exact m7 | exact m8 | exact m9 | exact m10 | exact m11 | exact m12 | exact m13 | exact m14 | exact m15 | exact m16 | exact m17 | exact m18 | exact m19 | exact m20 | exact m21 | exact m22 | exact m23 | exact m24 | exact m25 | exact m26 | exact m27) | exact hI.roRo (by first | exact m0 | exact m1 | exact m2 | exact m3 | exact m4 | exact m5 | exact m6 | exact m7 | exact m8 | exact m9 | exact m10 | exact m11 | exact m12 | exact m13 | exact m14 | exact m15 | exact m16 | exact m17 | exact m18 | exact m19 | exact m20 | exact m21 | exact m22 | exact m23 | exact m24 | exact m25 | exact m26 | exact m27)) (by first | rfl | exact (tab_length ..).symm | exact (part_length ..).symm | exact (tabI_length ..).symm | exact (partI_length ..).symm | exact (List.length_replicate ..).symm) (by first | rfl | exact (tab_length ..).symm | exact (part_length ..).symm | exact (tabI_length ..).symm | exact (partI_length ..).symm | exact (List.length_replicate ..).symm) (by omega) (fun A48 c48 => ?_) | refine jl_append (i := 4) (by' := 4) (Z := F 0) rfl rfl rfl rfl Try.underlying22 (by kernel_rfl) zero23 rfl (by kernel_rfl) (by rfl) rfl rfl rfl (fun w hI => by first | exact hI.vecRo (by first | exact m0 | exact m1 | exact m2 | exact m3 | exact m4 | exact m5 | exact m6 | exact m7 | exact m8 | exact m9 | exact m10 | exact m11 | exact m12 | exact m13 | exact m14 | exact m15 | exact m16 | exact m17 | exact m18 | exact m19 | exact m20 | exact m21 | exact m22 | exact m23 | exact m24 | exact m25 | exact m26 | exact m27) | exact hI.roRo (by first | exact m0 | exact m1 | exact m2 | exact m3 | exact m4 | exact m5 | exact m6 | exact m7 | exact m8 | exact m9 | exact m10 | exact m11 | exact m12 | exact m13 | exact m14 | exact m15 | exact m16 | exact m17 | exact m18 | exact m19 | exact m20 | exact m21 | exact m22 | exact m23 | exact m24 | exact m25 | exact m26 | exact m27)) (by first | rfl | exact (tab_length ..).symm | exact (part_length ..).symm | exact (tabI_length ..).symm | exact (partI_length ..).symm | exact (List.length_replicate ..).symm) (by first | rfl | exact (tab_length ..).symm | exact (part_length ..).symm | exact (tabI_length ..).symm | exact (partI_length ..).symm | exact (List.length_replicate ..).symm) (by omega) (fun A48 c48 => ?_) | refine jl_append (i := 5) (by' := 4) (Z := F 0) rfl rfl rfl rfl Try.underlying22 (by kernel_rfl) zero23 rfl (by kernel_rfl) (by rfl) rfl rfl rfl (fun w hI => by first | exact hI.vecRo (by first | exact m0 | exact m1 | exact m2 | exact m3 | exact m4 | exact m5 | exact m6 | exact m7 | exact m8 | exact m9 | exact m10 | exact m11 | exact m12 | exact m13 | exact m14 | exact m15 | exact m16 | exact m17 | exact m18 | exact m19 | exact m20 | exact m21 | exact m22 | exact m23 | exact m24 | exact m25 | exact m26 | exact m27) | exact hI.roRo (by first | exact m0 | exact m1 | exact m2 | exact m3 | exact m4 | exact m5 | exact m6 | exact m7 | exact m8 | exact m9 | exact m10 | exact m11 | exact m12 | exact m13 | exact m14 | exact m15 | exact m16 | exact m17 | exact m18 | exact m19 | exact m20 | exact m21 | exact m22 | exact m23 | exact m24 | exact m25 | exact m26 | exact m27)) (by first | rfl | exact (tab_length ..).symm | exact (part_length ..).symm | exact (tabI_length ..).symm | exact (partI_length ..).symm | exact (List.length_replicate ..).symm) (by first | rfl | exact (tab_length ..).symm | exact (part_length ..).symm | exact (tabI_length ..).symm | exact (partI_length ..).symm | exact (List.length_replicate ..).symm) (by omega) (fun A48 c48 => ?_)
       refine jl_op rfl rfl (.none rfl) (v_assign rfl rfl tt) ?_
       refine jl_nil ?_)
    | (refine j_region (id := 12) ?_
       refine jl_op rfl rfl (.none rfl) (v_iarith' rfl rfl rfl rfl tt tt (by first | exact fun _ => iw_add (by omega) | exact fun _ => rfl)) ?_
       refine jl_op rfl rfl (.none rfl) (v_move rfl rfl tt) ?_
       refine jl_nil ?_)
    | (refine j_region (id := 13) ?_
       refine jl_op rfl rfl (.none rfl) (v_move rfl rfl tt) ?_
       refine jl_op rfl rfl (.none rfl) (v_call (f := 87) (xs := [_]) rfl (c_l03List _ _ _ _ (by omega)) (ev_cons rfl tt ev_nil) (by intro w hc hI; first | trivial | (exfalso; simp_all; done) | (clear hc; repeat' (first | exact ros_nil | refine ros_cons ?_ ?_ | exact hI.roRo (by first | exact m0 | exact m1 | exact m2 | exact m3 | exact m4 | exact m5 | exact m6 | exact m7 | exact m8 | exact m9 | exact m10 | exact m11 | exact m12 | exact m13 | exact m14 | exact m15 | exact m16 | exact m17 | exact m18 | exact m19 | exact m20 | exact m21 | exact m22 | exact m23 | exact m24 | exact m25 | exact m26 | exact m27) | exact hI.boxRo (by first | exact m0 | exact m1 | exact m2 | exact m3 | exact m4 | exact m5 | exact m6 | exact m7 | exact m8 | exact m9 | exact m10 | exact m11 | exact m12 | exact m13 | exact m14 | exact m15 | exact m16 | exact m17 | exact m18 | exact m19 | exact m20 | exact m21 | exact m22 | exact m23 | exact m24 | exact m25 | exact m26 | exact m27) | exact HInv.vecRo hI (by first | exact m0 | exact m1 | exact m2 | exact m3 | exact m4 | exact m5 | exact m6 | exact m7 | exact m8 | exact m9 | exact m10 | exact m11 | exact m12 | exact m13 | exact m14 | exact m15 | exact m16 | exact m17 | exact m18 | exact m19 | exact m20 | exact m21 | exact m22 | exact m23 | exact m24 | exact m25 | exact m26 | exact m27))))) ?_
       refine jl_op rfl rfl (.none rfl) (v_extract rfl rfl tt rfl) ?_
       refine jl_op rfl rfl (.none rfl) (v_extract rfl rfl tt rfl) ?_
       refine jl_op rfl rfl (.none rfl) (v_assign rfl rfl tt) ?_
       refine jl_op rfl rfl (.none rfl) (v_assign rfl rfl tt) ?_
       refine jl_nil ?_)))
  all_goals (try simp only [show cn FloatKind.f32 0 = 0 from rfl] at *)
  all_goals first | exact ret_no Try.results46 rfl rfl (toPeakS_no1 (by assumption)) | exact ret_no Try.results46 rfl rfl (toPeakS_no2 (by assumption)) | (obtain rfl : i = N := (by omega); exact ret_yes 0 Try.results46 rfl rfl rfl (toPeakS_yes (by assumption) (by assumption)))
theorem c_law_ScaleToPeak (A : Option Addr) (N cap : Nat) (g : Nat → Nat) (x : Nat) (kc : ∀ j, j < N → Can (g j)) : Con Try.prog 12 [.slice A N cap, F x] (RoS [.ro A (tab N g)]) (.bool true) := by
  refine con_intro (H := [.ro A (tab N g)]) Try.func12 (by decide) rfl rfl (fun w h => h.inv) (fun w0 _ => ?_)
  (repeat' (first
    | refine j_condLt rfl (fun _ => ?_) (fun _ => ?_)
    | refine j_condLe rfl (fun _ => ?_) (fun _ => ?_)
    | refine j_condGt rfl (fun _ => ?_) (fun _ => ?_)
    | refine j_condGe rfl (fun _ => ?_) (fun _ => ?_)
    | refine j_condNe rfl (fun _ => ?_) (fun _ => ?_)
    | refine j_condEq rfl (fun _ => ?_) (fun _ => ?_)
    | refine j_condOrLt rfl (fun _ => ?_) (fun _ => ?_)
    | refine j_condAndLt rfl (fun _ => ?_) (fun _ => ?_)
    | refine j_condAndGe rfl (fun _ => ?_) (fun _ => ?_)
    | refine j_seq ?_
    | refine jq_then ?_
    | refine j_block ?_
    | refine j_ret ?_
    | refine jq_then_ret ?_
    | refine jq_block_ret ?_
    | refine jq_block_normal ?_
    | refine jq_then_exit ?_
    | refine jq_block_same rfl ?_
    | refine jq_block_other rfl ?_
    | refine j_skip ?_
    | refine j_exit ?_
    | refine j_label ?_
    | refine j_cond rfl (fun _ => ?_) (fun _ => ?_)
    | (refine j_region (id := 0) ?_
       refine jl_op rfl rfl (.none rfl) (v_assign rfl rfl tt) ?_
       refine jl_nil ?_)
    | (refine j_region (id := 1) ?_
       refine jl_op rfl rfl (.none rfl) (v_move rfl rfl tt) ?_
       refine jl_op rfl rfl (.none rfl) (v_len rfl rfl Try.underlying22 rfl tt) ?_
       refine jl_op rfl rfl (.none rfl) (v_icmp rfl rfl rfl rfl tt tt) ?_
       refine jl_nil ?_)
    | (refine j_region (id := 2) ?_
       refine jl_op rfl rfl (.none rfl) (v_assign rfl rfl tt) ?_
       refine jl_nil ?_)
    | (refine j_region (id := 3) ?_
       refine jl_op rfl rfl (.none rfl) (v_move rfl rfl tt) ?_
       refine jl_x1 rfl rfl rfl (x_call (f := 39) (xs := [_]) rfl (c_toFloat32S _ _ _ _ (by omega)) (ev_cons rfl tt ev_nil) (by intro w hI; first | trivial | (repeat' (first | exact ros_nil | refine ros_cons ?_ ?_ | exact hI.roRo (by first | exact m0 | exact m1 | exact m2 | exact m3 | exact m4 | exact m5 | exact m6 | exact m7 | exact m8 | exact m9 | exact m10 | exact m11 | exact m12 | exact m13 | exact m14 | exact m15 | exact m16 | exact m17 | exact m18 | exact m19 | exact m20 | exact m21 | exact m22 | exact m23 | exact m24 | exact m25 | exact m26 | exact m27) | exact hI.boxRo (by first | exact m0 | exact m1 | exact m2 | exact m3 | exact m4 | exact m5 | exact m6 | exact m7 | exact m8 | exact m9 | exact m10 | exact m11 | exact m12 | exact m13 | exact m14 | exact m15 | exact m16 | exact m17 | exact m18 | exact m19 | exact m20 | exact m21 | exact m22 | exact m23 | exact m24 | exact m25 | exact m26 | exact m27) | exact HInv.vecRo hI (by first | exact m0 | exact m1 | exact m2 | exact m3 | exact m4 | exact m5 | exact m6 | exact m7 | exact m8 | exact m9 | exact m10 | exact m11 | exact m12 | exact m13 | exact m14 | exact m15 | exact m16 | exact m17 | exact m18 | exact m19 | exact m20 | exact m21 | exact m22 | exact m23 | exact m24 | exact m25 | exact m26 | exact m27))))) (fun s20 => ?_)
       refine jl_op rfl rfl (.none rfl) (v_move rfl rfl tt) ?_
       refine jl_x rfl rfl rfl (x_call (f := 46) (xs := [_, _]) rfl (c_toPeakS _ _ _ _ _ (by omega)) (ev_cons rfl tt (ev_cons rfl tt ev_nil)) (by intro w hI; first | trivial | (repeat' (first | exact ros_nil | refine ros_cons ?_ ?_ | exact hI.roRo (by first | exact m0 | exact m1 | exact m2 | exact m3 | exact m4 | exact m5 | exact m6 | exact m7 | exact m8 | exact m9 | exact m10 | exact m11 | exact m12 | exact m13 | exact m14 | exact m15 | exact m16 | exact m17 | exact m18 | exact m19 | exact m20 | exact m21 | exact m22 | exact m23 | exact m24 | exact m25 | exact m26 | exact m27) | exact hI.boxRo (by first | exact m0 | exact m1 | exact m2 | exact m3 | exact m4 | exact m5 | exact m6 | exact m7 | exact m8 | exact m9 | exact m10 | exact m11 | exact m12 | exact m13 | exact m14 | exact m15 | exact m16 | exact m17 | exact m18 | exact m19 | exact m20 | exact m21 | exact m22 | exact m23 | exact m24 | exact m25 | exact m26 | exact m27) | exact HInv.vecRo hI (by first | exact m0 | exact m1 | exact m2 | exact m3 | exact m4 | exact m5 | exact m6 | exact m7 | exact m8 | exact m9 | exact m10 | exact m11 | exact m12 | exact m13 | exact m14 | exact m15 | exact m16 | exact m17 | exact m18 | exact m19 | exact m20 | exact m21 | exact m22 | exact m23 | exact m24 | exact m25 | exact m26 | exact m27))))) (fun s22 => ?_)
       refine jl_op rfl rfl (.none rfl) (v_move rfl rfl tt) ?_
       refine jl_op rfl rfl (.none rfl) (v_extract rfl rfl tt rfl) ?_
       refine jl_op rfl rfl (.none rfl) (v_extract rfl rfl tt rfl) ?_
       refine jl_op rfl rfl (.none rfl) (v_assign rfl rfl tt) ?_
       refine jl_op rfl rfl (.none rfl) (v_assign rfl rfl tt) ?_
       refine jl_nil ?_)
    | (refine j_region (id := 4) ?_
       refine jl_op rfl rfl (.none rfl) (v_move rfl rfl tt) ?_
       refine jl_x1 rfl rfl rfl (x_call (f := 39) (xs := [_]) rfl (c_toFloat32S _ _ _ _ (by omega)) (ev_cons rfl tt ev_nil) (by intro w hI; first | trivial | (repeat' (first | exact ros_nil | refine ros_cons ?_ ?_ | exact hI.roRo (by first | exact m0 | exact m1 | exact m2 | exact m3 | exact m4 | exact m5 | exact m6 | exact m7 | exact m8 | exact m9 | exact m10 | exact m11 | exact m12 | exact m13 | exact m14 | exact m15 | exact m16 | exact m17 | exact m18 | exact m19 | exact m20 | exact m21 | exact m22 | exact m23 | exact m24 | exact m25 | exact m26 | exact m27) | exact hI.boxRo (by first | exact m0 | exact m1 | exact m2 | exact m3 | exact m4 | exact m5 | exact m6 | exact m7 | exact m8 | exact m9 | exact m10 | exact m11 | exact m12 | exact m13 | exact m14 | exact m15 | exact m16 | exact m17 | exact m18 | exact m19 | exact m20 | exact m21 | exact m22 | exact m23 | exact m24 | exact m25 | exact m26 | exact m27) | exact HInv.vecRo hI (by first | exact m0 | exact m1 | exact m2 | exact m3 | exact m4 | exact m5 | exact m6 | exact m7 | exact m8 | exact m9 | exact m10 | exact m11 | exact m12 | exact m13 | exact m14 | exact m15 | exact m16 | exact m17 | exact m18 | exact m19 | exact m20 | exact m21 | exact m22 | exact m23 | exact m24 | exact m25 | exact m26 | exact m27))))) (fun s26 => ?_)
       refine jl_op rfl rfl (.none rfl) (v_assign rfl rfl tt) ?_
       refine jl_nil ?_)
    | (refine j_region (id := 5) ?_
       refine jl_op rfl rfl (.none rfl) (v_move rfl rfl tt) ?_
       refine jl_op rfl rfl (.none rfl) (v_move rfl rfl tt) ?_
       refine jl_x rfl rfl rfl (x_call (f := 47) (xs := [_, _]) rfl (c_toPeakI _ _ _ _ _ (by omega) kc) (ev_cons rfl tt (ev_cons rfl tt ev_nil)) (by intro w hI; first | trivial | (repeat' (first | exact ros_nil | refine ros_cons ?_ ?_ | exact hI.roRo (by first | exact m0 | exact m1 | exact m2 | exact m3 | exact m4 | exact m5 | exact m6 | exact m7 | exact m8 | exact m9 | exact m10 | exact m11 | exact m12 | exact m13 | exact m14 | exact m15 | exact m16 | exact m17 | exact m18 | exact m19 | exact m20 | exact m21 | exact m22 | exact m23 | exact m24 | exact m25 | exact m26 | exact m27) | exact hI.boxRo (by first | exact m0 | exact m1 | exact m2 | exact m3 | exact m4 | exact m5 | exact m6 | exact m7 | exact m8 | exact m9 | exact m10 | exact m11 | exact m12 | exact m13 | exact m14 | exact m15 | exact m16 | exact m17 | exact m18 | exact m19 | exact m20 | exact m21 | exact m22 | exact m23 | exact m24 | exact m25 | exact m26 | exact m27) | exact HInv.vecRo hI (by first | exact m0 | exact m1 | exact m2 | exact m3 | exact m4 | exact m5 | exact m6 | exact m7 | exact m8 | exact m9 | exact m10 | exact m11 | exact m12 | exact m13 | exact m14 | exact m15 | exact m16 | exact m17 | exact m18 | exact m19 | exact m20 | exact m21 | exact m22 | exact m23 | exact m24 | exact m25 | exact m26 | exact m27))))) (fun s30 => ?_)
       refine jl_op rfl rfl (.none rfl) (v_move rfl rfl tt) ?_
       refine jl_op rfl rfl (.none rfl) (v_extract rfl rfl tt rfl) ?_
       refine jl_op rfl rfl (.none rfl) (v_extract rfl rfl tt rfl) ?_
       refine jl_op rfl rfl (.none rfl) (v_assign rfl rfl tt) ?_
       refine jl_op rfl rfl (.none rfl) (v_assign rfl rfl tt) ?_
       refine jl_nil ?_)
    | (refine j_region (id := 6) ?_
       refine jl_op rfl rfl (.none rfl) (v_move rfl rfl tt) ?_
       refine jl_op rfl rfl (.none rfl) (v_move rfl rfl tt) ?_
       refine jl_op rfl rfl (.none rfl) (v_call (f := 41) (xs := [_, _]) rfl (c_eqFloat32S _ _ _ _ _ _ _ _ (by first | omega | exact bif_le (by omega))) (ev_cons rfl tt (ev_cons rfl tt ev_nil)) (by intro w hc hI; first | trivial | (exfalso; simp_all; done) | (clear hc; repeat' (first | exact ros_nil | refine ros_cons ?_ ?_ | exact hI.roRo (by first | exact m0 | exact m1 | exact m2 | exact m3 | exact m4 | exact m5 | exact m6 | exact m7 | exact m8 | exact m9 | exact m10 | exact m11 | exact m12 | exact m13 | exact m14 | exact m15 | exact m16 | exact m17 | exact m18 | exact m19 | exact m20 | exact m21 | exact m22 | exact m23 | exact m24 | exact m25 | exact m26 | exact m27) | exact hI.boxRo (by first | exact m0 | exact m1 | exact m2 | exact m3 | exact m4 | exact m5 | exact m6 | exact m7 | exact m8 | exact m9 | exact m10 | exact m11 | exact m12 | exact m13 | exact m14 | exact m15 | exact m16 | exact m17 | exact m18 | exact m19 | exact m20 | exact m21 | exact m22 | exact m23 | exact m24 | exact m25 | exact m26 | exact m27) | exact HInv.vecRo hI (by first | exact m0 | exact m1 | exact m2 | exact m3 | exact m4 | exact m5 | exact m6 | exact m7 | exact m8 | exact m9 | exact m10 | exact m11 | exact m12 | exact m13 | exact m14 | exact m15 | exact m16 | exact m17 | exact m18 | exact m19 | exact m20 | exact m21 | exact m22 | exact m23 | exact m24 | exact m25 | exact m26 | exact m27))))) ?_
       refine jl_op rfl rfl (.none rfl) (v_not rfl rfl tt) ?_
       refine jl_op rfl rfl (.none rfl) (v_move rfl rfl tt) ?_
       refine jl_op rfl rfl (.some rfl rfl rfl) (v_move rfl rfl tt) ?_
       refine jl_op rfl rfl (.some rfl rfl rfl) (v_move rfl rfl tt) ?_
       refine jl_op rfl rfl (.some rfl rfl rfl) (v_bne rfl rfl rfl Try.underlying4 ii ii rfl) ?_
       refine jl_op rfl rfl (.none rfl) (v_or rfl rfl tt rfl fi) ?_
       refine jl_nil ?_)
    | (refine j_region (id := 7) ?_
       refine jl_op rfl rfl (.none rfl) (v_assign rfl rfl tt) ?_
       refine jl_nil ?_)
    | (refine j_region (id := 8) ?_
       refine jl_op rfl rfl (.none rfl) (v_move rfl rfl tt) ?_
       refine jl_op rfl rfl (.none rfl) (v_move rfl rfl tt) ?_
       refine jl_x1 rfl rfl rfl (x_call (f := 39) (xs := [_]) rfl (c_toFloat32S _ _ _ _ (by omega)) (ev_cons rfl tt ev_nil) (by intro w hI; first | trivial | (repeat' (first | exact ros_nil | refine ros_cons ?_ ?_ | exact hI.roRo (by first | exact m0 | exact m1 | exact m2 | exact m3 | exact m4 | exact m5 | exact m6 | exact m7 | exact m8 | exact m9 | exact m10 | exact m11 | exact m12 | exact m13 | exact m14 | exact m15 | exact m16 | exact m17 | exact m18 | exact m19 | exact m20 | exact m21 | exact m22 | exact m23 | exact m24 | exact m25 | exact m26 | exact m27) | exact hI.boxRo (by first | exact m0 | exact m1 | exact m2 | exact m3 | exact m4 | exact m5 | exact m6 | exact m7 | exact m8 | exact m9 | exact m10 | exact m11 | exact m12 | exact m13 | exact m14 | exact m15 | exact m16 | exact m17 | exact m18 | exact m19 | exact m20 | exact m21 | exact m22 | exact m23 | exact m24 | exact m25 | exact m26 | exact m27) | exact HInv.vecRo hI (by first | exact m0 | exact m1 | exact m2 | exact m3 | exact m4 | exact m5 | exact m6 | exact m7 | exact m8 | exact m9 | exact m10 | exact m11 | exact m12 | exact m13 | exact m14 | exact m15 | exact m16 | exact m17 | exact m18 | exact m19 | exact m20 | exact m21 | exact m22 | exact m23 | exact m24 | exact m25 | exact m26 | exact m27))))) (fun s44 => ?_)
       refine jl_op rfl rfl (.none rfl) (v_call (f := 41) (xs := [_, _]) rfl (c_eqFloat32S _ _ _ _ _ _ _ _ (by first | omega | exact bif_le (by omega))) (ev_cons rfl tt (ev_cons rfl tt ev_nil)) (by intro w hc hI; first | trivial | (exfalso; simp_all; done) | (clear hc; repeat' (first | exact ros_nil | refine ros_cons ?_ ?_ | exact hI.roRo (by first | exact m0 | exact m1 | exact m2 | exact m3 | exact m4 | exact m5 | exact m6 | exact m7 | exact m8 | exact m9 | exact m10 | exact m11 | exact m12 | exact m13 | exact m14 | exact m15 | exact m16 | exact m17 | exact m18 | exact m19 | exact m20 | exact m21 | exact m22 | exact m23 | exact m24 | exact m25 | exact m26 | exact m27) | exact hI.boxRo (by first | exact m0 | exact m1 | exact m2 | exact m3 | exact m4 | exact m5 | exact m6 | exact m7 | exact m8 | exact m9 | exact m10 | exact m11 | exact m12 | exact m13 | exact m14 | exact m15 | exact m16 | exact m17 | exact m18 | exact m19 | exact m20 | exact m21 | exact m22 | exact m23 | exact m24 | exact m25 | exact m26 | exact m27) | exact HInv.vecRo hI (by first | exact m0 | exact m1 | exact m2 | exact m3 | exact m4 | exact m5 | exact m6 | exact m7 | exact m8 | exact m9 | exact m10 | exact m11 | exact m12 | exact m13 | exact m14 | exact m15 | exact m16 | exact m17 | exact m18 | exact m19 | exact m20 | exact m21 | exact m22 | exact m23 | exact m24 | exact m25 | exact m26 | exact m27))))) ?_
       refine jl_op rfl rfl (.none rfl) (v_not rfl rfl tt) ?_
       refine jl_nil ?_)
    | (refine j_region (id := 9) ?_
       refine jl_op rfl rfl (.none rfl) (v_assign rfl rfl tt) ?_
       refine jl_nil ?_)
    | (refine j_region (id := 10) ?_
       refine jl_op rfl rfl (.none rfl) (v_assign rfl rfl tt) ?_
       refine jl_nil ?_)
    | (refine j_region (id := 11) ?_
       refine jl_op rfl rfl (.none rfl) (v_move rfl rfl tt) ?_
       refine jl_op rfl rfl (.none rfl) (v_move rfl rfl tt) ?_
       first | refine jl_w (i := 0) (f := 42) (xs := [_, _]) rfl rfl rfl rfl (c_markFloat32S _ _ _ _ _ (by first | omega | exact bif_le (by omega)) (by omega)) (ev_cons rfl tt (ev_cons rfl tt ev_nil)) rfl (fun _ _ => trivial) ?_ | refine jl_w (i := 1) (f := 42) (xs := [_, _]) rfl rfl rfl rfl (c_markFloat32S _ _ _ _ _ (by first | omega | exact bif_le (by omega)) (by omega)) (ev_cons rfl tt (ev_cons rfl tt ev_nil)) rfl (fun _ _ => trivial) ?_ | refine jl_w (i := 2) (f := 42) (xs := [_, _]) rfl rfl rfl rfl (c_markFloat32S _ _ _ _ _ (by first | omega | exact bif_le (by omega)) (by omega)) (ev_cons rfl tt (ev_cons rfl tt ev_nil)) rfl (fun _ _ => trivial) ?_ | refine jl_w (i := 3) (f := 42) (xs := [_, _]) rfl rfl rfl rfl (c_markFloat32S _ _ _ _ _ (by first | omega | exact bif_le (by omega)) (by omega)) (ev_cons rfl tt (ev_cons rfl tt ev_nil)) rfl (fun _ _ => trivial) ?_ | refine jl_w (i := 4) (f := 42) (xs := [_, _]) rfl rfl rfl rfl (c_markFloat32S _ _ _ _ _ (by first | omega | exact bif_le (by omega)) (by omega)) (ev_cons rfl tt (ev_cons rfl tt ev_nil)) rfl (fun _ _ => trivial) ?_ | refine jl_w (i := 5) (f := 42) (xs := [_, _]) rfl rfl rfl rfl (c_markFloat32S _ _ _ _ _ (by first | omega | exact bif_le (by omega)) (by omega)) (ev_cons rfl tt (ev_cons rfl tt ev_nil)) rfl (fun _ _ => trivial) ?_ | refine jl_w (i := 6) (f := 42) (xs := [_, _]) rfl rfl rfl rfl (c_markFloat32S _ _ _ _ _ (by first | omega | exact bif_le (by omega)) (by omega)) (ev_cons rfl tt (ev_cons rfl tt ev_nil)) rfl (fun _ _ => trivial) ?_ | refine jl_w (i := 7) (f := 42) (xs := [_, _]) rfl rfl rfl rfl (c_markFloat32S _ _ _ _ _ (by first | omega | exact bif_le (by omega)) (by omega)) (ev_cons rfl tt (ev_cons rfl tt ev_nil)) rfl (fun _ _ => trivial) ?_ | refine jl_w (i := 8) (f := 42) (xs := [_, _]) rfl rfl rfl rfl (c_markFloat32S _ _ _ _ _ (by first | omega | exact bif_le (by omega)) (by omega)) (ev_cons rfl tt (ev_cons rfl tt ev_nil)) rfl (fun _ _ => trivial) ?_ | refine jl_w (i := 9) (f := 42) (xs := [_, _]) rfl rfl rfl rfl (c_markFloat32S _ _ _ _ _ (by first | omega | exact bif_le (by omega)) (by omega)) (ev_cons rfl tt (ev_cons rfl tt ev_nil)) rfl (fun _ _ => trivial) ?_ | refine jl_w (i := 10) (f := 42) (xs := [_, _]) rfl rfl rfl rfl (c_markFloat32S _ _ _ _ _ (by first | omega | exact bif_le (by omega)) (by omega)) (ev_cons rfl tt (ev_cons rfl tt ev_nil)) rfl (fun _ _ => trivial) ?_ | refine jl_w (i := 11) (f := 42) (xs := [_, _]) rfl rfl rfl rfl (c_markFloat32S _ _ _ _ _ (by first | omega | exact bif_le (by omega)) (by omega)) (ev_cons rfl tt (ev_cons rfl tt ev_nil)) rfl (fun _ _ => trivial) ?_ | refine jl_w (i := 12) (f := 42) (xs := [_, _]) rfl rfl rfl rfl (c_markFloat32S _ _ _ _ _ (by first | omega | exact bif_le (by omega)) (by omega)) (ev_cons rfl tt (ev_cons rfl tt ev_nil)) rfl (fun _ _ => trivial) ?_ | refine jl_w (i := 13) (f := 42) (xs := [_, _]) rfl rfl rfl rfl (c_markFloat32S _ _ _ _ _ (by first | omega | exact bif_le (by omega)) (by omega)) (ev_cons rfl tt (ev_cons rfl tt ev_nil)) rfl (fun _ _ => trivial) ?_ | refine jl_w (i := 14) (f := 42) (xs := [_, _]) rfl rfl rfl rfl (c_markFloat32S _ _ _ _ _ (by first | omega | exact bif_le (by omega)) (by omega)) (ev_cons rfl tt (ev_cons rfl tt ev_nil)) rfl (fun _ _ => trivial) ?_ | refine jl_w (i := 15) (f := 42) (xs := [_, _]) rfl rfl rfl rfl (c_markFloat32S _ _ _ _ _ (by first | omega | exact bif_le (by omega)) (by omega)) (ev_cons rfl tt (ev_cons rfl tt ev_nil)) rfl (fun _ _ => trivial) ?_
       refine jl_op rfl rfl (.none rfl) (v_assign rfl rfl tt) ?_
       refine jl_nil ?_)
    | (refine j_region (id := 12) ?_
       refine jl_op rfl rfl (.none rfl) (v_move rfl rfl tt) ?_
       refine jl_op rfl rfl (.none rfl) (v_icmp rfl rfl rfl rfl tt tt) ?_
       refine jl_op rfl rfl (.none rfl) (v_move rfl rfl tt) ?_
       refine jl_op rfl rfl (.some rfl rfl rfl) (v_move rfl rfl tt) ?_
       refine jl_op rfl rfl (.some rfl rfl rfl) (v_move rfl rfl tt) ?_
       refine jl_op rfl rfl (.some rfl rfl rfl) (v_call (f := 41) (xs := [_, _]) rfl (c_eqFloat32S _ _ _ _ _ _ _ _ (by first | omega | exact bif_le (by omega))) (ev_cons rfl ii (ev_cons rfl ii ev_nil)) (by intro w hc hI; first | trivial | (exfalso; simp_all; done) | (clear hc; repeat' (first | exact ros_nil | refine ros_cons ?_ ?_ | exact hI.roRo (by first | exact m0 | exact m1 | exact m2 | exact m3 | exact m4 | exact m5 | exact m6 | exact m7 | exact m8 | exact m9 | exact m10 | exact m11 | exact m12 | exact m13 | exact m14 | exact m15 | exact m16 | exact m17 | exact m18 | exact m19 | exact m20 | exact m21 | exact m22 | exact m23 | exact m24 | exact m25 | exact m26 | exact m27) | exact hI.boxRo (by first | exact m0 | exact m1 | exact m2 | exact m3 | exact m4 | exact m5 | exact m6 | exact m7 | exact m8 | exact m9 | exact m10 | exact m11 | exact m12 | exact m13 | exact m14 | exact m15 | exact m16 | exact m17 | exact m18 | exact m19 | exact m20 | exact m21 | exact m22 | exact m23 | exact m24 | exact m25 | exact m26 | exact m27) | exact HInv.vecRo hI (by first | exact m0 | exact m1 | exact m2 | exact m3 | exact m4 | exact m5 | exact m6 | exact m7 | exact m8 | exact m9 | exact m10 | exact m11 | exact m12 | exact m13 | exact m14 | exact m15 | exact m16 | exact m17 | exact m18 | exact m19 | exact m20 | exact m21 | exact m22 | exact m23 | exact m24 | exact m25 | exact m26 | exact m27))))) ?_
       refine jl_op rfl rfl (.some rfl rfl rfl) (v_not rfl rfl ii) ?_
       refine jl_op rfl rfl (.none rfl) (v_or rfl rfl tt rfl fi) ?_
       refine jl_op rfl rfl (.none rfl) (v_move rfl rfl tt) ?_
       refine jl_op rfl rfl (.some rfl rfl rfl) (v_move rfl rfl tt) ?_
       refine jl_op rfl rfl (.some rfl rfl rfl) (v_move rfl rfl tt) ?_
       refine jl_op rfl rfl (.some rfl rfl rfl) (v_bne rfl rfl rfl Try.underlying4 ii ii rfl) ?_
       refine jl_op rfl rfl (.none rfl) (v_or rfl rfl tt rfl fi) ?_
       refine jl_nil ?_)
    | (refine j_region (id := 13) ?_
       refine jl_op rfl rfl (.none rfl) (v_assign rfl rfl tt) ?_
       refine jl_nil ?_)
    | (refine j_region (id := 14) ?_
       refine jl_op rfl rfl (.none rfl) (v_assign rfl rfl tt) ?_
       refine jl_nil ?_)
    | (refine j_region (id := 15) ?_
       refine jl_op rfl rfl (.none rfl) (v_move rfl rfl tt) ?_
       refine jl_op rfl rfl (.none rfl) (v_move rfl rfl tt) ?_
       first | refine jl_w (i := 0) (f := 42) (xs := [_, _]) rfl rfl rfl rfl (c_markFloat32S _ _ _ _ _ (by first | omega | exact bif_le (by omega)) (by omega)) (ev_cons rfl tt (ev_cons rfl tt ev_nil)) rfl (fun _ _ => trivial) ?_ | refine jl_w (i := 1) (f := 42) (xs := [_, _]) rfl rfl rfl rfl (c_markFloat32S _ _ _ _ _ (by first | omega | exact bif_le (by omega)) (by omega)) (ev_cons rfl tt (ev_cons rfl tt ev_nil)) rfl (fun _ _ => trivial) ?_ | refine jl_w (i := 2) (f := 42) (xs := [_, _]) rfl rfl rfl rfl (c_markFloat32S _ _ _ _ _ (by first | omega | exact bif_le (by omega)) (by omega)) (ev_cons rfl tt (ev_cons rfl tt ev_nil)) rfl (fun _ _ => trivial) ?_ | refine jl_w (i := 3) (f := 42) (xs := [_, _]) rfl rfl rfl rfl (c_markFloat32S _ _ _ _ _ (by first | omega | exact bif_le (by omega)) (by omega)) (ev_cons rfl tt (ev_cons rfl tt ev_nil)) rfl (fun _ _ => trivial) ?_ | refine jl_w (i := 4) (f := 42) (xs := [_, _]) rfl rfl rfl rfl (c_markFloat32S _ _ _ _ _ (by first | omega | exact bif_le (by omega)) (by omega)) (ev_cons rfl tt (ev_cons rfl tt ev_nil)) rfl (fun _ _ => trivial) ?_ | refine jl_w (i := 5) (f := 42) (xs := [_, _]) rfl rfl rfl rfl (c_markFloat32S _ _ _ _ _ (by first | omega | exact bif_le (by omega)) (by omega)) (ev_cons rfl tt (ev_cons rfl tt ev_nil)) rfl (fun _ _ => trivial) ?_ | refine jl_w (i := 6) (f := 42) (xs := [_, _]) rfl rfl rfl rfl (c_markFloat32S _ _ _ _ _ (by first | omega | exact bif_le (by omega)) (by omega)) (ev_cons rfl tt (ev_cons rfl tt ev_nil)) rfl (fun _ _ => trivial) ?_ | refine jl_w (i := 7) (f := 42) (xs := [_, _]) rfl rfl rfl rfl (c_markFloat32S _ _ _ _ _ (by first | omega | exact bif_le (by omega)) (by omega)) (ev_cons rfl tt (ev_cons rfl tt ev_nil)) rfl (fun _ _ => trivial) ?_ | refine jl_w (i := 8) (f := 42) (xs := [_, _]) rfl rfl rfl rfl (c_markFloat32S _ _ _ _ _ (by first | omega | exact bif_le (by omega)) (by omega)) (ev_cons rfl tt (ev_cons rfl tt ev_nil)) rfl (fun _ _ => trivial) ?_ | refine jl_w (i := 9) (f := 42) (xs := [_, _]) rfl rfl rfl rfl (c_markFloat32S _ _ _ _ _ (by first | omega | exact bif_le (by omega)) (by omega)) (ev_cons rfl tt (ev_cons rfl tt ev_nil)) rfl (fun _ _ => trivial) ?_ | refine jl_w (i := 10) (f := 42) (xs := [_, _]) rfl rfl rfl rfl (c_markFloat32S _ _ _ _ _ (by first | omega | exact bif_le (by omega)) (by omega)) (ev_cons rfl tt (ev_cons rfl tt ev_nil)) rfl (fun _ _ => trivial) ?_ | refine jl_w (i := 11) (f := 42) (xs := [_, _]) rfl rfl rfl rfl (c_markFloat32S _ _ _ _ _ (by first | omega | exact bif_le (by omega)) (by omega)) (ev_cons rfl tt (ev_cons rfl tt ev_nil)) rfl (fun _ _ => trivial) ?_ | refine jl_w (i := 12) (f := 42) (xs := [_, _]) rfl rfl rfl rfl (c_markFloat32S _ _ _ _ _ (by first | omega | exact bif_le (by omega)) (by omega)) (ev_cons rfl tt (ev_cons rfl tt ev_nil)) rfl (fun _ _ => trivial) ?_ | refine jl_w (i := 13) (f := 42) (xs := [_, _]) rfl rfl rfl rfl (c_markFloat32S _ _ _ _ _ (by first | omega | exact bif_le (by omega)) (by omega)) (ev_cons rfl tt (ev_cons rfl tt ev_nil)) rfl (fun _ _ => trivial) ?_ | refine jl_w (i := 14) (f := 42) (xs := [_, _]) rfl rfl rfl rfl (c_markFloat32S _ _ _ _ _ (by first | omega | exact bif_le (by omega)) (by omega)) (ev_cons rfl tt (ev_cons rfl tt ev_nil)) rfl (fun _ _ => trivial) ?_ | refine jl_w (i := 15) (f := 42) (xs := [_, _]) rfl rfl rfl rfl (c_markFloat32S _ _ _ _ _ (by first | omega | exact bif_le (by omega)) (by omega)) (ev_cons rfl tt (ev_cons rfl tt ev_nil)) rfl (fun _ _ => trivial) ?_
       refine jl_op rfl rfl (.none rfl) (v_assign rfl rfl tt) ?_
       refine jl_nil ?_)
    | (refine j_region (id := 16) ?_
       refine jl_op rfl rfl (.none rfl) (v_assign rfl rfl tt) ?_
       refine jl_nil ?_)
    | (refine j_region (id := 17) ?_
       refine jl_op rfl rfl (.none rfl) (v_move rfl rfl tt) ?_
       refine jl_op rfl rfl (.none rfl) (v_move rfl rfl tt) ?_
       refine jl_op rfl rfl (.none rfl) (v_call (f := 43) (xs := [_, _]) rfl (c_heldFloat32S _ _ _ _ (by first | omega | exact bif_le (by omega)) (by omega)) (ev_cons rfl tt (ev_cons rfl tt ev_nil)) (by intro w hc hI; first | trivial | (exfalso; simp_all; done) | (clear hc; repeat' (first | exact ros_nil | refine ros_cons ?_ ?_ | exact hI.roRo (by first | exact m0 | exact m1 | exact m2 | exact m3 | exact m4 | exact m5 | exact m6 | exact m7 | exact m8 | exact m9 | exact m10 | exact m11 | exact m12 | exact m13 | exact m14 | exact m15 | exact m16 | exact m17 | exact m18 | exact m19 | exact m20 | exact m21 | exact m22 | exact m23 | exact m24 | exact m25 | exact m26 | exact m27) | exact hI.boxRo (by first | exact m0 | exact m1 | exact m2 | exact m3 | exact m4 | exact m5 | exact m6 | exact m7 | exact m8 | exact m9 | exact m10 | exact m11 | exact m12 | exact m13 | exact m14 | exact m15 | exact m16 | exact m17 | exact m18 | exact m19 | exact m20 | exact m21 | exact m22 | exact m23 | exact m24 | exact m25 | exact m26 | exact m27) | exact HInv.vecRo hI (by first | exact m0 | exact m1 | exact m2 | exact m3 | exact m4 | exact m5 | exact m6 | exact m7 | exact m8 | exact m9 | exact m10 | exact m11 | exact m12 | exact m13 | exact m14 | exact m15 | exact m16 | exact m17 | exact m18 | exact m19 | exact m20 | exact m21 | exact m22 | exact m23 | exact m24 | exact m25 | exact m26 | exact m27))))) ?_
       refine jl_op rfl rfl (.none rfl) (v_assign rfl rfl tt) ?_
       refine jl_nil ?_)
    | (refine j_region (id := 18) ?_
       refine jl_op rfl rfl (.none rfl) (v_move rfl rfl tt) ?_
       refine jl_op rfl rfl (.none rfl) (v_icmp rfl rfl rfl rfl tt tt) ?_
       refine jl_nil ?_)
    | (refine j_region (id := 19) ?_
       refine jl_op rfl rfl (.none rfl) (v_assign rfl rfl tt) ?_
       refine jl_nil ?_)
    | (refine j_region (id := 20) ?_
       refine jl_op rfl rfl (.none rfl) (v_move rfl rfl tt) ?_
       refine jl_op rfl rfl (.none rfl) (v_move rfl rfl tt) ?_
       refine jl_op rfl rfl (.none rfl) (v_icmp rfl rfl rfl rfl tt tt) ?_
       refine jl_nil ?_)
    | (refine j_region (id := 21) ?_
       refine jl_op rfl rfl (.none rfl) (v_assign rfl rfl tt) ?_
       refine jl_nil ?_)
    | (refine j_region (id := 22) ?_
       refine jl_op rfl rfl (.none rfl) (v_move rfl rfl tt) ?_
       refine jl_x1 rfl rfl rfl (x_call (f := 39) (xs := [_]) rfl (c_toFloat32S _ _ _ _ (by omega)) (ev_cons rfl tt ev_nil) (by intro w hI; first | trivial | (repeat' (first | exact ros_nil | refine ros_cons ?_ ?_ | exact hI.roRo (by first | exact m0 | exact m1 | exact m2 | exact m3 | exact m4 | exact m5 | exact m6 | exact m7 | exact m8 | exact m9 | exact m10 | exact m11 | exact m12 | exact m13 | exact m14 | exact m15 | exact m16 | exact m17 | exact m18 | exact m19 | exact m20 | exact m21 | exact m22 | exact m23 | exact m24 | exact m25 | exact m26 | exact m27) | exact hI.boxRo (by first | exact m0 | exact m1 | exact m2 | exact m3 | exact m4 | exact m5 | exact m6 | exact m7 | exact m8 | exact m9 | exact m10 | exact m11 | exact m12 | exact m13 | exact m14 | exact m15 | exact m16 | exact m17 | exact m18 | exact m19 | exact m20 | exact m21 | exact m22 | exact m23 | exact m24 | exact m25 | exact m26 | exact m27) | exact HInv.vecRo hI (by first | exact m0 | exact m1 | exact m2 | exact m3 | exact m4 | exact m5 | exact m6 | exact m7 | exact m8 | exact m9 | exact m10 | exact m11 | exact m12 | exact m13 | exact m14 | exact m15 | exact m16 | exact m17 | exact m18 | exact m19 | exact m20 | exact m21 | exact m22 | exact m23 | exact m24 | exact m25 | exact m26 | exact m27))))) (fun s76 => ?_)
       refine jl_op rfl rfl (.none rfl) (v_move rfl rfl tt) ?_
       refine jl_x rfl rfl rfl (x_call (f := 47) (xs := [_, _]) rfl (c_toPeakI _ _ _ _ _ (by omega) kc) (ev_cons rfl tt (ev_cons rfl tt ev_nil)) (by intro w hI; first | trivial | (repeat' (first | exact ros_nil | refine ros_cons ?_ ?_ | exact hI.roRo (by first | exact m0 | exact m1 | exact m2 | exact m3 | exact m4 | exact m5 | exact m6 | exact m7 | exact m8 | exact m9 | exact m10 | exact m11 | exact m12 | exact m13 | exact m14 | exact m15 | exact m16 | exact m17 | exact m18 | exact m19 | exact m20 | exact m21 | exact m22 | exact m23 | exact m24 | exact m25 | exact m26 | exact m27) | exact hI.boxRo (by first | exact m0 | exact m1 | exact m2 | exact m3 | exact m4 | exact m5 | exact m6 | exact m7 | exact m8 | exact m9 | exact m10 | exact m11 | exact m12 | exact m13 | exact m14 | exact m15 | exact m16 | exact m17 | exact m18 | exact m19 | exact m20 | exact m21 | exact m22 | exact m23 | exact m24 | exact m25 | exact m26 | exact m27) | exact HInv.vecRo hI (by first | exact m0 | exact m1 | exact m2 | exact m3 | exact m4 | exact m5 | exact m6 | exact m7 | exact m8 | exact m9 | exact m10 | exact m11 | exact m12 | exact m13 | exact m14 | exact m15 | exact m16 | exact m17 | exact m18 | exact m19 | exact m20 | exact m21 | exact m22 | exact m23 | exact m24 | exact m25 | exact m26 | exact m27))))) (fun s78 => ?_)
       refine jl_op rfl rfl (.none rfl) (v_move rfl rfl tt) ?_
       refine jl_op rfl rfl (.none rfl) (v_extract rfl rfl tt rfl) ?_
       refine jl_op rfl rfl (.none rfl) (v_extract rfl rfl tt rfl) ?_
       refine jl_op rfl rfl (.none rfl) (v_assign rfl rfl tt) ?_
       refine jl_op rfl rfl (.none rfl) (v_assign rfl rfl tt) ?_
       refine jl_nil ?_)
    | (refine j_region (id := 23) ?_
       refine jl_op rfl rfl (.none rfl) (v_move rfl rfl tt) ?_
       refine jl_op rfl rfl (.none rfl) (v_move rfl rfl tt) ?_
       refine jl_op rfl rfl (.none rfl) (v_call (f := 41) (xs := [_, _]) rfl (c_eqFloat32S _ _ _ _ _ _ _ _ (by first | omega | exact bif_le (by omega))) (ev_cons rfl tt (ev_cons rfl tt ev_nil)) (by intro w hc hI; first | trivial | (exfalso; simp_all; done) | (clear hc; repeat' (first | exact ros_nil | refine ros_cons ?_ ?_ | exact hI.roRo (by first | exact m0 | exact m1 | exact m2 | exact m3 | exact m4 | exact m5 | exact m6 | exact m7 | exact m8 | exact m9 | exact m10 | exact m11 | exact m12 | exact m13 | exact m14 | exact m15 | exact m16 | exact m17 | exact m18 | exact m19 | exact m20 | exact m21 | exact m22 | exact m23 | exact m24 | exact m25 | exact m26 | exact m27) | exact hI.boxRo (by first | exact m0 | exact m1 | exact m2 | exact m3 | exact m4 | exact m5 | exact m6 | exact m7 | exact m8 | exact m9 | exact m10 | exact m11 | exact m12 | exact m13 | exact m14 | exact m15 | exact m16 | exact m17 | exact m18 | exact m19 | exact m20 | exact m21 | exact m22 | exact m23 | exact m24 | exact m25 | exact m26 | exact m27) | exact HInv.vecRo hI (by first | exact m0 | exact m1 | exact m2 | exact m3 | exact m4 | exact m5 | exact m6 | exact m7 | exact m8 | exact m9 | exact m10 | exact m11 | exact m12 | exact m13 | exact m14 | exact m15 | exact m16 | exact m17 | exact m18 | exact m19 | exact m20 | exact m21 | exact m22 | exact m23 | exact m24 | exact m25 | exact m26 | exact m27))))) ?_
       refine jl_op rfl rfl (.none rfl) (v_not rfl rfl tt) ?_
       refine jl_op rfl rfl (.none rfl) (v_move rfl rfl tt) ?_
       refine jl_op rfl rfl (.some rfl rfl rfl) (v_move rfl rfl tt) ?_
       refine jl_op rfl rfl (.some rfl rfl rfl) (v_move rfl rfl tt) ?_
       refine jl_op rfl rfl (.some rfl rfl rfl) (v_bne rfl rfl rfl Try.underlying4 ii ii rfl) ?_
       refine jl_op rfl rfl (.none rfl) (v_or rfl rfl tt rfl fi) ?_
       refine jl_nil ?_)
    | (refine j_region (id := 24) ?_
       refine jl_op rfl rfl (.none rfl) (v_assign rfl rfl tt) ?_
       refine jl_nil ?_)
    | (refine j_region (id := 25) ?_
       refine jl_op rfl rfl (.none rfl) (v_assign rfl rfl tt) ?_
       refine jl_nil ?_)
    | (refine j_region (id := 26) ?_
       refine jl_op rfl rfl (.none rfl) (v_move rfl rfl tt) ?_
       refine jl_op rfl rfl (.none rfl) (v_move rfl rfl tt) ?_
       refine jl_op rfl rfl (.none rfl) (v_call (f := 43) (xs := [_, _]) rfl (c_heldFloat32S _ _ _ _ (by first | omega | exact bif_le (by omega)) (by omega)) (ev_cons rfl tt (ev_cons rfl tt ev_nil)) (by intro w hc hI; first | trivial | (exfalso; simp_all; done) | (clear hc; repeat' (first | exact ros_nil | refine ros_cons ?_ ?_ | exact hI.roRo (by first | exact m0 | exact m1 | exact m2 | exact m3 | exact m4 | exact m5 | exact m6 | exact m7 | exact m8 | exact m9 | exact m10 | exact m11 | exact m12 | exact m13 | exact m14 | exact m15 | exact m16 | exact m17 | exact m18 | exact m19 | exact m20 | exact m21 | exact m22 | exact m23 | exact m24 | exact m25 | exact m26 | exact m27) | exact hI.boxRo (by first | exact m0 | exact m1 | exact m2 | exact m3 | exact m4 | exact m5 | exact m6 | exact m7 | exact m8 | exact m9 | exact m10 | exact m11 | exact m12 | exact m13 | exact m14 | exact m15 | exact m16 | exact m17 | exact m18 | exact m19 | exact m20 | exact m21 | exact m22 | exact m23 | exact m24 | exact m25 | exact m26 | exact m27) | exact HInv.vecRo hI (by first | exact m0 | exact m1 | exact m2 | exact m3 | exact m4 | exact m5 | exact m6 | exact m7 | exact m8 | exact m9 | exact m10 | exact m11 | exact m12 | exact m13 | exact m14 | exact m15 | exact m16 | exact m17 | exact m18 | exact m19 | exact m20 | exact m21 | exact m22 | exact m23 | exact m24 | exact m25 | exact m26 | exact m27))))) ?_
       refine jl_op rfl rfl (.none rfl) (v_assign rfl rfl tt) ?_
       refine jl_nil ?_)
    | (refine j_region (id := 27) ?_
       refine jl_op rfl rfl (.none rfl) (v_move rfl rfl tt) ?_
       refine jl_op rfl rfl (.none rfl) (v_icmp rfl rfl rfl rfl tt tt) ?_
       refine jl_nil ?_)
    | (refine j_region (id := 28) ?_
       refine jl_op rfl rfl (.none rfl) (v_assign rfl rfl tt) ?_
       refine jl_nil ?_)
    | (refine j_region (id := 29) ?_
       refine jl_op rfl rfl (.none rfl) (v_move rfl rfl tt) ?_
       refine jl_op rfl rfl (.none rfl) (v_move rfl rfl tt) ?_
       refine jl_op rfl rfl (.none rfl) (v_icmp rfl rfl rfl rfl tt tt) ?_
       refine jl_nil ?_)
    | (refine j_region (id := 30) ?_
       refine jl_op rfl rfl (.none rfl) (v_assign rfl rfl tt) ?_
       refine jl_nil ?_)
    | (refine j_region (id := 31) ?_
       refine jl_op rfl rfl (.none rfl) (v_assign rfl rfl tt) ?_
       refine jl_nil ?_)))
  all_goals first | exact jq_ret1 (.inl rfl) Try.results12 rfl | (exfalso; rename_i hx; revert hx; simp [icmp, sameT_self] <;> omega)
end Go.Vx
