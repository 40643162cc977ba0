/- Contracts of functions of the program and of the reference. -/
import Derived.Test.YteddfolpmmimiaaCoPredictAt
namespace Go.Vx
open Go.Proofs
set_option maxRecDepth 4000
set_option maxHeartbeats 4000000
attribute [local irreducible] J JL JQ JA VOp Con Ext XOp ConM ConW ConW2
theorem x_sqrt (X : Nat) : Ext Try.prog 142 [.float .f64 X] (.float .f64 (fsqrt .f64 X)) := ext_sqrt Try.func142 (by decide) rfl rfl rfl
theorem c_Sqrt (x : Nat) : Con Try.prog 100 [.float .f64 x] (fun _ => True) (.float .f64 (fsqrt .f64 x)) := by
  refine con_intro (H := []) Try.func100 (by decide) rfl rfl (fun w _ => HInv.refl w) (fun w0 _ => ?_)
  (repeat' (first
    | refine j_condLt rfl (fun _ => ?_) (fun _ => ?_)
    | refine j_condLe rfl (fun _ => ?_) (fun _ => ?_)
    | refine j_condGt rfl (fun _ => ?_) (fun _ => ?_)
    | refine j_condGe rfl (fun _ => ?_) (fun _ => ?_)
    | refine j_condNe rfl (fun _ => ?_) (fun _ => ?_)
    | refine j_condEq rfl (fun _ => ?_) (fun _ => ?_)
    | refine j_condOrLt rfl (fun _ => ?_) (fun _ => ?_)
    | refine j_condAndLt rfl (fun _ => ?_) (fun _ => ?_)
    | refine j_condAndGe rfl (fun _ => ?_) (fun _ => ?_)
    | refine j_seq ?_
    | refine jq_then ?_
    | refine j_block ?_
    | refine j_ret ?_
    | refine jq_then_ret ?_
    | refine jq_block_ret ?_
    | refine jq_block_normal ?_
    | refine jq_then_exit ?_
    | refine jq_block_same rfl ?_
    | refine jq_block_other rfl ?_
    | refine j_skip ?_
    | refine j_exit ?_
    | refine j_label ?_
    | refine j_condCT ?_
    | refine j_condCF ?_
    | refine j_cond rfl (fun _ => ?_) (fun _ => ?_)
    | (refine j_region (id := 0) ?_
       refine jl_op rfl rfl (.none rfl) (v_assign rfl rfl tt) ?_
       refine jl_nil ?_)
    | (refine j_region (id := 1) ?_
       refine jl_op rfl rfl (.none rfl) (v_move rfl rfl tt) ?_
       refine jl_op rfl rfl (.none rfl) (v_ext (f := 142) (xs := [_]) rfl (ev_cons rfl tt ev_nil) (by first | exact fun _ => x_sqrt _ | skip)) ?_
       refine jl_op rfl rfl (.none rfl) (v_assign rfl rfl tt) ?_
       refine jl_nil ?_)))
  all_goals exact jq_ret1 (.inl rfl) Try.results100 rfl
theorem c_rootI (x : Nat) : Con Try.prog 119 [F x] (fun _ => True) (F (rootN x)) := by
  refine con_intro (H := []) Try.func119 (by decide) rfl rfl (fun w _ => HInv.refl w) (fun w0 _ => ?_)
  (repeat' (first
    | refine j_condLt rfl (fun _ => ?_) (fun _ => ?_)
    | refine j_condLe rfl (fun _ => ?_) (fun _ => ?_)
    | refine j_condGt rfl (fun _ => ?_) (fun _ => ?_)
    | refine j_condGe rfl (fun _ => ?_) (fun _ => ?_)
    | refine j_condNe rfl (fun _ => ?_) (fun _ => ?_)
    | refine j_condEq rfl (fun _ => ?_) (fun _ => ?_)
    | refine j_condOrLt rfl (fun _ => ?_) (fun _ => ?_)
    | refine j_condAndLt rfl (fun _ => ?_) (fun _ => ?_)
    | refine j_condAndGe rfl (fun _ => ?_) (fun _ => ?_)
    | refine j_seq ?_
    | refine jq_then ?_
    | refine j_block ?_
    | refine j_ret ?_
    | refine jq_then_ret ?_
    | refine jq_block_ret ?_
    | refine jq_block_normal ?_
    | refine jq_then_exit ?_
    | refine jq_block_same rfl ?_
    | refine jq_block_other rfl ?_
    | refine j_skip ?_
    | refine j_exit ?_
    | refine j_label ?_
    | refine j_condCT ?_
    | refine j_condCF ?_
    | refine j_cond rfl (fun _ => ?_) (fun _ => ?_)
    | (refine j_region (id := 0) ?_
       refine jl_op rfl rfl (.none rfl) (v_assign rfl rfl tt) ?_
       refine jl_nil ?_)
    | (refine j_region (id := 1) ?_
       refine jl_op rfl rfl (.none rfl) (v_move rfl rfl tt) ?_
       refine jl_op rfl rfl (.none rfl) (v_f2f rfl rfl tt (by rfl) Try.underlying43 (by first | exact fun _ => fits_same | exact fun _ => fits_wide | exact fun _ => fits_sqrt _ | assumption | exact fun _ => by assumption)) ?_
       refine jl_op rfl rfl (.none rfl) (v_call (f := 100) (xs := [_]) rfl (c_Sqrt _) (ev_cons rfl tt ev_nil) (by intro w hc hI; first | trivial | (exfalso; simp_all; done) | (clear hc; repeat' (first | exact ros_nil | refine ros_cons ?_ ?_ | exact hI.roRo (by first | exact m0 | exact m1 | exact m2 | exact m3 | exact m4 | exact m5 | exact m6 | exact m7 | exact m8 | exact m9 | exact m10 | exact m11 | exact m12 | exact m13) | exact hI.boxRo (by first | exact m0 | exact m1 | exact m2 | exact m3 | exact m4 | exact m5 | exact m6 | exact m7 | exact m8 | exact m9 | exact m10 | exact m11 | exact m12 | exact m13) | exact HInv.vecRo hI (by first | exact m0 | exact m1 | exact m2 | exact m3 | exact m4 | exact m5 | exact m6 | exact m7 | exact m8 | exact m9 | exact m10 | exact m11 | exact m12 | exact m13))))) ?_
       refine jl_op rfl rfl (.none rfl) (v_f2f rfl rfl tt (by rfl) Try.underlying24 (by first | exact fun _ => fits_same | exact fun _ => fits_wide | exact fun _ => fits_sqrt _ | assumption | exact fun _ => by assumption)) ?_
       refine jl_op rfl rfl (.none rfl) (v_assign rfl rfl tt) ?_
       refine jl_nil ?_)))
  all_goals exact jq_ret1 (.inl rfl) Try.results119 rfl
theorem c_loudI (A : Option Addr) (N cap : Nat) (g : Nat → Nat) (hN : N ≤ 4294967296) : Con Try.prog 57 [.slice A N cap] (RoS [.ro A (tab N g)]) (numV ((sound N g && !icmp .eql (N : Int) 0) && fin (loudN N g)) (loudN N g)) := by
  refine con_intro (H := [.ro A (tab N g)]) Try.func57 (by decide) rfl rfl (fun w h => h.inv) (fun w0 _ => ?_)
  (repeat' (first
    | refine j_part (by omega) ?_
    | refine j_partI (by omega) ?_
    | (refine j_loop2 (σ := Nat) (fun i => i ≤ N) (fun i => [(0, true, .slice A N cap), (4, true, F (sqS g i)), (15, true, .slice A N cap), (16, true, .int .i64 (N)), (17, true, .int .i64 (i))]) (fun i => [.ro A (tab N g)]) (fun i => N - i) 0 (by omega) (fs_cons rfl (fs_cons (by first | rfl | rfl) (fs_cons rfl (fs_cons rfl (fs_cons rfl fs_nil))))) (fun _ h => h) ?_; intro i hi)
    | (exact jq_round (i + 1) (by omega) (by omega) (fs_cons rfl (fs_cons rfl (fs_cons rfl (fs_cons rfl (fs_cons rfl fs_nil))))) (fun _ h => h))
    | refine j_condLt rfl (fun _ => ?_) (fun _ => ?_)
    | refine j_condLe rfl (fun _ => ?_) (fun _ => ?_)
    | refine j_condGt rfl (fun _ => ?_) (fun _ => ?_)
    | refine j_condGe rfl (fun _ => ?_) (fun _ => ?_)
    | refine j_condNe rfl (fun _ => ?_) (fun _ => ?_)
    | refine j_condEq rfl (fun _ => ?_) (fun _ => ?_)
    | refine j_condOrLt rfl (fun _ => ?_) (fun _ => ?_)
    | refine j_condAndLt rfl (fun _ => ?_) (fun _ => ?_)
    | refine j_condAndGe rfl (fun _ => ?_) (fun _ => ?_)
    | refine j_seq ?_
    | refine jq_then ?_
    | refine j_block ?_
    | refine j_ret ?_
    | refine jq_then_ret ?_
    | refine jq_block_ret ?_
    | refine jq_block_normal ?_
    | refine jq_then_exit ?_
    | refine jq_block_same rfl ?_
    | refine jq_block_other rfl ?_
    | refine j_skip ?_
    | refine j_exit ?_
    | refine j_label ?_
    | refine j_condCT ?_
    | refine j_condCF ?_
    | refine j_cond rfl (fun _ => ?_) (fun _ => ?_)
    | (refine j_region (id := 0) ?_
       refine jl_op rfl rfl (.none rfl) (v_assign rfl rfl tt) ?_
       refine jl_op rfl rfl (.none rfl) (v_assign rfl rfl tt) ?_
       refine jl_nil ?_)
    | (refine j_region (id := 1) ?_
       refine jl_op rfl rfl (.none rfl) (v_move rfl rfl tt) ?_
       refine jl_op rfl rfl (.none rfl) (v_call (f := 60) (xs := [_]) rfl (c_isSoundI _ _ _ _ hN) (ev_cons rfl tt ev_nil) (by intro w hc hI; first | trivial | (exfalso; simp_all; done) | (clear hc; repeat' (first | exact ros_nil | refine ros_cons ?_ ?_ | exact hI.roRo (by first | exact m0 | exact m1 | exact m2 | exact m3 | exact m4 | exact m5 | exact m6 | exact m7 | exact m8 | exact m9 | exact m10 | exact m11 | exact m12 | exact m13) | exact hI.boxRo (by first | exact m0 | exact m1 | exact m2 | exact m3 | exact m4 | exact m5 | exact m6 | exact m7 | exact m8 | exact m9 | exact m10 | exact m11 | exact m12 | exact m13) | exact HInv.vecRo hI (by first | exact m0 | exact m1 | exact m2 | exact m3 | exact m4 | exact m5 | exact m6 | exact m7 | exact m8 | exact m9 | exact m10 | exact m11 | exact m12 | exact m13))))) ?_
       refine jl_op rfl rfl (.none rfl) (v_not rfl rfl tt) ?_
       refine jl_op rfl rfl (.none rfl) (v_move rfl rfl tt) ?_
       refine jl_op rfl rfl (.some rfl rfl rfl) (v_move rfl rfl tt) ?_
       refine jl_op rfl rfl (.some rfl rfl rfl) (v_len rfl rfl Try.underlying34 rfl ii) ?_
       refine jl_op rfl rfl (.some rfl rfl rfl) (v_icmp rfl rfl rfl rfl ii tt) ?_
       refine jl_op rfl rfl (.none rfl) (v_or rfl rfl tt rfl fi) ?_
       refine jl_nil ?_)
    | (refine j_region (id := 2) ?_
       refine jl_op rfl rfl (.none rfl) (v_assign rfl rfl tt) ?_
       refine jl_op rfl rfl (.none rfl) (v_assign rfl rfl tt) ?_
       refine jl_nil ?_)
    | (refine j_region (id := 3) ?_
       refine jl_op rfl rfl (.none rfl) (v_assign rfl rfl tt) ?_
       refine jl_nil ?_)
    | (refine j_region (id := 4) ?_
       refine jl_op rfl rfl (.none rfl) (v_move rfl rfl tt) ?_
       refine jl_op rfl rfl (.none rfl) (v_len rfl rfl Try.underlying34 rfl tt) ?_
       refine jl_op rfl rfl (.none rfl) (v_move rfl rfl tt) ?_
       refine jl_nil ?_)
    | (refine j_region (id := 5) ?_
       refine jl_op rfl rfl (.none rfl) (v_icmp rfl rfl rfl rfl tt tt) ?_
       refine jl_nil ?_)
    | (refine j_region (id := 6) ?_
       refine jl_op rfl rfl (.none rfl) (v_indexAddr rfl Try.underlying34 (by kernel_rfl) rfl rfl tt tt (by first | exact hA_some | exact hA_roT (by first | exact m0 | exact m1 | exact m2 | exact m3 | exact m4 | exact m5 | exact m6 | exact m7 | exact m8 | exact m9 | exact m10 | exact m11 | exact m12 | exact m13) | exact hA_vecT (by first | exact m0 | exact m1 | exact m2 | exact m3 | exact m4 | exact m5 | exact m6 | exact m7 | exact m8 | exact m9 | exact m10 | exact m11 | exact m12 | exact m13) | exact hA_vecP (by first | exact m0 | exact m1 | exact m2 | exact m3 | exact m4 | exact m5 | exact m6 | exact m7 | exact m8 | exact m9 | exact m10 | exact m11 | exact m12 | exact m13) | exact hA_roI (by first | exact m0 | exact m1 | exact m2 | exact m3 | exact m4 | exact m5 | exact m6 | exact m7 | exact m8 | exact m9 | exact m10 | exact m11 | exact m12 | exact m13) | exact hA_vecI (by first | exact m0 | exact m1 | exact m2 | exact m3 | exact m4 | exact m5 | exact m6 | exact m7 | exact m8 | exact m9 | exact m10 | exact m11 | exact m12 | exact m13) | exact hA_vecPI (by first | exact m0 | exact m1 | exact m2 | exact m3 | exact m4 | exact m5 | exact m6 | exact m7 | exact m8 | exact m9 | exact m10 | exact m11 | exact m12 | exact m13) | exact hA_vecPS (by first | exact m0 | exact m1 | exact m2 | exact m3 | exact m4 | exact m5 | exact m6 | exact m7 | exact m8 | exact m9 | exact m10 | exact m11 | exact m12 | exact m13) | exact hA_ro (by first | exact m0 | exact m1 | exact m2 | exact m3 | exact m4 | exact m5 | exact m6 | exact m7 | exact m8 | exact m9 | exact m10 | exact m11 | exact m12 | exact m13) | exact hA_vec (by first | exact m0 | exact m1 | exact m2 | exact m3 | exact m4 | exact m5 | exact m6 | exact m7 | exact m8 | exact m9 | exact m10 | exact m11 | exact m12 | exact m13) | exact hA_roY (by first | exact m0 | exact m1 | exact m2 | exact m3 | exact m4 | exact m5 | exact m6 | exact m7 | exact m8 | exact m9 | exact m10 | exact m11 | exact m12 | exact m13)) (fun _hc => ⟨(by first | with_reducible rfl | exact (Int.toNat_of_nonneg (by omega)).symm | (have hc := g_gt _hc; exact (Int.toNat_of_nonneg (by omega)).symm)), (by first | omega | (rw [tab_length]; omega) | (rw [part_length]; omega) | (rw [tabI_length]; omega) | (rw [partI_length]; omega) | (rw [List.length_set, part_length]; omega))⟩)) ?_
       first | refine jl_op rfl rfl (.none rfl) (v_loadVec rfl Try.underlying24 (by rfl) rfl tt (by first | exact m0 | exact m1 | exact m2 | exact m3 | exact m4 | exact m5 | exact m6 | exact m7 | exact m8 | exact m9 | exact m10 | exact m11 | exact m12 | exact m13) (fun _ => (by first | with_reducible exact part_get_ge (by omega) (by omega) | with_reducible exact tab_get (by omega) | with_reducible exact tabI_get (by omega) | with_reducible exact part_get (by omega) | exact part_get_ge (by omega) (by omega) | exact tab_get (by omega) | exact tabI_get (by omega) | exact part_get (by omega) | exact part_set_get (by omega) | exact partI_get (by omega) | assumption | rfl))) ?_ | refine jl_op rfl rfl (.none rfl) (v_loadRo rfl Try.underlying24 (by rfl) rfl tt (by first | exact m0 | exact m1 | exact m2 | exact m3 | exact m4 | exact m5 | exact m6 | exact m7 | exact m8 | exact m9 | exact m10 | exact m11 | exact m12 | exact m13) (fun _ => (by first | with_reducible exact part_get_ge (by omega) (by omega) | with_reducible exact tab_get (by omega) | with_reducible exact tabI_get (by omega) | with_reducible exact part_get (by omega) | exact part_get_ge (by omega) (by omega) | exact tab_get (by omega) | exact tabI_get (by omega) | exact part_get (by omega) | exact part_set_get (by omega) | exact partI_get (by omega) | assumption | rfl))) ?_
       refine jl_op rfl rfl (.none rfl) (v_assign rfl rfl tt) ?_
       refine jl_nil ?_)
    | (refine j_region (id := 7) ?_
       refine jl_op rfl rfl (.none rfl) (v_move rfl rfl tt) ?_
       refine jl_op rfl rfl (.none rfl) (v_move rfl rfl tt) ?_
       refine jl_op rfl rfl (.none rfl) (v_move rfl rfl tt) ?_
       refine jl_op rfl rfl (.none rfl) (v_farith rfl rfl rfl rfl tt tt) ?_
       refine jl_op rfl rfl (.none rfl) (v_farith rfl rfl rfl rfl tt tt) ?_
       refine jl_op rfl rfl (.none rfl) (v_assign rfl rfl tt) ?_
       refine jl_nil ?_)
    | (refine j_region (id := 8) ?_
       refine jl_op rfl rfl (.none rfl) (v_iarith' rfl rfl rfl rfl tt tt (by first | exact fun _ => iw_add (by omega) | exact fun _ => rfl)) ?_
       refine jl_op rfl rfl (.none rfl) (v_move rfl rfl tt) ?_
       refine jl_nil ?_)
    | (refine j_region (id := 9) ?_
       refine jl_op rfl rfl (.none rfl) (v_move rfl rfl tt) ?_
       refine jl_op rfl rfl (.none rfl) (v_move rfl rfl tt) ?_
       refine jl_op rfl rfl (.none rfl) (v_len rfl rfl Try.underlying34 rfl tt) ?_
       refine jl_op rfl rfl (.none rfl) (v_i2f rfl rfl tt (by rfl) Try.underlying24) ?_
       refine jl_op rfl rfl (.none rfl) (v_farith rfl rfl rfl rfl tt tt) ?_
       refine jl_op rfl rfl (.none rfl) (v_call (f := 119) (xs := [_]) rfl (c_rootI _) (ev_cons rfl tt ev_nil) (by intro w hc hI; first | trivial | (exfalso; simp_all; done) | (clear hc; repeat' (first | exact ros_nil | refine ros_cons ?_ ?_ | exact hI.roRo (by first | exact m0 | exact m1 | exact m2 | exact m3 | exact m4 | exact m5 | exact m6 | exact m7 | exact m8 | exact m9 | exact m10 | exact m11 | exact m12 | exact m13) | exact hI.boxRo (by first | exact m0 | exact m1 | exact m2 | exact m3 | exact m4 | exact m5 | exact m6 | exact m7 | exact m8 | exact m9 | exact m10 | exact m11 | exact m12 | exact m13) | exact HInv.vecRo hI (by first | exact m0 | exact m1 | exact m2 | exact m3 | exact m4 | exact m5 | exact m6 | exact m7 | exact m8 | exact m9 | exact m10 | exact m11 | exact m12 | exact m13))))) ?_
       refine jl_op rfl rfl (.none rfl) (v_call (f := 83) (xs := [_]) rfl (c_checkedNumber ..) (ev_cons rfl tt ev_nil) (by intro w hc hI; first | trivial | (exfalso; simp_all; done) | (clear hc; repeat' (first | exact ros_nil | refine ros_cons ?_ ?_ | exact hI.roRo (by first | exact m0 | exact m1 | exact m2 | exact m3 | exact m4 | exact m5 | exact m6 | exact m7 | exact m8 | exact m9 | exact m10 | exact m11 | exact m12 | exact m13) | exact hI.boxRo (by first | exact m0 | exact m1 | exact m2 | exact m3 | exact m4 | exact m5 | exact m6 | exact m7 | exact m8 | exact m9 | exact m10 | exact m11 | exact m12 | exact m13) | exact HInv.vecRo hI (by first | exact m0 | exact m1 | exact m2 | exact m3 | exact m4 | exact m5 | exact m6 | exact m7 | exact m8 | exact m9 | exact m10 | exact m11 | exact m12 | exact m13))))) ?_
       refine jl_op rfl rfl (.none rfl) (v_extract rfl rfl tt rfl) ?_
       refine jl_op rfl rfl (.none rfl) (v_extract rfl rfl tt rfl) ?_
       refine jl_op rfl rfl (.none rfl) (v_assign rfl rfl tt) ?_
       refine jl_op rfl rfl (.none rfl) (v_assign rfl rfl tt) ?_
       refine jl_nil ?_)))
  all_goals first | exact jq_ret2E (.inl rfl) Try.results57 rfl rfl rfl rfl (num_no (by cases h1 : sound N g <;> simp_all) rfl) | (obtain rfl : i = N := (by omega); exact jq_ret2E (.inl rfl) Try.results57 rfl rfl rfl rfl (num_yes (by cases h1 : sound i g <;> simp_all [loudN])))
end Go.Vx
