/- Contracts of functions of the program and of the reference. -/
import Derived.Test.YtblpeabiaoddiaaCoLadder
namespace Go.Vx
open Go.Proofs
set_option maxRecDepth 4000
attribute [local irreducible] J JL JQ JA VOp Con Ext XOp ConM ConW ConW2
theorem c_isBetween (x lo hi : Nat) : Con Try.prog 65 [.float .f32 x, .float .f32 lo, .float .f32 hi] (fun _ => True) (.bool (btw x lo hi)) := by
  refine con_intro (H := []) Try.func65 (by decide) rfl rfl (fun w _ => HInv.refl w) (fun w0 _ => ?_)
  (repeat' (first
    | refine j_condLt rfl (fun _ => ?_) (fun _ => ?_)
    | refine j_condLe rfl (fun _ => ?_) (fun _ => ?_)
    | refine j_condGt rfl (fun _ => ?_) (fun _ => ?_)
    | refine j_condGe rfl (fun _ => ?_) (fun _ => ?_)
    | refine j_condNe rfl (fun _ => ?_) (fun _ => ?_)
    | refine j_condEq rfl (fun _ => ?_) (fun _ => ?_)
    | refine j_condOrLt rfl (fun _ => ?_) (fun _ => ?_)
    | refine j_condAndLt rfl (fun _ => ?_) (fun _ => ?_)
    | refine j_condAndGe rfl (fun _ => ?_) (fun _ => ?_)
    | refine j_seq ?_
    | refine jq_then ?_
    | refine j_block ?_
    | refine j_ret ?_
    | refine jq_then_ret ?_
    | refine jq_block_ret ?_
    | refine jq_block_normal ?_
    | refine jq_then_exit ?_
    | refine jq_block_same rfl ?_
    | refine jq_block_other rfl ?_
    | refine j_skip ?_
    | refine j_exit ?_
    | refine j_label ?_
    | refine j_cond rfl (fun _ => ?_) (fun _ => ?_)
    | (refine j_region (id := 0) ?_
       refine jl_op rfl rfl (.none rfl) (v_assign rfl rfl tt) ?_
       refine jl_nil ?_)
    | (refine j_region (id := 1) ?_
       refine jl_op rfl rfl (.none rfl) (v_move rfl rfl tt) ?_
       refine jl_op rfl rfl (.none rfl) (v_move rfl rfl tt) ?_
       refine jl_op rfl rfl (.none rfl) (v_fcmp rfl rfl rfl rfl tt tt) ?_
       refine jl_op rfl rfl (.none rfl) (v_move rfl rfl tt) ?_
       refine jl_op rfl rfl (.some rfl rfl rfl) (v_move rfl rfl tt) ?_
       refine jl_op rfl rfl (.some rfl rfl rfl) (v_move rfl rfl tt) ?_
       refine jl_op rfl rfl (.some rfl rfl rfl) (v_fcmp rfl rfl rfl rfl ii ii) ?_
       refine jl_op rfl rfl (.none rfl) (v_and rfl rfl tt rfl ti) ?_
       refine jl_op rfl rfl (.none rfl) (v_assign rfl rfl tt) ?_
       refine jl_nil ?_)))
  all_goals exact jq_ret1 (.inl rfl) Try.results65 rfl
theorem c_l02Share (x : Nat) : Con Try.prog 62 [.float .f32 x] (fun _ => True) (.bool (btw x 0 1065353216)) := by
  refine con_intro (H := []) Try.func62 (by decide) rfl rfl (fun w _ => HInv.refl w) (fun w0 _ => ?_)
  (repeat' (first
    | refine j_condLt rfl (fun _ => ?_) (fun _ => ?_)
    | refine j_condLe rfl (fun _ => ?_) (fun _ => ?_)
    | refine j_condGt rfl (fun _ => ?_) (fun _ => ?_)
    | refine j_condGe rfl (fun _ => ?_) (fun _ => ?_)
    | refine j_condNe rfl (fun _ => ?_) (fun _ => ?_)
    | refine j_condEq rfl (fun _ => ?_) (fun _ => ?_)
    | refine j_condOrLt rfl (fun _ => ?_) (fun _ => ?_)
    | refine j_condAndLt rfl (fun _ => ?_) (fun _ => ?_)
    | refine j_condAndGe rfl (fun _ => ?_) (fun _ => ?_)
    | refine j_seq ?_
    | refine jq_then ?_
    | refine j_block ?_
    | refine j_ret ?_
    | refine jq_then_ret ?_
    | refine jq_block_ret ?_
    | refine jq_block_normal ?_
    | refine jq_then_exit ?_
    | refine jq_block_same rfl ?_
    | refine jq_block_other rfl ?_
    | refine j_skip ?_
    | refine j_exit ?_
    | refine j_label ?_
    | refine j_cond rfl (fun _ => ?_) (fun _ => ?_)
    | (refine j_region (id := 0) ?_
       refine jl_op rfl rfl (.none rfl) (v_assign rfl rfl tt) ?_
       refine jl_nil ?_)
    | (refine j_region (id := 1) ?_
       refine jl_op rfl rfl (.none rfl) (v_move rfl rfl tt) ?_
       refine jl_op rfl rfl (.none rfl) (v_fcmp rfl rfl rfl rfl tt tt) ?_
       refine jl_op rfl rfl (.none rfl) (v_move rfl rfl tt) ?_
       refine jl_op rfl rfl (.some rfl rfl rfl) (v_move rfl rfl tt) ?_
       refine jl_op rfl rfl (.some rfl rfl rfl) (v_fcmp rfl rfl rfl rfl ii tt) ?_
       refine jl_op rfl rfl (.none rfl) (v_and rfl rfl tt rfl ti) ?_
       refine jl_op rfl rfl (.none rfl) (v_assign rfl rfl tt) ?_
       refine jl_nil ?_)))
  all_goals exact jq_ret1 (.inl rfl) Try.results62 rfl
theorem c_l02Mix (A : Option Addr) (N cap : Nat) (g : Nat → Nat) (B : Option Addr) (M bc : Nat) (h : Nat → Nat) (x : Nat) (hN : N ≤ 4294967296) (hM : M ≤ 4294967296) (hNM : N ≤ M) : ConM Try.prog 63 [.slice A N cap, .slice B M bc, F x] (RoS [.ro A (tab N g), .ro B (tab M h)]) (fun s : Option Addr × Nat => .slice s.1 N s.2) (fun s : Option Addr × Nat => [.vec 23 s.1 s.2 (tab N (fun j => farith .add .f32 (g j) (farith .mul .f32 x (farith .sub .f32 (h j) (g j)))))]) := by
  refine conM_intro (H := [.ro A (tab N g), .ro B (tab M h)]) Try.func63 (by decide) rfl rfl (fun w h => h.inv) (fun w0 _ => ?_)
  (repeat' (first
    | refine j_part (by omega) ?_
    | refine j_partI (by omega) ?_
    | (refine j_loop2 (σ := Nat × Option Addr × Nat) (fun s => s.1 ≤ N) (fun s => [(0, true, .slice A N cap), (1, true, .slice B M bc), (2, true, F x), (7, true, .slice s.2.1 s.1 s.2.2), (8, true, .int .i64 (s.1))]) (fun s => [.vec 23 s.2.1 s.2.2 (tab s.1 (fun j => farith .add .f32 (g j) (farith .mul .f32 x (farith .sub .f32 (h j) (g j))))), .ro A (tab N g), .ro B (tab M h)]) (fun s => N - s.1) (0, _, _) (by omega) (fs_cons rfl (fs_cons rfl (fs_cons rfl (fs_cons rfl (fs_cons rfl fs_nil))))) (fun _ h => h) ?_; intro s hi; obtain ⟨i, Z, zc⟩ := s; dsimp only at hi ⊢)
    | (exact jq_round (i + 1, _, _) (by omega) (by omega) (fs_cons rfl (fs_cons rfl (fs_cons rfl (fs_cons rfl (fs_cons rfl fs_nil))))) (fun w h => by rw [← tab_succ]; exact h.sub (List.sublist_cons_self _ _)))
    | refine j_condLt rfl (fun _ => ?_) (fun _ => ?_)
    | refine j_condLe rfl (fun _ => ?_) (fun _ => ?_)
    | refine j_condGt rfl (fun _ => ?_) (fun _ => ?_)
    | refine j_condGe rfl (fun _ => ?_) (fun _ => ?_)
    | refine j_condNe rfl (fun _ => ?_) (fun _ => ?_)
    | refine j_condEq rfl (fun _ => ?_) (fun _ => ?_)
    | refine j_condOrLt rfl (fun _ => ?_) (fun _ => ?_)
    | refine j_condAndLt rfl (fun _ => ?_) (fun _ => ?_)
    | refine j_condAndGe rfl (fun _ => ?_) (fun _ => ?_)
    | refine j_seq ?_
    | refine jq_then ?_
    | refine j_block ?_
    | refine j_ret ?_
    | refine jq_then_ret ?_
    | refine jq_block_ret ?_
    | refine jq_block_normal ?_
    | refine jq_then_exit ?_
    | refine jq_block_same rfl ?_
    | refine jq_block_other rfl ?_
    | refine j_skip ?_
    | refine j_exit ?_
    | refine j_label ?_
    | refine j_cond rfl (fun _ => ?_) (fun _ => ?_)
    | (refine j_region (id := 0) ?_
       refine jl_op rfl rfl (.none rfl) (v_assign rfl rfl tt) ?_
       refine jl_nil ?_)
    | (refine j_region (id := 1) ?_
       refine jl_x1 rfl rfl rfl (x_lit (Ws := []) (Z := F 0) rfl Try.underlying22 (by kernel_rfl) zero23 rfl rfl ev_nil rfl rfl rfl rfl) (fun b9 => ?_)
       refine jl_op rfl rfl (.none rfl) (v_assign rfl rfl tt) ?_
       refine jl_nil ?_)
    | (refine j_region (id := 2) ?_
       refine jl_op rfl rfl (.none rfl) (v_assign rfl rfl tt) ?_
       refine jl_nil ?_)
    | (refine j_region (id := 3) ?_
       refine jl_op rfl rfl (.none rfl) (v_move rfl rfl tt) ?_
       refine jl_op rfl rfl (.none rfl) (v_move rfl rfl tt) ?_
       refine jl_op rfl rfl (.none rfl) (v_len rfl rfl Try.underlying22 rfl tt) ?_
       refine jl_op rfl rfl (.none rfl) (v_icmp rfl rfl rfl rfl tt tt) ?_
       refine jl_nil ?_)
    | (refine j_region (id := 4) ?_
       refine jl_op rfl rfl (.none rfl) (v_move rfl rfl tt) ?_
       refine jl_op rfl rfl (.none rfl) (v_iarith' rfl rfl rfl rfl tt tt (by first | exact fun _ => iw_add (by omega) | exact fun _ => rfl)) ?_
       refine jl_op rfl rfl (.none rfl) (v_assign rfl rfl tt) ?_
       refine jl_nil ?_)
    | (refine j_drawX (id := 5) (m := 18) (by kernel_rfl) (by kernel_rfl) (fun Bq hBq => ?_)
       refine jx_op rfl (.none rfl) (v_move rfl rfl tt) ?_
       refine jx_op rfl (.none rfl) (v_move rfl rfl tt) ?_
       refine jx_op rfl (.none rfl) (v_move rfl rfl tt) ?_
       refine jx_op rfl (.none rfl) (v_indexAddr rfl Try.underlying22 (by kernel_rfl) rfl rfl tt tt (by first | exact hA_some | exact hA_roT (by first | exact m0 | exact m1 | exact m2 | exact m3 | exact m4 | exact m5 | exact m6 | exact m7 | exact m8 | exact m9 | exact m10 | exact m11) | exact hA_vecT (by first | exact m0 | exact m1 | exact m2 | exact m3 | exact m4 | exact m5 | exact m6 | exact m7 | exact m8 | exact m9 | exact m10 | exact m11) | exact hA_vecP (by first | exact m0 | exact m1 | exact m2 | exact m3 | exact m4 | exact m5 | exact m6 | exact m7 | exact m8 | exact m9 | exact m10 | exact m11) | exact hA_roI (by first | exact m0 | exact m1 | exact m2 | exact m3 | exact m4 | exact m5 | exact m6 | exact m7 | exact m8 | exact m9 | exact m10 | exact m11) | exact hA_vecI (by first | exact m0 | exact m1 | exact m2 | exact m3 | exact m4 | exact m5 | exact m6 | exact m7 | exact m8 | exact m9 | exact m10 | exact m11) | exact hA_vecPI (by first | exact m0 | exact m1 | exact m2 | exact m3 | exact m4 | exact m5 | exact m6 | exact m7 | exact m8 | exact m9 | exact m10 | exact m11) | exact hA_vecPS (by first | exact m0 | exact m1 | exact m2 | exact m3 | exact m4 | exact m5 | exact m6 | exact m7 | exact m8 | exact m9 | exact m10 | exact m11) | exact hA_ro (by first | exact m0 | exact m1 | exact m2 | exact m3 | exact m4 | exact m5 | exact m6 | exact m7 | exact m8 | exact m9 | exact m10 | exact m11) | exact hA_vec (by first | exact m0 | exact m1 | exact m2 | exact m3 | exact m4 | exact m5 | exact m6 | exact m7 | exact m8 | exact m9 | exact m10 | exact m11)) (fun _hc => ⟨(by first | with_reducible rfl | exact (Int.toNat_of_nonneg (by omega)).symm | (have hc := g_gt _hc; exact (Int.toNat_of_nonneg (by omega)).symm)), (by first | omega | (rw [tab_length]; omega) | (rw [part_length]; omega) | (rw [tabI_length]; omega) | (rw [partI_length]; omega) | (rw [List.length_set, part_length]; omega))⟩)) ?_
       first | refine jx_op rfl (.none rfl) (v_loadVec rfl Try.underlying23 (by rfl) rfl tt (by first | exact m0 | exact m1 | exact m2 | exact m3 | exact m4 | exact m5 | exact m6 | exact m7 | exact m8 | exact m9 | exact m10 | exact m11) (fun _ => (by first | with_reducible exact part_get_ge (by omega) (by omega) | with_reducible exact tab_get (by omega) | with_reducible exact tabI_get (by omega) | with_reducible exact part_get (by omega) | exact part_get_ge (by omega) (by omega) | exact tab_get (by omega) | exact tabI_get (by omega) | exact part_get (by omega) | exact part_set_get (by omega) | exact partI_get (by omega) | assumption | rfl))) ?_ | refine jx_op rfl (.none rfl) (v_loadRo rfl Try.underlying23 (by rfl) rfl tt (by first | exact m0 | exact m1 | exact m2 | exact m3 | exact m4 | exact m5 | exact m6 | exact m7 | exact m8 | exact m9 | exact m10 | exact m11) (fun _ => (by first | with_reducible exact part_get_ge (by omega) (by omega) | with_reducible exact tab_get (by omega) | with_reducible exact tabI_get (by omega) | with_reducible exact part_get (by omega) | exact part_get_ge (by omega) (by omega) | exact tab_get (by omega) | exact tabI_get (by omega) | exact part_get (by omega) | exact part_set_get (by omega) | exact partI_get (by omega) | assumption | rfl))) ?_
       refine jx_op rfl (.none rfl) (v_move rfl rfl tt) ?_
       refine jx_op rfl (.none rfl) (v_move rfl rfl tt) ?_
       refine jx_op rfl (.none rfl) (v_move rfl rfl tt) ?_
       refine jx_op rfl (.none rfl) (v_indexAddr rfl Try.underlying22 (by kernel_rfl) rfl rfl tt tt (by first | exact hA_some | exact hA_roT (by first | exact m0 | exact m1 | exact m2 | exact m3 | exact m4 | exact m5 | exact m6 | exact m7 | exact m8 | exact m9 | exact m10 | exact m11) | exact hA_vecT (by first | exact m0 | exact m1 | exact m2 | exact m3 | exact m4 | exact m5 | exact m6 | exact m7 | exact m8 | exact m9 | exact m10 | exact m11) | exact hA_vecP (by first | exact m0 | exact m1 | exact m2 | exact m3 | exact m4 | exact m5 | exact m6 | exact m7 | exact m8 | exact m9 | exact m10 | exact m11) | exact hA_roI (by first | exact m0 | exact m1 | exact m2 | exact m3 | exact m4 | exact m5 | exact m6 | exact m7 | exact m8 | exact m9 | exact m10 | exact m11) | exact hA_vecI (by first | exact m0 | exact m1 | exact m2 | exact m3 | exact m4 | exact m5 | exact m6 | exact m7 | exact m8 | exact m9 | exact m10 | exact m11) | exact hA_vecPI (by first | exact m0 | exact m1 | exact m2 | exact m3 | exact m4 | exact m5 | exact m6 | exact m7 | exact m8 | exact m9 | exact m10 | exact m11) | exact hA_vecPS (by first | exact m0 | exact m1 | exact m2 | exact m3 | exact m4 | exact m5 | exact m6 | exact m7 | exact m8 | exact m9 | exact m10 | exact m11) | exact hA_ro (by first | exact m0 | exact m1 | exact m2 | exact m3 | exact m4 | exact m5 | exact m6 | exact m7 | exact m8 | exact m9 | exact m10 | exact m11) | exact hA_vec (by first | exact m0 | exact m1 | exact m2 | exact m3 | exact m4 | exact m5 | exact m6 | exact m7 | exact m8 | exact m9 | exact m10 | exact m11)) (fun _hc => ⟨(by first | with_reducible rfl | exact (Int.toNat_of_nonneg (by omega)).symm | (have hc := g_gt _hc; exact (Int.toNat_of_nonneg (by omega)).symm)), (by first | omega | (rw [tab_length]; omega) | (rw [part_length]; omega) | (rw [tabI_length]; omega) | (rw [partI_length]; omega) | (rw [List.length_set, part_length]; omega))⟩)) ?_
       first | refine jx_op rfl (.none rfl) (v_loadVec rfl Try.underlying23 (by rfl) rfl tt (by first | exact m0 | exact m1 | exact m2 | exact m3 | exact m4 | exact m5 | exact m6 | exact m7 | exact m8 | exact m9 | exact m10 | exact m11) (fun _ => (by first | with_reducible exact part_get_ge (by omega) (by omega) | with_reducible exact tab_get (by omega) | with_reducible exact tabI_get (by omega) | with_reducible exact part_get (by omega) | exact part_get_ge (by omega) (by omega) | exact tab_get (by omega) | exact tabI_get (by omega) | exact part_get (by omega) | exact part_set_get (by omega) | exact partI_get (by omega) | assumption | rfl))) ?_ | refine jx_op rfl (.none rfl) (v_loadRo rfl Try.underlying23 (by rfl) rfl tt (by first | exact m0 | exact m1 | exact m2 | exact m3 | exact m4 | exact m5 | exact m6 | exact m7 | exact m8 | exact m9 | exact m10 | exact m11) (fun _ => (by first | with_reducible exact part_get_ge (by omega) (by omega) | with_reducible exact tab_get (by omega) | with_reducible exact tabI_get (by omega) | with_reducible exact part_get (by omega) | exact part_get_ge (by omega) (by omega) | exact tab_get (by omega) | exact tabI_get (by omega) | exact part_get (by omega) | exact part_set_get (by omega) | exact partI_get (by omega) | assumption | rfl))) ?_
       refine jx_op rfl (.none rfl) (v_move rfl rfl tt) ?_
       refine jx_op rfl (.none rfl) (v_move rfl rfl tt) ?_
       refine jx_op rfl (.none rfl) (v_indexAddr rfl Try.underlying22 (by kernel_rfl) rfl rfl tt tt (by first | exact hA_some | exact hA_roT (by first | exact m0 | exact m1 | exact m2 | exact m3 | exact m4 | exact m5 | exact m6 | exact m7 | exact m8 | exact m9 | exact m10 | exact m11) | exact hA_vecT (by first | exact m0 | exact m1 | exact m2 | exact m3 | exact m4 | exact m5 | exact m6 | exact m7 | exact m8 | exact m9 | exact m10 | exact m11) | exact hA_vecP (by first | exact m0 | exact m1 | exact m2 | exact m3 | exact m4 | exact m5 | exact m6 | exact m7 | exact m8 | exact m9 | exact m10 | exact m11) | exact hA_roI (by first | exact m0 | exact m1 | exact m2 | exact m3 | exact m4 | exact m5 | exact m6 | exact m7 | exact m8 | exact m9 | exact m10 | exact m11) | exact hA_vecI (by first | exact m0 | exact m1 | exact m2 | exact m3 | exact m4 | exact m5 | exact m6 | exact m7 | exact m8 | exact m9 | exact m10 | exact m11) | exact hA_vecPI (by first | exact m0 | exact m1 | exact m2 | exact m3 | exact m4 | exact m5 | exact m6 | exact m7 | exact m8 | exact m9 | exact m10 | exact m11) | exact hA_vecPS (by first | exact m0 | exact m1 | exact m2 | exact m3 | exact m4 | exact m5 | exact m6 | exact m7 | exact m8 | exact m9 | exact m10 | exact m11) | exact hA_ro (by first | exact m0 | exact m1 | exact m2 | exact m3 | exact m4 | exact m5 | exact m6 | exact m7 | exact m8 | exact m9 | exact m10 | exact m11) | exact hA_vec (by first | exact m0 | exact m1 | exact m2 | exact m3 | exact m4 | exact m5 | exact m6 | exact m7 | exact m8 | exact m9 | exact m10 | exact m11)) (fun _hc => ⟨(by first | with_reducible rfl | exact (Int.toNat_of_nonneg (by omega)).symm | (have hc := g_gt _hc; exact (Int.toNat_of_nonneg (by omega)).symm)), (by first | omega | (rw [tab_length]; omega) | (rw [part_length]; omega) | (rw [tabI_length]; omega) | (rw [partI_length]; omega) | (rw [List.length_set, part_length]; omega))⟩)) ?_
       first | refine jx_op rfl (.none rfl) (v_loadVec rfl Try.underlying23 (by rfl) rfl tt (by first | exact m0 | exact m1 | exact m2 | exact m3 | exact m4 | exact m5 | exact m6 | exact m7 | exact m8 | exact m9 | exact m10 | exact m11) (fun _ => (by first | with_reducible exact part_get_ge (by omega) (by omega) | with_reducible exact tab_get (by omega) | with_reducible exact tabI_get (by omega) | with_reducible exact part_get (by omega) | exact part_get_ge (by omega) (by omega) | exact tab_get (by omega) | exact tabI_get (by omega) | exact part_get (by omega) | exact part_set_get (by omega) | exact partI_get (by omega) | assumption | rfl))) ?_ | refine jx_op rfl (.none rfl) (v_loadRo rfl Try.underlying23 (by rfl) rfl tt (by first | exact m0 | exact m1 | exact m2 | exact m3 | exact m4 | exact m5 | exact m6 | exact m7 | exact m8 | exact m9 | exact m10 | exact m11) (fun _ => (by first | with_reducible exact part_get_ge (by omega) (by omega) | with_reducible exact tab_get (by omega) | with_reducible exact tabI_get (by omega) | with_reducible exact part_get (by omega) | exact part_get_ge (by omega) (by omega) | exact tab_get (by omega) | exact tabI_get (by omega) | exact part_get (by omega) | exact part_set_get (by omega) | exact partI_get (by omega) | assumption | rfl))) ?_
       refine jx_op rfl (.none rfl) (v_farith rfl rfl rfl rfl tt tt) ?_
       refine jx_op rfl (.none rfl) (v_farith rfl rfl rfl rfl tt tt) ?_
       refine jx_op rfl (.none rfl) (v_farith rfl rfl rfl rfl tt tt) ?_
       refine jx_x rfl rfl rfl (x_lit (Ws := [_]) (Z := F 0) rfl Try.underlying22 (by kernel_rfl) zero23 rfl rfl (ev_cons rfl tt ev_nil) rfl rfl rfl rfl) ?_
       refine jx_nil1 (d := 33) rfl hBq rfl rfl (fun b33 => ?_)
       first | refine jl_append (i := 0) (by' := 4) (Z := F 0) rfl rfl rfl rfl Try.underlying22 (by kernel_rfl) zero23 rfl (by kernel_rfl) (by rfl) rfl rfl rfl (fun w hI => by first | exact hI.vecRo (by first | exact m0 | exact m1 | exact m2 | exact m3 | exact m4 | exact m5 | exact m6 | exact m7 | exact m8 | exact m9 | exact m10 | exact m11) | exact hI.roRo (by first | exact m0 | exact m1 | exact m2 | exact m3 | exact m4 | exact m5 | exact m6 | exact m7 | exact m8 | exact m9 | exact m10 | exact m11)) (by first | rfl | exact (tab_length ..).symm | exact (part_length ..).symm | exact (tabI_length ..).symm | exact (partI_length ..).symm | exact (List.length_replicate ..).symm) (by first | rfl | exact (tab_length ..).symm | exact (part_length ..).symm | exact (tabI_length ..).symm | exact (partI_length ..).symm | exact (List.length_replicate ..).symm) (by omega) (fun A34 c34 => ?_) | refine jl_append (i := 1) (by' := 4) (Z := F 0) rfl rfl rfl rfl Try.underlying22 (by kernel_rfl) zero23 rfl (by kernel_rfl) (by rfl) rfl rfl rfl (fun w hI => by first | exact hI.vecRo (by first | exact m0 | exact m1 | exact m2 | exact m3 | exact m4 | exact m5 | exact m6 | exact m7 | exact m8 | exact m9 | exact m10 | exact m11) | exact hI.roRo (by first | exact m0 | exact m1 | exact m2 | exact m3 | exact m4 | exact m5 | exact m6 | exact m7 | exact m8 | exact m9 | exact m10 | exact m11)) (by first | rfl | exact (tab_length ..).symm | exact (part_length ..).symm | exact (tabI_length ..).symm | exact (partI_length ..).symm | exact (List.length_replicate ..).symm) (by first | rfl | exact (tab_length ..).symm | exact (part_length ..).symm | exact (tabI_length ..).symm | exact (partI_length ..).symm | exact (List.length_replicate ..).symm) (by omega) (fun A34 c34 => ?_) | refine jl_append (i := 2) (by' := 4) (Z := F 0) rfl rfl rfl rfl Try.underlying22 (by kernel_rfl) zero23 rfl (by kernel_rfl) (by rfl) rfl rfl rfl (fun w hI => by first | exact hI.vecRo (by first | exact m0 | exact m1 | exact m2 | exact m3 | exact m4 | exact m5 | exact m6 | exact m7 | exact m8 | exact m9 | exact m10 | exact m11) | exact hI.roRo (by first | exact m0 | exact m1 | exact m2 | exact m3 | exact m4 | exact m5 | exact m6 | exact m7 | exact m8 | exact m9 | exact m10 | exact m11)) (by first | rfl | exact (tab_length ..).symm | exact (part_length ..).symm | exact (tabI_length ..).symm | exact (partI_length ..).symm | exact (List.length_replicate ..).symm) (by first | rfl | exact (tab_length ..).symm | exact (part_length ..).symm | exact (tabI_length ..).symm | exact (partI_length ..).symm | exact (List.length_replicate ..).symm) (by omega) (fun A34 c34 => ?_) | refine jl_append (i := 3) (by' := 4) (Z := F 0) rfl rfl rfl rfl Try.underlying22 (by kernel_rfl) zero23 rfl (by kernel_rfl) (by rfl) rfl rfl rfl (fun w hI => by first | exact hI.vecRo (by first | exact m0 | exact m1 | exact m2 | exact m3 | exact m4 | exact m5 | exact m6 | exact m7 | exact m8 | exact m9 | exact m10 | exact m11) | exact hI.roRo (by first | exact m0 | exact m1 | exact m2 | exact m3 | exact m4 | exact m5 | exact m6 | exact m7 | exact m8 | exact m9 | exact m10 | exact m11)) (by first | rfl | exact (tab_length ..).symm | exact (part_length ..).symm | exact (tabI_length ..).symm | exact (partI_length ..).symm | exact (List.length_replicate ..).symm) (by first | rfl | exact (tab_length ..).symm | exact (part_length ..).symm | exact (tabI_length ..).symm | exact (partI_length ..).symm | exact (List.length_replicate ..).symm) (by omega) (fun A34 c34 => ?_) | refine jl_append (i := 4) (by' := 4) (Z := F 0) rfl rfl rfl rfl Try.underlying22 (by kernel_rfl) zero23 rfl (by kernel_rfl) (by rfl) rfl rfl rfl (fun w hI => by first | exact hI.vecRo (by first | exact m0 | exact m1 | exact m2 | exact m3 | exact m4 | exact m5 | exact m6 | exact m7 | exact m8 | exact m9 | exact m10 | exact m11) | exact hI.roRo (by first | exact m0 | exact m1 | exact m2 | exact m3 | exact m4 | exact m5 | exact m6 | exact m7 | exact m8 | exact m9 | exact m10 | exact m11)) (by first | rfl | exact (tab_length ..).symm | exact (part_length ..).symm | exact (tabI_length ..).symm | exact (partI_length ..).symm | exact (List.length_replicate ..).symm) (by first | rfl | exact (tab_length ..).symm | exact (part_length ..).symm | exact (tabI_length ..).symm | exact (partI_length ..).symm | exact (List.length_replicate ..).symm) (by omega) (fun A34 c34 => ?_) | refine jl_append (i := 5) (by' := 4) (Z := F 0) rfl rfl rfl rfl Try.underlying22 (by kernel_rfl) zero23 rfl (by kernel_rfl) (by rfl) rfl rfl rfl (fun w hI => by first | exact hI.vecRo (by first | exact m0 | exact m1 | exact m2 | exact m3 | exact m4 | exact m5 | exact m6 | exact m7 | exact m8 | exact m9 | exact m10 | exact m11) | exact hI.roRo (by first | exact m0 | exact m1 | exact m2 | exact m3 | exact m4 | exact m5 | exact m6 | exact m7 | exact m8 | exact m9 | exact m10 | exact m11)) (by first | rfl | exact (tab_length ..).symm | exact (part_length ..).symm | exact (tabI_length ..).symm | exact (partI_length ..).symm | exact (List.length_replicate ..).symm) (by first | rfl | exact (tab_length ..).symm | exact (part_length ..).symm | exact (tabI_length ..).symm | exact (partI_length ..).symm | exact (List.length_replicate ..).symm) (by omega) (fun A34 c34 => ?_)
       refine jl_op rfl rfl (.none rfl) (v_assign rfl rfl tt) ?_
       refine jl_nil ?_)
    | (refine j_region (id := 6) ?_
       refine jl_op rfl rfl (.none rfl) (v_move rfl rfl tt) ?_
       refine jl_op rfl rfl (.none rfl) (v_assign rfl rfl tt) ?_
       refine jl_nil ?_)))
  obtain rfl : i = N := (by omega)
  exact jq_retM1 (_, _) (.inl rfl) Try.results63 rfl rfl (fun w h => fresh_at 0 rfl rfl h)
theorem c_mixLS (A : Option Addr) (N cap : Nat) (g : Nat → Nat) (B : Option Addr) (M bc : Nat) (h : Nat → Nat) (x : Nat) (hN : N ≤ 4294967296) (hM : M ≤ 4294967296) : ConM Try.prog 22 [.slice A N cap, .slice B M bc, F x] (RoS [.ro A (tab N g), .ro B (tab M h)]) (listV ((((ladB N g && ladB M h) && decide (N = M)) && btw x 0 1065353216) && ladB N (fun j => farith .add .f32 (g j) (farith .mul .f32 x (farith .sub .f32 (h j) (g j))))) N) (listK 23 ((((ladB N g && ladB M h) && decide (N = M)) && btw x 0 1065353216) && ladB N (fun j => farith .add .f32 (g j) (farith .mul .f32 x (farith .sub .f32 (h j) (g j))))) N (fun j => farith .add .f32 (g j) (farith .mul .f32 x (farith .sub .f32 (h j) (g j))))) := by
  refine conM_intro (H := [.ro A (tab N g), .ro B (tab M h)]) Try.func22 (by decide) rfl rfl (fun w h => h.inv) (fun w0 _ => ?_)
  (repeat' (first
    | refine j_condLt rfl (fun _ => ?_) (fun _ => ?_)
    | refine j_condLe rfl (fun _ => ?_) (fun _ => ?_)
    | refine j_condGt rfl (fun _ => ?_) (fun _ => ?_)
    | refine j_condGe rfl (fun _ => ?_) (fun _ => ?_)
    | refine j_condNe rfl (fun _ => ?_) (fun _ => ?_)
    | refine j_condEq rfl (fun _ => ?_) (fun _ => ?_)
    | refine j_condOrLt rfl (fun _ => ?_) (fun _ => ?_)
    | refine j_condAndLt rfl (fun _ => ?_) (fun _ => ?_)
    | refine j_condAndGe rfl (fun _ => ?_) (fun _ => ?_)
    | refine j_seq ?_
    | refine jq_then ?_
    | refine j_block ?_
    | refine j_ret ?_
    | refine jq_then_ret ?_
    | refine jq_block_ret ?_
    | refine jq_block_normal ?_
    | refine jq_then_exit ?_
    | refine jq_block_same rfl ?_
    | refine jq_block_other rfl ?_
    | refine j_skip ?_
    | refine j_exit ?_
    | refine j_label ?_
    | refine j_cond rfl (fun _ => ?_) (fun _ => ?_)
    | (refine j_region (id := 0) ?_
       refine jl_op rfl rfl (.none rfl) (v_assign rfl rfl tt) ?_
       refine jl_op rfl rfl (.none rfl) (v_assign rfl rfl tt) ?_
       refine jl_nil ?_)
    | (refine j_region (id := 1) ?_
       refine jl_op rfl rfl (.none rfl) (v_move rfl rfl tt) ?_
       refine jl_op rfl rfl (.none rfl) (v_call (f := 61) (xs := [_]) rfl (c_l04Ladder _ _ _ _ (by omega)) (ev_cons rfl tt ev_nil) (by intro w hc hI; first | trivial | (exfalso; simp_all; done) | (clear hc; repeat' (first | exact ros_nil | refine ros_cons ?_ ?_ | exact hI.roRo (by first | exact m0 | exact m1 | exact m2 | exact m3 | exact m4 | exact m5 | exact m6 | exact m7 | exact m8 | exact m9 | exact m10 | exact m11) | exact hI.boxRo (by first | exact m0 | exact m1 | exact m2 | exact m3 | exact m4 | exact m5 | exact m6 | exact m7 | exact m8 | exact m9 | exact m10 | exact m11) | exact HInv.vecRo hI (by first | exact m0 | exact m1 | exact m2 | exact m3 | exact m4 | exact m5 | exact m6 | exact m7 | exact m8 | exact m9 | exact m10 | exact m11))))) ?_
       refine jl_op rfl rfl (.none rfl) (v_not rfl rfl tt) ?_
       refine jl_op rfl rfl (.none rfl) (v_move rfl rfl tt) ?_
       refine jl_op rfl rfl (.some rfl rfl rfl) (v_move rfl rfl tt) ?_
       refine jl_op rfl rfl (.some rfl rfl rfl) (v_call (f := 61) (xs := [_]) rfl (c_l04Ladder _ _ _ _ (by omega)) (ev_cons rfl ii ev_nil) (by intro w hc hI; first | trivial | (exfalso; simp_all; done) | (clear hc; repeat' (first | exact ros_nil | refine ros_cons ?_ ?_ | exact hI.roRo (by first | exact m0 | exact m1 | exact m2 | exact m3 | exact m4 | exact m5 | exact m6 | exact m7 | exact m8 | exact m9 | exact m10 | exact m11) | exact hI.boxRo (by first | exact m0 | exact m1 | exact m2 | exact m3 | exact m4 | exact m5 | exact m6 | exact m7 | exact m8 | exact m9 | exact m10 | exact m11) | exact HInv.vecRo hI (by first | exact m0 | exact m1 | exact m2 | exact m3 | exact m4 | exact m5 | exact m6 | exact m7 | exact m8 | exact m9 | exact m10 | exact m11))))) ?_
       refine jl_op rfl rfl (.some rfl rfl rfl) (v_not rfl rfl ii) ?_
       refine jl_op rfl rfl (.none rfl) (v_or rfl rfl tt rfl fi) ?_
       refine jl_op rfl rfl (.none rfl) (v_move rfl rfl tt) ?_
       refine jl_op rfl rfl (.some rfl rfl rfl) (v_move rfl rfl tt) ?_
       refine jl_op rfl rfl (.some rfl rfl rfl) (v_len rfl rfl Try.underlying22 rfl ii) ?_
       refine jl_op rfl rfl (.some rfl rfl rfl) (v_move rfl rfl tt) ?_
       refine jl_op rfl rfl (.some rfl rfl rfl) (v_len rfl rfl Try.underlying22 rfl ii) ?_
       refine jl_op rfl rfl (.some rfl rfl rfl) (v_icmp rfl rfl rfl rfl ii ii) ?_
       refine jl_op rfl rfl (.none rfl) (v_or rfl rfl tt rfl fi) ?_
       refine jl_op rfl rfl (.none rfl) (v_move rfl rfl tt) ?_
       refine jl_op rfl rfl (.some rfl rfl rfl) (v_move rfl rfl tt) ?_
       refine jl_op rfl rfl (.some rfl rfl rfl) (v_call (f := 62) (xs := [_]) rfl (c_l02Share ..) (ev_cons rfl ii ev_nil) (by intro w hc hI; first | trivial | (exfalso; simp_all; done) | (clear hc; repeat' (first | exact ros_nil | refine ros_cons ?_ ?_ | exact hI.roRo (by first | exact m0 | exact m1 | exact m2 | exact m3 | exact m4 | exact m5 | exact m6 | exact m7 | exact m8 | exact m9 | exact m10 | exact m11) | exact hI.boxRo (by first | exact m0 | exact m1 | exact m2 | exact m3 | exact m4 | exact m5 | exact m6 | exact m7 | exact m8 | exact m9 | exact m10 | exact m11) | exact HInv.vecRo hI (by first | exact m0 | exact m1 | exact m2 | exact m3 | exact m4 | exact m5 | exact m6 | exact m7 | exact m8 | exact m9 | exact m10 | exact m11))))) ?_
       refine jl_op rfl rfl (.some rfl rfl rfl) (v_not rfl rfl ii) ?_
       refine jl_op rfl rfl (.none rfl) (v_or rfl rfl tt rfl fi) ?_
       refine jl_nil ?_)
    | (refine j_region (id := 2) ?_
       refine jl_op rfl rfl (.none rfl) (v_assign rfl rfl tt) ?_
       refine jl_op rfl rfl (.none rfl) (v_assign rfl rfl tt) ?_
       refine jl_nil ?_)
    | (refine j_region (id := 3) ?_
       refine jl_op rfl rfl (.none rfl) (v_move rfl rfl tt) ?_
       refine jl_op rfl rfl (.none rfl) (v_move rfl rfl tt) ?_
       refine jl_op rfl rfl (.none rfl) (v_move rfl rfl tt) ?_
       refine jl_x1 rfl rfl rfl (x_call (f := 63) (xs := [_, _, _]) rfl (c_l02Mix _ _ _ _ _ _ _ _ _ hN hM (by simp_all [icmp] <;> omega)) (ev_cons rfl tt (ev_cons rfl tt (ev_cons rfl tt ev_nil))) (by intro w hI; first | trivial | (repeat' (first | exact ros_nil | refine ros_cons ?_ ?_ | exact hI.roRo (by first | exact m0 | exact m1 | exact m2 | exact m3 | exact m4 | exact m5 | exact m6 | exact m7 | exact m8 | exact m9 | exact m10 | exact m11) | exact hI.boxRo (by first | exact m0 | exact m1 | exact m2 | exact m3 | exact m4 | exact m5 | exact m6 | exact m7 | exact m8 | exact m9 | exact m10 | exact m11) | exact HInv.vecRo hI (by first | exact m0 | exact m1 | exact m2 | exact m3 | exact m4 | exact m5 | exact m6 | exact m7 | exact m8 | exact m9 | exact m10 | exact m11))))) (fun s32 => ?_)
       refine jl_op rfl rfl (.none rfl) (v_assign rfl rfl tt) ?_
       refine jl_nil ?_)
    | (refine j_region (id := 4) ?_
       refine jl_op rfl rfl (.none rfl) (v_move rfl rfl tt) ?_
       refine jl_op rfl rfl (.none rfl) (v_call (f := 61) (xs := [_]) rfl (c_l04Ladder _ _ _ _ (by omega)) (ev_cons rfl tt ev_nil) (by intro w hc hI; first | trivial | (exfalso; simp_all; done) | (clear hc; repeat' (first | exact ros_nil | refine ros_cons ?_ ?_ | exact hI.roRo (by first | exact m0 | exact m1 | exact m2 | exact m3 | exact m4 | exact m5 | exact m6 | exact m7 | exact m8 | exact m9 | exact m10 | exact m11) | exact hI.boxRo (by first | exact m0 | exact m1 | exact m2 | exact m3 | exact m4 | exact m5 | exact m6 | exact m7 | exact m8 | exact m9 | exact m10 | exact m11) | exact HInv.vecRo hI (by first | exact m0 | exact m1 | exact m2 | exact m3 | exact m4 | exact m5 | exact m6 | exact m7 | exact m8 | exact m9 | exact m10 | exact m11))))) ?_
       refine jl_op rfl rfl (.none rfl) (v_not rfl rfl tt) ?_
       refine jl_nil ?_)
    | (refine j_region (id := 5) ?_
       refine jl_op rfl rfl (.none rfl) (v_assign rfl rfl tt) ?_
       refine jl_op rfl rfl (.none rfl) (v_assign rfl rfl tt) ?_
       refine jl_nil ?_)
    | (refine j_region (id := 6) ?_
       refine jl_op rfl rfl (.none rfl) (v_move rfl rfl tt) ?_
       refine jl_op rfl rfl (.none rfl) (v_assign rfl rfl tt) ?_
       refine jl_op rfl rfl (.none rfl) (v_assign rfl rfl tt) ?_
       refine jl_nil ?_)))
  all_goals first | exact ret_no Try.results22 rfl rfl (by cases h1 : ladB N g <;> cases h2 : ladB M h <;> cases h3 : decide (N = M) <;> cases h4 : btw x 0 1065353216 <;> simp_all [icmp]) | exact ret_true 0 Try.results22 rfl rfl rfl (by have e : N = M := (by simp_all [icmp] <;> omega); subst e; simp_all [icmp])
theorem c_mixLI (A : Option Addr) (N cap : Nat) (g : Nat → Nat) (B : Option Addr) (M bc : Nat) (h : Nat → Nat) (x : Nat) (hN : N ≤ 4294967296) (hM : M ≤ 4294967296) : ConM Try.prog 24 [.slice A N cap, .slice B M bc, F x] (RoS [.ro A (tab N g), .ro B (tab M h)]) (listV ((((ladB N g && ladB M h) && decide (N = M)) && btw x 0 1065353216) && ladB N (fun j => farith .add .f32 (g j) (farith .mul .f32 x (farith .sub .f32 (h j) (g j))))) N) (listK 23 ((((ladB N g && ladB M h) && decide (N = M)) && btw x 0 1065353216) && ladB N (fun j => farith .add .f32 (g j) (farith .mul .f32 x (farith .sub .f32 (h j) (g j))))) N (fun j => farith .add .f32 (g j) (farith .mul .f32 x (farith .sub .f32 (h j) (g j))))) := by
  refine conM_intro (H := [.ro A (tab N g), .ro B (tab M h)]) Try.func24 (by decide) rfl rfl (fun w h => h.inv) (fun w0 _ => ?_)
  (repeat' (first
    | refine j_part (by omega) ?_
    | refine j_partI (by omega) ?_
    | (refine j_loop2 (σ := Nat) (fun i => N = M ∧ i ≤ N) (fun i => [(1, true, .slice B M bc), (2, true, F x), (8, true, .slice (some ⟨b33, 0, none⟩) N N), (34, true, .slice A N cap), (35, true, .int .i64 (N)), (36, true, .int .i64 (i))]) (fun i => [.vec 23 (some ⟨b33, 0, none⟩) N (part N i (fun j => farith .add .f32 (g j) (farith .mul .f32 x (farith .sub .f32 (h j) (g j)))) (fun _ => 0)), .ro A (tab N g), .ro B (tab M h)]) (fun i => N - i) 0 (by simp_all [icmp] <;> omega) (fs_cons rfl (fs_cons rfl (fs_cons rfl (fs_cons rfl (fs_cons rfl (fs_cons rfl fs_nil)))))) (fun w h => by rw [part_zero, ← tab_replicate]; exact h) ?_; intro i hi)
    | (exact jq_round (i + 1) (by omega) (by omega) (fs_cons rfl (fs_cons rfl (fs_cons rfl (fs_cons rfl (fs_cons rfl (fs_cons rfl fs_nil)))))) (fun w h => by rw [← part_set]; exact h))
    | refine j_condLt rfl (fun _ => ?_) (fun _ => ?_)
    | refine j_condLe rfl (fun _ => ?_) (fun _ => ?_)
    | refine j_condGt rfl (fun _ => ?_) (fun _ => ?_)
    | refine j_condGe rfl (fun _ => ?_) (fun _ => ?_)
    | refine j_condNe rfl (fun _ => ?_) (fun _ => ?_)
    | refine j_condEq rfl (fun _ => ?_) (fun _ => ?_)
    | refine j_condOrLt rfl (fun _ => ?_) (fun _ => ?_)
    | refine j_condAndLt rfl (fun _ => ?_) (fun _ => ?_)
    | refine j_condAndGe rfl (fun _ => ?_) (fun _ => ?_)
    | refine j_seq ?_
    | refine jq_then ?_
    | refine j_block ?_
    | refine j_ret ?_
    | refine jq_then_ret ?_
    | refine jq_block_ret ?_
    | refine jq_block_normal ?_
    | refine jq_then_exit ?_
    | refine jq_block_same rfl ?_
    | refine jq_block_other rfl ?_
    | refine j_skip ?_
    | refine j_exit ?_
    | refine j_label ?_
    | refine j_cond rfl (fun _ => ?_) (fun _ => ?_)
    | (refine j_region (id := 0) ?_
       refine jl_op rfl rfl (.none rfl) (v_assign rfl rfl tt) ?_
       refine jl_op rfl rfl (.none rfl) (v_assign rfl rfl tt) ?_
       refine jl_nil ?_)
    | (refine j_region (id := 1) ?_
       refine jl_op rfl rfl (.none rfl) (v_move rfl rfl tt) ?_
       refine jl_op rfl rfl (.none rfl) (v_call (f := 64) (xs := [_]) rfl (c_isLadder _ _ _ _ (by omega)) (ev_cons rfl tt ev_nil) (by intro w hc hI; first | trivial | (exfalso; simp_all; done) | (clear hc; repeat' (first | exact ros_nil | refine ros_cons ?_ ?_ | exact hI.roRo (by first | exact m0 | exact m1 | exact m2 | exact m3 | exact m4 | exact m5 | exact m6 | exact m7 | exact m8 | exact m9 | exact m10 | exact m11) | exact hI.boxRo (by first | exact m0 | exact m1 | exact m2 | exact m3 | exact m4 | exact m5 | exact m6 | exact m7 | exact m8 | exact m9 | exact m10 | exact m11) | exact HInv.vecRo hI (by first | exact m0 | exact m1 | exact m2 | exact m3 | exact m4 | exact m5 | exact m6 | exact m7 | exact m8 | exact m9 | exact m10 | exact m11))))) ?_
       refine jl_op rfl rfl (.none rfl) (v_not rfl rfl tt) ?_
       refine jl_op rfl rfl (.none rfl) (v_move rfl rfl tt) ?_
       refine jl_op rfl rfl (.some rfl rfl rfl) (v_move rfl rfl tt) ?_
       refine jl_op rfl rfl (.some rfl rfl rfl) (v_call (f := 64) (xs := [_]) rfl (c_isLadder _ _ _ _ (by omega)) (ev_cons rfl ii ev_nil) (by intro w hc hI; first | trivial | (exfalso; simp_all; done) | (clear hc; repeat' (first | exact ros_nil | refine ros_cons ?_ ?_ | exact hI.roRo (by first | exact m0 | exact m1 | exact m2 | exact m3 | exact m4 | exact m5 | exact m6 | exact m7 | exact m8 | exact m9 | exact m10 | exact m11) | exact hI.boxRo (by first | exact m0 | exact m1 | exact m2 | exact m3 | exact m4 | exact m5 | exact m6 | exact m7 | exact m8 | exact m9 | exact m10 | exact m11) | exact HInv.vecRo hI (by first | exact m0 | exact m1 | exact m2 | exact m3 | exact m4 | exact m5 | exact m6 | exact m7 | exact m8 | exact m9 | exact m10 | exact m11))))) ?_
       refine jl_op rfl rfl (.some rfl rfl rfl) (v_not rfl rfl ii) ?_
       refine jl_op rfl rfl (.none rfl) (v_or rfl rfl tt rfl fi) ?_
       refine jl_op rfl rfl (.none rfl) (v_move rfl rfl tt) ?_
       refine jl_op rfl rfl (.some rfl rfl rfl) (v_move rfl rfl tt) ?_
       refine jl_op rfl rfl (.some rfl rfl rfl) (v_len rfl rfl Try.underlying22 rfl ii) ?_
       refine jl_op rfl rfl (.some rfl rfl rfl) (v_move rfl rfl tt) ?_
       refine jl_op rfl rfl (.some rfl rfl rfl) (v_len rfl rfl Try.underlying22 rfl ii) ?_
       refine jl_op rfl rfl (.some rfl rfl rfl) (v_icmp rfl rfl rfl rfl ii ii) ?_
       refine jl_op rfl rfl (.none rfl) (v_or rfl rfl tt rfl fi) ?_
       refine jl_op rfl rfl (.none rfl) (v_move rfl rfl tt) ?_
       refine jl_op rfl rfl (.some rfl rfl rfl) (v_move rfl rfl tt) ?_
       refine jl_op rfl rfl (.some rfl rfl rfl) (v_call (f := 65) (xs := [_, _, _]) rfl (c_isBetween ..) (ev_cons rfl ii (ev_cons rfl tt (ev_cons rfl tt ev_nil))) (by intro w hc hI; first | trivial | (exfalso; simp_all; done) | (clear hc; repeat' (first | exact ros_nil | refine ros_cons ?_ ?_ | exact hI.roRo (by first | exact m0 | exact m1 | exact m2 | exact m3 | exact m4 | exact m5 | exact m6 | exact m7 | exact m8 | exact m9 | exact m10 | exact m11) | exact hI.boxRo (by first | exact m0 | exact m1 | exact m2 | exact m3 | exact m4 | exact m5 | exact m6 | exact m7 | exact m8 | exact m9 | exact m10 | exact m11) | exact HInv.vecRo hI (by first | exact m0 | exact m1 | exact m2 | exact m3 | exact m4 | exact m5 | exact m6 | exact m7 | exact m8 | exact m9 | exact m10 | exact m11))))) ?_
       refine jl_op rfl rfl (.some rfl rfl rfl) (v_not rfl rfl ii) ?_
       refine jl_op rfl rfl (.none rfl) (v_or rfl rfl tt rfl fi) ?_
       refine jl_nil ?_)
    | (refine j_region (id := 2) ?_
       refine jl_op rfl rfl (.none rfl) (v_assign rfl rfl tt) ?_
       refine jl_op rfl rfl (.none rfl) (v_assign rfl rfl tt) ?_
       refine jl_nil ?_)
    | (refine j_region (id := 3) ?_
       refine jl_op rfl rfl (.none rfl) (v_move rfl rfl tt) ?_
       refine jl_op rfl rfl (.none rfl) (v_len rfl rfl Try.underlying22 rfl tt) ?_
       refine jl_x1 rfl rfl rfl (x_make (by' := 4) (Z := F 0) rfl Try.underlying22 (by kernel_rfl) zero23 rfl (by kernel_rfl) (by rfl) rfl rfl (by omega)) (fun b33 => ?_)
       refine jl_op rfl rfl (.none rfl) (v_assign rfl rfl tt) ?_
       refine jl_nil ?_)
    | (refine j_region (id := 4) ?_
       refine jl_op rfl rfl (.none rfl) (v_move rfl rfl tt) ?_
       refine jl_op rfl rfl (.none rfl) (v_len rfl rfl Try.underlying22 rfl tt) ?_
       refine jl_op rfl rfl (.none rfl) (v_move rfl rfl tt) ?_
       refine jl_nil ?_)
    | (refine j_region (id := 5) ?_
       refine jl_op rfl rfl (.none rfl) (v_icmp rfl rfl rfl rfl tt tt) ?_
       refine jl_nil ?_)
    | (refine j_region (id := 6) ?_
       refine jl_op rfl rfl (.none rfl) (v_move rfl rfl tt) ?_
       refine jl_op rfl rfl (.none rfl) (v_indexAddr rfl Try.underlying22 (by kernel_rfl) rfl rfl tt tt (by first | exact hA_some | exact hA_roT (by first | exact m0 | exact m1 | exact m2 | exact m3 | exact m4 | exact m5 | exact m6 | exact m7 | exact m8 | exact m9 | exact m10 | exact m11) | exact hA_vecT (by first | exact m0 | exact m1 | exact m2 | exact m3 | exact m4 | exact m5 | exact m6 | exact m7 | exact m8 | exact m9 | exact m10 | exact m11) | exact hA_vecP (by first | exact m0 | exact m1 | exact m2 | exact m3 | exact m4 | exact m5 | exact m6 | exact m7 | exact m8 | exact m9 | exact m10 | exact m11) | exact hA_roI (by first | exact m0 | exact m1 | exact m2 | exact m3 | exact m4 | exact m5 | exact m6 | exact m7 | exact m8 | exact m9 | exact m10 | exact m11) | exact hA_vecI (by first | exact m0 | exact m1 | exact m2 | exact m3 | exact m4 | exact m5 | exact m6 | exact m7 | exact m8 | exact m9 | exact m10 | exact m11) | exact hA_vecPI (by first | exact m0 | exact m1 | exact m2 | exact m3 | exact m4 | exact m5 | exact m6 | exact m7 | exact m8 | exact m9 | exact m10 | exact m11) | exact hA_vecPS (by first | exact m0 | exact m1 | exact m2 | exact m3 | exact m4 | exact m5 | exact m6 | exact m7 | exact m8 | exact m9 | exact m10 | exact m11) | exact hA_ro (by first | exact m0 | exact m1 | exact m2 | exact m3 | exact m4 | exact m5 | exact m6 | exact m7 | exact m8 | exact m9 | exact m10 | exact m11) | exact hA_vec (by first | exact m0 | exact m1 | exact m2 | exact m3 | exact m4 | exact m5 | exact m6 | exact m7 | exact m8 | exact m9 | exact m10 | exact m11)) (fun _hc => ⟨(by first | with_reducible rfl | exact (Int.toNat_of_nonneg (by omega)).symm | (have hc := g_gt _hc; exact (Int.toNat_of_nonneg (by omega)).symm)), (by first | omega | (rw [tab_length]; omega) | (rw [part_length]; omega) | (rw [tabI_length]; omega) | (rw [partI_length]; omega) | (rw [List.length_set, part_length]; omega))⟩)) ?_
       first | refine jl_op rfl rfl (.none rfl) (v_loadVec rfl Try.underlying23 (by rfl) rfl tt (by first | exact m0 | exact m1 | exact m2 | exact m3 | exact m4 | exact m5 | exact m6 | exact m7 | exact m8 | exact m9 | exact m10 | exact m11) (fun _ => (by first | with_reducible exact part_get_ge (by omega) (by omega) | with_reducible exact tab_get (by omega) | with_reducible exact tabI_get (by omega) | with_reducible exact part_get (by omega) | exact part_get_ge (by omega) (by omega) | exact tab_get (by omega) | exact tabI_get (by omega) | exact part_get (by omega) | exact part_set_get (by omega) | exact partI_get (by omega) | assumption | rfl))) ?_ | refine jl_op rfl rfl (.none rfl) (v_loadRo rfl Try.underlying23 (by rfl) rfl tt (by first | exact m0 | exact m1 | exact m2 | exact m3 | exact m4 | exact m5 | exact m6 | exact m7 | exact m8 | exact m9 | exact m10 | exact m11) (fun _ => (by first | with_reducible exact part_get_ge (by omega) (by omega) | with_reducible exact tab_get (by omega) | with_reducible exact tabI_get (by omega) | with_reducible exact part_get (by omega) | exact part_get_ge (by omega) (by omega) | exact tab_get (by omega) | exact tabI_get (by omega) | exact part_get (by omega) | exact part_set_get (by omega) | exact partI_get (by omega) | assumption | rfl))) ?_
       refine jl_op rfl rfl (.none rfl) (v_assign rfl rfl tt) ?_
       refine jl_op rfl rfl (.none rfl) (v_assign rfl rfl tt) ?_
       refine jl_nil ?_)
    | (refine j_region (id := 7) ?_
       refine jl_op rfl rfl (.none rfl) (v_move rfl rfl tt) ?_
       refine jl_op rfl rfl (.none rfl) (v_move rfl rfl tt) ?_
       refine jl_op rfl rfl (.none rfl) (v_move rfl rfl tt) ?_
       refine jl_op rfl rfl (.none rfl) (v_move rfl rfl tt) ?_
       refine jl_op rfl rfl (.none rfl) (v_move rfl rfl tt) ?_
       refine jl_op rfl rfl (.none rfl) (v_move rfl rfl tt) ?_
       refine jl_op rfl rfl (.none rfl) (v_indexAddr rfl Try.underlying22 (by kernel_rfl) rfl rfl tt tt (by first | exact hA_some | exact hA_roT (by first | exact m0 | exact m1 | exact m2 | exact m3 | exact m4 | exact m5 | exact m6 | exact m7 | exact m8 | exact m9 | exact m10 | exact m11) | exact hA_vecT (by first | exact m0 | exact m1 | exact m2 | exact m3 | exact m4 | exact m5 | exact m6 | exact m7 | exact m8 | exact m9 | exact m10 | exact m11) | exact hA_vecP (by first | exact m0 | exact m1 | exact m2 | exact m3 | exact m4 | exact m5 | exact m6 | exact m7 | exact m8 | exact m9 | exact m10 | exact m11) | exact hA_roI (by first | exact m0 | exact m1 | exact m2 | exact m3 | exact m4 | exact m5 | exact m6 | exact m7 | exact m8 | exact m9 | exact m10 | exact m11) | exact hA_vecI (by first | exact m0 | exact m1 | exact m2 | exact m3 | exact m4 | exact m5 | exact m6 | exact m7 | exact m8 | exact m9 | exact m10 | exact m11) | exact hA_vecPI (by first | exact m0 | exact m1 | exact m2 | exact m3 | exact m4 | exact m5 | exact m6 | exact m7 | exact m8 | exact m9 | exact m10 | exact m11) | exact hA_vecPS (by first | exact m0 | exact m1 | exact m2 | exact m3 | exact m4 | exact m5 | exact m6 | exact m7 | exact m8 | exact m9 | exact m10 | exact m11) | exact hA_ro (by first | exact m0 | exact m1 | exact m2 | exact m3 | exact m4 | exact m5 | exact m6 | exact m7 | exact m8 | exact m9 | exact m10 | exact m11) | exact hA_vec (by first | exact m0 | exact m1 | exact m2 | exact m3 | exact m4 | exact m5 | exact m6 | exact m7 | exact m8 | exact m9 | exact m10 | exact m11)) (fun _hc => ⟨(by first | with_reducible rfl | exact (Int.toNat_of_nonneg (by omega)).symm | (have hc := g_gt _hc; exact (Int.toNat_of_nonneg (by omega)).symm)), (by first | omega | (rw [tab_length]; omega) | (rw [part_length]; omega) | (rw [tabI_length]; omega) | (rw [partI_length]; omega) | (rw [List.length_set, part_length]; omega))⟩)) ?_
       first | refine jl_op rfl rfl (.none rfl) (v_loadVec rfl Try.underlying23 (by rfl) rfl tt (by first | exact m0 | exact m1 | exact m2 | exact m3 | exact m4 | exact m5 | exact m6 | exact m7 | exact m8 | exact m9 | exact m10 | exact m11) (fun _ => (by first | with_reducible exact part_get_ge (by omega) (by omega) | with_reducible exact tab_get (by omega) | with_reducible exact tabI_get (by omega) | with_reducible exact part_get (by omega) | exact part_get_ge (by omega) (by omega) | exact tab_get (by omega) | exact tabI_get (by omega) | exact part_get (by omega) | exact part_set_get (by omega) | exact partI_get (by omega) | assumption | rfl))) ?_ | refine jl_op rfl rfl (.none rfl) (v_loadRo rfl Try.underlying23 (by rfl) rfl tt (by first | exact m0 | exact m1 | exact m2 | exact m3 | exact m4 | exact m5 | exact m6 | exact m7 | exact m8 | exact m9 | exact m10 | exact m11) (fun _ => (by first | with_reducible exact part_get_ge (by omega) (by omega) | with_reducible exact tab_get (by omega) | with_reducible exact tabI_get (by omega) | with_reducible exact part_get (by omega) | exact part_get_ge (by omega) (by omega) | exact tab_get (by omega) | exact tabI_get (by omega) | exact part_get (by omega) | exact part_set_get (by omega) | exact partI_get (by omega) | assumption | rfl))) ?_
       refine jl_op rfl rfl (.none rfl) (v_move rfl rfl tt) ?_
       refine jl_op rfl rfl (.none rfl) (v_farith rfl rfl rfl rfl tt tt) ?_
       refine jl_op rfl rfl (.none rfl) (v_farith rfl rfl rfl rfl tt tt) ?_
       refine jl_op rfl rfl (.none rfl) (v_farith rfl rfl rfl rfl tt tt) ?_
       refine jl_op rfl rfl (.none rfl) (v_indexAddr rfl Try.underlying22 (by kernel_rfl) rfl rfl tt tt (by first | exact hA_some | exact hA_roT (by first | exact m0 | exact m1 | exact m2 | exact m3 | exact m4 | exact m5 | exact m6 | exact m7 | exact m8 | exact m9 | exact m10 | exact m11) | exact hA_vecT (by first | exact m0 | exact m1 | exact m2 | exact m3 | exact m4 | exact m5 | exact m6 | exact m7 | exact m8 | exact m9 | exact m10 | exact m11) | exact hA_vecP (by first | exact m0 | exact m1 | exact m2 | exact m3 | exact m4 | exact m5 | exact m6 | exact m7 | exact m8 | exact m9 | exact m10 | exact m11) | exact hA_roI (by first | exact m0 | exact m1 | exact m2 | exact m3 | exact m4 | exact m5 | exact m6 | exact m7 | exact m8 | exact m9 | exact m10 | exact m11) | exact hA_vecI (by first | exact m0 | exact m1 | exact m2 | exact m3 | exact m4 | exact m5 | exact m6 | exact m7 | exact m8 | exact m9 | exact m10 | exact m11) | exact hA_vecPI (by first | exact m0 | exact m1 | exact m2 | exact m3 | exact m4 | exact m5 | exact m6 | exact m7 | exact m8 | exact m9 | exact m10 | exact m11) | exact hA_vecPS (by first | exact m0 | exact m1 | exact m2 | exact m3 | exact m4 | exact m5 | exact m6 | exact m7 | exact m8 | exact m9 | exact m10 | exact m11) | exact hA_ro (by first | exact m0 | exact m1 | exact m2 | exact m3 | exact m4 | exact m5 | exact m6 | exact m7 | exact m8 | exact m9 | exact m10 | exact m11) | exact hA_vec (by first | exact m0 | exact m1 | exact m2 | exact m3 | exact m4 | exact m5 | exact m6 | exact m7 | exact m8 | exact m9 | exact m10 | exact m11)) (fun _hc => ⟨(by first | with_reducible rfl | exact (Int.toNat_of_nonneg (by omega)).symm | (have hc := g_gt _hc; exact (Int.toNat_of_nonneg (by omega)).symm)), (by first | omega | (rw [tab_length]; omega) | (rw [part_length]; omega) | (rw [tabI_length]; omega) | (rw [partI_length]; omega) | (rw [List.length_set, part_length]; omega))⟩)) ?_
       first | refine jl_storeVec (i := 0) rfl rfl rfl (by kernel_rfl) rfl rfl rfl rfl (by first | omega | (rw [tab_length]; omega) | (rw [part_length]; omega) | (rw [tabI_length]; omega) | (rw [partI_length]; omega) | (rw [List.length_set, part_length]; omega)) ?_ | refine jl_storeVec (i := 1) rfl rfl rfl (by kernel_rfl) rfl rfl rfl rfl (by first | omega | (rw [tab_length]; omega) | (rw [part_length]; omega) | (rw [tabI_length]; omega) | (rw [partI_length]; omega) | (rw [List.length_set, part_length]; omega)) ?_ | refine jl_storeVec (i := 2) rfl rfl rfl (by kernel_rfl) rfl rfl rfl rfl (by first | omega | (rw [tab_length]; omega) | (rw [part_length]; omega) | (rw [tabI_length]; omega) | (rw [partI_length]; omega) | (rw [List.length_set, part_length]; omega)) ?_ | refine jl_storeVec (i := 3) rfl rfl rfl (by kernel_rfl) rfl rfl rfl rfl (by first | omega | (rw [tab_length]; omega) | (rw [part_length]; omega) | (rw [tabI_length]; omega) | (rw [partI_length]; omega) | (rw [List.length_set, part_length]; omega)) ?_ | refine jl_storeVec (i := 4) rfl rfl rfl (by kernel_rfl) rfl rfl rfl rfl (by first | omega | (rw [tab_length]; omega) | (rw [part_length]; omega) | (rw [tabI_length]; omega) | (rw [partI_length]; omega) | (rw [List.length_set, part_length]; omega)) ?_ | refine jl_storeVec (i := 5) rfl rfl rfl (by kernel_rfl) rfl rfl rfl rfl (by first | omega | (rw [tab_length]; omega) | (rw [part_length]; omega) | (rw [tabI_length]; omega) | (rw [partI_length]; omega) | (rw [List.length_set, part_length]; omega)) ?_ | refine jl_storeVec (i := 6) rfl rfl rfl (by kernel_rfl) rfl rfl rfl rfl (by first | omega | (rw [tab_length]; omega) | (rw [part_length]; omega) | (rw [tabI_length]; omega) | (rw [partI_length]; omega) | (rw [List.length_set, part_length]; omega)) ?_ | refine jl_storeVec (i := 7) rfl rfl rfl (by kernel_rfl) rfl rfl rfl rfl (by first | omega | (rw [tab_length]; omega) | (rw [part_length]; omega) | (rw [tabI_length]; omega) | (rw [partI_length]; omega) | (rw [List.length_set, part_length]; omega)) ?_
       refine jl_nil ?_)
    | (refine j_region (id := 8) ?_
       refine jl_op rfl rfl (.none rfl) (v_iarith' rfl rfl rfl rfl tt tt (by first | exact fun _ => iw_add (by omega) | exact fun _ => rfl)) ?_
       refine jl_op rfl rfl (.none rfl) (v_move rfl rfl tt) ?_
       refine jl_nil ?_)
    | (refine j_region (id := 9) ?_
       refine jl_op rfl rfl (.none rfl) (v_move rfl rfl tt) ?_
       refine jl_op rfl rfl (.none rfl) (v_call (f := 64) (xs := [_]) rfl (c_isLadder _ _ _ _ (by omega)) (ev_cons rfl tt ev_nil) (by intro w hc hI; first | trivial | (exfalso; simp_all; done) | (clear hc; repeat' (first | exact ros_nil | refine ros_cons ?_ ?_ | exact hI.roRo (by first | exact m0 | exact m1 | exact m2 | exact m3 | exact m4 | exact m5 | exact m6 | exact m7 | exact m8 | exact m9 | exact m10 | exact m11) | exact hI.boxRo (by first | exact m0 | exact m1 | exact m2 | exact m3 | exact m4 | exact m5 | exact m6 | exact m7 | exact m8 | exact m9 | exact m10 | exact m11) | exact HInv.vecRo hI (by first | exact m0 | exact m1 | exact m2 | exact m3 | exact m4 | exact m5 | exact m6 | exact m7 | exact m8 | exact m9 | exact m10 | exact m11))))) ?_
       refine jl_op rfl rfl (.none rfl) (v_not rfl rfl tt) ?_
       refine jl_nil ?_)
    | (refine j_region (id := 10) ?_
       refine jl_op rfl rfl (.none rfl) (v_assign rfl rfl tt) ?_
       refine jl_op rfl rfl (.none rfl) (v_assign rfl rfl tt) ?_
       refine jl_nil ?_)
    | (refine j_region (id := 11) ?_
       refine jl_op rfl rfl (.none rfl) (v_move rfl rfl tt) ?_
       refine jl_op rfl rfl (.none rfl) (v_assign rfl rfl tt) ?_
       refine jl_op rfl rfl (.none rfl) (v_assign rfl rfl tt) ?_
       refine jl_nil ?_)))
  all_goals (try simp only [show cn FloatKind.f32 0 = 0 from rfl, show cn FloatKind.f32 1065353216 = 1065353216 from rfl] at *)
  all_goals first | exact ret_no Try.results24 rfl rfl (by cases h1 : ladB N g <;> cases h2 : ladB M h <;> cases h3 : decide (N = M) <;> cases h4 : btw x 0 1065353216 <;> simp_all [icmp]) | exact ret_true 0 Try.results24 rfl rfl rfl (by have e : N = M := (by simp_all [icmp] <;> omega); subst e; simp_all [icmp])
theorem c_law_MixLadders (A : Option Addr) (N cap : Nat) (g : Nat → Nat) (B : Option Addr) (M bc : Nat) (h : Nat → Nat) (x : Nat) : Con Try.prog 5 [.slice A N cap, .slice B M bc, F x] (RoS [.ro A (tab N g), .ro B (tab M h)]) (.bool true) := by
  refine con_intro (H := [.ro A (tab N g), .ro B (tab M h)]) Try.func5 (by decide) rfl rfl (fun w h => h.inv) (fun w0 _ => ?_)
  (repeat' (first
    | refine j_condLt rfl (fun _ => ?_) (fun _ => ?_)
    | refine j_condLe rfl (fun _ => ?_) (fun _ => ?_)
    | refine j_condGt rfl (fun _ => ?_) (fun _ => ?_)
    | refine j_condGe rfl (fun _ => ?_) (fun _ => ?_)
    | refine j_condNe rfl (fun _ => ?_) (fun _ => ?_)
    | refine j_condEq rfl (fun _ => ?_) (fun _ => ?_)
    | refine j_condOrLt rfl (fun _ => ?_) (fun _ => ?_)
    | refine j_condAndLt rfl (fun _ => ?_) (fun _ => ?_)
    | refine j_condAndGe rfl (fun _ => ?_) (fun _ => ?_)
    | refine j_seq ?_
    | refine jq_then ?_
    | refine j_block ?_
    | refine j_ret ?_
    | refine jq_then_ret ?_
    | refine jq_block_ret ?_
    | refine jq_block_normal ?_
    | refine jq_then_exit ?_
    | refine jq_block_same rfl ?_
    | refine jq_block_other rfl ?_
    | refine j_skip ?_
    | refine j_exit ?_
    | refine j_label ?_
    | refine j_cond rfl (fun _ => ?_) (fun _ => ?_)
    | (refine j_region (id := 0) ?_
       refine jl_op rfl rfl (.none rfl) (v_assign rfl rfl tt) ?_
       refine jl_nil ?_)
    | (refine j_region (id := 1) ?_
       refine jl_op rfl rfl (.none rfl) (v_move rfl rfl tt) ?_
       refine jl_op rfl rfl (.none rfl) (v_len rfl rfl Try.underlying22 rfl tt) ?_
       refine jl_op rfl rfl (.none rfl) (v_icmp rfl rfl rfl rfl tt tt) ?_
       refine jl_nil ?_)
    | (refine j_region (id := 2) ?_
       refine jl_op rfl rfl (.none rfl) (v_assign rfl rfl tt) ?_
       refine jl_nil ?_)
    | (refine j_region (id := 3) ?_
       refine jl_op rfl rfl (.none rfl) (v_move rfl rfl tt) ?_
       refine jl_op rfl rfl (.none rfl) (v_len rfl rfl Try.underlying22 rfl tt) ?_
       refine jl_op rfl rfl (.none rfl) (v_icmp rfl rfl rfl rfl tt tt) ?_
       refine jl_nil ?_)
    | (refine j_region (id := 4) ?_
       refine jl_op rfl rfl (.none rfl) (v_assign rfl rfl tt) ?_
       refine jl_nil ?_)
    | (refine j_region (id := 5) ?_
       refine jl_op rfl rfl (.none rfl) (v_move rfl rfl tt) ?_
       refine jl_x1 rfl rfl rfl (x_call (f := 23) (xs := [_]) rfl (c_toFloat32S _ _ _ _ (by omega)) (ev_cons rfl tt ev_nil) (by intro w hI; first | trivial | (repeat' (first | exact ros_nil | refine ros_cons ?_ ?_ | exact hI.roRo (by first | exact m0 | exact m1 | exact m2 | exact m3 | exact m4 | exact m5 | exact m6 | exact m7 | exact m8 | exact m9 | exact m10 | exact m11) | exact hI.boxRo (by first | exact m0 | exact m1 | exact m2 | exact m3 | exact m4 | exact m5 | exact m6 | exact m7 | exact m8 | exact m9 | exact m10 | exact m11) | exact HInv.vecRo hI (by first | exact m0 | exact m1 | exact m2 | exact m3 | exact m4 | exact m5 | exact m6 | exact m7 | exact m8 | exact m9 | exact m10 | exact m11))))) (fun s26 => ?_)
       refine jl_op rfl rfl (.none rfl) (v_move rfl rfl tt) ?_
       refine jl_x1 rfl rfl rfl (x_call (f := 23) (xs := [_]) rfl (c_toFloat32S _ _ _ _ (by omega)) (ev_cons rfl tt ev_nil) (by intro w hI; first | trivial | (repeat' (first | exact ros_nil | refine ros_cons ?_ ?_ | exact hI.roRo (by first | exact m0 | exact m1 | exact m2 | exact m3 | exact m4 | exact m5 | exact m6 | exact m7 | exact m8 | exact m9 | exact m10 | exact m11) | exact hI.boxRo (by first | exact m0 | exact m1 | exact m2 | exact m3 | exact m4 | exact m5 | exact m6 | exact m7 | exact m8 | exact m9 | exact m10 | exact m11) | exact HInv.vecRo hI (by first | exact m0 | exact m1 | exact m2 | exact m3 | exact m4 | exact m5 | exact m6 | exact m7 | exact m8 | exact m9 | exact m10 | exact m11))))) (fun s28 => ?_)
       refine jl_op rfl rfl (.none rfl) (v_move rfl rfl tt) ?_
       refine jl_x rfl rfl rfl (x_call (f := 22) (xs := [_, _, _]) rfl (c_mixLS _ _ _ _ _ _ _ _ _ (by omega) (by omega)) (ev_cons rfl tt (ev_cons rfl tt (ev_cons rfl tt ev_nil))) (by intro w hI; first | trivial | (repeat' (first | exact ros_nil | refine ros_cons ?_ ?_ | exact hI.roRo (by first | exact m0 | exact m1 | exact m2 | exact m3 | exact m4 | exact m5 | exact m6 | exact m7 | exact m8 | exact m9 | exact m10 | exact m11) | exact hI.boxRo (by first | exact m0 | exact m1 | exact m2 | exact m3 | exact m4 | exact m5 | exact m6 | exact m7 | exact m8 | exact m9 | exact m10 | exact m11) | exact HInv.vecRo hI (by first | exact m0 | exact m1 | exact m2 | exact m3 | exact m4 | exact m5 | exact m6 | exact m7 | exact m8 | exact m9 | exact m10 | exact m11))))) (fun s30 => ?_)
       refine jl_op rfl rfl (.none rfl) (v_move rfl rfl tt) ?_
       refine jl_op rfl rfl (.none rfl) (v_extract rfl rfl tt rfl) ?_
       refine jl_op rfl rfl (.none rfl) (v_extract rfl rfl tt rfl) ?_
       refine jl_op rfl rfl (.none rfl) (v_assign rfl rfl tt) ?_
       refine jl_op rfl rfl (.none rfl) (v_assign rfl rfl tt) ?_
       refine jl_nil ?_)
    | (refine j_region (id := 6) ?_
       refine jl_op rfl rfl (.none rfl) (v_move rfl rfl tt) ?_
       refine jl_x1 rfl rfl rfl (x_call (f := 23) (xs := [_]) rfl (c_toFloat32S _ _ _ _ (by omega)) (ev_cons rfl tt ev_nil) (by intro w hI; first | trivial | (repeat' (first | exact ros_nil | refine ros_cons ?_ ?_ | exact hI.roRo (by first | exact m0 | exact m1 | exact m2 | exact m3 | exact m4 | exact m5 | exact m6 | exact m7 | exact m8 | exact m9 | exact m10 | exact m11) | exact hI.boxRo (by first | exact m0 | exact m1 | exact m2 | exact m3 | exact m4 | exact m5 | exact m6 | exact m7 | exact m8 | exact m9 | exact m10 | exact m11) | exact HInv.vecRo hI (by first | exact m0 | exact m1 | exact m2 | exact m3 | exact m4 | exact m5 | exact m6 | exact m7 | exact m8 | exact m9 | exact m10 | exact m11))))) (fun s34 => ?_)
       refine jl_op rfl rfl (.none rfl) (v_assign rfl rfl tt) ?_
       refine jl_nil ?_)
    | (refine j_region (id := 7) ?_
       refine jl_op rfl rfl (.none rfl) (v_move rfl rfl tt) ?_
       refine jl_x1 rfl rfl rfl (x_call (f := 23) (xs := [_]) rfl (c_toFloat32S _ _ _ _ (by omega)) (ev_cons rfl tt ev_nil) (by intro w hI; first | trivial | (repeat' (first | exact ros_nil | refine ros_cons ?_ ?_ | exact hI.roRo (by first | exact m0 | exact m1 | exact m2 | exact m3 | exact m4 | exact m5 | exact m6 | exact m7 | exact m8 | exact m9 | exact m10 | exact m11) | exact hI.boxRo (by first | exact m0 | exact m1 | exact m2 | exact m3 | exact m4 | exact m5 | exact m6 | exact m7 | exact m8 | exact m9 | exact m10 | exact m11) | exact HInv.vecRo hI (by first | exact m0 | exact m1 | exact m2 | exact m3 | exact m4 | exact m5 | exact m6 | exact m7 | exact m8 | exact m9 | exact m10 | exact m11))))) (fun s36 => ?_)
       refine jl_op rfl rfl (.none rfl) (v_assign rfl rfl tt) ?_
       refine jl_nil ?_)
    | (refine j_region (id := 8) ?_
       refine jl_op rfl rfl (.none rfl) (v_move rfl rfl tt) ?_
       refine jl_op rfl rfl (.none rfl) (v_move rfl rfl tt) ?_
       refine jl_op rfl rfl (.none rfl) (v_move rfl rfl tt) ?_
       refine jl_x rfl rfl rfl (x_call (f := 24) (xs := [_, _, _]) rfl (c_mixLI _ _ _ _ _ _ _ _ _ (by omega) (by omega)) (ev_cons rfl tt (ev_cons rfl tt (ev_cons rfl tt ev_nil))) (by intro w hI; first | trivial | (repeat' (first | exact ros_nil | refine ros_cons ?_ ?_ | exact hI.roRo (by first | exact m0 | exact m1 | exact m2 | exact m3 | exact m4 | exact m5 | exact m6 | exact m7 | exact m8 | exact m9 | exact m10 | exact m11) | exact hI.boxRo (by first | exact m0 | exact m1 | exact m2 | exact m3 | exact m4 | exact m5 | exact m6 | exact m7 | exact m8 | exact m9 | exact m10 | exact m11) | exact HInv.vecRo hI (by first | exact m0 | exact m1 | exact m2 | exact m3 | exact m4 | exact m5 | exact m6 | exact m7 | exact m8 | exact m9 | exact m10 | exact m11))))) (fun s41 => ?_)
       refine jl_op rfl rfl (.none rfl) (v_move rfl rfl tt) ?_
       refine jl_op rfl rfl (.none rfl) (v_extract rfl rfl tt rfl) ?_
       refine jl_op rfl rfl (.none rfl) (v_extract rfl rfl tt rfl) ?_
       refine jl_op rfl rfl (.none rfl) (v_assign rfl rfl tt) ?_
       refine jl_op rfl rfl (.none rfl) (v_assign rfl rfl tt) ?_
       refine jl_nil ?_)
    | (refine j_region (id := 9) ?_
       refine jl_op rfl rfl (.none rfl) (v_move rfl rfl tt) ?_
       refine jl_op rfl rfl (.none rfl) (v_move rfl rfl tt) ?_
       refine jl_op rfl rfl (.none rfl) (v_call (f := 25) (xs := [_, _]) rfl (c_eqFloat32S _ _ _ _ _ _ _ _ (by first | omega | exact bif_le (by omega))) (ev_cons rfl tt (ev_cons rfl tt ev_nil)) (by intro w hc hI; first | trivial | (exfalso; simp_all; done) | (clear hc; repeat' (first | exact ros_nil | refine ros_cons ?_ ?_ | exact hI.roRo (by first | exact m0 | exact m1 | exact m2 | exact m3 | exact m4 | exact m5 | exact m6 | exact m7 | exact m8 | exact m9 | exact m10 | exact m11) | exact hI.boxRo (by first | exact m0 | exact m1 | exact m2 | exact m3 | exact m4 | exact m5 | exact m6 | exact m7 | exact m8 | exact m9 | exact m10 | exact m11) | exact HInv.vecRo hI (by first | exact m0 | exact m1 | exact m2 | exact m3 | exact m4 | exact m5 | exact m6 | exact m7 | exact m8 | exact m9 | exact m10 | exact m11))))) ?_
       refine jl_op rfl rfl (.none rfl) (v_not rfl rfl tt) ?_
       refine jl_op rfl rfl (.none rfl) (v_move rfl rfl tt) ?_
       refine jl_op rfl rfl (.some rfl rfl rfl) (v_move rfl rfl tt) ?_
       refine jl_op rfl rfl (.some rfl rfl rfl) (v_move rfl rfl tt) ?_
       refine jl_op rfl rfl (.some rfl rfl rfl) (v_bne rfl rfl rfl Try.underlying4 ii ii rfl) ?_
       refine jl_op rfl rfl (.none rfl) (v_or rfl rfl tt rfl fi) ?_
       refine jl_nil ?_)
    | (refine j_region (id := 10) ?_
       refine jl_op rfl rfl (.none rfl) (v_assign rfl rfl tt) ?_
       refine jl_nil ?_)
    | (refine j_region (id := 11) ?_
       refine jl_op rfl rfl (.none rfl) (v_move rfl rfl tt) ?_
       refine jl_op rfl rfl (.none rfl) (v_move rfl rfl tt) ?_
       refine jl_x1 rfl rfl rfl (x_call (f := 23) (xs := [_]) rfl (c_toFloat32S _ _ _ _ (by omega)) (ev_cons rfl tt ev_nil) (by intro w hI; first | trivial | (repeat' (first | exact ros_nil | refine ros_cons ?_ ?_ | exact hI.roRo (by first | exact m0 | exact m1 | exact m2 | exact m3 | exact m4 | exact m5 | exact m6 | exact m7 | exact m8 | exact m9 | exact m10 | exact m11) | exact hI.boxRo (by first | exact m0 | exact m1 | exact m2 | exact m3 | exact m4 | exact m5 | exact m6 | exact m7 | exact m8 | exact m9 | exact m10 | exact m11) | exact HInv.vecRo hI (by first | exact m0 | exact m1 | exact m2 | exact m3 | exact m4 | exact m5 | exact m6 | exact m7 | exact m8 | exact m9 | exact m10 | exact m11))))) (fun s55 => ?_)
       refine jl_op rfl rfl (.none rfl) (v_call (f := 25) (xs := [_, _]) rfl (c_eqFloat32S _ _ _ _ _ _ _ _ (by first | omega | exact bif_le (by omega))) (ev_cons rfl tt (ev_cons rfl tt ev_nil)) (by intro w hc hI; first | trivial | (exfalso; simp_all; done) | (clear hc; repeat' (first | exact ros_nil | refine ros_cons ?_ ?_ | exact hI.roRo (by first | exact m0 | exact m1 | exact m2 | exact m3 | exact m4 | exact m5 | exact m6 | exact m7 | exact m8 | exact m9 | exact m10 | exact m11) | exact hI.boxRo (by first | exact m0 | exact m1 | exact m2 | exact m3 | exact m4 | exact m5 | exact m6 | exact m7 | exact m8 | exact m9 | exact m10 | exact m11) | exact HInv.vecRo hI (by first | exact m0 | exact m1 | exact m2 | exact m3 | exact m4 | exact m5 | exact m6 | exact m7 | exact m8 | exact m9 | exact m10 | exact m11))))) ?_
       refine jl_op rfl rfl (.none rfl) (v_not rfl rfl tt) ?_
       refine jl_nil ?_)
    | (refine j_region (id := 12) ?_
       refine jl_op rfl rfl (.none rfl) (v_assign rfl rfl tt) ?_
       refine jl_nil ?_)
    | (refine j_region (id := 13) ?_
       refine jl_op rfl rfl (.none rfl) (v_move rfl rfl tt) ?_
       refine jl_op rfl rfl (.none rfl) (v_move rfl rfl tt) ?_
       refine jl_x1 rfl rfl rfl (x_call (f := 23) (xs := [_]) rfl (c_toFloat32S _ _ _ _ (by omega)) (ev_cons rfl tt ev_nil) (by intro w hI; first | trivial | (repeat' (first | exact ros_nil | refine ros_cons ?_ ?_ | exact hI.roRo (by first | exact m0 | exact m1 | exact m2 | exact m3 | exact m4 | exact m5 | exact m6 | exact m7 | exact m8 | exact m9 | exact m10 | exact m11) | exact hI.boxRo (by first | exact m0 | exact m1 | exact m2 | exact m3 | exact m4 | exact m5 | exact m6 | exact m7 | exact m8 | exact m9 | exact m10 | exact m11) | exact HInv.vecRo hI (by first | exact m0 | exact m1 | exact m2 | exact m3 | exact m4 | exact m5 | exact m6 | exact m7 | exact m8 | exact m9 | exact m10 | exact m11))))) (fun s60 => ?_)
       refine jl_op rfl rfl (.none rfl) (v_call (f := 25) (xs := [_, _]) rfl (c_eqFloat32S _ _ _ _ _ _ _ _ (by first | omega | exact bif_le (by omega))) (ev_cons rfl tt (ev_cons rfl tt ev_nil)) (by intro w hc hI; first | trivial | (exfalso; simp_all; done) | (clear hc; repeat' (first | exact ros_nil | refine ros_cons ?_ ?_ | exact hI.roRo (by first | exact m0 | exact m1 | exact m2 | exact m3 | exact m4 | exact m5 | exact m6 | exact m7 | exact m8 | exact m9 | exact m10 | exact m11) | exact hI.boxRo (by first | exact m0 | exact m1 | exact m2 | exact m3 | exact m4 | exact m5 | exact m6 | exact m7 | exact m8 | exact m9 | exact m10 | exact m11) | exact HInv.vecRo hI (by first | exact m0 | exact m1 | exact m2 | exact m3 | exact m4 | exact m5 | exact m6 | exact m7 | exact m8 | exact m9 | exact m10 | exact m11))))) ?_
       refine jl_op rfl rfl (.none rfl) (v_not rfl rfl tt) ?_
       refine jl_nil ?_)
    | (refine j_region (id := 14) ?_
       refine jl_op rfl rfl (.none rfl) (v_assign rfl rfl tt) ?_
       refine jl_nil ?_)
    | (refine j_region (id := 15) ?_
       refine jl_op rfl rfl (.none rfl) (v_assign rfl rfl tt) ?_
       refine jl_nil ?_)
    | (refine j_region (id := 16) ?_
       refine jl_op rfl rfl (.none rfl) (v_move rfl rfl tt) ?_
       refine jl_op rfl rfl (.none rfl) (v_move rfl rfl tt) ?_
       first | refine jl_w (i := 0) (f := 26) (xs := [_, _]) rfl rfl rfl rfl (c_markFloat32S _ _ _ _ _ (by first | omega | exact bif_le (by omega)) (by omega)) (ev_cons rfl tt (ev_cons rfl tt ev_nil)) rfl (fun _ _ => trivial) ?_ | refine jl_w (i := 1) (f := 26) (xs := [_, _]) rfl rfl rfl rfl (c_markFloat32S _ _ _ _ _ (by first | omega | exact bif_le (by omega)) (by omega)) (ev_cons rfl tt (ev_cons rfl tt ev_nil)) rfl (fun _ _ => trivial) ?_ | refine jl_w (i := 2) (f := 26) (xs := [_, _]) rfl rfl rfl rfl (c_markFloat32S _ _ _ _ _ (by first | omega | exact bif_le (by omega)) (by omega)) (ev_cons rfl tt (ev_cons rfl tt ev_nil)) rfl (fun _ _ => trivial) ?_ | refine jl_w (i := 3) (f := 26) (xs := [_, _]) rfl rfl rfl rfl (c_markFloat32S _ _ _ _ _ (by first | omega | exact bif_le (by omega)) (by omega)) (ev_cons rfl tt (ev_cons rfl tt ev_nil)) rfl (fun _ _ => trivial) ?_ | refine jl_w (i := 4) (f := 26) (xs := [_, _]) rfl rfl rfl rfl (c_markFloat32S _ _ _ _ _ (by first | omega | exact bif_le (by omega)) (by omega)) (ev_cons rfl tt (ev_cons rfl tt ev_nil)) rfl (fun _ _ => trivial) ?_ | refine jl_w (i := 5) (f := 26) (xs := [_, _]) rfl rfl rfl rfl (c_markFloat32S _ _ _ _ _ (by first | omega | exact bif_le (by omega)) (by omega)) (ev_cons rfl tt (ev_cons rfl tt ev_nil)) rfl (fun _ _ => trivial) ?_
       refine jl_op rfl rfl (.none rfl) (v_assign rfl rfl tt) ?_
       refine jl_nil ?_)
    | (refine j_region (id := 17) ?_
       refine jl_op rfl rfl (.none rfl) (v_move rfl rfl tt) ?_
       refine jl_op rfl rfl (.none rfl) (v_move rfl rfl tt) ?_
       first | refine jl_w (i := 0) (f := 26) (xs := [_, _]) rfl rfl rfl rfl (c_markFloat32S _ _ _ _ _ (by first | omega | exact bif_le (by omega)) (by omega)) (ev_cons rfl tt (ev_cons rfl tt ev_nil)) rfl (fun _ _ => trivial) ?_ | refine jl_w (i := 1) (f := 26) (xs := [_, _]) rfl rfl rfl rfl (c_markFloat32S _ _ _ _ _ (by first | omega | exact bif_le (by omega)) (by omega)) (ev_cons rfl tt (ev_cons rfl tt ev_nil)) rfl (fun _ _ => trivial) ?_ | refine jl_w (i := 2) (f := 26) (xs := [_, _]) rfl rfl rfl rfl (c_markFloat32S _ _ _ _ _ (by first | omega | exact bif_le (by omega)) (by omega)) (ev_cons rfl tt (ev_cons rfl tt ev_nil)) rfl (fun _ _ => trivial) ?_ | refine jl_w (i := 3) (f := 26) (xs := [_, _]) rfl rfl rfl rfl (c_markFloat32S _ _ _ _ _ (by first | omega | exact bif_le (by omega)) (by omega)) (ev_cons rfl tt (ev_cons rfl tt ev_nil)) rfl (fun _ _ => trivial) ?_ | refine jl_w (i := 4) (f := 26) (xs := [_, _]) rfl rfl rfl rfl (c_markFloat32S _ _ _ _ _ (by first | omega | exact bif_le (by omega)) (by omega)) (ev_cons rfl tt (ev_cons rfl tt ev_nil)) rfl (fun _ _ => trivial) ?_ | refine jl_w (i := 5) (f := 26) (xs := [_, _]) rfl rfl rfl rfl (c_markFloat32S _ _ _ _ _ (by first | omega | exact bif_le (by omega)) (by omega)) (ev_cons rfl tt (ev_cons rfl tt ev_nil)) rfl (fun _ _ => trivial) ?_
       refine jl_op rfl rfl (.none rfl) (v_assign rfl rfl tt) ?_
       refine jl_nil ?_)
    | (refine j_region (id := 18) ?_
       refine jl_op rfl rfl (.none rfl) (v_move rfl rfl tt) ?_
       refine jl_op rfl rfl (.none rfl) (v_icmp rfl rfl rfl rfl tt tt) ?_
       refine jl_op rfl rfl (.none rfl) (v_move rfl rfl tt) ?_
       refine jl_op rfl rfl (.some rfl rfl rfl) (v_move rfl rfl tt) ?_
       refine jl_op rfl rfl (.some rfl rfl rfl) (v_move rfl rfl tt) ?_
       refine jl_op rfl rfl (.some rfl rfl rfl) (v_call (f := 25) (xs := [_, _]) rfl (c_eqFloat32S _ _ _ _ _ _ _ _ (by first | omega | exact bif_le (by omega))) (ev_cons rfl ii (ev_cons rfl ii ev_nil)) (by intro w hc hI; first | trivial | (exfalso; simp_all; done) | (clear hc; repeat' (first | exact ros_nil | refine ros_cons ?_ ?_ | exact hI.roRo (by first | exact m0 | exact m1 | exact m2 | exact m3 | exact m4 | exact m5 | exact m6 | exact m7 | exact m8 | exact m9 | exact m10 | exact m11) | exact hI.boxRo (by first | exact m0 | exact m1 | exact m2 | exact m3 | exact m4 | exact m5 | exact m6 | exact m7 | exact m8 | exact m9 | exact m10 | exact m11) | exact HInv.vecRo hI (by first | exact m0 | exact m1 | exact m2 | exact m3 | exact m4 | exact m5 | exact m6 | exact m7 | exact m8 | exact m9 | exact m10 | exact m11))))) ?_
       refine jl_op rfl rfl (.some rfl rfl rfl) (v_not rfl rfl ii) ?_
       refine jl_op rfl rfl (.none rfl) (v_or rfl rfl tt rfl fi) ?_
       refine jl_op rfl rfl (.none rfl) (v_move rfl rfl tt) ?_
       refine jl_op rfl rfl (.some rfl rfl rfl) (v_move rfl rfl tt) ?_
       refine jl_op rfl rfl (.some rfl rfl rfl) (v_move rfl rfl tt) ?_
       refine jl_op rfl rfl (.some rfl rfl rfl) (v_bne rfl rfl rfl Try.underlying4 ii ii rfl) ?_
       refine jl_op rfl rfl (.none rfl) (v_or rfl rfl tt rfl fi) ?_
       refine jl_nil ?_)
    | (refine j_region (id := 19) ?_
       refine jl_op rfl rfl (.none rfl) (v_assign rfl rfl tt) ?_
       refine jl_nil ?_)
    | (refine j_region (id := 20) ?_
       refine jl_op rfl rfl (.none rfl) (v_assign rfl rfl tt) ?_
       refine jl_nil ?_)
    | (refine j_region (id := 21) ?_
       refine jl_op rfl rfl (.none rfl) (v_move rfl rfl tt) ?_
       refine jl_op rfl rfl (.none rfl) (v_move rfl rfl tt) ?_
       first | refine jl_w (i := 0) (f := 26) (xs := [_, _]) rfl rfl rfl rfl (c_markFloat32S _ _ _ _ _ (by first | omega | exact bif_le (by omega)) (by omega)) (ev_cons rfl tt (ev_cons rfl tt ev_nil)) rfl (fun _ _ => trivial) ?_ | refine jl_w (i := 1) (f := 26) (xs := [_, _]) rfl rfl rfl rfl (c_markFloat32S _ _ _ _ _ (by first | omega | exact bif_le (by omega)) (by omega)) (ev_cons rfl tt (ev_cons rfl tt ev_nil)) rfl (fun _ _ => trivial) ?_ | refine jl_w (i := 2) (f := 26) (xs := [_, _]) rfl rfl rfl rfl (c_markFloat32S _ _ _ _ _ (by first | omega | exact bif_le (by omega)) (by omega)) (ev_cons rfl tt (ev_cons rfl tt ev_nil)) rfl (fun _ _ => trivial) ?_ | refine jl_w (i := 3) (f := 26) (xs := [_, _]) rfl rfl rfl rfl (c_markFloat32S _ _ _ _ _ (by first | omega | exact bif_le (by omega)) (by omega)) (ev_cons rfl tt (ev_cons rfl tt ev_nil)) rfl (fun _ _ => trivial) ?_ | refine jl_w (i := 4) (f := 26) (xs := [_, _]) rfl rfl rfl rfl (c_markFloat32S _ _ _ _ _ (by first | omega | exact bif_le (by omega)) (by omega)) (ev_cons rfl tt (ev_cons rfl tt ev_nil)) rfl (fun _ _ => trivial) ?_ | refine jl_w (i := 5) (f := 26) (xs := [_, _]) rfl rfl rfl rfl (c_markFloat32S _ _ _ _ _ (by first | omega | exact bif_le (by omega)) (by omega)) (ev_cons rfl tt (ev_cons rfl tt ev_nil)) rfl (fun _ _ => trivial) ?_
       refine jl_op rfl rfl (.none rfl) (v_assign rfl rfl tt) ?_
       refine jl_nil ?_)
    | (refine j_region (id := 22) ?_
       refine jl_op rfl rfl (.none rfl) (v_assign rfl rfl tt) ?_
       refine jl_nil ?_)
    | (refine j_region (id := 23) ?_
       refine jl_op rfl rfl (.none rfl) (v_move rfl rfl tt) ?_
       refine jl_op rfl rfl (.none rfl) (v_move rfl rfl tt) ?_
       refine jl_op rfl rfl (.none rfl) (v_call (f := 27) (xs := [_, _]) rfl (c_heldFloat32S _ _ _ _ (by first | omega | exact bif_le (by omega)) (by omega)) (ev_cons rfl tt (ev_cons rfl tt ev_nil)) (by intro w hc hI; first | trivial | (exfalso; simp_all; done) | (clear hc; repeat' (first | exact ros_nil | refine ros_cons ?_ ?_ | exact hI.roRo (by first | exact m0 | exact m1 | exact m2 | exact m3 | exact m4 | exact m5 | exact m6 | exact m7 | exact m8 | exact m9 | exact m10 | exact m11) | exact hI.boxRo (by first | exact m0 | exact m1 | exact m2 | exact m3 | exact m4 | exact m5 | exact m6 | exact m7 | exact m8 | exact m9 | exact m10 | exact m11) | exact HInv.vecRo hI (by first | exact m0 | exact m1 | exact m2 | exact m3 | exact m4 | exact m5 | exact m6 | exact m7 | exact m8 | exact m9 | exact m10 | exact m11))))) ?_
       refine jl_op rfl rfl (.none rfl) (v_assign rfl rfl tt) ?_
       refine jl_nil ?_)
    | (refine j_region (id := 24) ?_
       refine jl_op rfl rfl (.none rfl) (v_move rfl rfl tt) ?_
       refine jl_op rfl rfl (.none rfl) (v_icmp rfl rfl rfl rfl tt tt) ?_
       refine jl_nil ?_)
    | (refine j_region (id := 25) ?_
       refine jl_op rfl rfl (.none rfl) (v_assign rfl rfl tt) ?_
       refine jl_nil ?_)
    | (refine j_region (id := 26) ?_
       refine jl_op rfl rfl (.none rfl) (v_move rfl rfl tt) ?_
       refine jl_op rfl rfl (.none rfl) (v_move rfl rfl tt) ?_
       refine jl_op rfl rfl (.none rfl) (v_icmp rfl rfl rfl rfl tt tt) ?_
       refine jl_nil ?_)
    | (refine j_region (id := 27) ?_
       refine jl_op rfl rfl (.none rfl) (v_assign rfl rfl tt) ?_
       refine jl_nil ?_)
    | (refine j_region (id := 28) ?_
       refine jl_op rfl rfl (.none rfl) (v_move rfl rfl tt) ?_
       refine jl_x1 rfl rfl rfl (x_call (f := 23) (xs := [_]) rfl (c_toFloat32S _ _ _ _ (by omega)) (ev_cons rfl tt ev_nil) (by intro w hI; first | trivial | (repeat' (first | exact ros_nil | refine ros_cons ?_ ?_ | exact hI.roRo (by first | exact m0 | exact m1 | exact m2 | exact m3 | exact m4 | exact m5 | exact m6 | exact m7 | exact m8 | exact m9 | exact m10 | exact m11) | exact hI.boxRo (by first | exact m0 | exact m1 | exact m2 | exact m3 | exact m4 | exact m5 | exact m6 | exact m7 | exact m8 | exact m9 | exact m10 | exact m11) | exact HInv.vecRo hI (by first | exact m0 | exact m1 | exact m2 | exact m3 | exact m4 | exact m5 | exact m6 | exact m7 | exact m8 | exact m9 | exact m10 | exact m11))))) (fun s95 => ?_)
       refine jl_op rfl rfl (.none rfl) (v_move rfl rfl tt) ?_
       refine jl_x1 rfl rfl rfl (x_call (f := 23) (xs := [_]) rfl (c_toFloat32S _ _ _ _ (by omega)) (ev_cons rfl tt ev_nil) (by intro w hI; first | trivial | (repeat' (first | exact ros_nil | refine ros_cons ?_ ?_ | exact hI.roRo (by first | exact m0 | exact m1 | exact m2 | exact m3 | exact m4 | exact m5 | exact m6 | exact m7 | exact m8 | exact m9 | exact m10 | exact m11) | exact hI.boxRo (by first | exact m0 | exact m1 | exact m2 | exact m3 | exact m4 | exact m5 | exact m6 | exact m7 | exact m8 | exact m9 | exact m10 | exact m11) | exact HInv.vecRo hI (by first | exact m0 | exact m1 | exact m2 | exact m3 | exact m4 | exact m5 | exact m6 | exact m7 | exact m8 | exact m9 | exact m10 | exact m11))))) (fun s97 => ?_)
       refine jl_op rfl rfl (.none rfl) (v_move rfl rfl tt) ?_
       refine jl_x rfl rfl rfl (x_call (f := 24) (xs := [_, _, _]) rfl (c_mixLI _ _ _ _ _ _ _ _ _ (by omega) (by omega)) (ev_cons rfl tt (ev_cons rfl tt (ev_cons rfl tt ev_nil))) (by intro w hI; first | trivial | (repeat' (first | exact ros_nil | refine ros_cons ?_ ?_ | exact hI.roRo (by first | exact m0 | exact m1 | exact m2 | exact m3 | exact m4 | exact m5 | exact m6 | exact m7 | exact m8 | exact m9 | exact m10 | exact m11) | exact hI.boxRo (by first | exact m0 | exact m1 | exact m2 | exact m3 | exact m4 | exact m5 | exact m6 | exact m7 | exact m8 | exact m9 | exact m10 | exact m11) | exact HInv.vecRo hI (by first | exact m0 | exact m1 | exact m2 | exact m3 | exact m4 | exact m5 | exact m6 | exact m7 | exact m8 | exact m9 | exact m10 | exact m11))))) (fun s99 => ?_)
       refine jl_op rfl rfl (.none rfl) (v_move rfl rfl tt) ?_
       refine jl_op rfl rfl (.none rfl) (v_extract rfl rfl tt rfl) ?_
       refine jl_op rfl rfl (.none rfl) (v_extract rfl rfl tt rfl) ?_
       refine jl_op rfl rfl (.none rfl) (v_assign rfl rfl tt) ?_
       refine jl_op rfl rfl (.none rfl) (v_assign rfl rfl tt) ?_
       refine jl_nil ?_)
    | (refine j_region (id := 29) ?_
       refine jl_op rfl rfl (.none rfl) (v_move rfl rfl tt) ?_
       refine jl_op rfl rfl (.none rfl) (v_move rfl rfl tt) ?_
       refine jl_op rfl rfl (.none rfl) (v_call (f := 25) (xs := [_, _]) rfl (c_eqFloat32S _ _ _ _ _ _ _ _ (by first | omega | exact bif_le (by omega))) (ev_cons rfl tt (ev_cons rfl tt ev_nil)) (by intro w hc hI; first | trivial | (exfalso; simp_all; done) | (clear hc; repeat' (first | exact ros_nil | refine ros_cons ?_ ?_ | exact hI.roRo (by first | exact m0 | exact m1 | exact m2 | exact m3 | exact m4 | exact m5 | exact m6 | exact m7 | exact m8 | exact m9 | exact m10 | exact m11) | exact hI.boxRo (by first | exact m0 | exact m1 | exact m2 | exact m3 | exact m4 | exact m5 | exact m6 | exact m7 | exact m8 | exact m9 | exact m10 | exact m11) | exact HInv.vecRo hI (by first | exact m0 | exact m1 | exact m2 | exact m3 | exact m4 | exact m5 | exact m6 | exact m7 | exact m8 | exact m9 | exact m10 | exact m11))))) ?_
       refine jl_op rfl rfl (.none rfl) (v_not rfl rfl tt) ?_
       refine jl_op rfl rfl (.none rfl) (v_move rfl rfl tt) ?_
       refine jl_op rfl rfl (.some rfl rfl rfl) (v_move rfl rfl tt) ?_
       refine jl_op rfl rfl (.some rfl rfl rfl) (v_move rfl rfl tt) ?_
       refine jl_op rfl rfl (.some rfl rfl rfl) (v_bne rfl rfl rfl Try.underlying4 ii ii rfl) ?_
       refine jl_op rfl rfl (.none rfl) (v_or rfl rfl tt rfl fi) ?_
       refine jl_nil ?_)
    | (refine j_region (id := 30) ?_
       refine jl_op rfl rfl (.none rfl) (v_assign rfl rfl tt) ?_
       refine jl_nil ?_)
    | (refine j_region (id := 31) ?_
       refine jl_op rfl rfl (.none rfl) (v_assign rfl rfl tt) ?_
       refine jl_nil ?_)
    | (refine j_region (id := 32) ?_
       refine jl_op rfl rfl (.none rfl) (v_move rfl rfl tt) ?_
       refine jl_op rfl rfl (.none rfl) (v_move rfl rfl tt) ?_
       refine jl_op rfl rfl (.none rfl) (v_call (f := 27) (xs := [_, _]) rfl (c_heldFloat32S _ _ _ _ (by first | omega | exact bif_le (by omega)) (by omega)) (ev_cons rfl tt (ev_cons rfl tt ev_nil)) (by intro w hc hI; first | trivial | (exfalso; simp_all; done) | (clear hc; repeat' (first | exact ros_nil | refine ros_cons ?_ ?_ | exact hI.roRo (by first | exact m0 | exact m1 | exact m2 | exact m3 | exact m4 | exact m5 | exact m6 | exact m7 | exact m8 | exact m9 | exact m10 | exact m11) | exact hI.boxRo (by first | exact m0 | exact m1 | exact m2 | exact m3 | exact m4 | exact m5 | exact m6 | exact m7 | exact m8 | exact m9 | exact m10 | exact m11) | exact HInv.vecRo hI (by first | exact m0 | exact m1 | exact m2 | exact m3 | exact m4 | exact m5 | exact m6 | exact m7 | exact m8 | exact m9 | exact m10 | exact m11))))) ?_
       refine jl_op rfl rfl (.none rfl) (v_assign rfl rfl tt) ?_
       refine jl_nil ?_)
    | (refine j_region (id := 33) ?_
       refine jl_op rfl rfl (.none rfl) (v_move rfl rfl tt) ?_
       refine jl_op rfl rfl (.none rfl) (v_icmp rfl rfl rfl rfl tt tt) ?_
       refine jl_nil ?_)
    | (refine j_region (id := 34) ?_
       refine jl_op rfl rfl (.none rfl) (v_assign rfl rfl tt) ?_
       refine jl_nil ?_)
    | (refine j_region (id := 35) ?_
       refine jl_op rfl rfl (.none rfl) (v_move rfl rfl tt) ?_
       refine jl_op rfl rfl (.none rfl) (v_move rfl rfl tt) ?_
       refine jl_op rfl rfl (.none rfl) (v_icmp rfl rfl rfl rfl tt tt) ?_
       refine jl_nil ?_)
    | (refine j_region (id := 36) ?_
       refine jl_op rfl rfl (.none rfl) (v_assign rfl rfl tt) ?_
       refine jl_nil ?_)
    | (refine j_region (id := 37) ?_
       refine jl_op rfl rfl (.none rfl) (v_assign rfl rfl tt) ?_
       refine jl_nil ?_)))
  all_goals first | exact jq_ret1 (.inl rfl) Try.results5 rfl | (exfalso; simp [icmp, sameT_self] at * <;> omega)
end Go.Vx
