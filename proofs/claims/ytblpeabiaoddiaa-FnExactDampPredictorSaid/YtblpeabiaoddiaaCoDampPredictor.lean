/- Contracts of functions of the program and of the reference. -/
import Derived.Test.YtblpeabiaoddiaaCoPredictAt
import Derived.Test.YtblpeabiaoddiaaCoMixLadders
namespace Go.Vx
open Go.Proofs
set_option maxRecDepth 4000
attribute [local irreducible] J JL JQ JA VOp Con Ext XOp ConM ConW ConW2
theorem c_checkedP (A : Option Addr) (N cap : Nat) (g : Nat → Nat) (x : Nat) (hN : N ≤ 4294967296) : Con Try.prog 83 [.agg #[.slice A N cap, .float .f32 x]] (RoS [.ro A (tab N g)]) (.tuple #[.agg #[.slice (bif validP N g x then A else none) (bif validP N g x then N else 0) (bif validP N g x then cap else 0), F (bif validP N g x then x else 0)], .bool (validP N g x)]) := by
  refine con_intro (H := [.ro A (tab N g)]) Try.func83 (by decide) rfl rfl (fun w h => h.inv) (fun w0 _ => ?_)
  (repeat' (first
    | refine j_condLt rfl (fun _ => ?_) (fun _ => ?_)
    | refine j_condLe rfl (fun _ => ?_) (fun _ => ?_)
    | refine j_condGt rfl (fun _ => ?_) (fun _ => ?_)
    | refine j_condGe rfl (fun _ => ?_) (fun _ => ?_)
    | refine j_condNe rfl (fun _ => ?_) (fun _ => ?_)
    | refine j_condEq rfl (fun _ => ?_) (fun _ => ?_)
    | refine j_condOrLt rfl (fun _ => ?_) (fun _ => ?_)
    | refine j_condAndLt rfl (fun _ => ?_) (fun _ => ?_)
    | refine j_condAndGe rfl (fun _ => ?_) (fun _ => ?_)
    | refine j_seq ?_
    | refine jq_then ?_
    | refine j_block ?_
    | refine j_ret ?_
    | refine jq_then_ret ?_
    | refine jq_block_ret ?_
    | refine jq_block_normal ?_
    | refine jq_then_exit ?_
    | refine jq_block_same rfl ?_
    | refine jq_block_other rfl ?_
    | refine j_skip ?_
    | refine j_exit ?_
    | refine j_label ?_
    | refine j_cond rfl (fun _ => ?_) (fun _ => ?_)
    | (refine j_region (id := 0) ?_
       refine jl_boxS rfl rfl rfl rfl rfl (fun b1 => ?_)
       refine jl_alloc rfl rfl rfl rfl zero28 (by rfl) (fun b2 => ?_)
       refine jl_op rfl rfl (.none rfl) (v_assign rfl rfl tt) ?_
       refine jl_nil ?_)
    | (refine j_region (id := 1) ?_
       first | refine jl_op rfl rfl (.none rfl) (v_loadS rfl Try.underlying28 (by rfl) (by kernel_rfl) rfl tt (by first | exact m0 | exact m1 | exact m2 | exact m3 | exact m4 | exact m5 | exact m6 | exact m7 | exact m8 | exact m9 | exact m10 | exact m11)) ?_ | refine jl_op rfl rfl (.none rfl) (v_loadSRo rfl Try.underlying28 (by rfl) (by kernel_rfl) rfl tt (by first | exact m0 | exact m1 | exact m2 | exact m3 | exact m4 | exact m5 | exact m6 | exact m7 | exact m8 | exact m9 | exact m10 | exact m11)) ?_
       refine jl_op rfl rfl (.none rfl) (v_call (f := 18) (xs := [_]) rfl (c_validPI _ _ _ _ _ hN) (ev_cons rfl tt ev_nil) (by intro w hc hI; first | trivial | (exfalso; simp_all; done) | (clear hc; repeat' (first | exact ros_nil | refine ros_cons ?_ ?_ | exact hI.roRo (by first | exact m0 | exact m1 | exact m2 | exact m3 | exact m4 | exact m5 | exact m6 | exact m7 | exact m8 | exact m9 | exact m10 | exact m11) | exact hI.boxRo (by first | exact m0 | exact m1 | exact m2 | exact m3 | exact m4 | exact m5 | exact m6 | exact m7 | exact m8 | exact m9 | exact m10 | exact m11) | exact HInv.vecRo hI (by first | exact m0 | exact m1 | exact m2 | exact m3 | exact m4 | exact m5 | exact m6 | exact m7 | exact m8 | exact m9 | exact m10 | exact m11))))) ?_
       refine jl_op rfl rfl (.none rfl) (v_not rfl rfl tt) ?_
       refine jl_nil ?_)
    | (refine j_region (id := 2) ?_
       refine jl_op rfl rfl (.none rfl) (v_buildW (Ws := [_, _]) rfl Try.underlying28 zero28 places28 (by rfl) (by rfl) ev_nil (by rfl) (by rfl) rfl) ?_
       first | refine jl_storeS (i := 0) rfl rfl rfl (by kernel_rfl) rfl rfl rfl rfl ?_ | refine jl_storeS (i := 1) rfl rfl rfl (by kernel_rfl) rfl rfl rfl rfl ?_ | refine jl_storeS (i := 2) rfl rfl rfl (by kernel_rfl) rfl rfl rfl rfl ?_ | refine jl_storeS (i := 3) rfl rfl rfl (by kernel_rfl) rfl rfl rfl rfl ?_ | refine jl_storeS (i := 4) rfl rfl rfl (by kernel_rfl) rfl rfl rfl rfl ?_ | refine jl_storeS (i := 5) rfl rfl rfl (by kernel_rfl) rfl rfl rfl rfl ?_ | refine jl_storeS (i := 6) rfl rfl rfl (by kernel_rfl) rfl rfl rfl rfl ?_ | refine jl_storeS (i := 7) rfl rfl rfl (by kernel_rfl) rfl rfl rfl rfl ?_
       refine jl_op rfl rfl (.none rfl) (v_assign rfl rfl tt) ?_
       refine jl_nil ?_)
    | (refine j_region (id := 3) ?_
       first | refine jl_op rfl rfl (.none rfl) (v_loadS rfl Try.underlying28 (by rfl) (by kernel_rfl) rfl tt (by first | exact m0 | exact m1 | exact m2 | exact m3 | exact m4 | exact m5 | exact m6 | exact m7 | exact m8 | exact m9 | exact m10 | exact m11)) ?_ | refine jl_op rfl rfl (.none rfl) (v_loadSRo rfl Try.underlying28 (by rfl) (by kernel_rfl) rfl tt (by first | exact m0 | exact m1 | exact m2 | exact m3 | exact m4 | exact m5 | exact m6 | exact m7 | exact m8 | exact m9 | exact m10 | exact m11)) ?_
       first | refine jl_storeS (i := 0) rfl rfl rfl (by kernel_rfl) rfl rfl rfl rfl ?_ | refine jl_storeS (i := 1) rfl rfl rfl (by kernel_rfl) rfl rfl rfl rfl ?_ | refine jl_storeS (i := 2) rfl rfl rfl (by kernel_rfl) rfl rfl rfl rfl ?_ | refine jl_storeS (i := 3) rfl rfl rfl (by kernel_rfl) rfl rfl rfl rfl ?_ | refine jl_storeS (i := 4) rfl rfl rfl (by kernel_rfl) rfl rfl rfl rfl ?_ | refine jl_storeS (i := 5) rfl rfl rfl (by kernel_rfl) rfl rfl rfl rfl ?_ | refine jl_storeS (i := 6) rfl rfl rfl (by kernel_rfl) rfl rfl rfl rfl ?_ | refine jl_storeS (i := 7) rfl rfl rfl (by kernel_rfl) rfl rfl rfl rfl ?_
       refine jl_op rfl rfl (.none rfl) (v_assign rfl rfl tt) ?_
       refine jl_nil ?_)))
  all_goals first | exact jq_retM (.inl rfl) Try.results83 (ret_cell (i := 0) rfl rfl Try.underlying28 rfl (by kernel_rfl) (ret_tmp rfl rfl ret_nil)) rfl (by simp_all <;> rfl) | exact jq_retM (.inl rfl) Try.results83 (ret_cell (i := 1) rfl rfl Try.underlying28 rfl (by kernel_rfl) (ret_tmp rfl rfl ret_nil)) rfl (by simp_all <;> rfl)
theorem c_l04Give (A : Option Addr) (N cap : Nat) (g : Nat → Nat) (x : Nat) (hN : N ≤ 4294967296) : Con Try.prog 81 [.agg #[.slice A N cap, .float .f32 x]] (RoS [.ro A (tab N g)]) (.tuple #[.agg #[.slice (bif validP N g x then A else none) (bif validP N g x then N else 0) (bif validP N g x then cap else 0), F (bif validP N g x then x else 0)], .bool (validP N g x)]) := by
  refine con_intro (H := [.ro A (tab N g)]) Try.func81 (by decide) rfl rfl (fun w h => h.inv) (fun w0 _ => ?_)
  (repeat' (first
    | refine j_condLt rfl (fun _ => ?_) (fun _ => ?_)
    | refine j_condLe rfl (fun _ => ?_) (fun _ => ?_)
    | refine j_condGt rfl (fun _ => ?_) (fun _ => ?_)
    | refine j_condGe rfl (fun _ => ?_) (fun _ => ?_)
    | refine j_condNe rfl (fun _ => ?_) (fun _ => ?_)
    | refine j_condEq rfl (fun _ => ?_) (fun _ => ?_)
    | refine j_condOrLt rfl (fun _ => ?_) (fun _ => ?_)
    | refine j_condAndLt rfl (fun _ => ?_) (fun _ => ?_)
    | refine j_condAndGe rfl (fun _ => ?_) (fun _ => ?_)
    | refine j_seq ?_
    | refine jq_then ?_
    | refine j_block ?_
    | refine j_ret ?_
    | refine jq_then_ret ?_
    | refine jq_block_ret ?_
    | refine jq_block_normal ?_
    | refine jq_then_exit ?_
    | refine jq_block_same rfl ?_
    | refine jq_block_other rfl ?_
    | refine j_skip ?_
    | refine j_exit ?_
    | refine j_label ?_
    | refine j_cond rfl (fun _ => ?_) (fun _ => ?_)
    | (refine j_region (id := 0) ?_
       refine jl_boxS rfl rfl rfl rfl rfl (fun b1 => ?_)
       refine jl_alloc rfl rfl rfl rfl zero28 (by rfl) (fun b2 => ?_)
       refine jl_op rfl rfl (.none rfl) (v_assign rfl rfl tt) ?_
       refine jl_nil ?_)
    | (refine j_region (id := 1) ?_
       refine jl_op rfl rfl (.none rfl) (v_call (f := 54) (xs := [_]) rfl (c_l04Is _ _ _ _ _ _ hN) (ev_cons rfl tt ev_nil) (by intro w hc hI; first | trivial | (exfalso; simp_all; done) | (clear hc; repeat' (first | exact ros_nil | refine ros_cons ?_ ?_ | exact hI.roRo (by first | exact m0 | exact m1 | exact m2 | exact m3 | exact m4 | exact m5 | exact m6 | exact m7 | exact m8 | exact m9 | exact m10 | exact m11) | exact hI.boxRo (by first | exact m0 | exact m1 | exact m2 | exact m3 | exact m4 | exact m5 | exact m6 | exact m7 | exact m8 | exact m9 | exact m10 | exact m11) | exact HInv.vecRo hI (by first | exact m0 | exact m1 | exact m2 | exact m3 | exact m4 | exact m5 | exact m6 | exact m7 | exact m8 | exact m9 | exact m10 | exact m11))))) ?_
       refine jl_op rfl rfl (.none rfl) (v_not rfl rfl tt) ?_
       refine jl_nil ?_)
    | (refine j_region (id := 2) ?_
       refine jl_op rfl rfl (.none rfl) (v_buildW (Ws := [_, _]) rfl Try.underlying28 zero28 places28 (by rfl) (by rfl) ev_nil (by rfl) (by rfl) rfl) ?_
       first | refine jl_storeS (i := 0) rfl rfl rfl (by kernel_rfl) rfl rfl rfl rfl ?_ | refine jl_storeS (i := 1) rfl rfl rfl (by kernel_rfl) rfl rfl rfl rfl ?_ | refine jl_storeS (i := 2) rfl rfl rfl (by kernel_rfl) rfl rfl rfl rfl ?_ | refine jl_storeS (i := 3) rfl rfl rfl (by kernel_rfl) rfl rfl rfl rfl ?_ | refine jl_storeS (i := 4) rfl rfl rfl (by kernel_rfl) rfl rfl rfl rfl ?_ | refine jl_storeS (i := 5) rfl rfl rfl (by kernel_rfl) rfl rfl rfl rfl ?_ | refine jl_storeS (i := 6) rfl rfl rfl (by kernel_rfl) rfl rfl rfl rfl ?_ | refine jl_storeS (i := 7) rfl rfl rfl (by kernel_rfl) rfl rfl rfl rfl ?_
       refine jl_op rfl rfl (.none rfl) (v_assign rfl rfl tt) ?_
       refine jl_nil ?_)
    | (refine j_region (id := 3) ?_
       first | refine jl_op rfl rfl (.none rfl) (v_loadS rfl Try.underlying28 (by rfl) (by kernel_rfl) rfl tt (by first | exact m0 | exact m1 | exact m2 | exact m3 | exact m4 | exact m5 | exact m6 | exact m7 | exact m8 | exact m9 | exact m10 | exact m11)) ?_ | refine jl_op rfl rfl (.none rfl) (v_loadSRo rfl Try.underlying28 (by rfl) (by kernel_rfl) rfl tt (by first | exact m0 | exact m1 | exact m2 | exact m3 | exact m4 | exact m5 | exact m6 | exact m7 | exact m8 | exact m9 | exact m10 | exact m11)) ?_
       first | refine jl_storeS (i := 0) rfl rfl rfl (by kernel_rfl) rfl rfl rfl rfl ?_ | refine jl_storeS (i := 1) rfl rfl rfl (by kernel_rfl) rfl rfl rfl rfl ?_ | refine jl_storeS (i := 2) rfl rfl rfl (by kernel_rfl) rfl rfl rfl rfl ?_ | refine jl_storeS (i := 3) rfl rfl rfl (by kernel_rfl) rfl rfl rfl rfl ?_ | refine jl_storeS (i := 4) rfl rfl rfl (by kernel_rfl) rfl rfl rfl rfl ?_ | refine jl_storeS (i := 5) rfl rfl rfl (by kernel_rfl) rfl rfl rfl rfl ?_ | refine jl_storeS (i := 6) rfl rfl rfl (by kernel_rfl) rfl rfl rfl rfl ?_ | refine jl_storeS (i := 7) rfl rfl rfl (by kernel_rfl) rfl rfl rfl rfl ?_
       refine jl_op rfl rfl (.none rfl) (v_assign rfl rfl tt) ?_
       refine jl_nil ?_)))
  all_goals first | exact jq_retM (.inl rfl) Try.results81 (ret_cell (i := 0) rfl rfl Try.underlying28 rfl (by kernel_rfl) (ret_tmp rfl rfl ret_nil)) rfl (by simp_all <;> rfl) | exact jq_retM (.inl rfl) Try.results81 (ret_cell (i := 1) rfl rfl Try.underlying28 rfl (by kernel_rfl) (ret_tmp rfl rfl ret_nil)) rfl (by simp_all <;> rfl)
theorem c_l04Own (Bp : Nat) (A : Option Addr) (N cap : Nat) (g : Nat → Nat) (x : Nat) (hN : N ≤ 4294967296) : ConM Try.prog 80 [.pointer (some ⟨Bp, 0, none⟩)] (RoS [.ro (some ⟨Bp, 0, none⟩) [.slice A N cap, .float .f32 x], .ro A (tab N g)]) (fun s : Option Addr × Nat => .agg #[.slice s.1 N s.2, .float .f32 x]) (fun s : Option Addr × Nat => [.vec 23 s.1 s.2 (tab N g)]) := by
  refine conM_intro (H := [.ro (some ⟨Bp, 0, none⟩) [.slice A N cap, .float .f32 x], .ro A (tab N g)]) Try.func80 (by decide) rfl rfl (fun w h => h.inv) (fun w0 _ => ?_)
  (repeat' (first
    | refine j_condLt rfl (fun _ => ?_) (fun _ => ?_)
    | refine j_condLe rfl (fun _ => ?_) (fun _ => ?_)
    | refine j_condGt rfl (fun _ => ?_) (fun _ => ?_)
    | refine j_condGe rfl (fun _ => ?_) (fun _ => ?_)
    | refine j_condNe rfl (fun _ => ?_) (fun _ => ?_)
    | refine j_condEq rfl (fun _ => ?_) (fun _ => ?_)
    | refine j_condOrLt rfl (fun _ => ?_) (fun _ => ?_)
    | refine j_condAndLt rfl (fun _ => ?_) (fun _ => ?_)
    | refine j_condAndGe rfl (fun _ => ?_) (fun _ => ?_)
    | refine j_seq ?_
    | refine jq_then ?_
    | refine j_block ?_
    | refine j_ret ?_
    | refine jq_then_ret ?_
    | refine jq_block_ret ?_
    | refine jq_block_normal ?_
    | refine jq_then_exit ?_
    | refine jq_block_same rfl ?_
    | refine jq_block_other rfl ?_
    | refine j_skip ?_
    | refine j_exit ?_
    | refine j_label ?_
    | refine j_cond rfl (fun _ => ?_) (fun _ => ?_)
    | (refine j_region (id := 0) ?_
       refine jl_alloc rfl rfl rfl rfl zero28 (by rfl) (fun b2 => ?_)
       refine jl_nil ?_)
    | (refine j_drawX (id := 1) (m := 11) (by kernel_rfl) (by kernel_rfl) (fun Bq hBq => ?_)
       refine jx_x rfl rfl rfl (x_lit (Ws := []) (Z := F 0) rfl Try.underlying22 (by kernel_rfl) zero23 rfl rfl ev_nil rfl rfl rfl rfl) ?_
       refine jx_op rfl (.none rfl) (v_move rfl rfl tt) ?_
       first | refine jx_op rfl (.none rfl) (v_nilCheck rfl rfl tt) ?_ | refine jx_op rfl (.none rfl) (v_nilCheckF rfl rfl tt) ?_
       refine jx_op rfl (.none rfl) (v_fieldAddr rfl Try.underlying28 (by rfl) (by kernel_rfl) rfl tt) ?_
       first | refine jx_op rfl (.none rfl) (v_loadBox rfl Try.underlying22 (by rfl) rfl tt (by first | exact m0 | exact m1 | exact m2 | exact m3 | exact m4 | exact m5 | exact m6 | exact m7 | exact m8 | exact m9 | exact m10 | exact m11) (by rfl)) ?_ | refine jx_op rfl (.none rfl) (v_loadRoB rfl Try.underlying22 (by rfl) rfl tt (by first | exact m0 | exact m1 | exact m2 | exact m3 | exact m4 | exact m5 | exact m6 | exact m7 | exact m8 | exact m9 | exact m10 | exact m11) (by rfl)) ?_
       refine jx_app0 (t := 3) (by' := 4) (Z := F 0) rfl rfl rfl rfl rfl rfl Try.underlying22 (by kernel_rfl) zero23 rfl (by kernel_rfl) (by rfl) rfl (fun w hI => by first | exact hI.vecRo (by first | exact m0 | exact m1 | exact m2 | exact m3 | exact m4 | exact m5 | exact m6 | exact m7 | exact m8 | exact m9 | exact m10 | exact m11) | exact hI.roRo (by first | exact m0 | exact m1 | exact m2 | exact m3 | exact m4 | exact m5 | exact m6 | exact m7 | exact m8 | exact m9 | exact m10 | exact m11)) (by first | rfl | exact (tab_length ..).symm | exact (part_length ..).symm | exact (tabI_length ..).symm | exact (partI_length ..).symm | exact (List.length_replicate ..).symm) (by omega) ?_
       refine jx_op rfl (.none rfl) (v_move rfl rfl tt) ?_
       first | refine jx_op rfl (.none rfl) (v_nilCheck rfl rfl tt) ?_ | refine jx_op rfl (.none rfl) (v_nilCheckF rfl rfl tt) ?_
       refine jx_op rfl (.none rfl) (v_fieldAddr rfl Try.underlying28 (by rfl) (by kernel_rfl) rfl tt) ?_
       first | refine jx_op rfl (.none rfl) (v_loadBox rfl Try.underlying23 (by rfl) rfl tt (by first | exact m0 | exact m1 | exact m2 | exact m3 | exact m4 | exact m5 | exact m6 | exact m7 | exact m8 | exact m9 | exact m10 | exact m11) (by rfl)) ?_ | refine jx_op rfl (.none rfl) (v_loadRoB rfl Try.underlying23 (by rfl) rfl tt (by first | exact m0 | exact m1 | exact m2 | exact m3 | exact m4 | exact m5 | exact m6 | exact m7 | exact m8 | exact m9 | exact m10 | exact m11) (by rfl)) ?_
       refine jx_xv (t := 8) rfl rfl rfl hBq rfl rfl (by kernel_rfl) (fun s8 => v_buildW (Ws := [_, _]) rfl Try.underlying28 zero28 places28 (by rfl) (by rfl) (ev_cons rfl tt (ev_cons rfl tt ev_nil)) (by rfl) (by rfl) rfl) ?_
       refine jx_nil1 (d := 13) rfl hBq rfl rfl (fun b13 => ?_)
       first | refine jl_storeS (i := 0) rfl rfl rfl (by kernel_rfl) rfl rfl rfl rfl ?_ | refine jl_storeS (i := 1) rfl rfl rfl (by kernel_rfl) rfl rfl rfl rfl ?_ | refine jl_storeS (i := 2) rfl rfl rfl (by kernel_rfl) rfl rfl rfl rfl ?_ | refine jl_storeS (i := 3) rfl rfl rfl (by kernel_rfl) rfl rfl rfl rfl ?_ | refine jl_storeS (i := 4) rfl rfl rfl (by kernel_rfl) rfl rfl rfl rfl ?_ | refine jl_storeS (i := 5) rfl rfl rfl (by kernel_rfl) rfl rfl rfl rfl ?_ | refine jl_storeS (i := 6) rfl rfl rfl (by kernel_rfl) rfl rfl rfl rfl ?_ | refine jl_storeS (i := 7) rfl rfl rfl (by kernel_rfl) rfl rfl rfl rfl ?_
       refine jl_nil ?_)))
  all_goals exact jq_retMS (i := 1) b13 (.inl rfl) Try.results80 rfl rfl Try.underlying28 rfl (by kernel_rfl) rfl (fun w h => fresh_at 0 rfl rfl h)
theorem c_dampS (A : Option Addr) (N cap : Nat) (g : Nat → Nat) (x y : Nat) (hN : N ≤ 4294967296) : ConM Try.prog 35 [.agg #[.slice A N cap, F x], F y] (RoS [.ro A (tab N g)]) (strV ((validP N g x && btw y 0 1065353216) && validP N (fun j => dmp y (j + 1) (g j)) x) N (fun b => [F (bif b then x else 0)])) (listK 23 ((validP N g x && btw y 0 1065353216) && validP N (fun j => dmp y (j + 1) (g j)) x) N (fun j => dmp y (j + 1) (g j))) := by
  refine conM_intro (H := [.ro A (tab N g)]) Try.func35 (by decide) rfl rfl (fun w h => h.inv) (fun w0 _ => ?_)
  (repeat' (first
    | refine j_part (by omega) ?_
    | refine j_partI (by omega) ?_
    | (refine j_loop2 (σ := Nat) (fun i => i ≤ N) (fun i => [(1, true, F y), (4, true, .pointer (some ⟨b4, 0, none⟩)), (6, true, .pointer (some ⟨b6, 0, none⟩)), (7, true, .int .i64 (i))]) (fun i => [.box b6 28 [.slice s17.1 N s17.2, F x], .vec 23 s17.1 s17.2 (tab N (dampG y g i 0)), .box b4 28 [.slice none 0 0, F 0], .box b2 28 [.slice A N cap, F x], .ro A (tab N g)]) (fun i => N - i) 0 (by omega) (fs_cons rfl (fs_cons rfl (fs_cons rfl (fs_cons rfl fs_nil)))) (fun w h => by rw [dampG_zero]; exact h) ?_; intro i hi)
    | (exact jq_round (i + 1) (by omega) (by omega) (fs_cons rfl (fs_cons rfl (fs_cons rfl (fs_cons rfl fs_nil)))) (fun w h => by rw [← dampG_next]; obtain rfl : n = i + 1 := (by omega); exact h))
    | (refine j_loop2 (σ := Nat) (fun n => n ≤ i + 1) (fun n => [(1, true, F y), (4, true, .pointer (some ⟨b4, 0, none⟩)), (6, true, .pointer (some ⟨b6, 0, none⟩)), (7, true, .int .i64 (i)), (8, true, .int .i64 (n))]) (fun n => [.box b6 28 [.slice s17.1 N s17.2, F x], .vec 23 s17.1 s17.2 (tab N (dampG y g i n)), .box b4 28 [.slice none 0 0, F 0], .box b2 28 [.slice A N cap, F x], .ro A (tab N g)]) (fun n => i + 1 - n) 0 (by omega) (fs_cons rfl (fs_cons rfl (fs_cons rfl (fs_cons rfl (fs_cons rfl fs_nil))))) (fun _ h => h) ?_; intro n hn)
    | (exact jq_round (n + 1) (by omega) (by omega) (fs_cons rfl (fs_cons rfl (fs_cons rfl (fs_cons rfl (fs_cons rfl fs_nil))))) (fun w h => by rw [← dampG_set]; exact h))
    | refine j_condLt rfl (fun _ => ?_) (fun _ => ?_)
    | refine j_condLe rfl (fun _ => ?_) (fun _ => ?_)
    | refine j_condGt rfl (fun _ => ?_) (fun _ => ?_)
    | refine j_condGe rfl (fun _ => ?_) (fun _ => ?_)
    | refine j_condNe rfl (fun _ => ?_) (fun _ => ?_)
    | refine j_condEq rfl (fun _ => ?_) (fun _ => ?_)
    | refine j_condOrLt rfl (fun _ => ?_) (fun _ => ?_)
    | refine j_condAndLt rfl (fun _ => ?_) (fun _ => ?_)
    | refine j_condAndGe rfl (fun _ => ?_) (fun _ => ?_)
    | refine j_seq ?_
    | refine jq_then ?_
    | refine j_block ?_
    | refine j_ret ?_
    | refine jq_then_ret ?_
    | refine jq_block_ret ?_
    | refine jq_block_normal ?_
    | refine jq_then_exit ?_
    | refine jq_block_same rfl ?_
    | refine jq_block_other rfl ?_
    | refine j_skip ?_
    | refine j_exit ?_
    | refine j_label ?_
    | refine j_cond rfl (fun _ => ?_) (fun _ => ?_)
    | (refine j_region (id := 0) ?_
       refine jl_boxS rfl rfl rfl rfl rfl (fun b2 => ?_)
       refine jl_alloc rfl rfl rfl rfl zero28 (by rfl) (fun b4 => ?_)
       refine jl_op rfl rfl (.none rfl) (v_assign rfl rfl tt) ?_
       refine jl_nil ?_)
    | (refine j_region (id := 1) ?_
       refine jl_op rfl rfl (.none rfl) (v_call (f := 54) (xs := [_]) rfl (c_l04Is _ _ _ _ _ _ hN) (ev_cons rfl tt ev_nil) (by intro w hc hI; first | trivial | (exfalso; simp_all; done) | (clear hc; repeat' (first | exact ros_nil | refine ros_cons ?_ ?_ | exact hI.roRo (by first | exact m0 | exact m1 | exact m2 | exact m3 | exact m4 | exact m5 | exact m6 | exact m7 | exact m8 | exact m9 | exact m10 | exact m11) | exact hI.boxRo (by first | exact m0 | exact m1 | exact m2 | exact m3 | exact m4 | exact m5 | exact m6 | exact m7 | exact m8 | exact m9 | exact m10 | exact m11) | exact HInv.vecRo hI (by first | exact m0 | exact m1 | exact m2 | exact m3 | exact m4 | exact m5 | exact m6 | exact m7 | exact m8 | exact m9 | exact m10 | exact m11))))) ?_
       refine jl_op rfl rfl (.none rfl) (v_not rfl rfl tt) ?_
       refine jl_op rfl rfl (.none rfl) (v_move rfl rfl tt) ?_
       refine jl_op rfl rfl (.some rfl rfl rfl) (v_move rfl rfl tt) ?_
       refine jl_op rfl rfl (.some rfl rfl rfl) (v_call (f := 62) (xs := [_]) rfl (c_l02Share ..) (ev_cons rfl ii ev_nil) (by intro w hc hI; first | trivial | (exfalso; simp_all; done) | (clear hc; repeat' (first | exact ros_nil | refine ros_cons ?_ ?_ | exact hI.roRo (by first | exact m0 | exact m1 | exact m2 | exact m3 | exact m4 | exact m5 | exact m6 | exact m7 | exact m8 | exact m9 | exact m10 | exact m11) | exact hI.boxRo (by first | exact m0 | exact m1 | exact m2 | exact m3 | exact m4 | exact m5 | exact m6 | exact m7 | exact m8 | exact m9 | exact m10 | exact m11) | exact HInv.vecRo hI (by first | exact m0 | exact m1 | exact m2 | exact m3 | exact m4 | exact m5 | exact m6 | exact m7 | exact m8 | exact m9 | exact m10 | exact m11))))) ?_
       refine jl_op rfl rfl (.some rfl rfl rfl) (v_not rfl rfl ii) ?_
       refine jl_op rfl rfl (.none rfl) (v_or rfl rfl tt rfl fi) ?_
       refine jl_nil ?_)
    | (refine j_region (id := 2) ?_
       refine jl_op rfl rfl (.none rfl) (v_buildW (Ws := [_, _]) rfl Try.underlying28 zero28 places28 (by rfl) (by rfl) ev_nil (by rfl) (by rfl) rfl) ?_
       first | refine jl_storeS (i := 0) rfl rfl rfl (by kernel_rfl) rfl rfl rfl rfl ?_ | refine jl_storeS (i := 1) rfl rfl rfl (by kernel_rfl) rfl rfl rfl rfl ?_ | refine jl_storeS (i := 2) rfl rfl rfl (by kernel_rfl) rfl rfl rfl rfl ?_ | refine jl_storeS (i := 3) rfl rfl rfl (by kernel_rfl) rfl rfl rfl rfl ?_ | refine jl_storeS (i := 4) rfl rfl rfl (by kernel_rfl) rfl rfl rfl rfl ?_ | refine jl_storeS (i := 5) rfl rfl rfl (by kernel_rfl) rfl rfl rfl rfl ?_ | refine jl_storeS (i := 6) rfl rfl rfl (by kernel_rfl) rfl rfl rfl rfl ?_ | refine jl_storeS (i := 7) rfl rfl rfl (by kernel_rfl) rfl rfl rfl rfl ?_
       refine jl_op rfl rfl (.none rfl) (v_assign rfl rfl tt) ?_
       refine jl_nil ?_)
    | (refine j_region (id := 3) ?_
       refine jl_x1 rfl rfl rfl (x_call (f := 80) (xs := [_]) rfl (c_l04Own _ _ _ _ _ _ hN) (ev_cons rfl tt ev_nil) (by intro w hI; first | trivial | (repeat' (first | exact ros_nil | refine ros_cons ?_ ?_ | exact hI.roRo (by first | exact m0 | exact m1 | exact m2 | exact m3 | exact m4 | exact m5 | exact m6 | exact m7 | exact m8 | exact m9 | exact m10 | exact m11) | exact hI.boxRo (by first | exact m0 | exact m1 | exact m2 | exact m3 | exact m4 | exact m5 | exact m6 | exact m7 | exact m8 | exact m9 | exact m10 | exact m11) | exact HInv.vecRo hI (by first | exact m0 | exact m1 | exact m2 | exact m3 | exact m4 | exact m5 | exact m6 | exact m7 | exact m8 | exact m9 | exact m10 | exact m11))))) (fun s17 => ?_)
       refine jl_alloc rfl rfl rfl rfl zero28 (by rfl) (fun b6 => ?_)
       first | refine jl_storeS (i := 0) rfl rfl rfl (by kernel_rfl) rfl rfl rfl rfl ?_ | refine jl_storeS (i := 1) rfl rfl rfl (by kernel_rfl) rfl rfl rfl rfl ?_ | refine jl_storeS (i := 2) rfl rfl rfl (by kernel_rfl) rfl rfl rfl rfl ?_ | refine jl_storeS (i := 3) rfl rfl rfl (by kernel_rfl) rfl rfl rfl rfl ?_ | refine jl_storeS (i := 4) rfl rfl rfl (by kernel_rfl) rfl rfl rfl rfl ?_ | refine jl_storeS (i := 5) rfl rfl rfl (by kernel_rfl) rfl rfl rfl rfl ?_ | refine jl_storeS (i := 6) rfl rfl rfl (by kernel_rfl) rfl rfl rfl rfl ?_ | refine jl_storeS (i := 7) rfl rfl rfl (by kernel_rfl) rfl rfl rfl rfl ?_
       refine jl_nil ?_)
    | (refine j_region (id := 4) ?_
       refine jl_op rfl rfl (.none rfl) (v_assign rfl rfl tt) ?_
       refine jl_nil ?_)
    | (refine j_region (id := 5) ?_
       refine jl_op rfl rfl (.none rfl) (v_move rfl rfl tt) ?_
       refine jl_op rfl rfl (.none rfl) (v_fieldAddr rfl Try.underlying28 (by rfl) (by kernel_rfl) rfl tt) ?_
       first | refine jl_op rfl rfl (.none rfl) (v_loadBox rfl Try.underlying22 (by rfl) rfl tt (by first | exact m0 | exact m1 | exact m2 | exact m3 | exact m4 | exact m5 | exact m6 | exact m7 | exact m8 | exact m9 | exact m10 | exact m11) (by rfl)) ?_ | refine jl_op rfl rfl (.none rfl) (v_loadRoB rfl Try.underlying22 (by rfl) rfl tt (by first | exact m0 | exact m1 | exact m2 | exact m3 | exact m4 | exact m5 | exact m6 | exact m7 | exact m8 | exact m9 | exact m10 | exact m11) (by rfl)) ?_
       refine jl_op rfl rfl (.none rfl) (v_len rfl rfl Try.underlying22 rfl tt) ?_
       refine jl_op rfl rfl (.none rfl) (v_icmp rfl rfl rfl rfl tt tt) ?_
       refine jl_nil ?_)
    | (refine j_region (id := 6) ?_
       refine jl_op rfl rfl (.none rfl) (v_move rfl rfl tt) ?_
       refine jl_op rfl rfl (.none rfl) (v_iarith' rfl rfl rfl rfl tt tt (by first | exact fun _ => iw_add (by omega) | exact fun _ => rfl)) ?_
       refine jl_op rfl rfl (.none rfl) (v_assign rfl rfl tt) ?_
       refine jl_nil ?_)
    | (refine j_region (id := 7) ?_
       refine jl_op rfl rfl (.none rfl) (v_assign rfl rfl tt) ?_
       refine jl_nil ?_)
    | (refine j_region (id := 8) ?_
       refine jl_op rfl rfl (.none rfl) (v_move rfl rfl tt) ?_
       refine jl_op rfl rfl (.none rfl) (v_move rfl rfl tt) ?_
       refine jl_op rfl rfl (.none rfl) (v_icmp rfl rfl rfl rfl tt tt) ?_
       refine jl_nil ?_)
    | (refine j_region (id := 9) ?_
       refine jl_op rfl rfl (.none rfl) (v_move rfl rfl tt) ?_
       refine jl_op rfl rfl (.none rfl) (v_iarith' rfl rfl rfl rfl tt tt (by first | exact fun _ => iw_add (by omega) | exact fun _ => rfl)) ?_
       refine jl_op rfl rfl (.none rfl) (v_assign rfl rfl tt) ?_
       refine jl_nil ?_)
    | (refine j_drawT (id := 10) (m := 11) (by kernel_rfl) (by kernel_rfl) ?_
       refine ja_op rfl (.none rfl) (v_fieldAddr rfl Try.underlying28 (by rfl) (by kernel_rfl) rfl tt) ?_
       first | refine ja_op rfl (.none rfl) (v_loadBox rfl Try.underlying22 (by rfl) rfl tt (by first | exact m0 | exact m1 | exact m2 | exact m3 | exact m4 | exact m5 | exact m6 | exact m7 | exact m8 | exact m9 | exact m10 | exact m11) (by rfl)) ?_ | refine ja_op rfl (.none rfl) (v_loadRoB rfl Try.underlying22 (by rfl) rfl tt (by first | exact m0 | exact m1 | exact m2 | exact m3 | exact m4 | exact m5 | exact m6 | exact m7 | exact m8 | exact m9 | exact m10 | exact m11) (by rfl)) ?_
       refine ja_op rfl (.none rfl) (v_move rfl rfl tt) ?_
       refine ja_op rfl (.none rfl) (v_fieldAddr rfl Try.underlying28 (by rfl) (by kernel_rfl) rfl tt) ?_
       first | refine ja_op rfl (.none rfl) (v_loadBox rfl Try.underlying22 (by rfl) rfl tt (by first | exact m0 | exact m1 | exact m2 | exact m3 | exact m4 | exact m5 | exact m6 | exact m7 | exact m8 | exact m9 | exact m10 | exact m11) (by rfl)) ?_ | refine ja_op rfl (.none rfl) (v_loadRoB rfl Try.underlying22 (by rfl) rfl tt (by first | exact m0 | exact m1 | exact m2 | exact m3 | exact m4 | exact m5 | exact m6 | exact m7 | exact m8 | exact m9 | exact m10 | exact m11) (by rfl)) ?_
       refine ja_op rfl (.none rfl) (v_move rfl rfl tt) ?_
       refine ja_op rfl (.none rfl) (v_indexAddr rfl Try.underlying22 (by kernel_rfl) rfl rfl tt tt (by first | exact hA_some | exact hA_roT (by first | exact m0 | exact m1 | exact m2 | exact m3 | exact m4 | exact m5 | exact m6 | exact m7 | exact m8 | exact m9 | exact m10 | exact m11) | exact hA_vecT (by first | exact m0 | exact m1 | exact m2 | exact m3 | exact m4 | exact m5 | exact m6 | exact m7 | exact m8 | exact m9 | exact m10 | exact m11) | exact hA_vecP (by first | exact m0 | exact m1 | exact m2 | exact m3 | exact m4 | exact m5 | exact m6 | exact m7 | exact m8 | exact m9 | exact m10 | exact m11) | exact hA_roI (by first | exact m0 | exact m1 | exact m2 | exact m3 | exact m4 | exact m5 | exact m6 | exact m7 | exact m8 | exact m9 | exact m10 | exact m11) | exact hA_vecI (by first | exact m0 | exact m1 | exact m2 | exact m3 | exact m4 | exact m5 | exact m6 | exact m7 | exact m8 | exact m9 | exact m10 | exact m11) | exact hA_vecPI (by first | exact m0 | exact m1 | exact m2 | exact m3 | exact m4 | exact m5 | exact m6 | exact m7 | exact m8 | exact m9 | exact m10 | exact m11) | exact hA_vecPS (by first | exact m0 | exact m1 | exact m2 | exact m3 | exact m4 | exact m5 | exact m6 | exact m7 | exact m8 | exact m9 | exact m10 | exact m11) | exact hA_ro (by first | exact m0 | exact m1 | exact m2 | exact m3 | exact m4 | exact m5 | exact m6 | exact m7 | exact m8 | exact m9 | exact m10 | exact m11) | exact hA_vec (by first | exact m0 | exact m1 | exact m2 | exact m3 | exact m4 | exact m5 | exact m6 | exact m7 | exact m8 | exact m9 | exact m10 | exact m11)) (fun _hc => ⟨(by first | with_reducible rfl | exact (Int.toNat_of_nonneg (by omega)).symm | (have hc := g_gt _hc; exact (Int.toNat_of_nonneg (by omega)).symm)), (by first | omega | (rw [tab_length]; omega) | (rw [part_length]; omega) | (rw [tabI_length]; omega) | (rw [partI_length]; omega) | (rw [List.length_set, part_length]; omega))⟩)) ?_
       first | refine ja_op rfl (.none rfl) (v_loadVec rfl Try.underlying23 (by rfl) rfl tt (by first | exact m0 | exact m1 | exact m2 | exact m3 | exact m4 | exact m5 | exact m6 | exact m7 | exact m8 | exact m9 | exact m10 | exact m11) (fun _ => (by first | with_reducible exact part_get_ge (by omega) (by omega) | with_reducible exact tab_get (by omega) | with_reducible exact tabI_get (by omega) | with_reducible exact part_get (by omega) | exact part_get_ge (by omega) (by omega) | exact tab_get (by omega) | exact tabI_get (by omega) | exact part_get (by omega) | exact part_set_get (by omega) | exact partI_get (by omega) | assumption | rfl))) ?_ | refine ja_op rfl (.none rfl) (v_loadRo rfl Try.underlying23 (by rfl) rfl tt (by first | exact m0 | exact m1 | exact m2 | exact m3 | exact m4 | exact m5 | exact m6 | exact m7 | exact m8 | exact m9 | exact m10 | exact m11) (fun _ => (by first | with_reducible exact part_get_ge (by omega) (by omega) | with_reducible exact tab_get (by omega) | with_reducible exact tabI_get (by omega) | with_reducible exact part_get (by omega) | exact part_get_ge (by omega) (by omega) | exact tab_get (by omega) | exact tabI_get (by omega) | exact part_get (by omega) | exact part_set_get (by omega) | exact partI_get (by omega) | assumption | rfl))) ?_
       refine ja_op rfl (.none rfl) (v_move rfl rfl tt) ?_
       refine ja_op rfl (.none rfl) (v_farith rfl rfl rfl rfl tt tt) ?_
       refine ja_op rfl (.none rfl) (v_indexAddr rfl Try.underlying22 (by kernel_rfl) rfl rfl tt tt (by first | exact hA_some | exact hA_roT (by first | exact m0 | exact m1 | exact m2 | exact m3 | exact m4 | exact m5 | exact m6 | exact m7 | exact m8 | exact m9 | exact m10 | exact m11) | exact hA_vecT (by first | exact m0 | exact m1 | exact m2 | exact m3 | exact m4 | exact m5 | exact m6 | exact m7 | exact m8 | exact m9 | exact m10 | exact m11) | exact hA_vecP (by first | exact m0 | exact m1 | exact m2 | exact m3 | exact m4 | exact m5 | exact m6 | exact m7 | exact m8 | exact m9 | exact m10 | exact m11) | exact hA_roI (by first | exact m0 | exact m1 | exact m2 | exact m3 | exact m4 | exact m5 | exact m6 | exact m7 | exact m8 | exact m9 | exact m10 | exact m11) | exact hA_vecI (by first | exact m0 | exact m1 | exact m2 | exact m3 | exact m4 | exact m5 | exact m6 | exact m7 | exact m8 | exact m9 | exact m10 | exact m11) | exact hA_vecPI (by first | exact m0 | exact m1 | exact m2 | exact m3 | exact m4 | exact m5 | exact m6 | exact m7 | exact m8 | exact m9 | exact m10 | exact m11) | exact hA_vecPS (by first | exact m0 | exact m1 | exact m2 | exact m3 | exact m4 | exact m5 | exact m6 | exact m7 | exact m8 | exact m9 | exact m10 | exact m11) | exact hA_ro (by first | exact m0 | exact m1 | exact m2 | exact m3 | exact m4 | exact m5 | exact m6 | exact m7 | exact m8 | exact m9 | exact m10 | exact m11) | exact hA_vec (by first | exact m0 | exact m1 | exact m2 | exact m3 | exact m4 | exact m5 | exact m6 | exact m7 | exact m8 | exact m9 | exact m10 | exact m11)) (fun _hc => ⟨(by first | with_reducible rfl | exact (Int.toNat_of_nonneg (by omega)).symm | (have hc := g_gt _hc; exact (Int.toNat_of_nonneg (by omega)).symm)), (by first | omega | (rw [tab_length]; omega) | (rw [part_length]; omega) | (rw [tabI_length]; omega) | (rw [partI_length]; omega) | (rw [List.length_set, part_length]; omega))⟩)) ?_
       refine ja_nilT rfl ?_
       first | refine jl_storeVec (i := 0) rfl rfl rfl (by kernel_rfl) rfl rfl rfl rfl (by first | omega | (rw [tab_length]; omega) | (rw [part_length]; omega) | (rw [tabI_length]; omega) | (rw [partI_length]; omega) | (rw [List.length_set, part_length]; omega)) ?_ | refine jl_storeVec (i := 1) rfl rfl rfl (by kernel_rfl) rfl rfl rfl rfl (by first | omega | (rw [tab_length]; omega) | (rw [part_length]; omega) | (rw [tabI_length]; omega) | (rw [partI_length]; omega) | (rw [List.length_set, part_length]; omega)) ?_ | refine jl_storeVec (i := 2) rfl rfl rfl (by kernel_rfl) rfl rfl rfl rfl (by first | omega | (rw [tab_length]; omega) | (rw [part_length]; omega) | (rw [tabI_length]; omega) | (rw [partI_length]; omega) | (rw [List.length_set, part_length]; omega)) ?_ | refine jl_storeVec (i := 3) rfl rfl rfl (by kernel_rfl) rfl rfl rfl rfl (by first | omega | (rw [tab_length]; omega) | (rw [part_length]; omega) | (rw [tabI_length]; omega) | (rw [partI_length]; omega) | (rw [List.length_set, part_length]; omega)) ?_ | refine jl_storeVec (i := 4) rfl rfl rfl (by kernel_rfl) rfl rfl rfl rfl (by first | omega | (rw [tab_length]; omega) | (rw [part_length]; omega) | (rw [tabI_length]; omega) | (rw [partI_length]; omega) | (rw [List.length_set, part_length]; omega)) ?_ | refine jl_storeVec (i := 5) rfl rfl rfl (by kernel_rfl) rfl rfl rfl rfl (by first | omega | (rw [tab_length]; omega) | (rw [part_length]; omega) | (rw [tabI_length]; omega) | (rw [partI_length]; omega) | (rw [List.length_set, part_length]; omega)) ?_ | refine jl_storeVec (i := 6) rfl rfl rfl (by kernel_rfl) rfl rfl rfl rfl (by first | omega | (rw [tab_length]; omega) | (rw [part_length]; omega) | (rw [tabI_length]; omega) | (rw [partI_length]; omega) | (rw [List.length_set, part_length]; omega)) ?_ | refine jl_storeVec (i := 7) rfl rfl rfl (by kernel_rfl) rfl rfl rfl rfl (by first | omega | (rw [tab_length]; omega) | (rw [part_length]; omega) | (rw [tabI_length]; omega) | (rw [partI_length]; omega) | (rw [List.length_set, part_length]; omega)) ?_
       refine jl_nil ?_)
    | (refine j_region (id := 11) ?_
       first | refine jl_op rfl rfl (.none rfl) (v_loadS rfl Try.underlying28 (by rfl) (by kernel_rfl) rfl tt (by first | exact m0 | exact m1 | exact m2 | exact m3 | exact m4 | exact m5 | exact m6 | exact m7 | exact m8 | exact m9 | exact m10 | exact m11)) ?_ | refine jl_op rfl rfl (.none rfl) (v_loadSRo rfl Try.underlying28 (by rfl) (by kernel_rfl) rfl tt (by first | exact m0 | exact m1 | exact m2 | exact m3 | exact m4 | exact m5 | exact m6 | exact m7 | exact m8 | exact m9 | exact m10 | exact m11)) ?_
       refine jl_op rfl rfl (.none rfl) (v_call (f := 81) (xs := [_]) rfl (c_l04Give _ _ _ _ _ hN) (ev_cons rfl tt ev_nil) (by intro w hc hI; first | trivial | (exfalso; simp_all; done) | (clear hc; repeat' (first | exact ros_nil | refine ros_cons ?_ ?_ | exact hI.roRo (by first | exact m0 | exact m1 | exact m2 | exact m3 | exact m4 | exact m5 | exact m6 | exact m7 | exact m8 | exact m9 | exact m10 | exact m11) | exact hI.boxRo (by first | exact m0 | exact m1 | exact m2 | exact m3 | exact m4 | exact m5 | exact m6 | exact m7 | exact m8 | exact m9 | exact m10 | exact m11) | exact HInv.vecRo hI (by first | exact m0 | exact m1 | exact m2 | exact m3 | exact m4 | exact m5 | exact m6 | exact m7 | exact m8 | exact m9 | exact m10 | exact m11))))) ?_
       refine jl_op rfl rfl (.none rfl) (v_extract rfl rfl tt rfl) ?_
       refine jl_op rfl rfl (.none rfl) (v_extract rfl rfl tt rfl) ?_
       first | refine jl_storeS (i := 0) rfl rfl rfl (by kernel_rfl) rfl rfl rfl rfl ?_ | refine jl_storeS (i := 1) rfl rfl rfl (by kernel_rfl) rfl rfl rfl rfl ?_ | refine jl_storeS (i := 2) rfl rfl rfl (by kernel_rfl) rfl rfl rfl rfl ?_ | refine jl_storeS (i := 3) rfl rfl rfl (by kernel_rfl) rfl rfl rfl rfl ?_ | refine jl_storeS (i := 4) rfl rfl rfl (by kernel_rfl) rfl rfl rfl rfl ?_ | refine jl_storeS (i := 5) rfl rfl rfl (by kernel_rfl) rfl rfl rfl rfl ?_ | refine jl_storeS (i := 6) rfl rfl rfl (by kernel_rfl) rfl rfl rfl rfl ?_ | refine jl_storeS (i := 7) rfl rfl rfl (by kernel_rfl) rfl rfl rfl rfl ?_
       refine jl_op rfl rfl (.none rfl) (v_assign rfl rfl tt) ?_
       refine jl_nil ?_)))
  all_goals first | exact retS_no 0 Try.results35 rfl rfl rfl Try.underlying28 rfl (by kernel_rfl) (damp_no (by assumption)) rfl | (obtain rfl : i = N := (by omega); first | exact retS_yes 2 1 Try.results35 rfl rfl rfl Try.underlying28 rfl (by kernel_rfl) rfl dampG_end (damp_yes (by assumption)) rfl | exact retS_yes 2 1 Try.results35 rfl rfl rfl Try.underlying28 rfl (by kernel_rfl) rfl rfl (damp_yes2 (by assumption)) rfl)
theorem c_dampI (a : Addr) (N cap : Nat) (g : Nat → Nat) (x y : Nat) (hN : N ≤ 4294967296) : ConM Try.prog 36 [.agg #[.slice (some a) N cap, F x], F y] (RoS [.ro (some a) (tab N g)]) (strV ((validP N g x && btw y 0 1065353216) && validP N (fun j => dmp y (j + 1) (g j)) x) N (fun b => [F (bif b then x else 0)])) (listK 23 ((validP N g x && btw y 0 1065353216) && validP N (fun j => dmp y (j + 1) (g j)) x) N (fun j => dmp y (j + 1) (g j))) := by
  refine conM_intro (H := [.ro (some a) (tab N g)]) Try.func36 (by decide) rfl rfl (fun w h => h.inv) (fun w0 _ => ?_)
  (repeat' (first
    | refine j_part (by omega) ?_
    | refine j_partI (by omega) ?_
    | (refine j_loop2 (σ := Nat) (fun i => i ≤ N) (fun i => [(1, true, F y), (4, true, .pointer (some ⟨b4, 0, none⟩)), (6, true, .pointer (some ⟨b6, 0, none⟩)), (25, true, .int .i64 (N)), (26, true, .int .i64 (i))]) (fun i => [.vec 23 b22.1 b22.2 (tab N (dampG y g i 0)), .box b6 28 [.slice b22.1 N b22.2, F x], .box b4 28 [.slice none 0 0, F 0], .box b2 28 [.slice (some a) N cap, F x], .ro (some a) (tab N g)]) (fun i => N - i) 0 (by omega) (fs_cons rfl (fs_cons rfl (fs_cons rfl (fs_cons rfl (fs_cons rfl fs_nil))))) (fun w h => by rw [dampG_zero]; exact h) ?_; intro i hi)
    | (exact jq_round (i + 1) (by omega) (by omega) (fs_cons rfl (fs_cons rfl (fs_cons rfl (fs_cons rfl (fs_cons rfl fs_nil))))) (fun w h => by rw [← dampG_next]; obtain rfl : n = i + 1 := (by omega); exact h))
    | (refine j_loop2 (σ := Nat) (fun n => n ≤ i + 1) (fun n => [(1, true, F y), (4, true, .pointer (some ⟨b4, 0, none⟩)), (6, true, .pointer (some ⟨b6, 0, none⟩)), (25, true, .int .i64 (N)), (26, true, .int .i64 (i)), (7, true, .int .i64 (i)), (30, true, .int .i64 ((i : Int) + 1)), (31, true, .int .i64 (n))]) (fun n => [.vec 23 b22.1 b22.2 (tab N (dampG y g i n)), .box b6 28 [.slice b22.1 N b22.2, F x], .box b4 28 [.slice none 0 0, F 0], .box b2 28 [.slice (some a) N cap, F x], .ro (some a) (tab N g)]) (fun n => i + 1 - n) 0 (by omega) (fs_cons rfl (fs_cons rfl (fs_cons rfl (fs_cons rfl (fs_cons rfl (fs_cons rfl (fs_cons rfl (fs_cons rfl fs_nil)))))))) (fun _ h => h) ?_; intro n hn)
    | (exact jq_round (n + 1) (by omega) (by omega) (fs_cons rfl (fs_cons rfl (fs_cons rfl (fs_cons rfl (fs_cons rfl (fs_cons rfl (fs_cons rfl (fs_cons rfl fs_nil)))))))) (fun w h => by rw [← dampG_set]; exact h))
    | refine j_condLt rfl (fun _ => ?_) (fun _ => ?_)
    | refine j_condLe rfl (fun _ => ?_) (fun _ => ?_)
    | refine j_condGt rfl (fun _ => ?_) (fun _ => ?_)
    | refine j_condGe rfl (fun _ => ?_) (fun _ => ?_)
    | refine j_condNe rfl (fun _ => ?_) (fun _ => ?_)
    | refine j_condEq rfl (fun _ => ?_) (fun _ => ?_)
    | refine j_condOrLt rfl (fun _ => ?_) (fun _ => ?_)
    | refine j_condAndLt rfl (fun _ => ?_) (fun _ => ?_)
    | refine j_condAndGe rfl (fun _ => ?_) (fun _ => ?_)
    | refine j_seq ?_
    | refine jq_then ?_
    | refine j_block ?_
    | refine j_ret ?_
    | refine jq_then_ret ?_
    | refine jq_block_ret ?_
    | refine jq_block_normal ?_
    | refine jq_then_exit ?_
    | refine jq_block_same rfl ?_
    | refine jq_block_other rfl ?_
    | refine j_skip ?_
    | refine j_exit ?_
    | refine j_label ?_
    | refine j_cond rfl (fun _ => ?_) (fun _ => ?_)
    | (refine j_region (id := 0) ?_
       refine jl_boxS rfl rfl rfl rfl rfl (fun b2 => ?_)
       refine jl_alloc rfl rfl rfl rfl zero28 (by rfl) (fun b4 => ?_)
       refine jl_op rfl rfl (.none rfl) (v_assign rfl rfl tt) ?_
       refine jl_nil ?_)
    | (refine j_region (id := 1) ?_
       first | refine jl_op rfl rfl (.none rfl) (v_loadS rfl Try.underlying28 (by rfl) (by kernel_rfl) rfl tt (by first | exact m0 | exact m1 | exact m2 | exact m3 | exact m4 | exact m5 | exact m6 | exact m7 | exact m8 | exact m9 | exact m10 | exact m11)) ?_ | refine jl_op rfl rfl (.none rfl) (v_loadSRo rfl Try.underlying28 (by rfl) (by kernel_rfl) rfl tt (by first | exact m0 | exact m1 | exact m2 | exact m3 | exact m4 | exact m5 | exact m6 | exact m7 | exact m8 | exact m9 | exact m10 | exact m11)) ?_
       refine jl_op rfl rfl (.none rfl) (v_call (f := 18) (xs := [_]) rfl (c_validPI _ _ _ _ _ hN) (ev_cons rfl tt ev_nil) (by intro w hc hI; first | trivial | (exfalso; simp_all; done) | (clear hc; repeat' (first | exact ros_nil | refine ros_cons ?_ ?_ | exact hI.roRo (by first | exact m0 | exact m1 | exact m2 | exact m3 | exact m4 | exact m5 | exact m6 | exact m7 | exact m8 | exact m9 | exact m10 | exact m11) | exact hI.boxRo (by first | exact m0 | exact m1 | exact m2 | exact m3 | exact m4 | exact m5 | exact m6 | exact m7 | exact m8 | exact m9 | exact m10 | exact m11) | exact HInv.vecRo hI (by first | exact m0 | exact m1 | exact m2 | exact m3 | exact m4 | exact m5 | exact m6 | exact m7 | exact m8 | exact m9 | exact m10 | exact m11))))) ?_
       refine jl_op rfl rfl (.none rfl) (v_not rfl rfl tt) ?_
       refine jl_op rfl rfl (.none rfl) (v_move rfl rfl tt) ?_
       refine jl_op rfl rfl (.some rfl rfl rfl) (v_move rfl rfl tt) ?_
       refine jl_op rfl rfl (.some rfl rfl rfl) (v_call (f := 65) (xs := [_, _, _]) rfl (c_isBetween ..) (ev_cons rfl ii (ev_cons rfl tt (ev_cons rfl tt ev_nil))) (by intro w hc hI; first | trivial | (exfalso; simp_all; done) | (clear hc; repeat' (first | exact ros_nil | refine ros_cons ?_ ?_ | exact hI.roRo (by first | exact m0 | exact m1 | exact m2 | exact m3 | exact m4 | exact m5 | exact m6 | exact m7 | exact m8 | exact m9 | exact m10 | exact m11) | exact hI.boxRo (by first | exact m0 | exact m1 | exact m2 | exact m3 | exact m4 | exact m5 | exact m6 | exact m7 | exact m8 | exact m9 | exact m10 | exact m11) | exact HInv.vecRo hI (by first | exact m0 | exact m1 | exact m2 | exact m3 | exact m4 | exact m5 | exact m6 | exact m7 | exact m8 | exact m9 | exact m10 | exact m11))))) ?_
       refine jl_op rfl rfl (.some rfl rfl rfl) (v_not rfl rfl ii) ?_
       refine jl_op rfl rfl (.none rfl) (v_or rfl rfl tt rfl fi) ?_
       refine jl_nil ?_)
    | (refine j_region (id := 2) ?_
       refine jl_op rfl rfl (.none rfl) (v_buildW (Ws := [_, _]) rfl Try.underlying28 zero28 places28 (by rfl) (by rfl) ev_nil (by rfl) (by rfl) rfl) ?_
       first | refine jl_storeS (i := 0) rfl rfl rfl (by kernel_rfl) rfl rfl rfl rfl ?_ | refine jl_storeS (i := 1) rfl rfl rfl (by kernel_rfl) rfl rfl rfl rfl ?_ | refine jl_storeS (i := 2) rfl rfl rfl (by kernel_rfl) rfl rfl rfl rfl ?_ | refine jl_storeS (i := 3) rfl rfl rfl (by kernel_rfl) rfl rfl rfl rfl ?_ | refine jl_storeS (i := 4) rfl rfl rfl (by kernel_rfl) rfl rfl rfl rfl ?_ | refine jl_storeS (i := 5) rfl rfl rfl (by kernel_rfl) rfl rfl rfl rfl ?_ | refine jl_storeS (i := 6) rfl rfl rfl (by kernel_rfl) rfl rfl rfl rfl ?_ | refine jl_storeS (i := 7) rfl rfl rfl (by kernel_rfl) rfl rfl rfl rfl ?_
       refine jl_op rfl rfl (.none rfl) (v_assign rfl rfl tt) ?_
       refine jl_nil ?_)
    | (refine j_drawZ (id := 3) (m := 7) [(19, [2]), (22, [5, 2]), (6, [6])] [none, none, some [], none, none, some [19], some []] (by kernel_rfl) (by kernel_rfl) (fun Bq hBq => ?_)
       refine jz_op rfl (.none rfl) (v_fieldAddr rfl Try.underlying28 (by rfl) (by kernel_rfl) rfl tt) ?_
       first | refine jz_op rfl (.none rfl) (v_loadBox rfl Try.underlying22 (by rfl) rfl tt (by first | exact m0 | exact m1 | exact m2 | exact m3 | exact m4 | exact m5 | exact m6 | exact m7 | exact m8 | exact m9 | exact m10 | exact m11) (by rfl)) ?_ | refine jz_op rfl (.none rfl) (v_loadRoB rfl Try.underlying22 (by rfl) rfl tt (by first | exact m0 | exact m1 | exact m2 | exact m3 | exact m4 | exact m5 | exact m6 | exact m7 | exact m8 | exact m9 | exact m10 | exact m11) (by rfl)) ?_
       refine jz_x rfl rfl rfl (x_call (f := 82) (xs := [_]) rfl (c_clone _ _ _ _ hN) (ev_cons rfl tt ev_nil) (by intro w hI; first | trivial | (repeat' (first | exact ros_nil | refine ros_cons ?_ ?_ | exact hI.roRo (by first | exact m0 | exact m1 | exact m2 | exact m3 | exact m4 | exact m5 | exact m6 | exact m7 | exact m8 | exact m9 | exact m10 | exact m11) | exact hI.boxRo (by first | exact m0 | exact m1 | exact m2 | exact m3 | exact m4 | exact m5 | exact m6 | exact m7 | exact m8 | exact m9 | exact m10 | exact m11) | exact HInv.vecRo hI (by first | exact m0 | exact m1 | exact m2 | exact m3 | exact m4 | exact m5 | exact m6 | exact m7 | exact m8 | exact m9 | exact m10 | exact m11))))) (by first | exact fun _ _ h => ⟨_, .head _, h⟩ | exact fun _ _ h => ⟨_, .head _, inV_agg1 rfl h⟩ | exact fun _ _ h => (inV_agg2 h).elim (fun h => ⟨_, .head _, h⟩) (fun h => ⟨_, .tail _ (.head _), h⟩) | exact fun _ _ h => (inV_agg2 h).elim (fun h => ⟨_, .tail _ (.head _), h⟩) (fun h => ⟨_, .head _, h⟩)) ?_
       refine jz_op rfl (.none rfl) (v_fieldAddr rfl Try.underlying28 (by rfl) (by kernel_rfl) rfl tt) ?_
       first | refine jz_op rfl (.none rfl) (v_loadBox rfl Try.underlying23 (by rfl) rfl tt (by first | exact m0 | exact m1 | exact m2 | exact m3 | exact m4 | exact m5 | exact m6 | exact m7 | exact m8 | exact m9 | exact m10 | exact m11) (by rfl)) ?_ | refine jz_op rfl (.none rfl) (v_loadRoB rfl Try.underlying23 (by rfl) rfl tt (by first | exact m0 | exact m1 | exact m2 | exact m3 | exact m4 | exact m5 | exact m6 | exact m7 | exact m8 | exact m9 | exact m10 | exact m11) (by rfl)) ?_
       refine jz_xv (t := 19) rfl rfl rfl hBq rfl rfl (by kernel_rfl) (fun s19 => v_buildW (Ws := [_, _]) rfl Try.underlying28 zero28 places28 (by rfl) (by rfl) (ev_cons rfl tt (ev_cons rfl tt ev_nil)) (by rfl) (by rfl) rfl) (by first | exact fun _ _ h => h | exact fun _ _ h => inV_agg1 rfl h | exact fun _ _ h => inV_agg1' (inV_agg1 rfl h)) ?_
       refine jz_x rfl rfl rfl (x_alloc rfl zero28 (by rfl)) (by first | exact fun _ _ h => ⟨_, .head _, h⟩ | exact fun _ _ h => ⟨_, .head _, inV_agg1 rfl h⟩ | exact fun _ _ h => (inV_agg2 h).elim (fun h => ⟨_, .head _, h⟩) (fun h => ⟨_, .tail _ (.head _), h⟩) | exact fun _ _ h => (inV_agg2 h).elim (fun h => ⟨_, .tail _ (.head _), h⟩) (fun h => ⟨_, .head _, h⟩)) ?_
       refine jz_nil2 (d1 := 22) (d2 := 6) rfl hBq rfl rfl rfl rfl (by kernel_rfl) (fun s f hf k hk => by first | (obtain rfl := mem1 hf; first | exact hk | exact inV_agg1' hk) | (rcases mem2 hf with rfl | rfl; exact inV_agg2l hk; exact inV_agg2r hk)) (fun s f hf k hk => by first | (obtain rfl := mem1 hf; first | exact hk | exact inV_agg1' hk) | (rcases mem2 hf with rfl | rfl; exact inV_agg2l hk; exact inV_agg2r hk)) (fun b22 b6 => ?_)
       first | refine jl_storeS (i := 0) rfl rfl rfl (by kernel_rfl) rfl rfl rfl rfl ?_ | refine jl_storeS (i := 1) rfl rfl rfl (by kernel_rfl) rfl rfl rfl rfl ?_ | refine jl_storeS (i := 2) rfl rfl rfl (by kernel_rfl) rfl rfl rfl rfl ?_ | refine jl_storeS (i := 3) rfl rfl rfl (by kernel_rfl) rfl rfl rfl rfl ?_ | refine jl_storeS (i := 4) rfl rfl rfl (by kernel_rfl) rfl rfl rfl rfl ?_ | refine jl_storeS (i := 5) rfl rfl rfl (by kernel_rfl) rfl rfl rfl rfl ?_ | refine jl_storeS (i := 6) rfl rfl rfl (by kernel_rfl) rfl rfl rfl rfl ?_ | refine jl_storeS (i := 7) rfl rfl rfl (by kernel_rfl) rfl rfl rfl rfl ?_
       refine jl_nil ?_)
    | (refine j_region (id := 4) ?_
       refine jl_op rfl rfl (.none rfl) (v_fieldAddr rfl Try.underlying28 (by rfl) (by kernel_rfl) rfl tt) ?_
       first | refine jl_op rfl rfl (.none rfl) (v_loadBox rfl Try.underlying22 (by rfl) rfl tt (by first | exact m0 | exact m1 | exact m2 | exact m3 | exact m4 | exact m5 | exact m6 | exact m7 | exact m8 | exact m9 | exact m10 | exact m11) (by rfl)) ?_ | refine jl_op rfl rfl (.none rfl) (v_loadRoB rfl Try.underlying22 (by rfl) rfl tt (by first | exact m0 | exact m1 | exact m2 | exact m3 | exact m4 | exact m5 | exact m6 | exact m7 | exact m8 | exact m9 | exact m10 | exact m11) (by rfl)) ?_
       refine jl_op rfl rfl (.none rfl) (v_len rfl rfl Try.underlying22 rfl tt) ?_
       refine jl_op rfl rfl (.none rfl) (v_move rfl rfl tt) ?_
       refine jl_nil ?_)
    | (refine j_region (id := 5) ?_
       refine jl_op rfl rfl (.none rfl) (v_icmp rfl rfl rfl rfl tt tt) ?_
       refine jl_nil ?_)
    | (refine j_region (id := 6) ?_
       refine jl_op rfl rfl (.none rfl) (v_move rfl rfl tt) ?_
       refine jl_op rfl rfl (.none rfl) (v_assign rfl rfl tt) ?_
       refine jl_nil ?_)
    | (refine j_region (id := 7) ?_
       refine jl_op rfl rfl (.none rfl) (v_move rfl rfl tt) ?_
       refine jl_op rfl rfl (.none rfl) (v_iarith' rfl rfl rfl rfl tt tt (by first | exact fun _ => iw_add (by omega) | exact fun _ => rfl)) ?_
       refine jl_op rfl rfl (.none rfl) (v_move rfl rfl tt) ?_
       refine jl_nil ?_)
    | (refine j_region (id := 8) ?_
       refine jl_op rfl rfl (.none rfl) (v_icmp rfl rfl rfl rfl tt tt) ?_
       refine jl_nil ?_)
    | (refine j_drawT (id := 9) (m := 11) (by kernel_rfl) (by kernel_rfl) ?_
       refine ja_op rfl (.none rfl) (v_fieldAddr rfl Try.underlying28 (by rfl) (by kernel_rfl) rfl tt) ?_
       first | refine ja_op rfl (.none rfl) (v_loadBox rfl Try.underlying22 (by rfl) rfl tt (by first | exact m0 | exact m1 | exact m2 | exact m3 | exact m4 | exact m5 | exact m6 | exact m7 | exact m8 | exact m9 | exact m10 | exact m11) (by rfl)) ?_ | refine ja_op rfl (.none rfl) (v_loadRoB rfl Try.underlying22 (by rfl) rfl tt (by first | exact m0 | exact m1 | exact m2 | exact m3 | exact m4 | exact m5 | exact m6 | exact m7 | exact m8 | exact m9 | exact m10 | exact m11) (by rfl)) ?_
       refine ja_op rfl (.none rfl) (v_move rfl rfl tt) ?_
       refine ja_op rfl (.none rfl) (v_fieldAddr rfl Try.underlying28 (by rfl) (by kernel_rfl) rfl tt) ?_
       first | refine ja_op rfl (.none rfl) (v_loadBox rfl Try.underlying22 (by rfl) rfl tt (by first | exact m0 | exact m1 | exact m2 | exact m3 | exact m4 | exact m5 | exact m6 | exact m7 | exact m8 | exact m9 | exact m10 | exact m11) (by rfl)) ?_ | refine ja_op rfl (.none rfl) (v_loadRoB rfl Try.underlying22 (by rfl) rfl tt (by first | exact m0 | exact m1 | exact m2 | exact m3 | exact m4 | exact m5 | exact m6 | exact m7 | exact m8 | exact m9 | exact m10 | exact m11) (by rfl)) ?_
       refine ja_op rfl (.none rfl) (v_move rfl rfl tt) ?_
       refine ja_op rfl (.none rfl) (v_indexAddr rfl Try.underlying22 (by kernel_rfl) rfl rfl tt tt (by first | exact hA_some | exact hA_roT (by first | exact m0 | exact m1 | exact m2 | exact m3 | exact m4 | exact m5 | exact m6 | exact m7 | exact m8 | exact m9 | exact m10 | exact m11) | exact hA_vecT (by first | exact m0 | exact m1 | exact m2 | exact m3 | exact m4 | exact m5 | exact m6 | exact m7 | exact m8 | exact m9 | exact m10 | exact m11) | exact hA_vecP (by first | exact m0 | exact m1 | exact m2 | exact m3 | exact m4 | exact m5 | exact m6 | exact m7 | exact m8 | exact m9 | exact m10 | exact m11) | exact hA_roI (by first | exact m0 | exact m1 | exact m2 | exact m3 | exact m4 | exact m5 | exact m6 | exact m7 | exact m8 | exact m9 | exact m10 | exact m11) | exact hA_vecI (by first | exact m0 | exact m1 | exact m2 | exact m3 | exact m4 | exact m5 | exact m6 | exact m7 | exact m8 | exact m9 | exact m10 | exact m11) | exact hA_vecPI (by first | exact m0 | exact m1 | exact m2 | exact m3 | exact m4 | exact m5 | exact m6 | exact m7 | exact m8 | exact m9 | exact m10 | exact m11) | exact hA_vecPS (by first | exact m0 | exact m1 | exact m2 | exact m3 | exact m4 | exact m5 | exact m6 | exact m7 | exact m8 | exact m9 | exact m10 | exact m11) | exact hA_ro (by first | exact m0 | exact m1 | exact m2 | exact m3 | exact m4 | exact m5 | exact m6 | exact m7 | exact m8 | exact m9 | exact m10 | exact m11) | exact hA_vec (by first | exact m0 | exact m1 | exact m2 | exact m3 | exact m4 | exact m5 | exact m6 | exact m7 | exact m8 | exact m9 | exact m10 | exact m11)) (fun _hc => ⟨(by first | with_reducible rfl | exact (Int.toNat_of_nonneg (by omega)).symm | (have hc := g_gt _hc; exact (Int.toNat_of_nonneg (by omega)).symm)), (by first | omega | (rw [tab_length]; omega) | (rw [part_length]; omega) | (rw [tabI_length]; omega) | (rw [partI_length]; omega) | (rw [List.length_set, part_length]; omega))⟩)) ?_
       first | refine ja_op rfl (.none rfl) (v_loadVec rfl Try.underlying23 (by rfl) rfl tt (by first | exact m0 | exact m1 | exact m2 | exact m3 | exact m4 | exact m5 | exact m6 | exact m7 | exact m8 | exact m9 | exact m10 | exact m11) (fun _ => (by first | with_reducible exact part_get_ge (by omega) (by omega) | with_reducible exact tab_get (by omega) | with_reducible exact tabI_get (by omega) | with_reducible exact part_get (by omega) | exact part_get_ge (by omega) (by omega) | exact tab_get (by omega) | exact tabI_get (by omega) | exact part_get (by omega) | exact part_set_get (by omega) | exact partI_get (by omega) | assumption | rfl))) ?_ | refine ja_op rfl (.none rfl) (v_loadRo rfl Try.underlying23 (by rfl) rfl tt (by first | exact m0 | exact m1 | exact m2 | exact m3 | exact m4 | exact m5 | exact m6 | exact m7 | exact m8 | exact m9 | exact m10 | exact m11) (fun _ => (by first | with_reducible exact part_get_ge (by omega) (by omega) | with_reducible exact tab_get (by omega) | with_reducible exact tabI_get (by omega) | with_reducible exact part_get (by omega) | exact part_get_ge (by omega) (by omega) | exact tab_get (by omega) | exact tabI_get (by omega) | exact part_get (by omega) | exact part_set_get (by omega) | exact partI_get (by omega) | assumption | rfl))) ?_
       refine ja_op rfl (.none rfl) (v_move rfl rfl tt) ?_
       refine ja_op rfl (.none rfl) (v_farith rfl rfl rfl rfl tt tt) ?_
       refine ja_op rfl (.none rfl) (v_indexAddr rfl Try.underlying22 (by kernel_rfl) rfl rfl tt tt (by first | exact hA_some | exact hA_roT (by first | exact m0 | exact m1 | exact m2 | exact m3 | exact m4 | exact m5 | exact m6 | exact m7 | exact m8 | exact m9 | exact m10 | exact m11) | exact hA_vecT (by first | exact m0 | exact m1 | exact m2 | exact m3 | exact m4 | exact m5 | exact m6 | exact m7 | exact m8 | exact m9 | exact m10 | exact m11) | exact hA_vecP (by first | exact m0 | exact m1 | exact m2 | exact m3 | exact m4 | exact m5 | exact m6 | exact m7 | exact m8 | exact m9 | exact m10 | exact m11) | exact hA_roI (by first | exact m0 | exact m1 | exact m2 | exact m3 | exact m4 | exact m5 | exact m6 | exact m7 | exact m8 | exact m9 | exact m10 | exact m11) | exact hA_vecI (by first | exact m0 | exact m1 | exact m2 | exact m3 | exact m4 | exact m5 | exact m6 | exact m7 | exact m8 | exact m9 | exact m10 | exact m11) | exact hA_vecPI (by first | exact m0 | exact m1 | exact m2 | exact m3 | exact m4 | exact m5 | exact m6 | exact m7 | exact m8 | exact m9 | exact m10 | exact m11) | exact hA_vecPS (by first | exact m0 | exact m1 | exact m2 | exact m3 | exact m4 | exact m5 | exact m6 | exact m7 | exact m8 | exact m9 | exact m10 | exact m11) | exact hA_ro (by first | exact m0 | exact m1 | exact m2 | exact m3 | exact m4 | exact m5 | exact m6 | exact m7 | exact m8 | exact m9 | exact m10 | exact m11) | exact hA_vec (by first | exact m0 | exact m1 | exact m2 | exact m3 | exact m4 | exact m5 | exact m6 | exact m7 | exact m8 | exact m9 | exact m10 | exact m11)) (fun _hc => ⟨(by first | with_reducible rfl | exact (Int.toNat_of_nonneg (by omega)).symm | (have hc := g_gt _hc; exact (Int.toNat_of_nonneg (by omega)).symm)), (by first | omega | (rw [tab_length]; omega) | (rw [part_length]; omega) | (rw [tabI_length]; omega) | (rw [partI_length]; omega) | (rw [List.length_set, part_length]; omega))⟩)) ?_
       refine ja_nilT rfl ?_
       first | refine jl_storeVec (i := 0) rfl rfl rfl (by kernel_rfl) rfl rfl rfl rfl (by first | omega | (rw [tab_length]; omega) | (rw [part_length]; omega) | (rw [tabI_length]; omega) | (rw [partI_length]; omega) | (rw [List.length_set, part_length]; omega)) ?_ | refine jl_storeVec (i := 1) rfl rfl rfl (by kernel_rfl) rfl rfl rfl rfl (by first | omega | (rw [tab_length]; omega) | (rw [part_length]; omega) | (rw [tabI_length]; omega) | (rw [partI_length]; omega) | (rw [List.length_set, part_length]; omega)) ?_ | refine jl_storeVec (i := 2) rfl rfl rfl (by kernel_rfl) rfl rfl rfl rfl (by first | omega | (rw [tab_length]; omega) | (rw [part_length]; omega) | (rw [tabI_length]; omega) | (rw [partI_length]; omega) | (rw [List.length_set, part_length]; omega)) ?_ | refine jl_storeVec (i := 3) rfl rfl rfl (by kernel_rfl) rfl rfl rfl rfl (by first | omega | (rw [tab_length]; omega) | (rw [part_length]; omega) | (rw [tabI_length]; omega) | (rw [partI_length]; omega) | (rw [List.length_set, part_length]; omega)) ?_ | refine jl_storeVec (i := 4) rfl rfl rfl (by kernel_rfl) rfl rfl rfl rfl (by first | omega | (rw [tab_length]; omega) | (rw [part_length]; omega) | (rw [tabI_length]; omega) | (rw [partI_length]; omega) | (rw [List.length_set, part_length]; omega)) ?_ | refine jl_storeVec (i := 5) rfl rfl rfl (by kernel_rfl) rfl rfl rfl rfl (by first | omega | (rw [tab_length]; omega) | (rw [part_length]; omega) | (rw [tabI_length]; omega) | (rw [partI_length]; omega) | (rw [List.length_set, part_length]; omega)) ?_ | refine jl_storeVec (i := 6) rfl rfl rfl (by kernel_rfl) rfl rfl rfl rfl (by first | omega | (rw [tab_length]; omega) | (rw [part_length]; omega) | (rw [tabI_length]; omega) | (rw [partI_length]; omega) | (rw [List.length_set, part_length]; omega)) ?_ | refine jl_storeVec (i := 7) rfl rfl rfl (by kernel_rfl) rfl rfl rfl rfl (by first | omega | (rw [tab_length]; omega) | (rw [part_length]; omega) | (rw [tabI_length]; omega) | (rw [partI_length]; omega) | (rw [List.length_set, part_length]; omega)) ?_
       refine jl_nil ?_)
    | (refine j_region (id := 10) ?_
       refine jl_op rfl rfl (.none rfl) (v_iarith' rfl rfl rfl rfl tt tt (by first | exact fun _ => iw_add (by omega) | exact fun _ => rfl)) ?_
       refine jl_op rfl rfl (.none rfl) (v_move rfl rfl tt) ?_
       refine jl_nil ?_)
    | (refine j_region (id := 11) ?_
       refine jl_op rfl rfl (.none rfl) (v_iarith' rfl rfl rfl rfl tt tt (by first | exact fun _ => iw_add (by omega) | exact fun _ => rfl)) ?_
       refine jl_op rfl rfl (.none rfl) (v_move rfl rfl tt) ?_
       refine jl_nil ?_)
    | (refine j_region (id := 12) ?_
       first | refine jl_op rfl rfl (.none rfl) (v_loadS rfl Try.underlying28 (by rfl) (by kernel_rfl) rfl tt (by first | exact m0 | exact m1 | exact m2 | exact m3 | exact m4 | exact m5 | exact m6 | exact m7 | exact m8 | exact m9 | exact m10 | exact m11)) ?_ | refine jl_op rfl rfl (.none rfl) (v_loadSRo rfl Try.underlying28 (by rfl) (by kernel_rfl) rfl tt (by first | exact m0 | exact m1 | exact m2 | exact m3 | exact m4 | exact m5 | exact m6 | exact m7 | exact m8 | exact m9 | exact m10 | exact m11)) ?_
       refine jl_op rfl rfl (.none rfl) (v_call (f := 83) (xs := [_]) rfl (c_checkedP _ _ _ _ _ hN) (ev_cons rfl tt ev_nil) (by intro w hc hI; first | trivial | (exfalso; simp_all; done) | (clear hc; repeat' (first | exact ros_nil | refine ros_cons ?_ ?_ | exact hI.roRo (by first | exact m0 | exact m1 | exact m2 | exact m3 | exact m4 | exact m5 | exact m6 | exact m7 | exact m8 | exact m9 | exact m10 | exact m11) | exact hI.boxRo (by first | exact m0 | exact m1 | exact m2 | exact m3 | exact m4 | exact m5 | exact m6 | exact m7 | exact m8 | exact m9 | exact m10 | exact m11) | exact HInv.vecRo hI (by first | exact m0 | exact m1 | exact m2 | exact m3 | exact m4 | exact m5 | exact m6 | exact m7 | exact m8 | exact m9 | exact m10 | exact m11))))) ?_
       refine jl_op rfl rfl (.none rfl) (v_extract rfl rfl tt rfl) ?_
       refine jl_op rfl rfl (.none rfl) (v_extract rfl rfl tt rfl) ?_
       first | refine jl_storeS (i := 0) rfl rfl rfl (by kernel_rfl) rfl rfl rfl rfl ?_ | refine jl_storeS (i := 1) rfl rfl rfl (by kernel_rfl) rfl rfl rfl rfl ?_ | refine jl_storeS (i := 2) rfl rfl rfl (by kernel_rfl) rfl rfl rfl rfl ?_ | refine jl_storeS (i := 3) rfl rfl rfl (by kernel_rfl) rfl rfl rfl rfl ?_ | refine jl_storeS (i := 4) rfl rfl rfl (by kernel_rfl) rfl rfl rfl rfl ?_ | refine jl_storeS (i := 5) rfl rfl rfl (by kernel_rfl) rfl rfl rfl rfl ?_ | refine jl_storeS (i := 6) rfl rfl rfl (by kernel_rfl) rfl rfl rfl rfl ?_ | refine jl_storeS (i := 7) rfl rfl rfl (by kernel_rfl) rfl rfl rfl rfl ?_
       refine jl_op rfl rfl (.none rfl) (v_assign rfl rfl tt) ?_
       refine jl_nil ?_)))
  all_goals first | exact retS_no 0 Try.results36 rfl rfl rfl Try.underlying28 rfl (by kernel_rfl) (damp_no (by assumption)) rfl | (obtain rfl : i = N := (by omega); first | exact retS_yes 2 0 Try.results36 rfl rfl rfl Try.underlying28 rfl (by kernel_rfl) rfl dampG_end (damp_yes (by assumption)) rfl | exact retS_yes 2 0 Try.results36 rfl rfl rfl Try.underlying28 rfl (by kernel_rfl) rfl rfl (damp_yes2 (by assumption)) rfl)
theorem c_markPredictor (A : Option Addr) (N cap : Nat) (g : Nat → Nat) (x : Nat) (k : Int) (hN : N ≤ 4294967296) (hk : 0 ≤ k ∧ k ≤ 16777216) : ConW Try.prog 37 [.agg #[.slice A N cap, .float .f32 x], .int .i64 (k)] (fun _ => True) 23 A cap (tab N g) (tab N (fun j => ofInt .f32 (k + j))) (.int .i64 (k + N)) := by
  refine conW_intro Try.func37 (by decide) rfl rfl (fun w0 => ?_)
  (repeat' (first
    | refine j_condLt rfl (fun _ => ?_) (fun _ => ?_)
    | refine j_condLe rfl (fun _ => ?_) (fun _ => ?_)
    | refine j_condGt rfl (fun _ => ?_) (fun _ => ?_)
    | refine j_condGe rfl (fun _ => ?_) (fun _ => ?_)
    | refine j_condNe rfl (fun _ => ?_) (fun _ => ?_)
    | refine j_condEq rfl (fun _ => ?_) (fun _ => ?_)
    | refine j_condOrLt rfl (fun _ => ?_) (fun _ => ?_)
    | refine j_condAndLt rfl (fun _ => ?_) (fun _ => ?_)
    | refine j_condAndGe rfl (fun _ => ?_) (fun _ => ?_)
    | refine j_seq ?_
    | refine jq_then ?_
    | refine j_block ?_
    | refine j_ret ?_
    | refine jq_then_ret ?_
    | refine jq_block_ret ?_
    | refine jq_block_normal ?_
    | refine jq_then_exit ?_
    | refine jq_block_same rfl ?_
    | refine jq_block_other rfl ?_
    | refine j_skip ?_
    | refine j_exit ?_
    | refine j_label ?_
    | refine j_cond rfl (fun _ => ?_) (fun _ => ?_)
    | (refine j_region (id := 0) ?_
       refine jl_boxS rfl rfl rfl rfl rfl (fun b2 => ?_)
       refine jl_op rfl rfl (.none rfl) (v_assign rfl rfl tt) ?_
       refine jl_nil ?_)
    | (refine j_region (id := 1) ?_
       refine jl_op rfl rfl (.none rfl) (v_fieldAddr rfl Try.underlying28 (by rfl) (by kernel_rfl) rfl tt) ?_
       first | refine jl_op rfl rfl (.none rfl) (v_loadBox rfl Try.underlying22 (by rfl) rfl tt (by first | exact m0 | exact m1 | exact m2 | exact m3 | exact m4 | exact m5 | exact m6 | exact m7 | exact m8 | exact m9 | exact m10 | exact m11) (by rfl)) ?_ | refine jl_op rfl rfl (.none rfl) (v_loadRoB rfl Try.underlying22 (by rfl) rfl tt (by first | exact m0 | exact m1 | exact m2 | exact m3 | exact m4 | exact m5 | exact m6 | exact m7 | exact m8 | exact m9 | exact m10 | exact m11) (by rfl)) ?_
       refine jl_op rfl rfl (.none rfl) (v_move rfl rfl tt) ?_
       first | refine jl_w (i := 0) (f := 26) (xs := [_, _]) rfl rfl rfl rfl (c_markFloat32S (hN := hN) (hk := (by omega)) ..) (ev_cons rfl tt (ev_cons rfl tt ev_nil)) rfl (fun _ _ => trivial) ?_ | refine jl_w (i := 1) (f := 26) (xs := [_, _]) rfl rfl rfl rfl (c_markFloat32S (hN := hN) (hk := (by omega)) ..) (ev_cons rfl tt (ev_cons rfl tt ev_nil)) rfl (fun _ _ => trivial) ?_ | refine jl_w (i := 2) (f := 26) (xs := [_, _]) rfl rfl rfl rfl (c_markFloat32S (hN := hN) (hk := (by omega)) ..) (ev_cons rfl tt (ev_cons rfl tt ev_nil)) rfl (fun _ _ => trivial) ?_ | refine jl_w (i := 3) (f := 26) (xs := [_, _]) rfl rfl rfl rfl (c_markFloat32S (hN := hN) (hk := (by omega)) ..) (ev_cons rfl tt (ev_cons rfl tt ev_nil)) rfl (fun _ _ => trivial) ?_ | refine jl_w (i := 4) (f := 26) (xs := [_, _]) rfl rfl rfl rfl (c_markFloat32S (hN := hN) (hk := (by omega)) ..) (ev_cons rfl tt (ev_cons rfl tt ev_nil)) rfl (fun _ _ => trivial) ?_ | refine jl_w (i := 5) (f := 26) (xs := [_, _]) rfl rfl rfl rfl (c_markFloat32S (hN := hN) (hk := (by omega)) ..) (ev_cons rfl tt (ev_cons rfl tt ev_nil)) rfl (fun _ _ => trivial) ?_
       refine jl_op rfl rfl (.none rfl) (v_assign rfl rfl tt) ?_
       refine jl_nil ?_)
    | (refine j_region (id := 2) ?_
       refine jl_op rfl rfl (.none rfl) (v_move rfl rfl tt) ?_
       refine jl_op rfl rfl (.none rfl) (v_assign rfl rfl tt) ?_
       refine jl_nil ?_)))
  all_goals exact jq_retW (i := 1) (.inl rfl) Try.results37 rfl rfl
theorem c_heldPredictor (A : Option Addr) (N cap : Nat) (x : Nat) (k : Int) (hN : N ≤ 4294967296) (hk : 0 ≤ k ∧ k ≤ 16777216) : Con Try.prog 38 [.agg #[.slice A N cap, .float .f32 x], .int .i64 (k)] (RoS [.ro A (tab N (fun j => ofInt .f32 (k + j)))]) (.int .i64 (k + N)) := by
  refine con_intro (H := [.ro A (tab N (fun j => ofInt .f32 (k + j)))]) Try.func38 (by decide) rfl rfl (fun w h => h.inv) (fun w0 _ => ?_)
  (repeat' (first
    | refine j_condLt rfl (fun _ => ?_) (fun _ => ?_)
    | refine j_condLe rfl (fun _ => ?_) (fun _ => ?_)
    | refine j_condGt rfl (fun _ => ?_) (fun _ => ?_)
    | refine j_condGe rfl (fun _ => ?_) (fun _ => ?_)
    | refine j_condNe rfl (fun _ => ?_) (fun _ => ?_)
    | refine j_condEq rfl (fun _ => ?_) (fun _ => ?_)
    | refine j_condOrLt rfl (fun _ => ?_) (fun _ => ?_)
    | refine j_condAndLt rfl (fun _ => ?_) (fun _ => ?_)
    | refine j_condAndGe rfl (fun _ => ?_) (fun _ => ?_)
    | refine j_seq ?_
    | refine jq_then ?_
    | refine j_block ?_
    | refine j_ret ?_
    | refine jq_then_ret ?_
    | refine jq_block_ret ?_
    | refine jq_block_normal ?_
    | refine jq_then_exit ?_
    | refine jq_block_same rfl ?_
    | refine jq_block_other rfl ?_
    | refine j_skip ?_
    | refine j_exit ?_
    | refine j_label ?_
    | refine j_cond rfl (fun _ => ?_) (fun _ => ?_)
    | (refine j_region (id := 0) ?_
       refine jl_boxS rfl rfl rfl rfl rfl (fun b2 => ?_)
       refine jl_op rfl rfl (.none rfl) (v_assign rfl rfl tt) ?_
       refine jl_nil ?_)
    | (refine j_region (id := 1) ?_
       refine jl_op rfl rfl (.none rfl) (v_fieldAddr rfl Try.underlying28 (by rfl) (by kernel_rfl) rfl tt) ?_
       first | refine jl_op rfl rfl (.none rfl) (v_loadBox rfl Try.underlying22 (by rfl) rfl tt (by first | exact m0 | exact m1 | exact m2 | exact m3 | exact m4 | exact m5 | exact m6 | exact m7 | exact m8 | exact m9 | exact m10 | exact m11) (by rfl)) ?_ | refine jl_op rfl rfl (.none rfl) (v_loadRoB rfl Try.underlying22 (by rfl) rfl tt (by first | exact m0 | exact m1 | exact m2 | exact m3 | exact m4 | exact m5 | exact m6 | exact m7 | exact m8 | exact m9 | exact m10 | exact m11) (by rfl)) ?_
       refine jl_op rfl rfl (.none rfl) (v_move rfl rfl tt) ?_
       refine jl_op rfl rfl (.none rfl) (v_call (f := 27) (xs := [_, _]) rfl (c_heldFloat32S (hN := hN) (hk := (by omega)) ..) (ev_cons rfl tt (ev_cons rfl tt ev_nil)) (by intro w hc hI; first | trivial | (exfalso; simp_all; done) | (clear hc; repeat' (first | exact ros_nil | refine ros_cons ?_ ?_ | exact hI.roRo (by first | exact m0 | exact m1 | exact m2 | exact m3 | exact m4 | exact m5 | exact m6 | exact m7 | exact m8 | exact m9 | exact m10 | exact m11) | exact hI.boxRo (by first | exact m0 | exact m1 | exact m2 | exact m3 | exact m4 | exact m5 | exact m6 | exact m7 | exact m8 | exact m9 | exact m10 | exact m11) | exact HInv.vecRo hI (by first | exact m0 | exact m1 | exact m2 | exact m3 | exact m4 | exact m5 | exact m6 | exact m7 | exact m8 | exact m9 | exact m10 | exact m11))))) ?_
       refine jl_op rfl rfl (.none rfl) (v_assign rfl rfl tt) ?_
       refine jl_nil ?_)
    | (refine j_region (id := 2) ?_
       refine jl_op rfl rfl (.none rfl) (v_move rfl rfl tt) ?_
       refine jl_op rfl rfl (.none rfl) (v_icmp rfl rfl rfl rfl tt tt) ?_
       refine jl_nil ?_)
    | (refine j_region (id := 3) ?_
       refine jl_op rfl rfl (.none rfl) (v_assign rfl rfl tt) ?_
       refine jl_nil ?_)
    | (refine j_region (id := 4) ?_
       refine jl_op rfl rfl (.none rfl) (v_move rfl rfl tt) ?_
       refine jl_op rfl rfl (.none rfl) (v_assign rfl rfl tt) ?_
       refine jl_nil ?_)))
  all_goals first | (exfalso; omega) | exact jq_ret1 (.inl rfl) Try.results38 rfl
theorem c_law_DampPredictor (A : Option Addr) (N cap : Nat) (g : Nat → Nat) (x y : Nat) (hN : N ≤ 9223372036854775807) : Con Try.prog 9 [.agg #[.slice A N cap, .float .f32 x], F y] (RoS [.ro A (tab N g)]) (.bool true) := by
  refine con_intro (H := [.ro A (tab N g)]) Try.func9 (by decide) rfl rfl (fun w h => h.inv) (fun w0 _ => ?_)
  (repeat' (first
    | refine j_condLt rfl (fun _ => ?_) (fun _ => ?_)
    | refine j_condLe rfl (fun _ => ?_) (fun _ => ?_)
    | refine j_condGt rfl (fun _ => ?_) (fun _ => ?_)
    | refine j_condGe rfl (fun _ => ?_) (fun _ => ?_)
    | refine j_condNe rfl (fun _ => ?_) (fun _ => ?_)
    | refine j_condEq rfl (fun _ => ?_) (fun _ => ?_)
    | refine j_condOrLt rfl (fun _ => ?_) (fun _ => ?_)
    | refine j_condAndLt rfl (fun _ => ?_) (fun _ => ?_)
    | refine j_condAndGe rfl (fun _ => ?_) (fun _ => ?_)
    | refine j_seq ?_
    | refine jq_then ?_
    | refine j_block ?_
    | refine j_ret ?_
    | refine jq_then_ret ?_
    | refine jq_block_ret ?_
    | refine jq_block_normal ?_
    | refine jq_then_exit ?_
    | refine jq_block_same rfl ?_
    | refine jq_block_other rfl ?_
    | refine j_skip ?_
    | refine j_exit ?_
    | refine j_label ?_
    | refine j_cond rfl (fun _ => ?_) (fun _ => ?_)
    | (refine j_region (id := 0) ?_
       refine jl_boxS rfl rfl rfl rfl rfl (fun b2 => ?_)
       refine jl_op rfl rfl (.none rfl) (v_assign rfl rfl tt) ?_
       refine jl_nil ?_)
    | (refine j_region (id := 1) ?_
       refine jl_op rfl rfl (.none rfl) (v_assign rfl rfl tt) ?_
       refine jl_nil ?_)
    | (refine j_region (id := 2) ?_
       first | refine jl_op rfl rfl (.none rfl) (v_loadS rfl Try.underlying25 (by rfl) (by kernel_rfl) rfl tt (by first | exact m0 | exact m1 | exact m2 | exact m3 | exact m4 | exact m5 | exact m6 | exact m7 | exact m8 | exact m9 | exact m10 | exact m11)) ?_ | refine jl_op rfl rfl (.none rfl) (v_loadSRo rfl Try.underlying25 (by rfl) (by kernel_rfl) rfl tt (by first | exact m0 | exact m1 | exact m2 | exact m3 | exact m4 | exact m5 | exact m6 | exact m7 | exact m8 | exact m9 | exact m10 | exact m11)) ?_
       refine jl_op rfl rfl (.none rfl) (v_move rfl rfl tt) ?_
       refine jl_op rfl rfl (.none rfl) (v_call (f := 15) (xs := [_, _]) rfl (c_szPredictor _ _ _ _ _ (by omega) (by omega)) (ev_cons rfl tt (ev_cons rfl tt ev_nil)) (by intro w hc hI; first | trivial | (exfalso; simp_all; done) | (clear hc; repeat' (first | exact ros_nil | refine ros_cons ?_ ?_ | exact hI.roRo (by first | exact m0 | exact m1 | exact m2 | exact m3 | exact m4 | exact m5 | exact m6 | exact m7 | exact m8 | exact m9 | exact m10 | exact m11) | exact hI.boxRo (by first | exact m0 | exact m1 | exact m2 | exact m3 | exact m4 | exact m5 | exact m6 | exact m7 | exact m8 | exact m9 | exact m10 | exact m11) | exact HInv.vecRo hI (by first | exact m0 | exact m1 | exact m2 | exact m3 | exact m4 | exact m5 | exact m6 | exact m7 | exact m8 | exact m9 | exact m10 | exact m11))))) ?_
       refine jl_op rfl rfl (.none rfl) (v_assign rfl rfl tt) ?_
       refine jl_nil ?_)
    | (refine j_region (id := 3) ?_
       refine jl_op rfl rfl (.none rfl) (v_move rfl rfl tt) ?_
       refine jl_op rfl rfl (.none rfl) (v_icmp rfl rfl rfl rfl tt tt) ?_
       refine jl_nil ?_)
    | (refine j_region (id := 4) ?_
       refine jl_op rfl rfl (.none rfl) (v_assign rfl rfl tt) ?_
       refine jl_nil ?_)
    | (refine j_region (id := 5) ?_
       first | refine jl_op rfl rfl (.none rfl) (v_loadS rfl Try.underlying25 (by rfl) (by kernel_rfl) rfl tt (by first | exact m0 | exact m1 | exact m2 | exact m3 | exact m4 | exact m5 | exact m6 | exact m7 | exact m8 | exact m9 | exact m10 | exact m11)) ?_ | refine jl_op rfl rfl (.none rfl) (v_loadSRo rfl Try.underlying25 (by rfl) (by kernel_rfl) rfl tt (by first | exact m0 | exact m1 | exact m2 | exact m3 | exact m4 | exact m5 | exact m6 | exact m7 | exact m8 | exact m9 | exact m10 | exact m11)) ?_
       refine jl_x1 rfl rfl rfl (x_call (f := 17) (xs := [_]) rfl (c_toPredictor _ _ _ _ _ (by omega)) (ev_cons rfl tt ev_nil) (by intro w hI; first | trivial | (repeat' (first | exact ros_nil | refine ros_cons ?_ ?_ | exact hI.roRo (by first | exact m0 | exact m1 | exact m2 | exact m3 | exact m4 | exact m5 | exact m6 | exact m7 | exact m8 | exact m9 | exact m10 | exact m11) | exact hI.boxRo (by first | exact m0 | exact m1 | exact m2 | exact m3 | exact m4 | exact m5 | exact m6 | exact m7 | exact m8 | exact m9 | exact m10 | exact m11) | exact HInv.vecRo hI (by first | exact m0 | exact m1 | exact m2 | exact m3 | exact m4 | exact m5 | exact m6 | exact m7 | exact m8 | exact m9 | exact m10 | exact m11))))) (fun s23 => ?_)
       refine jl_op rfl rfl (.none rfl) (v_move rfl rfl tt) ?_
       refine jl_x rfl rfl rfl (x_call (f := 35) (xs := [_, _]) rfl (c_dampS _ _ _ _ _ _ (by omega)) (ev_cons rfl tt (ev_cons rfl tt ev_nil)) (by intro w hI; first | trivial | (repeat' (first | exact ros_nil | refine ros_cons ?_ ?_ | exact hI.roRo (by first | exact m0 | exact m1 | exact m2 | exact m3 | exact m4 | exact m5 | exact m6 | exact m7 | exact m8 | exact m9 | exact m10 | exact m11) | exact hI.boxRo (by first | exact m0 | exact m1 | exact m2 | exact m3 | exact m4 | exact m5 | exact m6 | exact m7 | exact m8 | exact m9 | exact m10 | exact m11) | exact HInv.vecRo hI (by first | exact m0 | exact m1 | exact m2 | exact m3 | exact m4 | exact m5 | exact m6 | exact m7 | exact m8 | exact m9 | exact m10 | exact m11))))) (fun s25 => ?_)
       refine jl_op rfl rfl (.none rfl) (v_move rfl rfl tt) ?_
       refine jl_op rfl rfl (.none rfl) (v_extract rfl rfl tt rfl) ?_
       refine jl_op rfl rfl (.none rfl) (v_extract rfl rfl tt rfl) ?_
       refine jl_alloc rfl rfl rfl rfl zero28 (by rfl) (fun b6 => ?_)
       first | refine jl_storeS (i := 0) rfl rfl rfl (by kernel_rfl) rfl rfl rfl rfl ?_ | refine jl_storeS (i := 1) rfl rfl rfl (by kernel_rfl) rfl rfl rfl rfl ?_ | refine jl_storeS (i := 2) rfl rfl rfl (by kernel_rfl) rfl rfl rfl rfl ?_ | refine jl_storeS (i := 3) rfl rfl rfl (by kernel_rfl) rfl rfl rfl rfl ?_ | refine jl_storeS (i := 4) rfl rfl rfl (by kernel_rfl) rfl rfl rfl rfl ?_ | refine jl_storeS (i := 5) rfl rfl rfl (by kernel_rfl) rfl rfl rfl rfl ?_ | refine jl_storeS (i := 6) rfl rfl rfl (by kernel_rfl) rfl rfl rfl rfl ?_ | refine jl_storeS (i := 7) rfl rfl rfl (by kernel_rfl) rfl rfl rfl rfl ?_
       refine jl_op rfl rfl (.none rfl) (v_assign rfl rfl tt) ?_
       refine jl_nil ?_)
    | (refine j_region (id := 6) ?_
       first | refine jl_op rfl rfl (.none rfl) (v_loadS rfl Try.underlying25 (by rfl) (by kernel_rfl) rfl tt (by first | exact m0 | exact m1 | exact m2 | exact m3 | exact m4 | exact m5 | exact m6 | exact m7 | exact m8 | exact m9 | exact m10 | exact m11)) ?_ | refine jl_op rfl rfl (.none rfl) (v_loadSRo rfl Try.underlying25 (by rfl) (by kernel_rfl) rfl tt (by first | exact m0 | exact m1 | exact m2 | exact m3 | exact m4 | exact m5 | exact m6 | exact m7 | exact m8 | exact m9 | exact m10 | exact m11)) ?_
       refine jl_x1 rfl rfl rfl (x_call (f := 17) (xs := [_]) rfl (c_toPredictor _ _ _ _ _ (by omega)) (ev_cons rfl tt ev_nil) (by intro w hI; first | trivial | (repeat' (first | exact ros_nil | refine ros_cons ?_ ?_ | exact hI.roRo (by first | exact m0 | exact m1 | exact m2 | exact m3 | exact m4 | exact m5 | exact m6 | exact m7 | exact m8 | exact m9 | exact m10 | exact m11) | exact hI.boxRo (by first | exact m0 | exact m1 | exact m2 | exact m3 | exact m4 | exact m5 | exact m6 | exact m7 | exact m8 | exact m9 | exact m10 | exact m11) | exact HInv.vecRo hI (by first | exact m0 | exact m1 | exact m2 | exact m3 | exact m4 | exact m5 | exact m6 | exact m7 | exact m8 | exact m9 | exact m10 | exact m11))))) (fun s29 => ?_)
       refine jl_alloc rfl rfl rfl rfl zero28 (by rfl) (fun b8 => ?_)
       first | refine jl_storeS (i := 0) rfl rfl rfl (by kernel_rfl) rfl rfl rfl rfl ?_ | refine jl_storeS (i := 1) rfl rfl rfl (by kernel_rfl) rfl rfl rfl rfl ?_ | refine jl_storeS (i := 2) rfl rfl rfl (by kernel_rfl) rfl rfl rfl rfl ?_ | refine jl_storeS (i := 3) rfl rfl rfl (by kernel_rfl) rfl rfl rfl rfl ?_ | refine jl_storeS (i := 4) rfl rfl rfl (by kernel_rfl) rfl rfl rfl rfl ?_ | refine jl_storeS (i := 5) rfl rfl rfl (by kernel_rfl) rfl rfl rfl rfl ?_ | refine jl_storeS (i := 6) rfl rfl rfl (by kernel_rfl) rfl rfl rfl rfl ?_ | refine jl_storeS (i := 7) rfl rfl rfl (by kernel_rfl) rfl rfl rfl rfl ?_
       refine jl_nil ?_)
    | (refine j_region (id := 7) ?_
       first | refine jl_op rfl rfl (.none rfl) (v_loadS rfl Try.underlying28 (by rfl) (by kernel_rfl) rfl tt (by first | exact m0 | exact m1 | exact m2 | exact m3 | exact m4 | exact m5 | exact m6 | exact m7 | exact m8 | exact m9 | exact m10 | exact m11)) ?_ | refine jl_op rfl rfl (.none rfl) (v_loadSRo rfl Try.underlying28 (by rfl) (by kernel_rfl) rfl tt (by first | exact m0 | exact m1 | exact m2 | exact m3 | exact m4 | exact m5 | exact m6 | exact m7 | exact m8 | exact m9 | exact m10 | exact m11)) ?_
       refine jl_op rfl rfl (.none rfl) (v_move rfl rfl tt) ?_
       refine jl_x rfl rfl rfl (x_call (f := 36) (xs := [_, _]) rfl (c_dampI _ _ _ _ _ _ (by omega)) (ev_cons rfl tt (ev_cons rfl tt ev_nil)) (by intro w hI; first | trivial | (repeat' (first | exact ros_nil | refine ros_cons ?_ ?_ | exact hI.roRo (by first | exact m0 | exact m1 | exact m2 | exact m3 | exact m4 | exact m5 | exact m6 | exact m7 | exact m8 | exact m9 | exact m10 | exact m11) | exact hI.boxRo (by first | exact m0 | exact m1 | exact m2 | exact m3 | exact m4 | exact m5 | exact m6 | exact m7 | exact m8 | exact m9 | exact m10 | exact m11) | exact HInv.vecRo hI (by first | exact m0 | exact m1 | exact m2 | exact m3 | exact m4 | exact m5 | exact m6 | exact m7 | exact m8 | exact m9 | exact m10 | exact m11))))) (fun s33 => ?_)
       refine jl_op rfl rfl (.none rfl) (v_move rfl rfl tt) ?_
       refine jl_op rfl rfl (.none rfl) (v_extract rfl rfl tt rfl) ?_
       refine jl_op rfl rfl (.none rfl) (v_extract rfl rfl tt rfl) ?_
       refine jl_alloc rfl rfl rfl rfl zero28 (by rfl) (fun b9 => ?_)
       first | refine jl_storeS (i := 0) rfl rfl rfl (by kernel_rfl) rfl rfl rfl rfl ?_ | refine jl_storeS (i := 1) rfl rfl rfl (by kernel_rfl) rfl rfl rfl rfl ?_ | refine jl_storeS (i := 2) rfl rfl rfl (by kernel_rfl) rfl rfl rfl rfl ?_ | refine jl_storeS (i := 3) rfl rfl rfl (by kernel_rfl) rfl rfl rfl rfl ?_ | refine jl_storeS (i := 4) rfl rfl rfl (by kernel_rfl) rfl rfl rfl rfl ?_ | refine jl_storeS (i := 5) rfl rfl rfl (by kernel_rfl) rfl rfl rfl rfl ?_ | refine jl_storeS (i := 6) rfl rfl rfl (by kernel_rfl) rfl rfl rfl rfl ?_ | refine jl_storeS (i := 7) rfl rfl rfl (by kernel_rfl) rfl rfl rfl rfl ?_
       refine jl_op rfl rfl (.none rfl) (v_assign rfl rfl tt) ?_
       refine jl_nil ?_)
    | (refine j_region (id := 8) ?_
       first | refine jl_op rfl rfl (.none rfl) (v_loadS rfl Try.underlying28 (by rfl) (by kernel_rfl) rfl tt (by first | exact m0 | exact m1 | exact m2 | exact m3 | exact m4 | exact m5 | exact m6 | exact m7 | exact m8 | exact m9 | exact m10 | exact m11)) ?_ | refine jl_op rfl rfl (.none rfl) (v_loadSRo rfl Try.underlying28 (by rfl) (by kernel_rfl) rfl tt (by first | exact m0 | exact m1 | exact m2 | exact m3 | exact m4 | exact m5 | exact m6 | exact m7 | exact m8 | exact m9 | exact m10 | exact m11)) ?_
       first | refine jl_op rfl rfl (.none rfl) (v_loadS rfl Try.underlying28 (by rfl) (by kernel_rfl) rfl tt (by first | exact m0 | exact m1 | exact m2 | exact m3 | exact m4 | exact m5 | exact m6 | exact m7 | exact m8 | exact m9 | exact m10 | exact m11)) ?_ | refine jl_op rfl rfl (.none rfl) (v_loadSRo rfl Try.underlying28 (by rfl) (by kernel_rfl) rfl tt (by first | exact m0 | exact m1 | exact m2 | exact m3 | exact m4 | exact m5 | exact m6 | exact m7 | exact m8 | exact m9 | exact m10 | exact m11)) ?_
       refine jl_op rfl rfl (.none rfl) (v_call (f := 19) (xs := [_, _]) rfl (c_eqPredictor _ _ _ _ _ _ _ _ _ _ (by first | omega | exact bif_le (by omega))) (ev_cons rfl tt (ev_cons rfl tt ev_nil)) (by intro w hc hI; first | trivial | (exfalso; simp_all; done) | (clear hc; repeat' (first | exact ros_nil | refine ros_cons ?_ ?_ | exact hI.roRo (by first | exact m0 | exact m1 | exact m2 | exact m3 | exact m4 | exact m5 | exact m6 | exact m7 | exact m8 | exact m9 | exact m10 | exact m11) | exact hI.boxRo (by first | exact m0 | exact m1 | exact m2 | exact m3 | exact m4 | exact m5 | exact m6 | exact m7 | exact m8 | exact m9 | exact m10 | exact m11) | exact HInv.vecRo hI (by first | exact m0 | exact m1 | exact m2 | exact m3 | exact m4 | exact m5 | exact m6 | exact m7 | exact m8 | exact m9 | exact m10 | exact m11))))) ?_
       refine jl_op rfl rfl (.none rfl) (v_not rfl rfl tt) ?_
       refine jl_op rfl rfl (.none rfl) (v_move rfl rfl tt) ?_
       refine jl_op rfl rfl (.some rfl rfl rfl) (v_move rfl rfl tt) ?_
       refine jl_op rfl rfl (.some rfl rfl rfl) (v_move rfl rfl tt) ?_
       refine jl_op rfl rfl (.some rfl rfl rfl) (v_bne rfl rfl rfl Try.underlying4 ii ii rfl) ?_
       refine jl_op rfl rfl (.none rfl) (v_or rfl rfl tt rfl fi) ?_
       refine jl_nil ?_)
    | (refine j_region (id := 9) ?_
       refine jl_op rfl rfl (.none rfl) (v_assign rfl rfl tt) ?_
       refine jl_nil ?_)
    | (refine j_drawX (id := 10) (m := 4) (by kernel_rfl) (by kernel_rfl) (fun Bq hBq => ?_)
       first | refine jx_op rfl (.none rfl) (v_loadS rfl Try.underlying28 (by rfl) (by kernel_rfl) rfl tt (by first | exact m0 | exact m1 | exact m2 | exact m3 | exact m4 | exact m5 | exact m6 | exact m7 | exact m8 | exact m9 | exact m10 | exact m11)) ?_ | refine jx_op rfl (.none rfl) (v_loadSRo rfl Try.underlying28 (by rfl) (by kernel_rfl) rfl tt (by first | exact m0 | exact m1 | exact m2 | exact m3 | exact m4 | exact m5 | exact m6 | exact m7 | exact m8 | exact m9 | exact m10 | exact m11)) ?_
       first | refine jx_op rfl (.none rfl) (v_loadS rfl Try.underlying25 (by rfl) (by kernel_rfl) rfl tt (by first | exact m0 | exact m1 | exact m2 | exact m3 | exact m4 | exact m5 | exact m6 | exact m7 | exact m8 | exact m9 | exact m10 | exact m11)) ?_ | refine jx_op rfl (.none rfl) (v_loadSRo rfl Try.underlying25 (by rfl) (by kernel_rfl) rfl tt (by first | exact m0 | exact m1 | exact m2 | exact m3 | exact m4 | exact m5 | exact m6 | exact m7 | exact m8 | exact m9 | exact m10 | exact m11)) ?_
       refine jx_x rfl rfl rfl (x_call (f := 17) (xs := [_]) rfl (c_toPredictor _ _ _ _ _ (by omega)) (ev_cons rfl tt ev_nil) (by intro w hI; first | trivial | (repeat' (first | exact ros_nil | refine ros_cons ?_ ?_ | exact hI.roRo (by first | exact m0 | exact m1 | exact m2 | exact m3 | exact m4 | exact m5 | exact m6 | exact m7 | exact m8 | exact m9 | exact m10 | exact m11) | exact hI.boxRo (by first | exact m0 | exact m1 | exact m2 | exact m3 | exact m4 | exact m5 | exact m6 | exact m7 | exact m8 | exact m9 | exact m10 | exact m11) | exact HInv.vecRo hI (by first | exact m0 | exact m1 | exact m2 | exact m3 | exact m4 | exact m5 | exact m6 | exact m7 | exact m8 | exact m9 | exact m10 | exact m11))))) ?_
       refine jx_v1 (t := 47) rfl rfl hBq rfl rfl (by kernel_rfl) (fun s47 => v_call (f := 19) (xs := [_, _]) rfl (c_eqPredictor _ _ _ _ _ _ _ _ _ _ (by first | omega | exact bif_le (by omega))) (ev_cons rfl tt (ev_cons rfl tt ev_nil)) (by intro w hc hI; first | trivial | (exfalso; simp_all; done) | (clear hc; repeat' (first | exact ros_nil | refine ros_cons ?_ ?_ | exact hI.roRo (by first | exact m0 | exact m1 | exact m2 | exact m3 | exact m4 | exact m5 | exact m6 | exact m7 | exact m8 | exact m9 | exact m10 | exact m11) | exact hI.boxRo (by first | exact m0 | exact m1 | exact m2 | exact m3 | exact m4 | exact m5 | exact m6 | exact m7 | exact m8 | exact m9 | exact m10 | exact m11) | exact HInv.vecRo hI (by first | exact m0 | exact m1 | exact m2 | exact m3 | exact m4 | exact m5 | exact m6 | exact m7 | exact m8 | exact m9 | exact m10 | exact m11))))) ?_
       refine jx_nil rfl ?_
       refine jl_op rfl rfl (.none rfl) (v_not rfl rfl tt) ?_
       refine jl_nil ?_)
    | (refine j_region (id := 11) ?_
       refine jl_op rfl rfl (.none rfl) (v_assign rfl rfl tt) ?_
       refine jl_nil ?_)
    | (refine j_region (id := 12) ?_
       refine jl_op rfl rfl (.none rfl) (v_assign rfl rfl tt) ?_
       refine jl_nil ?_)
    | (refine j_region (id := 13) ?_
       first | refine jl_op rfl rfl (.none rfl) (v_loadS rfl Try.underlying28 (by rfl) (by kernel_rfl) rfl tt (by first | exact m0 | exact m1 | exact m2 | exact m3 | exact m4 | exact m5 | exact m6 | exact m7 | exact m8 | exact m9 | exact m10 | exact m11)) ?_ | refine jl_op rfl rfl (.none rfl) (v_loadSRo rfl Try.underlying28 (by rfl) (by kernel_rfl) rfl tt (by first | exact m0 | exact m1 | exact m2 | exact m3 | exact m4 | exact m5 | exact m6 | exact m7 | exact m8 | exact m9 | exact m10 | exact m11)) ?_
       refine jl_op rfl rfl (.none rfl) (v_move rfl rfl tt) ?_
       first | refine jl_w (i := 0) (f := 37) (xs := [_, _]) rfl rfl rfl rfl (c_markPredictor (hN := (by first | omega | exact bif_le (by omega))) (hk := (by omega)) ..) (ev_cons rfl tt (ev_cons rfl tt ev_nil)) rfl (fun _ _ => trivial) ?_ | refine jl_w (i := 1) (f := 37) (xs := [_, _]) rfl rfl rfl rfl (c_markPredictor (hN := (by first | omega | exact bif_le (by omega))) (hk := (by omega)) ..) (ev_cons rfl tt (ev_cons rfl tt ev_nil)) rfl (fun _ _ => trivial) ?_ | refine jl_w (i := 2) (f := 37) (xs := [_, _]) rfl rfl rfl rfl (c_markPredictor (hN := (by first | omega | exact bif_le (by omega))) (hk := (by omega)) ..) (ev_cons rfl tt (ev_cons rfl tt ev_nil)) rfl (fun _ _ => trivial) ?_ | refine jl_w (i := 3) (f := 37) (xs := [_, _]) rfl rfl rfl rfl (c_markPredictor (hN := (by first | omega | exact bif_le (by omega))) (hk := (by omega)) ..) (ev_cons rfl tt (ev_cons rfl tt ev_nil)) rfl (fun _ _ => trivial) ?_ | refine jl_w (i := 4) (f := 37) (xs := [_, _]) rfl rfl rfl rfl (c_markPredictor (hN := (by first | omega | exact bif_le (by omega))) (hk := (by omega)) ..) (ev_cons rfl tt (ev_cons rfl tt ev_nil)) rfl (fun _ _ => trivial) ?_ | refine jl_w (i := 5) (f := 37) (xs := [_, _]) rfl rfl rfl rfl (c_markPredictor (hN := (by first | omega | exact bif_le (by omega))) (hk := (by omega)) ..) (ev_cons rfl tt (ev_cons rfl tt ev_nil)) rfl (fun _ _ => trivial) ?_
       refine jl_op rfl rfl (.none rfl) (v_assign rfl rfl tt) ?_
       refine jl_nil ?_)
    | (refine j_region (id := 14) ?_
       refine jl_op rfl rfl (.none rfl) (v_move rfl rfl tt) ?_
       refine jl_op rfl rfl (.none rfl) (v_icmp rfl rfl rfl rfl tt tt) ?_
       refine jl_op rfl rfl (.none rfl) (v_move rfl rfl tt) ?_
       first | refine jl_op rfl rfl (.some rfl rfl rfl) (v_loadS rfl Try.underlying28 (by rfl) (by kernel_rfl) rfl tt (by first | exact m0 | exact m1 | exact m2 | exact m3 | exact m4 | exact m5 | exact m6 | exact m7 | exact m8 | exact m9 | exact m10 | exact m11)) ?_ | refine jl_op rfl rfl (.some rfl rfl rfl) (v_loadSRo rfl Try.underlying28 (by rfl) (by kernel_rfl) rfl tt (by first | exact m0 | exact m1 | exact m2 | exact m3 | exact m4 | exact m5 | exact m6 | exact m7 | exact m8 | exact m9 | exact m10 | exact m11)) ?_
       first | refine jl_op rfl rfl (.some rfl rfl rfl) (v_loadS rfl Try.underlying28 (by rfl) (by kernel_rfl) rfl tt (by first | exact m0 | exact m1 | exact m2 | exact m3 | exact m4 | exact m5 | exact m6 | exact m7 | exact m8 | exact m9 | exact m10 | exact m11)) ?_ | refine jl_op rfl rfl (.some rfl rfl rfl) (v_loadSRo rfl Try.underlying28 (by rfl) (by kernel_rfl) rfl tt (by first | exact m0 | exact m1 | exact m2 | exact m3 | exact m4 | exact m5 | exact m6 | exact m7 | exact m8 | exact m9 | exact m10 | exact m11)) ?_
       refine jl_op rfl rfl (.some rfl rfl rfl) (v_call (f := 19) (xs := [_, _]) rfl (c_eqPredictor _ _ _ _ _ _ _ _ _ _ (by first | omega | exact bif_le (by omega))) (ev_cons rfl ii (ev_cons rfl ii ev_nil)) (by intro w hc hI; first | trivial | (exfalso; simp_all; done) | (clear hc; repeat' (first | exact ros_nil | refine ros_cons ?_ ?_ | exact hI.roRo (by first | exact m0 | exact m1 | exact m2 | exact m3 | exact m4 | exact m5 | exact m6 | exact m7 | exact m8 | exact m9 | exact m10 | exact m11) | exact hI.boxRo (by first | exact m0 | exact m1 | exact m2 | exact m3 | exact m4 | exact m5 | exact m6 | exact m7 | exact m8 | exact m9 | exact m10 | exact m11) | exact HInv.vecRo hI (by first | exact m0 | exact m1 | exact m2 | exact m3 | exact m4 | exact m5 | exact m6 | exact m7 | exact m8 | exact m9 | exact m10 | exact m11))))) ?_
       refine jl_op rfl rfl (.some rfl rfl rfl) (v_not rfl rfl ii) ?_
       refine jl_op rfl rfl (.none rfl) (v_or rfl rfl tt rfl fi) ?_
       refine jl_op rfl rfl (.none rfl) (v_move rfl rfl tt) ?_
       refine jl_op rfl rfl (.some rfl rfl rfl) (v_move rfl rfl tt) ?_
       refine jl_op rfl rfl (.some rfl rfl rfl) (v_move rfl rfl tt) ?_
       refine jl_op rfl rfl (.some rfl rfl rfl) (v_bne rfl rfl rfl Try.underlying4 ii ii rfl) ?_
       refine jl_op rfl rfl (.none rfl) (v_or rfl rfl tt rfl fi) ?_
       refine jl_nil ?_)
    | (refine j_region (id := 15) ?_
       refine jl_op rfl rfl (.none rfl) (v_assign rfl rfl tt) ?_
       refine jl_nil ?_)
    | (refine j_region (id := 16) ?_
       refine jl_op rfl rfl (.none rfl) (v_assign rfl rfl tt) ?_
       refine jl_nil ?_)
    | (refine j_region (id := 17) ?_
       first | refine jl_op rfl rfl (.none rfl) (v_loadS rfl Try.underlying28 (by rfl) (by kernel_rfl) rfl tt (by first | exact m0 | exact m1 | exact m2 | exact m3 | exact m4 | exact m5 | exact m6 | exact m7 | exact m8 | exact m9 | exact m10 | exact m11)) ?_ | refine jl_op rfl rfl (.none rfl) (v_loadSRo rfl Try.underlying28 (by rfl) (by kernel_rfl) rfl tt (by first | exact m0 | exact m1 | exact m2 | exact m3 | exact m4 | exact m5 | exact m6 | exact m7 | exact m8 | exact m9 | exact m10 | exact m11)) ?_
       refine jl_op rfl rfl (.none rfl) (v_move rfl rfl tt) ?_
       first | refine jl_w (i := 0) (f := 37) (xs := [_, _]) rfl rfl rfl rfl (c_markPredictor (hN := (by first | omega | exact bif_le (by omega))) (hk := (by omega)) ..) (ev_cons rfl tt (ev_cons rfl tt ev_nil)) rfl (fun _ _ => trivial) ?_ | refine jl_w (i := 1) (f := 37) (xs := [_, _]) rfl rfl rfl rfl (c_markPredictor (hN := (by first | omega | exact bif_le (by omega))) (hk := (by omega)) ..) (ev_cons rfl tt (ev_cons rfl tt ev_nil)) rfl (fun _ _ => trivial) ?_ | refine jl_w (i := 2) (f := 37) (xs := [_, _]) rfl rfl rfl rfl (c_markPredictor (hN := (by first | omega | exact bif_le (by omega))) (hk := (by omega)) ..) (ev_cons rfl tt (ev_cons rfl tt ev_nil)) rfl (fun _ _ => trivial) ?_ | refine jl_w (i := 3) (f := 37) (xs := [_, _]) rfl rfl rfl rfl (c_markPredictor (hN := (by first | omega | exact bif_le (by omega))) (hk := (by omega)) ..) (ev_cons rfl tt (ev_cons rfl tt ev_nil)) rfl (fun _ _ => trivial) ?_ | refine jl_w (i := 4) (f := 37) (xs := [_, _]) rfl rfl rfl rfl (c_markPredictor (hN := (by first | omega | exact bif_le (by omega))) (hk := (by omega)) ..) (ev_cons rfl tt (ev_cons rfl tt ev_nil)) rfl (fun _ _ => trivial) ?_ | refine jl_w (i := 5) (f := 37) (xs := [_, _]) rfl rfl rfl rfl (c_markPredictor (hN := (by first | omega | exact bif_le (by omega))) (hk := (by omega)) ..) (ev_cons rfl tt (ev_cons rfl tt ev_nil)) rfl (fun _ _ => trivial) ?_
       refine jl_op rfl rfl (.none rfl) (v_assign rfl rfl tt) ?_
       refine jl_nil ?_)
    | (refine j_region (id := 18) ?_
       refine jl_op rfl rfl (.none rfl) (v_assign rfl rfl tt) ?_
       refine jl_nil ?_)
    | (refine j_region (id := 19) ?_
       first | refine jl_op rfl rfl (.none rfl) (v_loadS rfl Try.underlying28 (by rfl) (by kernel_rfl) rfl tt (by first | exact m0 | exact m1 | exact m2 | exact m3 | exact m4 | exact m5 | exact m6 | exact m7 | exact m8 | exact m9 | exact m10 | exact m11)) ?_ | refine jl_op rfl rfl (.none rfl) (v_loadSRo rfl Try.underlying28 (by rfl) (by kernel_rfl) rfl tt (by first | exact m0 | exact m1 | exact m2 | exact m3 | exact m4 | exact m5 | exact m6 | exact m7 | exact m8 | exact m9 | exact m10 | exact m11)) ?_
       refine jl_op rfl rfl (.none rfl) (v_move rfl rfl tt) ?_
       refine jl_op rfl rfl (.none rfl) (v_call (f := 38) (xs := [_, _]) rfl (c_heldPredictor (hN := (by first | omega | exact bif_le (by omega))) (hk := (by omega)) ..) (ev_cons rfl tt (ev_cons rfl tt ev_nil)) (by intro w hc hI; first | trivial | (exfalso; simp_all; done) | (clear hc; repeat' (first | exact ros_nil | refine ros_cons ?_ ?_ | exact hI.roRo (by first | exact m0 | exact m1 | exact m2 | exact m3 | exact m4 | exact m5 | exact m6 | exact m7 | exact m8 | exact m9 | exact m10 | exact m11) | exact hI.boxRo (by first | exact m0 | exact m1 | exact m2 | exact m3 | exact m4 | exact m5 | exact m6 | exact m7 | exact m8 | exact m9 | exact m10 | exact m11) | exact HInv.vecRo hI (by first | exact m0 | exact m1 | exact m2 | exact m3 | exact m4 | exact m5 | exact m6 | exact m7 | exact m8 | exact m9 | exact m10 | exact m11))))) ?_
       refine jl_op rfl rfl (.none rfl) (v_assign rfl rfl tt) ?_
       refine jl_nil ?_)
    | (refine j_region (id := 20) ?_
       refine jl_op rfl rfl (.none rfl) (v_move rfl rfl tt) ?_
       refine jl_op rfl rfl (.none rfl) (v_icmp rfl rfl rfl rfl tt tt) ?_
       refine jl_nil ?_)
    | (refine j_region (id := 21) ?_
       refine jl_op rfl rfl (.none rfl) (v_assign rfl rfl tt) ?_
       refine jl_nil ?_)
    | (refine j_region (id := 22) ?_
       refine jl_op rfl rfl (.none rfl) (v_move rfl rfl tt) ?_
       refine jl_op rfl rfl (.none rfl) (v_move rfl rfl tt) ?_
       refine jl_op rfl rfl (.none rfl) (v_icmp rfl rfl rfl rfl tt tt) ?_
       refine jl_nil ?_)
    | (refine j_region (id := 23) ?_
       refine jl_op rfl rfl (.none rfl) (v_assign rfl rfl tt) ?_
       refine jl_nil ?_)
    | (refine j_region (id := 24) ?_
       first | refine jl_op rfl rfl (.none rfl) (v_loadS rfl Try.underlying25 (by rfl) (by kernel_rfl) rfl tt (by first | exact m0 | exact m1 | exact m2 | exact m3 | exact m4 | exact m5 | exact m6 | exact m7 | exact m8 | exact m9 | exact m10 | exact m11)) ?_ | refine jl_op rfl rfl (.none rfl) (v_loadSRo rfl Try.underlying25 (by rfl) (by kernel_rfl) rfl tt (by first | exact m0 | exact m1 | exact m2 | exact m3 | exact m4 | exact m5 | exact m6 | exact m7 | exact m8 | exact m9 | exact m10 | exact m11)) ?_
       refine jl_x1 rfl rfl rfl (x_call (f := 17) (xs := [_]) rfl (c_toPredictor _ _ _ _ _ (by omega)) (ev_cons rfl tt ev_nil) (by intro w hI; first | trivial | (repeat' (first | exact ros_nil | refine ros_cons ?_ ?_ | exact hI.roRo (by first | exact m0 | exact m1 | exact m2 | exact m3 | exact m4 | exact m5 | exact m6 | exact m7 | exact m8 | exact m9 | exact m10 | exact m11) | exact hI.boxRo (by first | exact m0 | exact m1 | exact m2 | exact m3 | exact m4 | exact m5 | exact m6 | exact m7 | exact m8 | exact m9 | exact m10 | exact m11) | exact HInv.vecRo hI (by first | exact m0 | exact m1 | exact m2 | exact m3 | exact m4 | exact m5 | exact m6 | exact m7 | exact m8 | exact m9 | exact m10 | exact m11))))) (fun s79 => ?_)
       refine jl_op rfl rfl (.none rfl) (v_move rfl rfl tt) ?_
       refine jl_x rfl rfl rfl (x_call (f := 36) (xs := [_, _]) rfl (c_dampI _ _ _ _ _ _ (by omega)) (ev_cons rfl tt (ev_cons rfl tt ev_nil)) (by intro w hI; first | trivial | (repeat' (first | exact ros_nil | refine ros_cons ?_ ?_ | exact hI.roRo (by first | exact m0 | exact m1 | exact m2 | exact m3 | exact m4 | exact m5 | exact m6 | exact m7 | exact m8 | exact m9 | exact m10 | exact m11) | exact hI.boxRo (by first | exact m0 | exact m1 | exact m2 | exact m3 | exact m4 | exact m5 | exact m6 | exact m7 | exact m8 | exact m9 | exact m10 | exact m11) | exact HInv.vecRo hI (by first | exact m0 | exact m1 | exact m2 | exact m3 | exact m4 | exact m5 | exact m6 | exact m7 | exact m8 | exact m9 | exact m10 | exact m11))))) (fun s81 => ?_)
       refine jl_op rfl rfl (.none rfl) (v_move rfl rfl tt) ?_
       refine jl_op rfl rfl (.none rfl) (v_extract rfl rfl tt rfl) ?_
       refine jl_op rfl rfl (.none rfl) (v_extract rfl rfl tt rfl) ?_
       refine jl_alloc rfl rfl rfl rfl zero28 (by rfl) (fun b14 => ?_)
       first | refine jl_storeS (i := 0) rfl rfl rfl (by kernel_rfl) rfl rfl rfl rfl ?_ | refine jl_storeS (i := 1) rfl rfl rfl (by kernel_rfl) rfl rfl rfl rfl ?_ | refine jl_storeS (i := 2) rfl rfl rfl (by kernel_rfl) rfl rfl rfl rfl ?_ | refine jl_storeS (i := 3) rfl rfl rfl (by kernel_rfl) rfl rfl rfl rfl ?_ | refine jl_storeS (i := 4) rfl rfl rfl (by kernel_rfl) rfl rfl rfl rfl ?_ | refine jl_storeS (i := 5) rfl rfl rfl (by kernel_rfl) rfl rfl rfl rfl ?_ | refine jl_storeS (i := 6) rfl rfl rfl (by kernel_rfl) rfl rfl rfl rfl ?_ | refine jl_storeS (i := 7) rfl rfl rfl (by kernel_rfl) rfl rfl rfl rfl ?_
       refine jl_op rfl rfl (.none rfl) (v_assign rfl rfl tt) ?_
       refine jl_nil ?_)
    | (refine j_region (id := 25) ?_
       first | refine jl_op rfl rfl (.none rfl) (v_loadS rfl Try.underlying28 (by rfl) (by kernel_rfl) rfl tt (by first | exact m0 | exact m1 | exact m2 | exact m3 | exact m4 | exact m5 | exact m6 | exact m7 | exact m8 | exact m9 | exact m10 | exact m11)) ?_ | refine jl_op rfl rfl (.none rfl) (v_loadSRo rfl Try.underlying28 (by rfl) (by kernel_rfl) rfl tt (by first | exact m0 | exact m1 | exact m2 | exact m3 | exact m4 | exact m5 | exact m6 | exact m7 | exact m8 | exact m9 | exact m10 | exact m11)) ?_
       first | refine jl_op rfl rfl (.none rfl) (v_loadS rfl Try.underlying28 (by rfl) (by kernel_rfl) rfl tt (by first | exact m0 | exact m1 | exact m2 | exact m3 | exact m4 | exact m5 | exact m6 | exact m7 | exact m8 | exact m9 | exact m10 | exact m11)) ?_ | refine jl_op rfl rfl (.none rfl) (v_loadSRo rfl Try.underlying28 (by rfl) (by kernel_rfl) rfl tt (by first | exact m0 | exact m1 | exact m2 | exact m3 | exact m4 | exact m5 | exact m6 | exact m7 | exact m8 | exact m9 | exact m10 | exact m11)) ?_
       refine jl_op rfl rfl (.none rfl) (v_call (f := 19) (xs := [_, _]) rfl (c_eqPredictor _ _ _ _ _ _ _ _ _ _ (by first | omega | exact bif_le (by omega))) (ev_cons rfl tt (ev_cons rfl tt ev_nil)) (by intro w hc hI; first | trivial | (exfalso; simp_all; done) | (clear hc; repeat' (first | exact ros_nil | refine ros_cons ?_ ?_ | exact hI.roRo (by first | exact m0 | exact m1 | exact m2 | exact m3 | exact m4 | exact m5 | exact m6 | exact m7 | exact m8 | exact m9 | exact m10 | exact m11) | exact hI.boxRo (by first | exact m0 | exact m1 | exact m2 | exact m3 | exact m4 | exact m5 | exact m6 | exact m7 | exact m8 | exact m9 | exact m10 | exact m11) | exact HInv.vecRo hI (by first | exact m0 | exact m1 | exact m2 | exact m3 | exact m4 | exact m5 | exact m6 | exact m7 | exact m8 | exact m9 | exact m10 | exact m11))))) ?_
       refine jl_op rfl rfl (.none rfl) (v_not rfl rfl tt) ?_
       refine jl_op rfl rfl (.none rfl) (v_move rfl rfl tt) ?_
       refine jl_op rfl rfl (.some rfl rfl rfl) (v_move rfl rfl tt) ?_
       refine jl_op rfl rfl (.some rfl rfl rfl) (v_move rfl rfl tt) ?_
       refine jl_op rfl rfl (.some rfl rfl rfl) (v_bne rfl rfl rfl Try.underlying4 ii ii rfl) ?_
       refine jl_op rfl rfl (.none rfl) (v_or rfl rfl tt rfl fi) ?_
       refine jl_nil ?_)
    | (refine j_region (id := 26) ?_
       refine jl_op rfl rfl (.none rfl) (v_assign rfl rfl tt) ?_
       refine jl_nil ?_)
    | (refine j_region (id := 27) ?_
       refine jl_op rfl rfl (.none rfl) (v_assign rfl rfl tt) ?_
       refine jl_nil ?_)
    | (refine j_region (id := 28) ?_
       first | refine jl_op rfl rfl (.none rfl) (v_loadS rfl Try.underlying28 (by rfl) (by kernel_rfl) rfl tt (by first | exact m0 | exact m1 | exact m2 | exact m3 | exact m4 | exact m5 | exact m6 | exact m7 | exact m8 | exact m9 | exact m10 | exact m11)) ?_ | refine jl_op rfl rfl (.none rfl) (v_loadSRo rfl Try.underlying28 (by rfl) (by kernel_rfl) rfl tt (by first | exact m0 | exact m1 | exact m2 | exact m3 | exact m4 | exact m5 | exact m6 | exact m7 | exact m8 | exact m9 | exact m10 | exact m11)) ?_
       refine jl_op rfl rfl (.none rfl) (v_move rfl rfl tt) ?_
       refine jl_op rfl rfl (.none rfl) (v_call (f := 38) (xs := [_, _]) rfl (c_heldPredictor (hN := (by first | omega | exact bif_le (by omega))) (hk := (by omega)) ..) (ev_cons rfl tt (ev_cons rfl tt ev_nil)) (by intro w hc hI; first | trivial | (exfalso; simp_all; done) | (clear hc; repeat' (first | exact ros_nil | refine ros_cons ?_ ?_ | exact hI.roRo (by first | exact m0 | exact m1 | exact m2 | exact m3 | exact m4 | exact m5 | exact m6 | exact m7 | exact m8 | exact m9 | exact m10 | exact m11) | exact hI.boxRo (by first | exact m0 | exact m1 | exact m2 | exact m3 | exact m4 | exact m5 | exact m6 | exact m7 | exact m8 | exact m9 | exact m10 | exact m11) | exact HInv.vecRo hI (by first | exact m0 | exact m1 | exact m2 | exact m3 | exact m4 | exact m5 | exact m6 | exact m7 | exact m8 | exact m9 | exact m10 | exact m11))))) ?_
       refine jl_op rfl rfl (.none rfl) (v_assign rfl rfl tt) ?_
       refine jl_nil ?_)
    | (refine j_region (id := 29) ?_
       refine jl_op rfl rfl (.none rfl) (v_move rfl rfl tt) ?_
       refine jl_op rfl rfl (.none rfl) (v_icmp rfl rfl rfl rfl tt tt) ?_
       refine jl_nil ?_)
    | (refine j_region (id := 30) ?_
       refine jl_op rfl rfl (.none rfl) (v_assign rfl rfl tt) ?_
       refine jl_nil ?_)
    | (refine j_region (id := 31) ?_
       refine jl_op rfl rfl (.none rfl) (v_move rfl rfl tt) ?_
       refine jl_op rfl rfl (.none rfl) (v_move rfl rfl tt) ?_
       refine jl_op rfl rfl (.none rfl) (v_icmp rfl rfl rfl rfl tt tt) ?_
       refine jl_nil ?_)
    | (refine j_region (id := 32) ?_
       refine jl_op rfl rfl (.none rfl) (v_assign rfl rfl tt) ?_
       refine jl_nil ?_)
    | (refine j_region (id := 33) ?_
       refine jl_op rfl rfl (.none rfl) (v_assign rfl rfl tt) ?_
       refine jl_nil ?_)))
  all_goals first | exact jq_ret1 (.inl rfl) Try.results9 rfl | (exfalso; simp [icmp, sameT_self, sameF_self] at * <;> omega)
end Go.Vx
