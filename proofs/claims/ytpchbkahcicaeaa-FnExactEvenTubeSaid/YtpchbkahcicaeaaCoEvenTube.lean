/- Contracts of functions of the program and of the reference. -/
import Derived.Test.YtpchbkahcicaeaaCoTube
namespace Go.Vx
open Go.Proofs
set_option maxRecDepth 4000
set_option maxHeartbeats 4000000
attribute [local irreducible] J JL JQ JA VOp Con Ext XOp ConM ConW ConW2
theorem c_mul64 (m : Nat) (hm : m ≤ 16) : Con Try.prog 106 [.int .u64 1, .int .u64 (m : Int)] (fun _ => True) (.tuple #[.int .u64 0, .int .u64 (m : Int)]) := by
  refine con_intro (H := []) Try.func106 (by decide) rfl rfl (fun w _ => HInv.refl w) (fun w0 _ => ?_)
  (repeat' (first
    | refine j_condLt rfl (fun _ => ?_) (fun _ => ?_)
    | refine j_condLe rfl (fun _ => ?_) (fun _ => ?_)
    | refine j_condGt rfl (fun _ => ?_) (fun _ => ?_)
    | refine j_condGe rfl (fun _ => ?_) (fun _ => ?_)
    | refine j_condNe rfl (fun _ => ?_) (fun _ => ?_)
    | refine j_condEq rfl (fun _ => ?_) (fun _ => ?_)
    | refine j_condOrLt rfl (fun _ => ?_) (fun _ => ?_)
    | refine j_condAndLt rfl (fun _ => ?_) (fun _ => ?_)
    | refine j_condAndGe rfl (fun _ => ?_) (fun _ => ?_)
    | refine j_seq ?_
    | refine jq_then ?_
    | refine j_block ?_
    | refine j_ret ?_
    | refine jq_then_ret ?_
    | refine jq_block_ret ?_
    | refine jq_block_normal ?_
    | refine jq_then_exit ?_
    | refine jq_block_same rfl ?_
    | refine jq_block_other rfl ?_
    | refine j_skip ?_
    | refine j_exit ?_
    | refine j_label ?_
    | refine j_condCT ?_
    | refine j_condCF ?_
    | refine j_cond rfl (fun _ => ?_) (fun _ => ?_)
    | (refine j_region (id := 0) ?_
       refine jl_op rfl rfl (.none rfl) (v_assign rfl rfl tt) ?_
       refine jl_op rfl rfl (.none rfl) (v_assign rfl rfl tt) ?_
       refine jl_nil ?_)
    | (refine j_region (id := 1) ?_
       refine jl_op rfl rfl (.none rfl) (v_move rfl rfl tt) ?_
       refine jl_op rfl rfl (.none rfl) (v_iand (Z := 1) rfl rfl rfl tt tt (by decide)) ?_
       refine jl_op rfl rfl (.none rfl) (v_assign rfl rfl tt) ?_
       refine jl_nil ?_)
    | (refine j_region (id := 2) ?_
       refine jl_op rfl rfl (.none rfl) (v_move rfl rfl tt) ?_
       refine jl_op rfl rfl (.none rfl) (v_ishr (Z := 0) rfl rfl rfl tt tt (by decide) (by decide)) ?_
       refine jl_op rfl rfl (.none rfl) (v_assign rfl rfl tt) ?_
       refine jl_nil ?_)
    | (refine j_region (id := 3) ?_
       refine jl_op rfl rfl (.none rfl) (v_move rfl rfl tt) ?_
       refine jl_op rfl rfl (.none rfl) (v_iand (Z := (m : Int)) rfl rfl rfl tt tt (and_small hm)) ?_
       refine jl_op rfl rfl (.none rfl) (v_assign rfl rfl tt) ?_
       refine jl_nil ?_)
    | (refine j_region (id := 4) ?_
       refine jl_op rfl rfl (.none rfl) (v_move rfl rfl tt) ?_
       refine jl_op rfl rfl (.none rfl) (v_ishr (Z := 0) rfl rfl rfl tt tt (by decide) (shr_small hm)) ?_
       refine jl_op rfl rfl (.none rfl) (v_assign rfl rfl tt) ?_
       refine jl_nil ?_)
    | (refine j_region (id := 5) ?_
       refine jl_op rfl rfl (.none rfl) (v_move rfl rfl tt) ?_
       refine jl_op rfl rfl (.none rfl) (v_move rfl rfl tt) ?_
       refine jl_op rfl rfl (.none rfl) (v_iarith' (Z := (m : Int)) rfl rfl rfl rfl tt tt (fun _ => mul_u1 hm)) ?_
       refine jl_op rfl rfl (.none rfl) (v_assign rfl rfl tt) ?_
       refine jl_nil ?_)
    | (refine j_region (id := 6) ?_
       refine jl_op rfl rfl (.none rfl) (v_move rfl rfl tt) ?_
       refine jl_op rfl rfl (.none rfl) (v_move rfl rfl tt) ?_
       refine jl_op rfl rfl (.none rfl) (v_iarith' (Z := 0) rfl rfl rfl rfl tt tt (fun _ => mul_u0)) ?_
       refine jl_op rfl rfl (.none rfl) (v_move rfl rfl tt) ?_
       refine jl_op rfl rfl (.none rfl) (v_ishr (Z := 0) rfl rfl rfl tt tt (by decide) (shr_small hm)) ?_
       refine jl_op rfl rfl (.none rfl) (v_iarith' (Z := 0) rfl rfl rfl rfl tt tt (fun _ => by decide)) ?_
       refine jl_op rfl rfl (.none rfl) (v_assign rfl rfl tt) ?_
       refine jl_nil ?_)
    | (refine j_region (id := 7) ?_
       refine jl_op rfl rfl (.none rfl) (v_move rfl rfl tt) ?_
       refine jl_op rfl rfl (.none rfl) (v_iand (Z := 0) rfl rfl rfl tt tt (by decide)) ?_
       refine jl_op rfl rfl (.none rfl) (v_assign rfl rfl tt) ?_
       refine jl_nil ?_)
    | (refine j_region (id := 8) ?_
       refine jl_op rfl rfl (.none rfl) (v_move rfl rfl tt) ?_
       refine jl_op rfl rfl (.none rfl) (v_ishr (Z := 0) rfl rfl rfl tt tt (by decide) (by decide)) ?_
       refine jl_op rfl rfl (.none rfl) (v_assign rfl rfl tt) ?_
       refine jl_nil ?_)
    | (refine j_region (id := 9) ?_
       refine jl_op rfl rfl (.none rfl) (v_move rfl rfl tt) ?_
       refine jl_op rfl rfl (.none rfl) (v_move rfl rfl tt) ?_
       refine jl_op rfl rfl (.none rfl) (v_move rfl rfl tt) ?_
       refine jl_op rfl rfl (.none rfl) (v_iarith' (Z := 0) rfl rfl rfl rfl tt tt (fun _ => by decide)) ?_
       refine jl_op rfl rfl (.none rfl) (v_iarith' (Z := 0) rfl rfl rfl rfl tt tt (fun _ => by decide)) ?_
       refine jl_op rfl rfl (.none rfl) (v_assign rfl rfl tt) ?_
       refine jl_nil ?_)
    | (refine j_region (id := 10) ?_
       refine jl_op rfl rfl (.none rfl) (v_move rfl rfl tt) ?_
       refine jl_op rfl rfl (.none rfl) (v_move rfl rfl tt) ?_
       refine jl_op rfl rfl (.none rfl) (v_iarith' (Z := 0) rfl rfl rfl rfl tt tt (fun _ => by decide)) ?_
       refine jl_op rfl rfl (.none rfl) (v_move rfl rfl tt) ?_
       refine jl_op rfl rfl (.none rfl) (v_iarith' (Z := 0) rfl rfl rfl rfl tt tt (fun _ => by decide)) ?_
       refine jl_op rfl rfl (.none rfl) (v_move rfl rfl tt) ?_
       refine jl_op rfl rfl (.none rfl) (v_ishr (Z := 0) rfl rfl rfl tt tt (by decide) (by decide)) ?_
       refine jl_op rfl rfl (.none rfl) (v_iarith' (Z := 0) rfl rfl rfl rfl tt tt (fun _ => by decide)) ?_
       refine jl_op rfl rfl (.none rfl) (v_assign rfl rfl tt) ?_
       refine jl_nil ?_)
    | (refine j_region (id := 11) ?_
       refine jl_op rfl rfl (.none rfl) (v_move rfl rfl tt) ?_
       refine jl_op rfl rfl (.none rfl) (v_move rfl rfl tt) ?_
       refine jl_op rfl rfl (.none rfl) (v_iarith' (Z := (m : Int)) rfl rfl rfl rfl tt tt (fun _ => mul_u1 hm)) ?_
       refine jl_op rfl rfl (.none rfl) (v_assign rfl rfl tt) ?_
       refine jl_nil ?_)))
  all_goals exact jq_ret2E (.inl rfl) Try.results106 rfl rfl rfl rfl rfl
theorem c_mulB (m : Nat) (hm : m ≤ 16) : Con Try.prog 94 [.int .u64 1, .int .u64 (m : Int)] (fun _ => True) (.tuple #[.int .u64 0, .int .u64 (m : Int)]) := by
  refine con_intro (H := []) Try.func94 (by decide) rfl rfl (fun w _ => HInv.refl w) (fun w0 _ => ?_)
  (repeat' (first
    | refine j_condLt rfl (fun _ => ?_) (fun _ => ?_)
    | refine j_condLe rfl (fun _ => ?_) (fun _ => ?_)
    | refine j_condGt rfl (fun _ => ?_) (fun _ => ?_)
    | refine j_condGe rfl (fun _ => ?_) (fun _ => ?_)
    | refine j_condNe rfl (fun _ => ?_) (fun _ => ?_)
    | refine j_condEq rfl (fun _ => ?_) (fun _ => ?_)
    | refine j_condOrLt rfl (fun _ => ?_) (fun _ => ?_)
    | refine j_condAndLt rfl (fun _ => ?_) (fun _ => ?_)
    | refine j_condAndGe rfl (fun _ => ?_) (fun _ => ?_)
    | refine j_seq ?_
    | refine jq_then ?_
    | refine j_block ?_
    | refine j_ret ?_
    | refine jq_then_ret ?_
    | refine jq_block_ret ?_
    | refine jq_block_normal ?_
    | refine jq_then_exit ?_
    | refine jq_block_same rfl ?_
    | refine jq_block_other rfl ?_
    | refine j_skip ?_
    | refine j_exit ?_
    | refine j_label ?_
    | refine j_condCT ?_
    | refine j_condCF ?_
    | refine j_cond rfl (fun _ => ?_) (fun _ => ?_)
    | (refine j_region (id := 0) ?_
       refine jl_op rfl rfl (.none rfl) (v_assign rfl rfl tt) ?_
       refine jl_op rfl rfl (.none rfl) (v_assign rfl rfl tt) ?_
       refine jl_nil ?_)
    | (refine j_region (id := 3) ?_
       refine jl_op rfl rfl (.none rfl) (v_move rfl rfl tt) ?_
       refine jl_op rfl rfl (.none rfl) (v_move rfl rfl tt) ?_
       refine jl_op rfl rfl (.none rfl) (v_call (f := 106) (xs := [_, _]) rfl (c_mul64 m hm) (ev_cons rfl tt (ev_cons rfl tt ev_nil)) (by intro w hc hI; first | trivial | (exfalso; simp_all; done) | (clear hc; repeat' (first | exact ros_nil | refine ros_cons ?_ ?_ | exact hI.roRo (by first | exact m0 | exact m1 | exact m2 | exact m3 | exact m4 | exact m5 | exact m6 | exact m7 | exact m8 | exact m9 | exact m10 | exact m11 | exact m12 | exact m13) | exact hI.boxRo (by first | exact m0 | exact m1 | exact m2 | exact m3 | exact m4 | exact m5 | exact m6 | exact m7 | exact m8 | exact m9 | exact m10 | exact m11 | exact m12 | exact m13) | exact HInv.vecRo hI (by first | exact m0 | exact m1 | exact m2 | exact m3 | exact m4 | exact m5 | exact m6 | exact m7 | exact m8 | exact m9 | exact m10 | exact m11 | exact m12 | exact m13))))) ?_
       refine jl_op rfl rfl (.none rfl) (v_move rfl rfl tt) ?_
       refine jl_op rfl rfl (.none rfl) (v_extract rfl rfl tt rfl) ?_
       refine jl_op rfl rfl (.none rfl) (v_extract rfl rfl tt rfl) ?_
       refine jl_op rfl rfl (.none rfl) (v_assign rfl rfl tt) ?_
       refine jl_op rfl rfl (.none rfl) (v_assign rfl rfl tt) ?_
       refine jl_nil ?_)
    | (refine j_region (id := 4) ?_
       refine jl_op rfl rfl (.none rfl) (v_move rfl rfl tt) ?_
       refine jl_op rfl rfl (.none rfl) (v_move rfl rfl tt) ?_
       refine jl_op rfl rfl (.none rfl) (v_assign rfl rfl tt) ?_
       refine jl_op rfl rfl (.none rfl) (v_assign rfl rfl tt) ?_
       refine jl_nil ?_)))
  all_goals exact jq_ret2E (.inl rfl) Try.results94 rfl rfl rfl rfl rfl
theorem c_repeat (b x m : Nat) (c : Int) (hz : c = (m : Int)) (h1 : 1 ≤ m) (hm : m ≤ 16) : ConM Try.prog 64 [.slice (some ⟨b, 0, none⟩) 1 1, .int .i64 c] (RoS [.ro (some ⟨b, 0, none⟩) [F x]]) (fun s : Nat => .slice (some ⟨s, 0, none⟩) m m) (fun s : Nat => [.vec 23 (some ⟨s, 0, none⟩) m (tab m (fun _ => x))]) := by
  refine conM_intro (H := [.ro (some ⟨b, 0, none⟩) [F x]]) Try.func64 (by decide) rfl rfl (fun w h => h.inv) (fun w0 _ => ?_)
  (repeat' (first
    | refine j_part (by omega) ?_
    | refine j_partI (by omega) ?_
    | (refine j_loop2 (σ := Nat) (fun n => 1 ≤ n ∧ n ≤ m) (fun n => [(7, true, .slice (some ⟨b30, 0, none⟩) m m), (8, true, .int .i64 (n))]) (fun n => [.vec 23 (some ⟨b30, 0, none⟩) m (part m n (fun _ => x) (fun _ => 0)), .ro (some ⟨b, 0, none⟩) [F x]]) (fun n => m - n) 1 (by omega) (fs_cons rfl (fs_cons rfl fs_nil)) (fun w h => by rw [← part_one (by omega)]; exact h) ?_; intro n hn)
    | (exact jq_round (n + min n (m - n)) (by omega) (by omega) (fs_cons rfl (fs_cons rfl fs_nil)) (fun w h => by rw [← part_double]; exact h))
    | refine j_condLt rfl (fun _ => ?_) (fun _ => ?_)
    | refine j_condLe rfl (fun _ => ?_) (fun _ => ?_)
    | refine j_condGt rfl (fun _ => ?_) (fun _ => ?_)
    | refine j_condGe rfl (fun _ => ?_) (fun _ => ?_)
    | refine j_condNe rfl (fun _ => ?_) (fun _ => ?_)
    | refine j_condEq rfl (fun _ => ?_) (fun _ => ?_)
    | refine j_condOrLt rfl (fun _ => ?_) (fun _ => ?_)
    | refine j_condAndLt rfl (fun _ => ?_) (fun _ => ?_)
    | refine j_condAndGe rfl (fun _ => ?_) (fun _ => ?_)
    | refine j_seq ?_
    | refine jq_then ?_
    | refine j_block ?_
    | refine j_ret ?_
    | refine jq_then_ret ?_
    | refine jq_block_ret ?_
    | refine jq_block_normal ?_
    | refine jq_then_exit ?_
    | refine jq_block_same rfl ?_
    | refine jq_block_other rfl ?_
    | refine j_skip ?_
    | refine j_exit ?_
    | refine j_label ?_
    | refine j_condCT ?_
    | refine j_condCF ?_
    | refine j_cond rfl (fun _ => ?_) (fun _ => ?_)
    | (refine j_region (id := 0) ?_
       refine jl_op rfl rfl (.none rfl) (v_assign rfl rfl tt) ?_
       refine jl_nil ?_)
    | (refine j_region (id := 1) ?_
       refine jl_op rfl rfl (.none rfl) (v_move rfl rfl tt) ?_
       refine jl_op rfl rfl (.none rfl) (v_icmp rfl rfl rfl rfl tt tt) ?_
       refine jl_nil ?_)
    | (refine j_region (id := 3) ?_
       refine jl_op rfl rfl (.none rfl) (v_move rfl rfl tt) ?_
       refine jl_op rfl rfl (.none rfl) (v_len rfl rfl Try.underlying22 rfl tt) ?_
       refine jl_op rfl rfl (.none rfl) (v_i2i (Z := 1) rfl rfl tt (by rfl) Try.underlying111 (by decide)) ?_
       refine jl_op rfl rfl (.none rfl) (v_move rfl rfl tt) ?_
       refine jl_op rfl rfl (.none rfl) (v_i2i (Z := (m : Int)) rfl rfl tt (by rfl) Try.underlying111 (by rw [hz]; exact wrap_u hm)) ?_
       refine jl_op rfl rfl (.none rfl) (v_call (f := 94) (xs := [_, _]) rfl (c_mulB m hm) (ev_cons rfl tt (ev_cons rfl tt ev_nil)) (by intro w hc hI; first | trivial | (exfalso; simp_all; done) | (clear hc; repeat' (first | exact ros_nil | refine ros_cons ?_ ?_ | exact hI.roRo (by first | exact m0 | exact m1 | exact m2 | exact m3 | exact m4 | exact m5 | exact m6 | exact m7 | exact m8 | exact m9 | exact m10 | exact m11 | exact m12 | exact m13) | exact hI.boxRo (by first | exact m0 | exact m1 | exact m2 | exact m3 | exact m4 | exact m5 | exact m6 | exact m7 | exact m8 | exact m9 | exact m10 | exact m11 | exact m12 | exact m13) | exact HInv.vecRo hI (by first | exact m0 | exact m1 | exact m2 | exact m3 | exact m4 | exact m5 | exact m6 | exact m7 | exact m8 | exact m9 | exact m10 | exact m11 | exact m12 | exact m13))))) ?_
       refine jl_op rfl rfl (.none rfl) (v_move rfl rfl tt) ?_
       refine jl_op rfl rfl (.none rfl) (v_extract rfl rfl tt rfl) ?_
       refine jl_op rfl rfl (.none rfl) (v_extract rfl rfl tt rfl) ?_
       refine jl_op rfl rfl (.none rfl) (v_assign rfl rfl tt) ?_
       refine jl_op rfl rfl (.none rfl) (v_assign rfl rfl tt) ?_
       refine jl_nil ?_)
    | (refine j_region (id := 4) ?_
       refine jl_op rfl rfl (.none rfl) (v_move rfl rfl tt) ?_
       refine jl_op rfl rfl (.none rfl) (v_icmp rfl rfl rfl rfl tt tt) ?_
       refine jl_op rfl rfl (.none rfl) (v_move rfl rfl tt) ?_
       refine jl_op rfl rfl (.some rfl rfl rfl) (v_move rfl rfl tt) ?_
       refine jl_op rfl rfl (.some rfl rfl rfl) (v_icmp rfl rfl rfl rfl ii tt) ?_
       refine jl_op rfl rfl (.none rfl) (v_or rfl rfl tt rfl fi) ?_
       refine jl_nil ?_)
    | (refine j_region (id := 6) ?_
       refine jl_op rfl rfl (.none rfl) (v_move rfl rfl tt) ?_
       refine jl_op rfl rfl (.none rfl) (v_i2i (Z := (m : Int)) rfl rfl tt (by rfl) Try.underlying3 (wrap_i hm)) ?_
       refine jl_x1 rfl rfl rfl (x_make (by' := 4) (Z := F 0) rfl Try.underlying22 (by kernel_rfl) zero23 rfl (by kernel_rfl) (by rfl) rfl rfl (by omega)) (fun b30 => ?_)
       refine jl_op rfl rfl (.none rfl) (v_assign rfl rfl tt) ?_
       refine jl_nil ?_)
    | (refine j_region (id := 7) ?_
       refine jl_op rfl rfl (.none rfl) (v_move rfl rfl tt) ?_
       refine jl_op rfl rfl (.none rfl) (v_move rfl rfl tt) ?_
       first | refine jl_copy (i := 0) rfl rfl rfl rfl Try.underlying22 (by kernel_rfl) rfl rfl rfl (fun w hI => by first | exact hI.vecRo (by first | exact m0 | exact m1 | exact m2 | exact m3 | exact m4 | exact m5 | exact m6 | exact m7 | exact m8 | exact m9 | exact m10 | exact m11 | exact m12 | exact m13) | exact hI.roRo (by first | exact m0 | exact m1 | exact m2 | exact m3 | exact m4 | exact m5 | exact m6 | exact m7 | exact m8 | exact m9 | exact m10 | exact m11 | exact m12 | exact m13)) (by first | rfl | exact (tab_length ..).symm | exact (part_length ..).symm | exact (tabI_length ..).symm | exact (partI_length ..).symm | exact (List.length_replicate ..).symm | simp only [List.length_append, List.length_nil, tab_length]) (by first | rfl | exact (tab_length ..).symm | exact (part_length ..).symm | exact (tabI_length ..).symm | exact (partI_length ..).symm | exact (List.length_replicate ..).symm | simp only [List.length_append, List.length_nil, tab_length]) (by omega) ?_ | refine jl_copy (i := 1) rfl rfl rfl rfl Try.underlying22 (by kernel_rfl) rfl rfl rfl (fun w hI => by first | exact hI.vecRo (by first | exact m0 | exact m1 | exact m2 | exact m3 | exact m4 | exact m5 | exact m6 | exact m7 | exact m8 | exact m9 | exact m10 | exact m11 | exact m12 | exact m13) | exact hI.roRo (by first | exact m0 | exact m1 | exact m2 | exact m3 | exact m4 | exact m5 | exact m6 | exact m7 | exact m8 | exact m9 | exact m10 | exact m11 | exact m12 | exact m13)) (by first | rfl | exact (tab_length ..).symm | exact (part_length ..).symm | exact (tabI_length ..).symm | exact (partI_length ..).symm | exact (List.length_replicate ..).symm | simp only [List.length_append, List.length_nil, tab_length]) (by first | rfl | exact (tab_length ..).symm | exact (part_length ..).symm | exact (tabI_length ..).symm | exact (partI_length ..).symm | exact (List.length_replicate ..).symm | simp only [List.length_append, List.length_nil, tab_length]) (by omega) ?_ | refine jl_copy (i := 2) rfl rfl rfl rfl Try.underlying22 (by kernel_rfl) rfl rfl rfl (fun w hI => by first | exact hI.vecRo (by first | exact m0 | exact m1 | exact m2 | exact m3 | exact m4 | exact m5 | exact m6 | exact m7 | exact m8 | exact m9 | exact m10 | exact m11 | exact m12 | exact m13) | exact hI.roRo (by first | exact m0 | exact m1 | exact m2 | exact m3 | exact m4 | exact m5 | exact m6 | exact m7 | exact m8 | exact m9 | exact m10 | exact m11 | exact m12 | exact m13)) (by first | rfl | exact (tab_length ..).symm | exact (part_length ..).symm | exact (tabI_length ..).symm | exact (partI_length ..).symm | exact (List.length_replicate ..).symm | simp only [List.length_append, List.length_nil, tab_length]) (by first | rfl | exact (tab_length ..).symm | exact (part_length ..).symm | exact (tabI_length ..).symm | exact (partI_length ..).symm | exact (List.length_replicate ..).symm | simp only [List.length_append, List.length_nil, tab_length]) (by omega) ?_ | refine jl_copy (i := 3) rfl rfl rfl rfl Try.underlying22 (by kernel_rfl) rfl rfl rfl (fun w hI => by first | exact hI.vecRo (by first | exact m0 | exact m1 | exact m2 | exact m3 | exact m4 | exact m5 | exact m6 | exact m7 | exact m8 | exact m9 | exact m10 | exact m11 | exact m12 | exact m13) | exact hI.roRo (by first | exact m0 | exact m1 | exact m2 | exact m3 | exact m4 | exact m5 | exact m6 | exact m7 | exact m8 | exact m9 | exact m10 | exact m11 | exact m12 | exact m13)) (by first | rfl | exact (tab_length ..).symm | exact (part_length ..).symm | exact (tabI_length ..).symm | exact (partI_length ..).symm | exact (List.length_replicate ..).symm | simp only [List.length_append, List.length_nil, tab_length]) (by first | rfl | exact (tab_length ..).symm | exact (part_length ..).symm | exact (tabI_length ..).symm | exact (partI_length ..).symm | exact (List.length_replicate ..).symm | simp only [List.length_append, List.length_nil, tab_length]) (by omega) ?_ | refine jl_copy (i := 4) rfl rfl rfl rfl Try.underlying22 (by kernel_rfl) rfl rfl rfl (fun w hI => by first | exact hI.vecRo (by first | exact m0 | exact m1 | exact m2 | exact m3 | exact m4 | exact m5 | exact m6 | exact m7 | exact m8 | exact m9 | exact m10 | exact m11 | exact m12 | exact m13) | exact hI.roRo (by first | exact m0 | exact m1 | exact m2 | exact m3 | exact m4 | exact m5 | exact m6 | exact m7 | exact m8 | exact m9 | exact m10 | exact m11 | exact m12 | exact m13)) (by first | rfl | exact (tab_length ..).symm | exact (part_length ..).symm | exact (tabI_length ..).symm | exact (partI_length ..).symm | exact (List.length_replicate ..).symm | simp only [List.length_append, List.length_nil, tab_length]) (by first | rfl | exact (tab_length ..).symm | exact (part_length ..).symm | exact (tabI_length ..).symm | exact (partI_length ..).symm | exact (List.length_replicate ..).symm | simp only [List.length_append, List.length_nil, tab_length]) (by omega) ?_ | refine jl_copy (i := 5) rfl rfl rfl rfl Try.underlying22 (by kernel_rfl) rfl rfl rfl (fun w hI => by first | exact hI.vecRo (by first | exact m0 | exact m1 | exact m2 | exact m3 | exact m4 | exact m5 | exact m6 | exact m7 | exact m8 | exact m9 | exact m10 | exact m11 | exact m12 | exact m13) | exact hI.roRo (by first | exact m0 | exact m1 | exact m2 | exact m3 | exact m4 | exact m5 | exact m6 | exact m7 | exact m8 | exact m9 | exact m10 | exact m11 | exact m12 | exact m13)) (by first | rfl | exact (tab_length ..).symm | exact (part_length ..).symm | exact (tabI_length ..).symm | exact (partI_length ..).symm | exact (List.length_replicate ..).symm | simp only [List.length_append, List.length_nil, tab_length]) (by first | rfl | exact (tab_length ..).symm | exact (part_length ..).symm | exact (tabI_length ..).symm | exact (partI_length ..).symm | exact (List.length_replicate ..).symm | simp only [List.length_append, List.length_nil, tab_length]) (by omega) ?_
       refine jl_op rfl rfl (.none rfl) (v_assign rfl rfl tt) ?_
       refine jl_nil ?_)
    | (refine j_region (id := 8) ?_
       refine jl_op rfl rfl (.none rfl) (v_move rfl rfl tt) ?_
       refine jl_op rfl rfl (.none rfl) (v_move rfl rfl tt) ?_
       refine jl_op rfl rfl (.none rfl) (v_len rfl rfl Try.underlying22 rfl tt) ?_
       refine jl_op rfl rfl (.none rfl) (v_icmp rfl rfl rfl rfl tt tt) ?_
       refine jl_nil ?_)
    | (refine j_drawZF (id := 9) (m := 7) [0] [] [none, none, none, none, none, none, none] (by kernel_rfl) (by kernel_rfl) (by repeat' (first | exact panOK_body | refine panOK_then ?_ | refine panOK_in ?_)) (fun Bq hBq => ?_)
       refine jz_op rfl (.none rfl) (v_move rfl rfl tt) ?_
       refine jz_op rfl (.none rfl) (v_move rfl rfl tt) ?_
       refine jz_op rfl (.none rfl) (v_move rfl rfl tt) ?_
       refine jz_op rfl (.none rfl) (v_sliceLo rfl Try.underlying22 (by kernel_rfl) rfl rfl ⟨(by first | with_reducible rfl | exact (Int.toNat_of_nonneg (by omega)).symm | (have hc := g_gt _hc; exact (Int.toNat_of_nonneg (by omega)).symm)), by omega⟩) ?_
       refine jz_op rfl (.none rfl) (v_move rfl rfl tt) ?_
       refine jz_op rfl (.none rfl) (v_move rfl rfl tt) ?_
       refine jz_op rfl (.none rfl) (v_sliceHi rfl Try.underlying22 (by kernel_rfl) rfl rfl ⟨(by first | with_reducible rfl | exact (Int.toNat_of_nonneg (by omega)).symm | (have hc := g_gt _hc; exact (Int.toNat_of_nonneg (by omega)).symm)), by omega⟩) ?_
       refine jz_nil rfl ?_
       refine jl_copySelf (i := 0) rfl rfl rfl rfl Try.underlying22 (by kernel_rfl) rfl rfl rfl (part_length ..) (by omega) ?_
       refine jl_op rfl rfl (.none rfl) (v_iarith' rfl rfl rfl rfl tt tt (by first | exact fun _ => iw_add (by omega) | exact fun _ => rfl)) ?_
       refine jl_op rfl rfl (.none rfl) (v_assign rfl rfl tt) ?_
       refine jl_nil ?_)
    | (refine j_region (id := 10) ?_
       refine jl_op rfl rfl (.none rfl) (v_move rfl rfl tt) ?_
       refine jl_op rfl rfl (.none rfl) (v_assign rfl rfl tt) ?_
       refine jl_nil ?_)))
  all_goals first | (exfalso; omega) | exact jq_retM1 b30 (.inl rfl) Try.results64 rfl rfl (fun w h => fresh_at 0 rfl rfl h)
theorem c_l02New (A : Option Addr) (N cap : Nat) : Con Try.prog 93 [.slice A N cap] (fun _ => True) (.agg #[.slice A N cap, F 1065353216, F 1061158912, F 3210739712]) := by
  refine con_intro (H := []) Try.func93 (by decide) rfl rfl (fun w _ => HInv.refl w) (fun w0 _ => ?_)
  (repeat' (first
    | refine j_condLt rfl (fun _ => ?_) (fun _ => ?_)
    | refine j_condLe rfl (fun _ => ?_) (fun _ => ?_)
    | refine j_condGt rfl (fun _ => ?_) (fun _ => ?_)
    | refine j_condGe rfl (fun _ => ?_) (fun _ => ?_)
    | refine j_condNe rfl (fun _ => ?_) (fun _ => ?_)
    | refine j_condEq rfl (fun _ => ?_) (fun _ => ?_)
    | refine j_condOrLt rfl (fun _ => ?_) (fun _ => ?_)
    | refine j_condAndLt rfl (fun _ => ?_) (fun _ => ?_)
    | refine j_condAndGe rfl (fun _ => ?_) (fun _ => ?_)
    | refine j_seq ?_
    | refine jq_then ?_
    | refine j_block ?_
    | refine j_ret ?_
    | refine jq_then_ret ?_
    | refine jq_block_ret ?_
    | refine jq_block_normal ?_
    | refine jq_then_exit ?_
    | refine jq_block_same rfl ?_
    | refine jq_block_other rfl ?_
    | refine j_skip ?_
    | refine j_exit ?_
    | refine j_label ?_
    | refine j_condCT ?_
    | refine j_condCF ?_
    | refine j_cond rfl (fun _ => ?_) (fun _ => ?_)
    | (refine j_region (id := 0) ?_
       refine jl_alloc rfl rfl rfl rfl zero27 (by rfl) (fun b2 => ?_)
       refine jl_nil ?_)
    | (refine j_region (id := 1) ?_
       refine jl_op rfl rfl (.none rfl) (v_move rfl rfl tt) ?_
       refine jl_op rfl rfl (.none rfl) (v_buildW (Ws := [_, _, _, _]) rfl Try.underlying27 zero27 places27 (by rfl) (by rfl) (ev_cons rfl tt (ev_cons rfl tt (ev_cons rfl tt (ev_cons rfl tt ev_nil)))) (by rfl) (by rfl) rfl) ?_
       first | refine jl_storeS (i := 0) rfl rfl rfl (by kernel_rfl) rfl rfl rfl rfl ?_ | refine jl_storeS (i := 1) rfl rfl rfl (by kernel_rfl) rfl rfl rfl rfl ?_ | refine jl_storeS (i := 2) rfl rfl rfl (by kernel_rfl) rfl rfl rfl rfl ?_ | refine jl_storeS (i := 3) rfl rfl rfl (by kernel_rfl) rfl rfl rfl rfl ?_ | refine jl_storeS (i := 4) rfl rfl rfl (by kernel_rfl) rfl rfl rfl rfl ?_ | refine jl_storeS (i := 5) rfl rfl rfl (by kernel_rfl) rfl rfl rfl rfl ?_ | refine jl_storeS (i := 6) rfl rfl rfl (by kernel_rfl) rfl rfl rfl rfl ?_ | refine jl_storeS (i := 7) rfl rfl rfl (by kernel_rfl) rfl rfl rfl rfl ?_
       refine jl_nil ?_)))
  all_goals exact jq_retS (i := 0) (.inl rfl) Try.results93 rfl rfl Try.underlying27 rfl (by kernel_rfl) rfl
theorem c_l02Even (c : Int) (x m : Nat) (hz : c = (m : Int)) (hm : m ≤ 16) : ConM Try.prog 61 [.int .i64 c, F x] (RoS []) (fun s : Option Addr × Nat => .agg #[.slice s.1 m s.2, F 1065353216, F 1061158912, F 3210739712]) (fun s : Option Addr × Nat => [.vec 23 s.1 s.2 (tab m (fun _ => x))]) := by
  refine conM_intro (H := []) Try.func61 (by decide) rfl rfl (fun w h => h.inv) (fun w0 _ => ?_)
  (repeat' (first
    | refine j_part (by omega) ?_
    | refine j_partI (by omega) ?_
    | (refine j_loop2 (σ := Nat × Option Addr × Nat) (fun s => s.1 ≤ m) (fun s => [(0, true, .int .i64 c), (1, true, F x), (4, true, .pointer (some ⟨b4, 0, none⟩)), (5, true, .slice s.2.1 s.1 s.2.2), (6, true, .int .i64 (s.1))]) (fun s => [.vec 23 s.2.1 s.2.2 (tab s.1 (fun _ => x)), .box b4 27 [.slice none 0 0, F 0, F 0, F 0]]) (fun s => m - s.1) (0, _, _) (by omega) (fs_cons rfl (fs_cons rfl (fs_cons rfl (fs_cons rfl (fs_cons rfl fs_nil))))) (fun _ h => h) ?_; intro s hi; obtain ⟨i, Z, zc⟩ := s; dsimp only at hi ⊢)
    | (exact jq_round (i + 1, _, _) (by omega) (by omega) (fs_cons rfl (fs_cons rfl (fs_cons rfl (fs_cons rfl (fs_cons rfl fs_nil))))) (fun w h => by rw [← tab_succ]; exact h.sub (List.sublist_cons_self _ _)))
    | refine j_condLt rfl (fun _ => ?_) (fun _ => ?_)
    | refine j_condLe rfl (fun _ => ?_) (fun _ => ?_)
    | refine j_condGt rfl (fun _ => ?_) (fun _ => ?_)
    | refine j_condGe rfl (fun _ => ?_) (fun _ => ?_)
    | refine j_condNe rfl (fun _ => ?_) (fun _ => ?_)
    | refine j_condEq rfl (fun _ => ?_) (fun _ => ?_)
    | refine j_condOrLt rfl (fun _ => ?_) (fun _ => ?_)
    | refine j_condAndLt rfl (fun _ => ?_) (fun _ => ?_)
    | refine j_condAndGe rfl (fun _ => ?_) (fun _ => ?_)
    | refine j_seq ?_
    | refine jq_then ?_
    | refine j_block ?_
    | refine j_ret ?_
    | refine jq_then_ret ?_
    | refine jq_block_ret ?_
    | refine jq_block_normal ?_
    | refine jq_then_exit ?_
    | refine jq_block_same rfl ?_
    | refine jq_block_other rfl ?_
    | refine j_skip ?_
    | refine j_exit ?_
    | refine j_label ?_
    | refine j_condCT ?_
    | refine j_condCF ?_
    | refine j_cond rfl (fun _ => ?_) (fun _ => ?_)
    | (refine j_region (id := 0) ?_
       refine jl_alloc rfl rfl rfl rfl zero27 (by rfl) (fun b4 => ?_)
       refine jl_nil ?_)
    | (refine j_region (id := 1) ?_
       refine jl_x1 rfl rfl rfl (x_lit (Ws := []) (Z := F 0) rfl Try.underlying22 (by kernel_rfl) zero23 rfl rfl ev_nil rfl rfl rfl rfl) (fun b7 => ?_)
       refine jl_op rfl rfl (.none rfl) (v_assign rfl rfl tt) ?_
       refine jl_nil ?_)
    | (refine j_region (id := 2) ?_
       refine jl_op rfl rfl (.none rfl) (v_assign rfl rfl tt) ?_
       refine jl_nil ?_)
    | (refine j_region (id := 3) ?_
       refine jl_op rfl rfl (.none rfl) (v_move rfl rfl tt) ?_
       refine jl_op rfl rfl (.none rfl) (v_move rfl rfl tt) ?_
       refine jl_op rfl rfl (.none rfl) (v_icmp rfl rfl rfl rfl tt tt) ?_
       refine jl_nil ?_)
    | (refine j_region (id := 4) ?_
       refine jl_op rfl rfl (.none rfl) (v_move rfl rfl tt) ?_
       refine jl_op rfl rfl (.none rfl) (v_iarith' rfl rfl rfl rfl tt tt (by first | exact fun _ => iw_add (by omega) | exact fun _ => rfl)) ?_
       refine jl_op rfl rfl (.none rfl) (v_assign rfl rfl tt) ?_
       refine jl_nil ?_)
    | (refine j_region (id := 5) ?_
       refine jl_op rfl rfl (.none rfl) (v_move rfl rfl tt) ?_
       refine jl_op rfl rfl (.none rfl) (v_move rfl rfl tt) ?_
       refine jl_x1 rfl rfl rfl (x_lit (Ws := [_]) (Z := F 0) rfl Try.underlying22 (by kernel_rfl) zero23 rfl rfl (ev_cons rfl tt ev_nil) rfl rfl rfl rfl) (fun b15 => ?_)
       first | refine jl_append (i := 0) (by' := 4) (Z := F 0) rfl rfl rfl rfl Try.underlying22 (by kernel_rfl) zero23 rfl (by kernel_rfl) (by rfl) rfl rfl rfl (fun w hI => by first | exact hI.vecRo (by first | exact m0 | exact m1 | exact m2 | exact m3 | exact m4 | exact m5 | exact m6 | exact m7 | exact m8 | exact m9 | exact m10 | exact m11 | exact m12 | exact m13) | exact hI.roRo (by first | exact m0 | exact m1 | exact m2 | exact m3 | exact m4 | exact m5 | exact m6 | exact m7 | exact m8 | exact m9 | exact m10 | exact m11 | exact m12 | exact m13)) (by first | rfl | exact (tab_length ..).symm | exact (part_length ..).symm | exact (tabI_length ..).symm | exact (partI_length ..).symm | exact (List.length_replicate ..).symm | simp only [List.length_append, List.length_nil, tab_length]) (by first | rfl | exact (tab_length ..).symm | exact (part_length ..).symm | exact (tabI_length ..).symm | exact (partI_length ..).symm | exact (List.length_replicate ..).symm | simp only [List.length_append, List.length_nil, tab_length]) (by omega) (fun A16 c16 => ?_) | refine jl_append (i := 1) (by' := 4) (Z := F 0) rfl rfl rfl rfl Try.underlying22 (by kernel_rfl) zero23 rfl (by kernel_rfl) (by rfl) rfl rfl rfl (fun w hI => by first | exact hI.vecRo (by first | exact m0 | exact m1 | exact m2 | exact m3 | exact m4 | exact m5 | exact m6 | exact m7 | exact m8 | exact m9 | exact m10 | exact m11 | exact m12 | exact m13) | exact hI.roRo (by first | exact m0 | exact m1 | exact m2 | exact m3 | exact m4 | exact m5 | exact m6 | exact m7 | exact m8 | exact m9 | exact m10 | exact m11 | exact m12 | exact m13)) (by first | rfl | exact (tab_length ..).symm | exact (part_length ..).symm | exact (tabI_length ..).symm | exact (partI_length ..).symm | exact (List.length_replicate ..).symm | simp only [List.length_append, List.length_nil, tab_length]) (by first | rfl | exact (tab_length ..).symm | exact (part_length ..).symm | exact (tabI_length ..).symm | exact (partI_length ..).symm | exact (List.length_replicate ..).symm | simp only [List.length_append, List.length_nil, tab_length]) (by omega) (fun A16 c16 => ?_) | refine jl_append (i := 2) (by' := 4) (Z := F 0) rfl rfl rfl rfl Try.underlying22 (by kernel_rfl) zero23 rfl (by kernel_rfl) (by rfl) rfl rfl rfl (fun w hI => by first | exact hI.vecRo (by first | exact m0 | exact m1 | exact m2 | exact m3 | exact m4 | exact m5 | exact m6 | exact m7 | exact m8 | exact m9 | exact m10 | exact m11 | exact m12 | exact m13) | exact hI.roRo (by first | exact m0 | exact m1 | exact m2 | exact m3 | exact m4 | exact m5 | exact m6 | exact m7 | exact m8 | exact m9 | exact m10 | exact m11 | exact m12 | exact m13)) (by first | rfl | exact (tab_length ..).symm | exact (part_length ..).symm | exact (tabI_length ..).symm | exact (partI_length ..).symm | exact (List.length_replicate ..).symm | simp only [List.length_append, List.length_nil, tab_length]) (by first | rfl | exact (tab_length ..).symm | exact (part_length ..).symm | exact (tabI_length ..).symm | exact (partI_length ..).symm | exact (List.length_replicate ..).symm | simp only [List.length_append, List.length_nil, tab_length]) (by omega) (fun A16 c16 => ?_) | refine jl_append (i := 3) (by' := 4) (Z := F 0) rfl rfl rfl rfl Try.underlying22 (by kernel_rfl) zero23 rfl (by kernel_rfl) (by rfl) rfl rfl rfl (fun w hI => by first | exact hI.vecRo (by first | exact m0 | exact m1 | exact m2 | exact m3 | exact m4 | exact m5 | exact m6 | exact m7 | exact m8 | exact m9 | exact m10 | exact m11 | exact m12 | exact m13) | exact hI.roRo (by first | exact m0 | exact m1 | exact m2 | exact m3 | exact m4 | exact m5 | exact m6 | exact m7 | exact m8 | exact m9 | exact m10 | exact m11 | exact m12 | exact m13)) (by first | rfl | exact (tab_length ..).symm | exact (part_length ..).symm | exact (tabI_length ..).symm | exact (partI_length ..).symm | exact (List.length_replicate ..).symm | simp only [List.length_append, List.length_nil, tab_length]) (by first | rfl | exact (tab_length ..).symm | exact (part_length ..).symm | exact (tabI_length ..).symm | exact (partI_length ..).symm | exact (List.length_replicate ..).symm | simp only [List.length_append, List.length_nil, tab_length]) (by omega) (fun A16 c16 => ?_) | refine jl_append (i := 4) (by' := 4) (Z := F 0) rfl rfl rfl rfl Try.underlying22 (by kernel_rfl) zero23 rfl (by kernel_rfl) (by rfl) rfl rfl rfl (fun w hI => by first | exact hI.vecRo (by first | exact m0 | exact m1 | exact m2 | exact m3 | exact m4 | exact m5 | exact m6 | exact m7 | exact m8 | exact m9 | exact m10 | exact m11 | exact m12 | exact m13) | exact hI.roRo (by first | exact m0 | exact m1 | exact m2 | exact m3 | exact m4 | exact m5 | exact m6 | exact m7 | exact m8 | exact m9 | exact m10 | exact m11 | exact m12 | exact m13)) (by first | rfl | exact (tab_length ..).symm | exact (part_length ..).symm | exact (tabI_length ..).symm | exact (partI_length ..).symm | exact (List.length_replicate ..).symm | simp only [List.length_append, List.length_nil, tab_length]) (by first | rfl | exact (tab_length ..).symm | exact (part_length ..).symm | exact (tabI_length ..).symm | exact (partI_length ..).symm | exact (List.length_replicate ..).symm | simp only [List.length_append, List.length_nil, tab_length]) (by omega) (fun A16 c16 => ?_) | refine jl_append (i := 5) (by' := 4) (Z := F 0) rfl rfl rfl rfl Try.underlying22 (by kernel_rfl) zero23 rfl (by kernel_rfl) (by rfl) rfl rfl rfl (fun w hI => by first | exact hI.vecRo (by first | exact m0 | exact m1 | exact m2 | exact m3 | exact m4 | exact m5 | exact m6 | exact m7 | exact m8 | exact m9 | exact m10 | exact m11 | exact m12 | exact m13) | exact hI.roRo (by first | exact m0 | exact m1 | exact m2 | exact m3 | exact m4 | exact m5 | exact m6 | exact m7 | exact m8 | exact m9 | exact m10 | exact m11 | exact m12 | exact m13)) (by first | rfl | exact (tab_length ..).symm | exact (part_length ..).symm | exact (tabI_length ..).symm | exact (partI_length ..).symm | exact (List.length_replicate ..).symm | simp only [List.length_append, List.length_nil, tab_length]) (by first | rfl | exact (tab_length ..).symm | exact (part_length ..).symm | exact (tabI_length ..).symm | exact (partI_length ..).symm | exact (List.length_replicate ..).symm | simp only [List.length_append, List.length_nil, tab_length]) (by omega) (fun A16 c16 => ?_)
       refine jl_op rfl rfl (.none rfl) (v_assign rfl rfl tt) ?_
       refine jl_nil ?_)
    | (refine j_region (id := 6) ?_
       refine jl_op rfl rfl (.none rfl) (v_move rfl rfl tt) ?_
       refine jl_op rfl rfl (.none rfl) (v_call (f := 93) (xs := [_]) rfl (c_l02New ..) (ev_cons rfl tt ev_nil) (by intro w hc hI; first | trivial | (exfalso; simp_all; done) | (clear hc; repeat' (first | exact ros_nil | refine ros_cons ?_ ?_ | exact hI.roRo (by first | exact m0 | exact m1 | exact m2 | exact m3 | exact m4 | exact m5 | exact m6 | exact m7 | exact m8 | exact m9 | exact m10 | exact m11 | exact m12 | exact m13) | exact hI.boxRo (by first | exact m0 | exact m1 | exact m2 | exact m3 | exact m4 | exact m5 | exact m6 | exact m7 | exact m8 | exact m9 | exact m10 | exact m11 | exact m12 | exact m13) | exact HInv.vecRo hI (by first | exact m0 | exact m1 | exact m2 | exact m3 | exact m4 | exact m5 | exact m6 | exact m7 | exact m8 | exact m9 | exact m10 | exact m11 | exact m12 | exact m13))))) ?_
       first | refine jl_storeS (i := 0) rfl rfl rfl (by kernel_rfl) rfl rfl rfl rfl ?_ | refine jl_storeS (i := 1) rfl rfl rfl (by kernel_rfl) rfl rfl rfl rfl ?_ | refine jl_storeS (i := 2) rfl rfl rfl (by kernel_rfl) rfl rfl rfl rfl ?_ | refine jl_storeS (i := 3) rfl rfl rfl (by kernel_rfl) rfl rfl rfl rfl ?_ | refine jl_storeS (i := 4) rfl rfl rfl (by kernel_rfl) rfl rfl rfl rfl ?_ | refine jl_storeS (i := 5) rfl rfl rfl (by kernel_rfl) rfl rfl rfl rfl ?_ | refine jl_storeS (i := 6) rfl rfl rfl (by kernel_rfl) rfl rfl rfl rfl ?_ | refine jl_storeS (i := 7) rfl rfl rfl (by kernel_rfl) rfl rfl rfl rfl ?_
       refine jl_nil ?_)))
  all_goals (obtain rfl : i = m := (by omega))
  all_goals first | exact jq_retMS (i := 1) (_, _) (.inl rfl) Try.results61 rfl rfl Try.underlying27 rfl (by kernel_rfl) rfl (fun w h => fresh_at 0 rfl rfl h) | exact jq_retMS (i := 0) (_, _) (.inl rfl) Try.results61 rfl rfl Try.underlying27 rfl (by kernel_rfl) rfl (fun w h => fresh_at 1 rfl rfl h)
theorem c_evenI (c : Int) (x : Nat) : ConM Try.prog 23 [.int .i64 c, F x] (RoS []) (strV (iin c 1 16 && tubeB (evN c) (fun _ => x) 1065353216 1061158912 3210739712) (evN c) (tubeR 1065353216 1061158912 3210739712)) (listK 23 (iin c 1 16 && tubeB (evN c) (fun _ => x) 1065353216 1061158912 3210739712) (evN c) (fun _ => x)) := by
  refine conM_intro (H := []) Try.func23 (by decide) rfl rfl (fun w h => h.inv) (fun w0 _ => ?_)
  (repeat' (first
    | refine j_condLt rfl (fun _ => ?_) (fun _ => ?_)
    | refine j_condLe rfl (fun _ => ?_) (fun _ => ?_)
    | refine j_condGt rfl (fun _ => ?_) (fun _ => ?_)
    | refine j_condGe rfl (fun _ => ?_) (fun _ => ?_)
    | refine j_condNe rfl (fun _ => ?_) (fun _ => ?_)
    | refine j_condEq rfl (fun _ => ?_) (fun _ => ?_)
    | refine j_condOrLt rfl (fun _ => ?_) (fun _ => ?_)
    | refine j_condAndLt rfl (fun _ => ?_) (fun _ => ?_)
    | refine j_condAndGe rfl (fun _ => ?_) (fun _ => ?_)
    | refine j_seq ?_
    | refine jq_then ?_
    | refine j_block ?_
    | refine j_ret ?_
    | refine jq_then_ret ?_
    | refine jq_block_ret ?_
    | refine jq_block_normal ?_
    | refine jq_then_exit ?_
    | refine jq_block_same rfl ?_
    | refine jq_block_other rfl ?_
    | refine j_skip ?_
    | refine j_exit ?_
    | refine j_label ?_
    | refine j_condCT ?_
    | refine j_condCF ?_
    | refine j_cond rfl (fun _ => ?_) (fun _ => ?_)
    | (refine j_region (id := 0) ?_
       refine jl_alloc rfl rfl rfl rfl zero27 (by rfl) (fun b4 => ?_)
       refine jl_op rfl rfl (.none rfl) (v_assign rfl rfl tt) ?_
       refine jl_nil ?_)
    | (refine j_region (id := 1) ?_
       refine jl_op rfl rfl (.none rfl) (v_move rfl rfl tt) ?_
       refine jl_op rfl rfl (.none rfl) (v_call (f := 62) (xs := [_, _, _]) rfl (c_within ..) (ev_cons rfl tt (ev_cons rfl tt (ev_cons rfl tt ev_nil))) (by intro w hc hI; first | trivial | (exfalso; simp_all; done) | (clear hc; repeat' (first | exact ros_nil | refine ros_cons ?_ ?_ | exact hI.roRo (by first | exact m0 | exact m1 | exact m2 | exact m3 | exact m4 | exact m5 | exact m6 | exact m7 | exact m8 | exact m9 | exact m10 | exact m11 | exact m12 | exact m13) | exact hI.boxRo (by first | exact m0 | exact m1 | exact m2 | exact m3 | exact m4 | exact m5 | exact m6 | exact m7 | exact m8 | exact m9 | exact m10 | exact m11 | exact m12 | exact m13) | exact HInv.vecRo hI (by first | exact m0 | exact m1 | exact m2 | exact m3 | exact m4 | exact m5 | exact m6 | exact m7 | exact m8 | exact m9 | exact m10 | exact m11 | exact m12 | exact m13))))) ?_
       refine jl_op rfl rfl (.none rfl) (v_not rfl rfl tt) ?_
       refine jl_nil ?_)
    | (refine j_region (id := 2) ?_
       refine jl_op rfl rfl (.none rfl) (v_buildW (Ws := [_, _, _, _]) rfl Try.underlying27 zero27 places27 (by rfl) (by rfl) ev_nil (by rfl) (by rfl) rfl) ?_
       first | refine jl_storeS (i := 0) rfl rfl rfl (by kernel_rfl) rfl rfl rfl rfl ?_ | refine jl_storeS (i := 1) rfl rfl rfl (by kernel_rfl) rfl rfl rfl rfl ?_ | refine jl_storeS (i := 2) rfl rfl rfl (by kernel_rfl) rfl rfl rfl rfl ?_ | refine jl_storeS (i := 3) rfl rfl rfl (by kernel_rfl) rfl rfl rfl rfl ?_ | refine jl_storeS (i := 4) rfl rfl rfl (by kernel_rfl) rfl rfl rfl rfl ?_ | refine jl_storeS (i := 5) rfl rfl rfl (by kernel_rfl) rfl rfl rfl rfl ?_ | refine jl_storeS (i := 6) rfl rfl rfl (by kernel_rfl) rfl rfl rfl rfl ?_ | refine jl_storeS (i := 7) rfl rfl rfl (by kernel_rfl) rfl rfl rfl rfl ?_
       refine jl_op rfl rfl (.none rfl) (v_assign rfl rfl tt) ?_
       refine jl_nil ?_)
    | (refine j_region (id := 3) ?_
       refine jl_op rfl rfl (.none rfl) (v_move rfl rfl tt) ?_
       refine jl_x1 rfl rfl rfl (x_lit (Ws := [_]) (Z := F 0) rfl Try.underlying22 (by kernel_rfl) zero23 rfl rfl (ev_cons rfl tt ev_nil) rfl rfl rfl rfl) (fun b11 => ?_)
       refine jl_op rfl rfl (.none rfl) (v_move rfl rfl tt) ?_
       refine jl_x1 rfl rfl rfl (x_call (f := 64) (xs := [_, _]) rfl (c_repeat (m := evN c) (hz := (evN_eq (by assumption)).1) (h1 := (evN_eq (by assumption)).2) (hm := evN_le) ..) (ev_cons rfl tt (ev_cons rfl tt ev_nil)) (by intro w hI; first | trivial | (repeat' (first | exact ros_nil | refine ros_cons ?_ ?_ | exact hI.roRo (by first | exact m0 | exact m1 | exact m2 | exact m3 | exact m4 | exact m5 | exact m6 | exact m7 | exact m8 | exact m9 | exact m10 | exact m11 | exact m12 | exact m13) | exact hI.boxRo (by first | exact m0 | exact m1 | exact m2 | exact m3 | exact m4 | exact m5 | exact m6 | exact m7 | exact m8 | exact m9 | exact m10 | exact m11 | exact m12 | exact m13) | exact HInv.vecRo hI (by first | exact m0 | exact m1 | exact m2 | exact m3 | exact m4 | exact m5 | exact m6 | exact m7 | exact m8 | exact m9 | exact m10 | exact m11 | exact m12 | exact m13))))) (fun s13 => ?_)
       refine jl_op rfl rfl (.none rfl) (v_buildW (Ws := [_, _, _, _]) rfl Try.underlying27 zero27 places27 (by rfl) (by rfl) (ev_cons rfl tt (ev_cons rfl tt (ev_cons rfl tt (ev_cons rfl tt ev_nil)))) (by rfl) (by rfl) rfl) ?_
       refine jl_op rfl rfl (.none rfl) (v_call (f := 63) (xs := [_]) rfl (c_checkedT (hN := (Nat.le_trans evN_le (by decide))) ..) (ev_cons rfl tt ev_nil) (by intro w hc hI; first | trivial | (exfalso; simp_all; done) | (clear hc; repeat' (first | exact ros_nil | refine ros_cons ?_ ?_ | exact hI.roRo (by first | exact m0 | exact m1 | exact m2 | exact m3 | exact m4 | exact m5 | exact m6 | exact m7 | exact m8 | exact m9 | exact m10 | exact m11 | exact m12 | exact m13) | exact hI.boxRo (by first | exact m0 | exact m1 | exact m2 | exact m3 | exact m4 | exact m5 | exact m6 | exact m7 | exact m8 | exact m9 | exact m10 | exact m11 | exact m12 | exact m13) | exact HInv.vecRo hI (by first | exact m0 | exact m1 | exact m2 | exact m3 | exact m4 | exact m5 | exact m6 | exact m7 | exact m8 | exact m9 | exact m10 | exact m11 | exact m12 | exact m13))))) ?_
       refine jl_op rfl rfl (.none rfl) (v_extract rfl rfl tt rfl) ?_
       refine jl_op rfl rfl (.none rfl) (v_extract rfl rfl tt rfl) ?_
       first | refine jl_storeS (i := 0) rfl rfl rfl (by kernel_rfl) rfl rfl rfl rfl ?_ | refine jl_storeS (i := 1) rfl rfl rfl (by kernel_rfl) rfl rfl rfl rfl ?_ | refine jl_storeS (i := 2) rfl rfl rfl (by kernel_rfl) rfl rfl rfl rfl ?_ | refine jl_storeS (i := 3) rfl rfl rfl (by kernel_rfl) rfl rfl rfl rfl ?_ | refine jl_storeS (i := 4) rfl rfl rfl (by kernel_rfl) rfl rfl rfl rfl ?_ | refine jl_storeS (i := 5) rfl rfl rfl (by kernel_rfl) rfl rfl rfl rfl ?_ | refine jl_storeS (i := 6) rfl rfl rfl (by kernel_rfl) rfl rfl rfl rfl ?_ | refine jl_storeS (i := 7) rfl rfl rfl (by kernel_rfl) rfl rfl rfl rfl ?_
       refine jl_op rfl rfl (.none rfl) (v_assign rfl rfl tt) ?_
       refine jl_nil ?_)))
  all_goals first | exact retS_no 0 Try.results23 rfl rfl rfl Try.underlying27 rfl (by kernel_rfl) (ev_no (by assumption)) rfl | exact retS_yes 1 0 Try.results23 rfl rfl rfl Try.underlying27 rfl (by kernel_rfl) rfl rfl (ev_yes (by assumption)) rfl | exact retS_yes 2 0 Try.results23 rfl rfl rfl Try.underlying27 rfl (by kernel_rfl) rfl rfl (ev_yes (by assumption)) rfl | exact retS_yes 0 1 Try.results23 rfl rfl rfl Try.underlying27 rfl (by kernel_rfl) rfl rfl (ev_yes (by assumption)) rfl | exact retS_yes 2 1 Try.results23 rfl rfl rfl Try.underlying27 rfl (by kernel_rfl) rfl rfl (ev_yes (by assumption)) rfl
theorem c_evenS (c : Int) (x : Nat) : ConM Try.prog 22 [.int .i64 c, F x] (RoS []) (strV (iin c 1 16 && tubeB (evN c) (fun _ => x) 1065353216 1061158912 3210739712) (evN c) (tubeR 1065353216 1061158912 3210739712)) (listK 23 (iin c 1 16 && tubeB (evN c) (fun _ => x) 1065353216 1061158912 3210739712) (evN c) (fun _ => x)) := by
  refine conM_intro (H := []) Try.func22 (by decide) rfl rfl (fun w h => h.inv) (fun w0 _ => ?_)
  (repeat' (first
    | refine j_condLt rfl (fun _ => ?_) (fun _ => ?_)
    | refine j_condLe rfl (fun _ => ?_) (fun _ => ?_)
    | refine j_condGt rfl (fun _ => ?_) (fun _ => ?_)
    | refine j_condGe rfl (fun _ => ?_) (fun _ => ?_)
    | refine j_condNe rfl (fun _ => ?_) (fun _ => ?_)
    | refine j_condEq rfl (fun _ => ?_) (fun _ => ?_)
    | refine j_condOrLt rfl (fun _ => ?_) (fun _ => ?_)
    | refine j_condAndLt rfl (fun _ => ?_) (fun _ => ?_)
    | refine j_condAndGe rfl (fun _ => ?_) (fun _ => ?_)
    | refine j_seq ?_
    | refine jq_then ?_
    | refine j_block ?_
    | refine j_ret ?_
    | refine jq_then_ret ?_
    | refine jq_block_ret ?_
    | refine jq_block_normal ?_
    | refine jq_then_exit ?_
    | refine jq_block_same rfl ?_
    | refine jq_block_other rfl ?_
    | refine j_skip ?_
    | refine j_exit ?_
    | refine j_label ?_
    | refine j_condCT ?_
    | refine j_condCF ?_
    | refine j_cond rfl (fun _ => ?_) (fun _ => ?_)
    | (refine j_region (id := 0) ?_
       refine jl_alloc rfl rfl rfl rfl zero27 (by rfl) (fun b4 => ?_)
       refine jl_op rfl rfl (.none rfl) (v_assign rfl rfl tt) ?_
       refine jl_nil ?_)
    | (refine j_region (id := 1) ?_
       refine jl_op rfl rfl (.none rfl) (v_move rfl rfl tt) ?_
       refine jl_op rfl rfl (.none rfl) (v_call (f := 60) (xs := [_, _, _]) rfl (c_l00In ..) (ev_cons rfl tt (ev_cons rfl tt (ev_cons rfl tt ev_nil))) (by intro w hc hI; first | trivial | (exfalso; simp_all; done) | (clear hc; repeat' (first | exact ros_nil | refine ros_cons ?_ ?_ | exact hI.roRo (by first | exact m0 | exact m1 | exact m2 | exact m3 | exact m4 | exact m5 | exact m6 | exact m7 | exact m8 | exact m9 | exact m10 | exact m11 | exact m12 | exact m13) | exact hI.boxRo (by first | exact m0 | exact m1 | exact m2 | exact m3 | exact m4 | exact m5 | exact m6 | exact m7 | exact m8 | exact m9 | exact m10 | exact m11 | exact m12 | exact m13) | exact HInv.vecRo hI (by first | exact m0 | exact m1 | exact m2 | exact m3 | exact m4 | exact m5 | exact m6 | exact m7 | exact m8 | exact m9 | exact m10 | exact m11 | exact m12 | exact m13))))) ?_
       refine jl_op rfl rfl (.none rfl) (v_not rfl rfl tt) ?_
       refine jl_nil ?_)
    | (refine j_region (id := 2) ?_
       refine jl_op rfl rfl (.none rfl) (v_buildW (Ws := [_, _, _, _]) rfl Try.underlying27 zero27 places27 (by rfl) (by rfl) ev_nil (by rfl) (by rfl) rfl) ?_
       first | refine jl_storeS (i := 0) rfl rfl rfl (by kernel_rfl) rfl rfl rfl rfl ?_ | refine jl_storeS (i := 1) rfl rfl rfl (by kernel_rfl) rfl rfl rfl rfl ?_ | refine jl_storeS (i := 2) rfl rfl rfl (by kernel_rfl) rfl rfl rfl rfl ?_ | refine jl_storeS (i := 3) rfl rfl rfl (by kernel_rfl) rfl rfl rfl rfl ?_ | refine jl_storeS (i := 4) rfl rfl rfl (by kernel_rfl) rfl rfl rfl rfl ?_ | refine jl_storeS (i := 5) rfl rfl rfl (by kernel_rfl) rfl rfl rfl rfl ?_ | refine jl_storeS (i := 6) rfl rfl rfl (by kernel_rfl) rfl rfl rfl rfl ?_ | refine jl_storeS (i := 7) rfl rfl rfl (by kernel_rfl) rfl rfl rfl rfl ?_
       refine jl_op rfl rfl (.none rfl) (v_assign rfl rfl tt) ?_
       refine jl_nil ?_)
    | (refine j_region (id := 3) ?_
       refine jl_op rfl rfl (.none rfl) (v_move rfl rfl tt) ?_
       refine jl_op rfl rfl (.none rfl) (v_move rfl rfl tt) ?_
       refine jl_x1 rfl rfl rfl (x_call (f := 61) (xs := [_, _]) rfl (c_l02Even (m := evN c) (hz := (evN_eq (by assumption)).1) (hm := evN_le) ..) (ev_cons rfl tt (ev_cons rfl tt ev_nil)) (by intro w hI; first | trivial | (repeat' (first | exact ros_nil | refine ros_cons ?_ ?_ | exact hI.roRo (by first | exact m0 | exact m1 | exact m2 | exact m3 | exact m4 | exact m5 | exact m6 | exact m7 | exact m8 | exact m9 | exact m10 | exact m11 | exact m12 | exact m13) | exact hI.boxRo (by first | exact m0 | exact m1 | exact m2 | exact m3 | exact m4 | exact m5 | exact m6 | exact m7 | exact m8 | exact m9 | exact m10 | exact m11 | exact m12 | exact m13) | exact HInv.vecRo hI (by first | exact m0 | exact m1 | exact m2 | exact m3 | exact m4 | exact m5 | exact m6 | exact m7 | exact m8 | exact m9 | exact m10 | exact m11 | exact m12 | exact m13))))) (fun s12 => ?_)
       refine jl_op rfl rfl (.none rfl) (v_call (f := 51) (xs := [_]) rfl (c_l02Give (hN := (Nat.le_trans evN_le (by decide))) ..) (ev_cons rfl tt ev_nil) (by intro w hc hI; first | trivial | (exfalso; simp_all; done) | (clear hc; repeat' (first | exact ros_nil | refine ros_cons ?_ ?_ | exact hI.roRo (by first | exact m0 | exact m1 | exact m2 | exact m3 | exact m4 | exact m5 | exact m6 | exact m7 | exact m8 | exact m9 | exact m10 | exact m11 | exact m12 | exact m13) | exact hI.boxRo (by first | exact m0 | exact m1 | exact m2 | exact m3 | exact m4 | exact m5 | exact m6 | exact m7 | exact m8 | exact m9 | exact m10 | exact m11 | exact m12 | exact m13) | exact HInv.vecRo hI (by first | exact m0 | exact m1 | exact m2 | exact m3 | exact m4 | exact m5 | exact m6 | exact m7 | exact m8 | exact m9 | exact m10 | exact m11 | exact m12 | exact m13))))) ?_
       refine jl_op rfl rfl (.none rfl) (v_extract rfl rfl tt rfl) ?_
       refine jl_op rfl rfl (.none rfl) (v_extract rfl rfl tt rfl) ?_
       first | refine jl_storeS (i := 0) rfl rfl rfl (by kernel_rfl) rfl rfl rfl rfl ?_ | refine jl_storeS (i := 1) rfl rfl rfl (by kernel_rfl) rfl rfl rfl rfl ?_ | refine jl_storeS (i := 2) rfl rfl rfl (by kernel_rfl) rfl rfl rfl rfl ?_ | refine jl_storeS (i := 3) rfl rfl rfl (by kernel_rfl) rfl rfl rfl rfl ?_ | refine jl_storeS (i := 4) rfl rfl rfl (by kernel_rfl) rfl rfl rfl rfl ?_ | refine jl_storeS (i := 5) rfl rfl rfl (by kernel_rfl) rfl rfl rfl rfl ?_ | refine jl_storeS (i := 6) rfl rfl rfl (by kernel_rfl) rfl rfl rfl rfl ?_ | refine jl_storeS (i := 7) rfl rfl rfl (by kernel_rfl) rfl rfl rfl rfl ?_
       refine jl_op rfl rfl (.none rfl) (v_assign rfl rfl tt) ?_
       refine jl_nil ?_)))
  all_goals first | exact retS_no 0 Try.results22 rfl rfl rfl Try.underlying27 rfl (by kernel_rfl) (ev_no (by assumption)) rfl | exact retS_yes 1 0 Try.results22 rfl rfl rfl Try.underlying27 rfl (by kernel_rfl) rfl rfl (ev_yes (by assumption)) rfl | exact retS_yes 2 0 Try.results22 rfl rfl rfl Try.underlying27 rfl (by kernel_rfl) rfl rfl (ev_yes (by assumption)) rfl | exact retS_yes 0 1 Try.results22 rfl rfl rfl Try.underlying27 rfl (by kernel_rfl) rfl rfl (ev_yes (by assumption)) rfl | exact retS_yes 2 1 Try.results22 rfl rfl rfl Try.underlying27 rfl (by kernel_rfl) rfl rfl (ev_yes (by assumption)) rfl
theorem c_law_EvenTube (c : Int) (x : Nat) : Con Try.prog 5 [.int .i64 c, F x] (RoS []) (.bool true) := by
  refine con_intro (H := []) Try.func5 (by decide) rfl rfl (fun w h => h.inv) (fun w0 _ => ?_)
  have hev := evN_le (c := c)
  (repeat' (first
    | refine j_condLt rfl (fun _ => ?_) (fun _ => ?_)
    | refine j_condLe rfl (fun _ => ?_) (fun _ => ?_)
    | refine j_condGt rfl (fun _ => ?_) (fun _ => ?_)
    | refine j_condGe rfl (fun _ => ?_) (fun _ => ?_)
    | refine j_condNe rfl (fun _ => ?_) (fun _ => ?_)
    | refine j_condEq rfl (fun _ => ?_) (fun _ => ?_)
    | refine j_condOrLt rfl (fun _ => ?_) (fun _ => ?_)
    | refine j_condAndLt rfl (fun _ => ?_) (fun _ => ?_)
    | refine j_condAndGe rfl (fun _ => ?_) (fun _ => ?_)
    | refine j_seq ?_
    | refine jq_then ?_
    | refine j_block ?_
    | refine j_ret ?_
    | refine jq_then_ret ?_
    | refine jq_block_ret ?_
    | refine jq_block_normal ?_
    | refine jq_then_exit ?_
    | refine jq_block_same rfl ?_
    | refine jq_block_other rfl ?_
    | refine j_skip ?_
    | refine j_exit ?_
    | refine j_label ?_
    | refine j_condCT ?_
    | refine j_condCF ?_
    | refine j_cond rfl (fun _ => ?_) (fun _ => ?_)
    | (refine j_region (id := 0) ?_
       refine jl_op rfl rfl (.none rfl) (v_assign rfl rfl tt) ?_
       refine jl_nil ?_)
    | (refine j_region (id := 1) ?_
       refine jl_op rfl rfl (.none rfl) (v_move rfl rfl tt) ?_
       refine jl_op rfl rfl (.none rfl) (v_move rfl rfl tt) ?_
       refine jl_x rfl rfl rfl (x_call (f := 22) (xs := [_, _]) rfl (c_evenS ..) (ev_cons rfl tt (ev_cons rfl tt ev_nil)) (by intro w hI; first | trivial | (repeat' (first | exact ros_nil | refine ros_cons ?_ ?_ | exact hI.roRo (by first | exact m0 | exact m1 | exact m2 | exact m3 | exact m4 | exact m5 | exact m6 | exact m7 | exact m8 | exact m9 | exact m10 | exact m11 | exact m12 | exact m13 | exact m14 | exact m15 | exact m16 | exact m17 | exact m18 | exact m19 | exact m20 | exact m21 | exact m22 | exact m23 | exact m24 | exact m25 | exact m26 | exact m27) | exact hI.boxRo (by first | exact m0 | exact m1 | exact m2 | exact m3 | exact m4 | exact m5 | exact m6 | exact m7 | exact m8 | exact m9 | exact m10 | exact m11 | exact m12 | exact m13 | exact m14 | exact m15 | exact m16 | exact m17 | exact m18 | exact m19 | exact m20 | exact m21 | exact m22 | exact m23 | exact m24 | exact m25 | exact m26 | exact m27) | exact HInv.vecRo hI (by first | exact m0 | exact m1 | exact m2 | exact m3 | exact m4 | exact m5 | exact m6 | exact m7 | exact m8 | exact m9 | exact m10 | exact m11 | exact m12 | exact m13 | exact m14 | exact m15 | exact m16 | exact m17 | exact m18 | exact m19 | exact m20 | exact m21 | exact m22 | exact m23 | exact m24 | exact m25 | exact m26 | exact m27))))) (fun s16 => ?_)
       refine jl_op rfl rfl (.none rfl) (v_move rfl rfl tt) ?_
       refine jl_op rfl rfl (.none rfl) (v_extract rfl rfl tt rfl) ?_
       refine jl_op rfl rfl (.none rfl) (v_extract rfl rfl tt rfl) ?_
       refine jl_alloc rfl rfl rfl rfl zero27 (by rfl) (fun b5 => ?_)
       first | refine jl_storeS (i := 0) rfl rfl rfl (by kernel_rfl) rfl rfl rfl rfl ?_ | refine jl_storeS (i := 1) rfl rfl rfl (by kernel_rfl) rfl rfl rfl rfl ?_ | refine jl_storeS (i := 2) rfl rfl rfl (by kernel_rfl) rfl rfl rfl rfl ?_ | refine jl_storeS (i := 3) rfl rfl rfl (by kernel_rfl) rfl rfl rfl rfl ?_ | refine jl_storeS (i := 4) rfl rfl rfl (by kernel_rfl) rfl rfl rfl rfl ?_ | refine jl_storeS (i := 5) rfl rfl rfl (by kernel_rfl) rfl rfl rfl rfl ?_ | refine jl_storeS (i := 6) rfl rfl rfl (by kernel_rfl) rfl rfl rfl rfl ?_ | refine jl_storeS (i := 7) rfl rfl rfl (by kernel_rfl) rfl rfl rfl rfl ?_
       refine jl_op rfl rfl (.none rfl) (v_assign rfl rfl tt) ?_
       refine jl_nil ?_)
    | (refine j_region (id := 2) ?_
       refine jl_op rfl rfl (.none rfl) (v_move rfl rfl tt) ?_
       refine jl_op rfl rfl (.none rfl) (v_move rfl rfl tt) ?_
       refine jl_x rfl rfl rfl (x_call (f := 23) (xs := [_, _]) rfl (c_evenI ..) (ev_cons rfl tt (ev_cons rfl tt ev_nil)) (by intro w hI; first | trivial | (repeat' (first | exact ros_nil | refine ros_cons ?_ ?_ | exact hI.roRo (by first | exact m0 | exact m1 | exact m2 | exact m3 | exact m4 | exact m5 | exact m6 | exact m7 | exact m8 | exact m9 | exact m10 | exact m11 | exact m12 | exact m13 | exact m14 | exact m15 | exact m16 | exact m17 | exact m18 | exact m19 | exact m20 | exact m21 | exact m22 | exact m23 | exact m24 | exact m25 | exact m26 | exact m27) | exact hI.boxRo (by first | exact m0 | exact m1 | exact m2 | exact m3 | exact m4 | exact m5 | exact m6 | exact m7 | exact m8 | exact m9 | exact m10 | exact m11 | exact m12 | exact m13 | exact m14 | exact m15 | exact m16 | exact m17 | exact m18 | exact m19 | exact m20 | exact m21 | exact m22 | exact m23 | exact m24 | exact m25 | exact m26 | exact m27) | exact HInv.vecRo hI (by first | exact m0 | exact m1 | exact m2 | exact m3 | exact m4 | exact m5 | exact m6 | exact m7 | exact m8 | exact m9 | exact m10 | exact m11 | exact m12 | exact m13 | exact m14 | exact m15 | exact m16 | exact m17 | exact m18 | exact m19 | exact m20 | exact m21 | exact m22 | exact m23 | exact m24 | exact m25 | exact m26 | exact m27))))) (fun s22 => ?_)
       refine jl_op rfl rfl (.none rfl) (v_move rfl rfl tt) ?_
       refine jl_op rfl rfl (.none rfl) (v_extract rfl rfl tt rfl) ?_
       refine jl_op rfl rfl (.none rfl) (v_extract rfl rfl tt rfl) ?_
       refine jl_alloc rfl rfl rfl rfl zero27 (by rfl) (fun b7 => ?_)
       first | refine jl_storeS (i := 0) rfl rfl rfl (by kernel_rfl) rfl rfl rfl rfl ?_ | refine jl_storeS (i := 1) rfl rfl rfl (by kernel_rfl) rfl rfl rfl rfl ?_ | refine jl_storeS (i := 2) rfl rfl rfl (by kernel_rfl) rfl rfl rfl rfl ?_ | refine jl_storeS (i := 3) rfl rfl rfl (by kernel_rfl) rfl rfl rfl rfl ?_ | refine jl_storeS (i := 4) rfl rfl rfl (by kernel_rfl) rfl rfl rfl rfl ?_ | refine jl_storeS (i := 5) rfl rfl rfl (by kernel_rfl) rfl rfl rfl rfl ?_ | refine jl_storeS (i := 6) rfl rfl rfl (by kernel_rfl) rfl rfl rfl rfl ?_ | refine jl_storeS (i := 7) rfl rfl rfl (by kernel_rfl) rfl rfl rfl rfl ?_
       refine jl_op rfl rfl (.none rfl) (v_assign rfl rfl tt) ?_
       refine jl_nil ?_)
    | (refine j_region (id := 3) ?_
       first | refine jl_op rfl rfl (.none rfl) (v_loadS rfl Try.underlying27 (by rfl) (by kernel_rfl) rfl tt (by first | exact m0 | exact m1 | exact m2 | exact m3 | exact m4 | exact m5 | exact m6 | exact m7 | exact m8 | exact m9 | exact m10 | exact m11 | exact m12 | exact m13 | exact m14 | exact m15 | exact m16 | exact m17 | exact m18 | exact m19 | exact m20 | exact m21 | exact m22 | exact m23 | exact m24 | exact m25 | exact m26 | exact m27)) ?_ | refine jl_op rfl rfl (.none rfl) (v_loadSRo rfl Try.underlying27 (by rfl) (by kernel_rfl) rfl tt (by first | exact m0 | exact m1 | exact m2 | exact m3 | exact m4 | exact m5 | exact m6 | exact m7 | exact m8 | exact m9 | exact m10 | exact m11 | exact m12 | exact m13 | exact m14 | exact m15 | exact m16 | exact m17 | exact m18 | exact m19 | exact m20 | exact m21 | exact m22 | exact m23 | exact m24 | exact m25 | exact m26 | exact m27)) ?_
       first | refine jl_op rfl rfl (.none rfl) (v_loadS rfl Try.underlying27 (by rfl) (by kernel_rfl) rfl tt (by first | exact m0 | exact m1 | exact m2 | exact m3 | exact m4 | exact m5 | exact m6 | exact m7 | exact m8 | exact m9 | exact m10 | exact m11 | exact m12 | exact m13 | exact m14 | exact m15 | exact m16 | exact m17 | exact m18 | exact m19 | exact m20 | exact m21 | exact m22 | exact m23 | exact m24 | exact m25 | exact m26 | exact m27)) ?_ | refine jl_op rfl rfl (.none rfl) (v_loadSRo rfl Try.underlying27 (by rfl) (by kernel_rfl) rfl tt (by first | exact m0 | exact m1 | exact m2 | exact m3 | exact m4 | exact m5 | exact m6 | exact m7 | exact m8 | exact m9 | exact m10 | exact m11 | exact m12 | exact m13 | exact m14 | exact m15 | exact m16 | exact m17 | exact m18 | exact m19 | exact m20 | exact m21 | exact m22 | exact m23 | exact m24 | exact m25 | exact m26 | exact m27)) ?_
       refine jl_op rfl rfl (.none rfl) (v_call (f := 17) (xs := [_, _]) rfl (c_eqTube (hN := (by first | omega | exact bif_le (by omega))) ..) (ev_cons rfl tt (ev_cons rfl tt ev_nil)) (by intro w hc hI; first | trivial | (exfalso; simp_all; done) | (clear hc; repeat' (first | exact ros_nil | refine ros_cons ?_ ?_ | exact hI.roRo (by first | exact m0 | exact m1 | exact m2 | exact m3 | exact m4 | exact m5 | exact m6 | exact m7 | exact m8 | exact m9 | exact m10 | exact m11 | exact m12 | exact m13 | exact m14 | exact m15 | exact m16 | exact m17 | exact m18 | exact m19 | exact m20 | exact m21 | exact m22 | exact m23 | exact m24 | exact m25 | exact m26 | exact m27) | exact hI.boxRo (by first | exact m0 | exact m1 | exact m2 | exact m3 | exact m4 | exact m5 | exact m6 | exact m7 | exact m8 | exact m9 | exact m10 | exact m11 | exact m12 | exact m13 | exact m14 | exact m15 | exact m16 | exact m17 | exact m18 | exact m19 | exact m20 | exact m21 | exact m22 | exact m23 | exact m24 | exact m25 | exact m26 | exact m27) | exact HInv.vecRo hI (by first | exact m0 | exact m1 | exact m2 | exact m3 | exact m4 | exact m5 | exact m6 | exact m7 | exact m8 | exact m9 | exact m10 | exact m11 | exact m12 | exact m13 | exact m14 | exact m15 | exact m16 | exact m17 | exact m18 | exact m19 | exact m20 | exact m21 | exact m22 | exact m23 | exact m24 | exact m25 | exact m26 | exact m27))))) ?_
       refine jl_op rfl rfl (.none rfl) (v_not rfl rfl tt) ?_
       refine jl_op rfl rfl (.none rfl) (v_move rfl rfl tt) ?_
       refine jl_op rfl rfl (.some rfl rfl rfl) (v_move rfl rfl tt) ?_
       refine jl_op rfl rfl (.some rfl rfl rfl) (v_move rfl rfl tt) ?_
       refine jl_op rfl rfl (.some rfl rfl rfl) (v_bne rfl rfl rfl Try.underlying4 ii ii rfl) ?_
       refine jl_op rfl rfl (.none rfl) (v_or rfl rfl tt rfl fi) ?_
       refine jl_nil ?_)
    | (refine j_region (id := 4) ?_
       refine jl_op rfl rfl (.none rfl) (v_assign rfl rfl tt) ?_
       refine jl_nil ?_)
    | (refine j_region (id := 5) ?_
       refine jl_op rfl rfl (.none rfl) (v_assign rfl rfl tt) ?_
       refine jl_nil ?_)
    | (refine j_region (id := 6) ?_
       first | refine jl_op rfl rfl (.none rfl) (v_loadS rfl Try.underlying27 (by rfl) (by kernel_rfl) rfl tt (by first | exact m0 | exact m1 | exact m2 | exact m3 | exact m4 | exact m5 | exact m6 | exact m7 | exact m8 | exact m9 | exact m10 | exact m11 | exact m12 | exact m13 | exact m14 | exact m15 | exact m16 | exact m17 | exact m18 | exact m19 | exact m20 | exact m21 | exact m22 | exact m23 | exact m24 | exact m25 | exact m26 | exact m27)) ?_ | refine jl_op rfl rfl (.none rfl) (v_loadSRo rfl Try.underlying27 (by rfl) (by kernel_rfl) rfl tt (by first | exact m0 | exact m1 | exact m2 | exact m3 | exact m4 | exact m5 | exact m6 | exact m7 | exact m8 | exact m9 | exact m10 | exact m11 | exact m12 | exact m13 | exact m14 | exact m15 | exact m16 | exact m17 | exact m18 | exact m19 | exact m20 | exact m21 | exact m22 | exact m23 | exact m24 | exact m25 | exact m26 | exact m27)) ?_
       refine jl_op rfl rfl (.none rfl) (v_move rfl rfl tt) ?_
       first | refine jl_w (i := 0) (f := 18) (xs := [_, _]) rfl rfl rfl rfl (c_markTube (hN := (by first | omega | exact bif_le (by omega))) (hk := (by omega)) ..) (ev_cons rfl tt (ev_cons rfl tt ev_nil)) rfl (fun _ _ => trivial) ?_ | refine jl_w (i := 1) (f := 18) (xs := [_, _]) rfl rfl rfl rfl (c_markTube (hN := (by first | omega | exact bif_le (by omega))) (hk := (by omega)) ..) (ev_cons rfl tt (ev_cons rfl tt ev_nil)) rfl (fun _ _ => trivial) ?_ | refine jl_w (i := 2) (f := 18) (xs := [_, _]) rfl rfl rfl rfl (c_markTube (hN := (by first | omega | exact bif_le (by omega))) (hk := (by omega)) ..) (ev_cons rfl tt (ev_cons rfl tt ev_nil)) rfl (fun _ _ => trivial) ?_ | refine jl_w (i := 3) (f := 18) (xs := [_, _]) rfl rfl rfl rfl (c_markTube (hN := (by first | omega | exact bif_le (by omega))) (hk := (by omega)) ..) (ev_cons rfl tt (ev_cons rfl tt ev_nil)) rfl (fun _ _ => trivial) ?_ | refine jl_w (i := 4) (f := 18) (xs := [_, _]) rfl rfl rfl rfl (c_markTube (hN := (by first | omega | exact bif_le (by omega))) (hk := (by omega)) ..) (ev_cons rfl tt (ev_cons rfl tt ev_nil)) rfl (fun _ _ => trivial) ?_ | refine jl_w (i := 5) (f := 18) (xs := [_, _]) rfl rfl rfl rfl (c_markTube (hN := (by first | omega | exact bif_le (by omega))) (hk := (by omega)) ..) (ev_cons rfl tt (ev_cons rfl tt ev_nil)) rfl (fun _ _ => trivial) ?_ | refine jl_w (i := 6) (f := 18) (xs := [_, _]) rfl rfl rfl rfl (c_markTube (hN := (by first | omega | exact bif_le (by omega))) (hk := (by omega)) ..) (ev_cons rfl tt (ev_cons rfl tt ev_nil)) rfl (fun _ _ => trivial) ?_ | refine jl_w (i := 7) (f := 18) (xs := [_, _]) rfl rfl rfl rfl (c_markTube (hN := (by first | omega | exact bif_le (by omega))) (hk := (by omega)) ..) (ev_cons rfl tt (ev_cons rfl tt ev_nil)) rfl (fun _ _ => trivial) ?_ | refine jl_w (i := 8) (f := 18) (xs := [_, _]) rfl rfl rfl rfl (c_markTube (hN := (by first | omega | exact bif_le (by omega))) (hk := (by omega)) ..) (ev_cons rfl tt (ev_cons rfl tt ev_nil)) rfl (fun _ _ => trivial) ?_ | refine jl_w (i := 9) (f := 18) (xs := [_, _]) rfl rfl rfl rfl (c_markTube (hN := (by first | omega | exact bif_le (by omega))) (hk := (by omega)) ..) (ev_cons rfl tt (ev_cons rfl tt ev_nil)) rfl (fun _ _ => trivial) ?_ | refine jl_w (i := 10) (f := 18) (xs := [_, _]) rfl rfl rfl rfl (c_markTube (hN := (by first | omega | exact bif_le (by omega))) (hk := (by omega)) ..) (ev_cons rfl tt (ev_cons rfl tt ev_nil)) rfl (fun _ _ => trivial) ?_ | refine jl_w (i := 11) (f := 18) (xs := [_, _]) rfl rfl rfl rfl (c_markTube (hN := (by first | omega | exact bif_le (by omega))) (hk := (by omega)) ..) (ev_cons rfl tt (ev_cons rfl tt ev_nil)) rfl (fun _ _ => trivial) ?_ | refine jl_w (i := 12) (f := 18) (xs := [_, _]) rfl rfl rfl rfl (c_markTube (hN := (by first | omega | exact bif_le (by omega))) (hk := (by omega)) ..) (ev_cons rfl tt (ev_cons rfl tt ev_nil)) rfl (fun _ _ => trivial) ?_ | refine jl_w (i := 13) (f := 18) (xs := [_, _]) rfl rfl rfl rfl (c_markTube (hN := (by first | omega | exact bif_le (by omega))) (hk := (by omega)) ..) (ev_cons rfl tt (ev_cons rfl tt ev_nil)) rfl (fun _ _ => trivial) ?_ | refine jl_w (i := 14) (f := 18) (xs := [_, _]) rfl rfl rfl rfl (c_markTube (hN := (by first | omega | exact bif_le (by omega))) (hk := (by omega)) ..) (ev_cons rfl tt (ev_cons rfl tt ev_nil)) rfl (fun _ _ => trivial) ?_ | refine jl_w (i := 15) (f := 18) (xs := [_, _]) rfl rfl rfl rfl (c_markTube (hN := (by first | omega | exact bif_le (by omega))) (hk := (by omega)) ..) (ev_cons rfl tt (ev_cons rfl tt ev_nil)) rfl (fun _ _ => trivial) ?_
       refine jl_op rfl rfl (.none rfl) (v_assign rfl rfl tt) ?_
       refine jl_nil ?_)
    | (refine j_region (id := 7) ?_
       refine jl_op rfl rfl (.none rfl) (v_assign rfl rfl tt) ?_
       refine jl_nil ?_)
    | (refine j_region (id := 8) ?_
       first | refine jl_op rfl rfl (.none rfl) (v_loadS rfl Try.underlying27 (by rfl) (by kernel_rfl) rfl tt (by first | exact m0 | exact m1 | exact m2 | exact m3 | exact m4 | exact m5 | exact m6 | exact m7 | exact m8 | exact m9 | exact m10 | exact m11 | exact m12 | exact m13 | exact m14 | exact m15 | exact m16 | exact m17 | exact m18 | exact m19 | exact m20 | exact m21 | exact m22 | exact m23 | exact m24 | exact m25 | exact m26 | exact m27)) ?_ | refine jl_op rfl rfl (.none rfl) (v_loadSRo rfl Try.underlying27 (by rfl) (by kernel_rfl) rfl tt (by first | exact m0 | exact m1 | exact m2 | exact m3 | exact m4 | exact m5 | exact m6 | exact m7 | exact m8 | exact m9 | exact m10 | exact m11 | exact m12 | exact m13 | exact m14 | exact m15 | exact m16 | exact m17 | exact m18 | exact m19 | exact m20 | exact m21 | exact m22 | exact m23 | exact m24 | exact m25 | exact m26 | exact m27)) ?_
       refine jl_op rfl rfl (.none rfl) (v_move rfl rfl tt) ?_
       refine jl_op rfl rfl (.none rfl) (v_call (f := 19) (xs := [_, _]) rfl (c_heldTube (hN := (by first | omega | exact bif_le (by omega))) (hk := (by omega)) ..) (ev_cons rfl tt (ev_cons rfl tt ev_nil)) (by intro w hc hI; first | trivial | (exfalso; simp_all; done) | (clear hc; repeat' (first | exact ros_nil | refine ros_cons ?_ ?_ | exact hI.roRo (by first | exact m0 | exact m1 | exact m2 | exact m3 | exact m4 | exact m5 | exact m6 | exact m7 | exact m8 | exact m9 | exact m10 | exact m11 | exact m12 | exact m13 | exact m14 | exact m15 | exact m16 | exact m17 | exact m18 | exact m19 | exact m20 | exact m21 | exact m22 | exact m23 | exact m24 | exact m25 | exact m26 | exact m27) | exact hI.boxRo (by first | exact m0 | exact m1 | exact m2 | exact m3 | exact m4 | exact m5 | exact m6 | exact m7 | exact m8 | exact m9 | exact m10 | exact m11 | exact m12 | exact m13 | exact m14 | exact m15 | exact m16 | exact m17 | exact m18 | exact m19 | exact m20 | exact m21 | exact m22 | exact m23 | exact m24 | exact m25 | exact m26 | exact m27) | exact HInv.vecRo hI (by first | exact m0 | exact m1 | exact m2 | exact m3 | exact m4 | exact m5 | exact m6 | exact m7 | exact m8 | exact m9 | exact m10 | exact m11 | exact m12 | exact m13 | exact m14 | exact m15 | exact m16 | exact m17 | exact m18 | exact m19 | exact m20 | exact m21 | exact m22 | exact m23 | exact m24 | exact m25 | exact m26 | exact m27))))) ?_
       refine jl_op rfl rfl (.none rfl) (v_assign rfl rfl tt) ?_
       refine jl_nil ?_)
    | (refine j_region (id := 9) ?_
       refine jl_op rfl rfl (.none rfl) (v_move rfl rfl tt) ?_
       refine jl_op rfl rfl (.none rfl) (v_icmp rfl rfl rfl rfl tt tt) ?_
       refine jl_nil ?_)
    | (refine j_region (id := 10) ?_
       refine jl_op rfl rfl (.none rfl) (v_assign rfl rfl tt) ?_
       refine jl_nil ?_)
    | (refine j_region (id := 11) ?_
       refine jl_op rfl rfl (.none rfl) (v_move rfl rfl tt) ?_
       refine jl_op rfl rfl (.none rfl) (v_move rfl rfl tt) ?_
       refine jl_op rfl rfl (.none rfl) (v_icmp rfl rfl rfl rfl tt tt) ?_
       refine jl_nil ?_)
    | (refine j_region (id := 12) ?_
       refine jl_op rfl rfl (.none rfl) (v_assign rfl rfl tt) ?_
       refine jl_nil ?_)
    | (refine j_region (id := 13) ?_
       refine jl_op rfl rfl (.none rfl) (v_move rfl rfl tt) ?_
       refine jl_op rfl rfl (.none rfl) (v_move rfl rfl tt) ?_
       refine jl_x rfl rfl rfl (x_call (f := 23) (xs := [_, _]) rfl (c_evenI ..) (ev_cons rfl tt (ev_cons rfl tt ev_nil)) (by intro w hI; first | trivial | (repeat' (first | exact ros_nil | refine ros_cons ?_ ?_ | exact hI.roRo (by first | exact m0 | exact m1 | exact m2 | exact m3 | exact m4 | exact m5 | exact m6 | exact m7 | exact m8 | exact m9 | exact m10 | exact m11 | exact m12 | exact m13 | exact m14 | exact m15 | exact m16 | exact m17 | exact m18 | exact m19 | exact m20 | exact m21 | exact m22 | exact m23 | exact m24 | exact m25 | exact m26 | exact m27) | exact hI.boxRo (by first | exact m0 | exact m1 | exact m2 | exact m3 | exact m4 | exact m5 | exact m6 | exact m7 | exact m8 | exact m9 | exact m10 | exact m11 | exact m12 | exact m13 | exact m14 | exact m15 | exact m16 | exact m17 | exact m18 | exact m19 | exact m20 | exact m21 | exact m22 | exact m23 | exact m24 | exact m25 | exact m26 | exact m27) | exact HInv.vecRo hI (by first | exact m0 | exact m1 | exact m2 | exact m3 | exact m4 | exact m5 | exact m6 | exact m7 | exact m8 | exact m9 | exact m10 | exact m11 | exact m12 | exact m13 | exact m14 | exact m15 | exact m16 | exact m17 | exact m18 | exact m19 | exact m20 | exact m21 | exact m22 | exact m23 | exact m24 | exact m25 | exact m26 | exact m27))))) (fun s48 => ?_)
       refine jl_op rfl rfl (.none rfl) (v_move rfl rfl tt) ?_
       refine jl_op rfl rfl (.none rfl) (v_extract rfl rfl tt rfl) ?_
       refine jl_op rfl rfl (.none rfl) (v_extract rfl rfl tt rfl) ?_
       refine jl_alloc rfl rfl rfl rfl zero27 (by rfl) (fun b11 => ?_)
       first | refine jl_storeS (i := 0) rfl rfl rfl (by kernel_rfl) rfl rfl rfl rfl ?_ | refine jl_storeS (i := 1) rfl rfl rfl (by kernel_rfl) rfl rfl rfl rfl ?_ | refine jl_storeS (i := 2) rfl rfl rfl (by kernel_rfl) rfl rfl rfl rfl ?_ | refine jl_storeS (i := 3) rfl rfl rfl (by kernel_rfl) rfl rfl rfl rfl ?_ | refine jl_storeS (i := 4) rfl rfl rfl (by kernel_rfl) rfl rfl rfl rfl ?_ | refine jl_storeS (i := 5) rfl rfl rfl (by kernel_rfl) rfl rfl rfl rfl ?_ | refine jl_storeS (i := 6) rfl rfl rfl (by kernel_rfl) rfl rfl rfl rfl ?_ | refine jl_storeS (i := 7) rfl rfl rfl (by kernel_rfl) rfl rfl rfl rfl ?_
       refine jl_op rfl rfl (.none rfl) (v_assign rfl rfl tt) ?_
       refine jl_nil ?_)
    | (refine j_region (id := 14) ?_
       first | refine jl_op rfl rfl (.none rfl) (v_loadS rfl Try.underlying27 (by rfl) (by kernel_rfl) rfl tt (by first | exact m0 | exact m1 | exact m2 | exact m3 | exact m4 | exact m5 | exact m6 | exact m7 | exact m8 | exact m9 | exact m10 | exact m11 | exact m12 | exact m13 | exact m14 | exact m15 | exact m16 | exact m17 | exact m18 | exact m19 | exact m20 | exact m21 | exact m22 | exact m23 | exact m24 | exact m25 | exact m26 | exact m27)) ?_ | refine jl_op rfl rfl (.none rfl) (v_loadSRo rfl Try.underlying27 (by rfl) (by kernel_rfl) rfl tt (by first | exact m0 | exact m1 | exact m2 | exact m3 | exact m4 | exact m5 | exact m6 | exact m7 | exact m8 | exact m9 | exact m10 | exact m11 | exact m12 | exact m13 | exact m14 | exact m15 | exact m16 | exact m17 | exact m18 | exact m19 | exact m20 | exact m21 | exact m22 | exact m23 | exact m24 | exact m25 | exact m26 | exact m27)) ?_
       first | refine jl_op rfl rfl (.none rfl) (v_loadS rfl Try.underlying27 (by rfl) (by kernel_rfl) rfl tt (by first | exact m0 | exact m1 | exact m2 | exact m3 | exact m4 | exact m5 | exact m6 | exact m7 | exact m8 | exact m9 | exact m10 | exact m11 | exact m12 | exact m13 | exact m14 | exact m15 | exact m16 | exact m17 | exact m18 | exact m19 | exact m20 | exact m21 | exact m22 | exact m23 | exact m24 | exact m25 | exact m26 | exact m27)) ?_ | refine jl_op rfl rfl (.none rfl) (v_loadSRo rfl Try.underlying27 (by rfl) (by kernel_rfl) rfl tt (by first | exact m0 | exact m1 | exact m2 | exact m3 | exact m4 | exact m5 | exact m6 | exact m7 | exact m8 | exact m9 | exact m10 | exact m11 | exact m12 | exact m13 | exact m14 | exact m15 | exact m16 | exact m17 | exact m18 | exact m19 | exact m20 | exact m21 | exact m22 | exact m23 | exact m24 | exact m25 | exact m26 | exact m27)) ?_
       refine jl_op rfl rfl (.none rfl) (v_call (f := 17) (xs := [_, _]) rfl (c_eqTube (hN := (by first | omega | exact bif_le (by omega))) ..) (ev_cons rfl tt (ev_cons rfl tt ev_nil)) (by intro w hc hI; first | trivial | (exfalso; simp_all; done) | (clear hc; repeat' (first | exact ros_nil | refine ros_cons ?_ ?_ | exact hI.roRo (by first | exact m0 | exact m1 | exact m2 | exact m3 | exact m4 | exact m5 | exact m6 | exact m7 | exact m8 | exact m9 | exact m10 | exact m11 | exact m12 | exact m13 | exact m14 | exact m15 | exact m16 | exact m17 | exact m18 | exact m19 | exact m20 | exact m21 | exact m22 | exact m23 | exact m24 | exact m25 | exact m26 | exact m27) | exact hI.boxRo (by first | exact m0 | exact m1 | exact m2 | exact m3 | exact m4 | exact m5 | exact m6 | exact m7 | exact m8 | exact m9 | exact m10 | exact m11 | exact m12 | exact m13 | exact m14 | exact m15 | exact m16 | exact m17 | exact m18 | exact m19 | exact m20 | exact m21 | exact m22 | exact m23 | exact m24 | exact m25 | exact m26 | exact m27) | exact HInv.vecRo hI (by first | exact m0 | exact m1 | exact m2 | exact m3 | exact m4 | exact m5 | exact m6 | exact m7 | exact m8 | exact m9 | exact m10 | exact m11 | exact m12 | exact m13 | exact m14 | exact m15 | exact m16 | exact m17 | exact m18 | exact m19 | exact m20 | exact m21 | exact m22 | exact m23 | exact m24 | exact m25 | exact m26 | exact m27))))) ?_
       refine jl_op rfl rfl (.none rfl) (v_not rfl rfl tt) ?_
       refine jl_op rfl rfl (.none rfl) (v_move rfl rfl tt) ?_
       refine jl_op rfl rfl (.some rfl rfl rfl) (v_move rfl rfl tt) ?_
       refine jl_op rfl rfl (.some rfl rfl rfl) (v_move rfl rfl tt) ?_
       refine jl_op rfl rfl (.some rfl rfl rfl) (v_bne rfl rfl rfl Try.underlying4 ii ii rfl) ?_
       refine jl_op rfl rfl (.none rfl) (v_or rfl rfl tt rfl fi) ?_
       refine jl_nil ?_)
    | (refine j_region (id := 15) ?_
       refine jl_op rfl rfl (.none rfl) (v_assign rfl rfl tt) ?_
       refine jl_nil ?_)
    | (refine j_region (id := 16) ?_
       refine jl_op rfl rfl (.none rfl) (v_assign rfl rfl tt) ?_
       refine jl_nil ?_)
    | (refine j_region (id := 17) ?_
       first | refine jl_op rfl rfl (.none rfl) (v_loadS rfl Try.underlying27 (by rfl) (by kernel_rfl) rfl tt (by first | exact m0 | exact m1 | exact m2 | exact m3 | exact m4 | exact m5 | exact m6 | exact m7 | exact m8 | exact m9 | exact m10 | exact m11 | exact m12 | exact m13 | exact m14 | exact m15 | exact m16 | exact m17 | exact m18 | exact m19 | exact m20 | exact m21 | exact m22 | exact m23 | exact m24 | exact m25 | exact m26 | exact m27)) ?_ | refine jl_op rfl rfl (.none rfl) (v_loadSRo rfl Try.underlying27 (by rfl) (by kernel_rfl) rfl tt (by first | exact m0 | exact m1 | exact m2 | exact m3 | exact m4 | exact m5 | exact m6 | exact m7 | exact m8 | exact m9 | exact m10 | exact m11 | exact m12 | exact m13 | exact m14 | exact m15 | exact m16 | exact m17 | exact m18 | exact m19 | exact m20 | exact m21 | exact m22 | exact m23 | exact m24 | exact m25 | exact m26 | exact m27)) ?_
       refine jl_op rfl rfl (.none rfl) (v_move rfl rfl tt) ?_
       refine jl_op rfl rfl (.none rfl) (v_call (f := 19) (xs := [_, _]) rfl (c_heldTube (hN := (by first | omega | exact bif_le (by omega))) (hk := (by omega)) ..) (ev_cons rfl tt (ev_cons rfl tt ev_nil)) (by intro w hc hI; first | trivial | (exfalso; simp_all; done) | (clear hc; repeat' (first | exact ros_nil | refine ros_cons ?_ ?_ | exact hI.roRo (by first | exact m0 | exact m1 | exact m2 | exact m3 | exact m4 | exact m5 | exact m6 | exact m7 | exact m8 | exact m9 | exact m10 | exact m11 | exact m12 | exact m13 | exact m14 | exact m15 | exact m16 | exact m17 | exact m18 | exact m19 | exact m20 | exact m21 | exact m22 | exact m23 | exact m24 | exact m25 | exact m26 | exact m27) | exact hI.boxRo (by first | exact m0 | exact m1 | exact m2 | exact m3 | exact m4 | exact m5 | exact m6 | exact m7 | exact m8 | exact m9 | exact m10 | exact m11 | exact m12 | exact m13 | exact m14 | exact m15 | exact m16 | exact m17 | exact m18 | exact m19 | exact m20 | exact m21 | exact m22 | exact m23 | exact m24 | exact m25 | exact m26 | exact m27) | exact HInv.vecRo hI (by first | exact m0 | exact m1 | exact m2 | exact m3 | exact m4 | exact m5 | exact m6 | exact m7 | exact m8 | exact m9 | exact m10 | exact m11 | exact m12 | exact m13 | exact m14 | exact m15 | exact m16 | exact m17 | exact m18 | exact m19 | exact m20 | exact m21 | exact m22 | exact m23 | exact m24 | exact m25 | exact m26 | exact m27))))) ?_
       refine jl_op rfl rfl (.none rfl) (v_assign rfl rfl tt) ?_
       refine jl_nil ?_)
    | (refine j_region (id := 18) ?_
       refine jl_op rfl rfl (.none rfl) (v_move rfl rfl tt) ?_
       refine jl_op rfl rfl (.none rfl) (v_icmp rfl rfl rfl rfl tt tt) ?_
       refine jl_nil ?_)
    | (refine j_region (id := 19) ?_
       refine jl_op rfl rfl (.none rfl) (v_assign rfl rfl tt) ?_
       refine jl_nil ?_)
    | (refine j_region (id := 20) ?_
       refine jl_op rfl rfl (.none rfl) (v_move rfl rfl tt) ?_
       refine jl_op rfl rfl (.none rfl) (v_move rfl rfl tt) ?_
       refine jl_op rfl rfl (.none rfl) (v_icmp rfl rfl rfl rfl tt tt) ?_
       refine jl_nil ?_)
    | (refine j_region (id := 21) ?_
       refine jl_op rfl rfl (.none rfl) (v_assign rfl rfl tt) ?_
       refine jl_nil ?_)
    | (refine j_region (id := 22) ?_
       refine jl_op rfl rfl (.none rfl) (v_assign rfl rfl tt) ?_
       refine jl_nil ?_)))
  all_goals first | exact jq_ret1 (.inl rfl) Try.results5 rfl | (exfalso; simp [sameT_self, sameF_self] at * <;> omega)
end Go.Vx
