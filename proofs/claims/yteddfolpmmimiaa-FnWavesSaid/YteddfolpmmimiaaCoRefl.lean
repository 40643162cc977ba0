/- Contracts of functions of the program and of the reference. -/
import Derived.Test.YteddfolpmmimiaaCoFour
import Derived.Test.YteddfolpmmimiaaCoLoudOf
import Derived.Test.YteddfolpmmimiaaCoMixLadders
import Derived.Test.YteddfolpmmimiaaCoSamePredictor
import Derived.Test.YteddfolpmmimiaaCoTube
import Derived.Test.YteddfolpmmimiaaCoValidPredictor
namespace Go.Vx
open Go.Proofs
set_option maxRecDepth 4000
set_option maxHeartbeats 4000000
attribute [local irreducible] J JL JQ JA VOp Con Ext XOp ConM
attribute [local irreducible] farith fcmp
theorem c_reflI (A : Option Addr) (N cap : Nat) (g : Nat → Nat) (l t p : Nat) (hN1 : 1 ≤ N) (hN : N ≤ 4294967296) (hc : N ≤ cap) : ConM Try.prog 122 [.agg #[.slice A N cap, F l, F t, F p]] (RoS [.ro A (tab N g)]) (fun s : Option Addr × Nat => .tuple #[.slice s.1 (N - 1) s.2, .bool (allB (N - 1) (fun j => fin (reflG g j)))]) (fun s : Option Addr × Nat => [.vec 24 s.1 s.2 (tab (N - 1) (reflG g))]) := by
  refine conM_intro (H := [.ro A (tab N g)]) Try.func122 (by decide) rfl rfl (fun w h => h.inv) (fun w0 _ => ?_)
  (repeat' (first
    | refine j_part (by omega) ?_
    | refine j_partI (by omega) ?_
    | (refine j_loop2 (σ := Nat × Option Addr × Nat) (fun s => s.1 ≤ N - 1) (fun s => [(1, true, .pointer (some ⟨b1, 0, none⟩)), (4, true, .slice s.2.1 s.1 s.2.2), (10, true, .slice (subA A 1 cap) (N - 1) (cap - 1)), (11, true, .int .i64 ((N - 1 : Nat))), (12, true, .int .i64 (s.1))]) (fun s => [.vec 24 s.2.1 s.2.2 (tab s.1 (reflG g)), .ro (subA A 1 cap) (tab (N - 1) (fun j => g (j + 1))), .box b1 47 [.slice A N cap, F l, F t, F p], .ro A (tab N g)]) (fun s => N - 1 - s.1) (0, _, _) (by omega) (fs_cons rfl (fs_cons rfl (fs_cons rfl (fs_cons rfl (fs_cons rfl fs_nil))))) (fun w h => (h.addSub1 (i := 1) rfl hc hN1).addNil) ?_; intro s hi; obtain ⟨i, Z, zc⟩ := s; dsimp only at hi ⊢)
    | (exact jq_round (i + 1, _, _) (by omega) (by omega) (fs_cons rfl (fs_cons rfl (fs_cons rfl (fs_cons rfl (fs_cons rfl fs_nil))))) (fun w h => by rw [← tab_succ]; exact h.sub (List.sublist_cons_self _ _)))
    | refine j_condLt rfl (fun _ => ?_) (fun _ => ?_)
    | refine j_condLe rfl (fun _ => ?_) (fun _ => ?_)
    | refine j_condGt rfl (fun _ => ?_) (fun _ => ?_)
    | refine j_condGe rfl (fun _ => ?_) (fun _ => ?_)
    | refine j_condNe rfl (fun _ => ?_) (fun _ => ?_)
    | refine j_condEq rfl (fun _ => ?_) (fun _ => ?_)
    | refine j_condOrLt rfl (fun _ => ?_) (fun _ => ?_)
    | refine j_condAndLt rfl (fun _ => ?_) (fun _ => ?_)
    | refine j_condAndGe rfl (fun _ => ?_) (fun _ => ?_)
    | refine j_seq ?_
    | refine jq_then ?_
    | refine j_block ?_
    | refine j_ret ?_
    | refine jq_then_ret ?_
    | refine jq_block_ret ?_
    | refine jq_block_normal ?_
    | refine jq_then_exit ?_
    | refine jq_block_same rfl ?_
    | refine jq_block_other rfl ?_
    | refine j_skip ?_
    | refine j_exit ?_
    | refine j_label ?_
    | refine j_condCT ?_
    | refine j_condCF ?_
    | refine j_cond rfl (fun _ => ?_) (fun _ => ?_)
    | (refine j_region (id := 0) ?_
       refine jl_boxS rfl rfl rfl rfl rfl (fun b1 => ?_)
       refine jl_op rfl rfl (.none rfl) (v_assign rfl rfl tt) ?_
       refine jl_op rfl rfl (.none rfl) (v_assign rfl rfl tt) ?_
       refine jl_nil ?_)
    | (refine j_region (id := 1) ?_
       refine jl_op rfl rfl (.none rfl) (v_assign rfl rfl tt) ?_
       refine jl_nil ?_)
    | (refine j_region (id := 2) ?_
       refine jl_op rfl rfl (.none rfl) (v_fieldAddr rfl Try.underlying47 (by rfl) (by kernel_rfl) rfl tt) ?_
       first | refine jl_op rfl rfl (.none rfl) (v_loadBox rfl Try.underlying34 (by rfl) rfl tt (by (repeat first | exact m0 | refine List.Mem.tail _ ?_); first | done | fail) (by rfl)) ?_ | refine jl_op rfl rfl (.none rfl) (v_loadRoB rfl Try.underlying34 (by rfl) rfl tt (by (repeat first | exact m0 | refine List.Mem.tail _ ?_); first | done | fail) (by rfl)) ?_
       refine jl_op rfl rfl (.none rfl) (v_sliceLo rfl Try.underlying34 (by kernel_rfl) rfl rfl ⟨(by first | with_reducible rfl | exact (Int.toNat_of_nonneg (by omega)).symm | (have hc := g_gt _hc; exact (Int.toNat_of_nonneg (by omega)).symm)), by omega⟩) ?_
       refine jl_op rfl rfl (.none rfl) (v_len rfl rfl Try.underlying34 rfl tt) ?_
       refine jl_op rfl rfl (.none rfl) (v_move rfl rfl tt) ?_
       refine jl_nil ?_)
    | (refine j_region (id := 3) ?_
       refine jl_op rfl rfl (.none rfl) (v_icmp rfl rfl rfl rfl tt tt) ?_
       refine jl_nil ?_)
    | (refine j_region (id := 4) ?_
       refine jl_op rfl rfl (.none rfl) (v_move rfl rfl tt) ?_
       refine jl_op rfl rfl (.none rfl) (v_indexAddr rfl Try.underlying34 (by kernel_rfl) rfl rfl tt tt (by first | exact hA_some | exact hA_roT (by (repeat first | exact m0 | refine List.Mem.tail _ ?_); first | done | fail) | exact hA_vecT (by (repeat first | exact m0 | refine List.Mem.tail _ ?_); first | done | fail) | exact hA_vecP (by (repeat first | exact m0 | refine List.Mem.tail _ ?_); first | done | fail) | exact hA_roI (by (repeat first | exact m0 | refine List.Mem.tail _ ?_); first | done | fail) | exact hA_vecI (by (repeat first | exact m0 | refine List.Mem.tail _ ?_); first | done | fail) | exact hA_vecPI (by (repeat first | exact m0 | refine List.Mem.tail _ ?_); first | done | fail) | exact hA_vecPS (by (repeat first | exact m0 | refine List.Mem.tail _ ?_); first | done | fail) | exact hA_ro (by (repeat first | exact m0 | refine List.Mem.tail _ ?_); first | done | fail) | exact hA_vec (by (repeat first | exact m0 | refine List.Mem.tail _ ?_); first | done | fail) | exact hA_roY (by (repeat first | exact m0 | refine List.Mem.tail _ ?_); first | done | fail)) (fun _hc => ⟨(by first | with_reducible rfl | exact (Int.toNat_of_nonneg (by omega)).symm | (have hc := g_gt _hc; exact (Int.toNat_of_nonneg (by omega)).symm)), (by first | omega | (rw [tabY_length]; omega) | (rw [tab_length]; omega) | (rw [part_length]; omega) | (rw [tabI_length]; omega) | (rw [partI_length]; omega) | (rw [List.length_set, part_length]; omega))⟩)) ?_
       first | refine jl_op rfl rfl (.none rfl) (v_loadVec rfl Try.underlying24 (by rfl) rfl tt (by (repeat first | exact m0 | refine List.Mem.tail _ ?_); first | done | fail) (fun _ => (by first | with_reducible exact part_get_ge (by omega) (by omega) | with_reducible exact tab_get (by omega) | with_reducible exact tabI_get (by omega) | with_reducible exact part_get (by omega) | exact part_get_ge (by omega) (by omega) | exact tab_get (by omega) | exact tabI_get (by omega) | exact part_get (by omega) | exact part_set_get (by omega) | exact partI_get (by omega) | exact tabY_get (by omega) | assumption | rfl))) ?_ | refine jl_op rfl rfl (.none rfl) (v_loadRo rfl Try.underlying24 (by rfl) rfl tt (by (repeat first | exact m0 | refine List.Mem.tail _ ?_); first | done | fail) (fun _ => (by first | with_reducible exact part_get_ge (by omega) (by omega) | with_reducible exact tab_get (by omega) | with_reducible exact tabI_get (by omega) | with_reducible exact part_get (by omega) | exact part_get_ge (by omega) (by omega) | exact tab_get (by omega) | exact tabI_get (by omega) | exact part_get (by omega) | exact part_set_get (by omega) | exact partI_get (by omega) | exact tabY_get (by omega) | assumption | rfl))) ?_
       refine jl_op rfl rfl (.none rfl) (v_assign rfl rfl tt) ?_
       refine jl_op rfl rfl (.none rfl) (v_assign rfl rfl tt) ?_
       refine jl_nil ?_)
    | (refine j_region (id := 5) ?_
       refine jl_op rfl rfl (.none rfl) (v_fieldAddr rfl Try.underlying47 (by rfl) (by kernel_rfl) rfl tt) ?_
       first | refine jl_op rfl rfl (.none rfl) (v_loadBox rfl Try.underlying34 (by rfl) rfl tt (by (repeat first | exact m0 | refine List.Mem.tail _ ?_); first | done | fail) (by rfl)) ?_ | refine jl_op rfl rfl (.none rfl) (v_loadRoB rfl Try.underlying34 (by rfl) rfl tt (by (repeat first | exact m0 | refine List.Mem.tail _ ?_); first | done | fail) (by rfl)) ?_
       refine jl_op rfl rfl (.none rfl) (v_move rfl rfl tt) ?_
       refine jl_op rfl rfl (.none rfl) (v_indexAddr rfl Try.underlying34 (by kernel_rfl) rfl rfl tt tt (by first | exact hA_some | exact hA_roT (by (repeat first | exact m0 | refine List.Mem.tail _ ?_); first | done | fail) | exact hA_vecT (by (repeat first | exact m0 | refine List.Mem.tail _ ?_); first | done | fail) | exact hA_vecP (by (repeat first | exact m0 | refine List.Mem.tail _ ?_); first | done | fail) | exact hA_roI (by (repeat first | exact m0 | refine List.Mem.tail _ ?_); first | done | fail) | exact hA_vecI (by (repeat first | exact m0 | refine List.Mem.tail _ ?_); first | done | fail) | exact hA_vecPI (by (repeat first | exact m0 | refine List.Mem.tail _ ?_); first | done | fail) | exact hA_vecPS (by (repeat first | exact m0 | refine List.Mem.tail _ ?_); first | done | fail) | exact hA_ro (by (repeat first | exact m0 | refine List.Mem.tail _ ?_); first | done | fail) | exact hA_vec (by (repeat first | exact m0 | refine List.Mem.tail _ ?_); first | done | fail) | exact hA_roY (by (repeat first | exact m0 | refine List.Mem.tail _ ?_); first | done | fail)) (fun _hc => ⟨(by first | with_reducible rfl | exact (Int.toNat_of_nonneg (by omega)).symm | (have hc := g_gt _hc; exact (Int.toNat_of_nonneg (by omega)).symm)), (by first | omega | (rw [tabY_length]; omega) | (rw [tab_length]; omega) | (rw [part_length]; omega) | (rw [tabI_length]; omega) | (rw [partI_length]; omega) | (rw [List.length_set, part_length]; omega))⟩)) ?_
       first | refine jl_op rfl rfl (.none rfl) (v_loadVec rfl Try.underlying24 (by rfl) rfl tt (by (repeat first | exact m0 | refine List.Mem.tail _ ?_); first | done | fail) (fun _ => (by first | with_reducible exact part_get_ge (by omega) (by omega) | with_reducible exact tab_get (by omega) | with_reducible exact tabI_get (by omega) | with_reducible exact part_get (by omega) | exact part_get_ge (by omega) (by omega) | exact tab_get (by omega) | exact tabI_get (by omega) | exact part_get (by omega) | exact part_set_get (by omega) | exact partI_get (by omega) | exact tabY_get (by omega) | assumption | rfl))) ?_ | refine jl_op rfl rfl (.none rfl) (v_loadRo rfl Try.underlying24 (by rfl) rfl tt (by (repeat first | exact m0 | refine List.Mem.tail _ ?_); first | done | fail) (fun _ => (by first | with_reducible exact part_get_ge (by omega) (by omega) | with_reducible exact tab_get (by omega) | with_reducible exact tabI_get (by omega) | with_reducible exact part_get (by omega) | exact part_get_ge (by omega) (by omega) | exact tab_get (by omega) | exact tabI_get (by omega) | exact part_get (by omega) | exact part_set_get (by omega) | exact partI_get (by omega) | exact tabY_get (by omega) | assumption | rfl))) ?_
       refine jl_op rfl rfl (.none rfl) (v_assign rfl rfl tt) ?_
       refine jl_nil ?_)
    | (refine j_region (id := 6) ?_
       refine jl_op rfl rfl (.none rfl) (v_move rfl rfl tt) ?_
       refine jl_op rfl rfl (.none rfl) (v_move rfl rfl tt) ?_
       refine jl_op rfl rfl (.none rfl) (v_move rfl rfl tt) ?_
       refine jl_op rfl rfl (.none rfl) (v_farith rfl rfl rfl rfl tt tt) ?_
       refine jl_op rfl rfl (.none rfl) (v_move rfl rfl tt) ?_
       refine jl_op rfl rfl (.none rfl) (v_move rfl rfl tt) ?_
       refine jl_op rfl rfl (.none rfl) (v_farith rfl rfl rfl rfl tt tt) ?_
       refine jl_op rfl rfl (.none rfl) (v_farith rfl rfl rfl rfl tt tt) ?_
       refine jl_x1 rfl rfl rfl (x_lit (Ws := [_]) (Z := F 0) rfl Try.underlying34 (by kernel_rfl) zero24 rfl rfl (ev_cons rfl tt ev_nil) rfl rfl rfl rfl) (fun b30 => ?_)
       first | refine jl_append (i := 0) (by' := 4) (Z := F 0) rfl rfl rfl rfl Try.underlying34 (by kernel_rfl) zero24 rfl (by kernel_rfl) (by rfl) rfl rfl rfl (fun w hI => by first | exact hI.vecRo (by (repeat first | exact m0 | refine List.Mem.tail _ ?_); first | done | fail) | exact hI.roRo (by (repeat first | exact m0 | refine List.Mem.tail _ ?_); first | done | fail)) (by first | rfl | exact (tab_length ..).symm | exact (part_length ..).symm | exact (tabI_length ..).symm | exact (partI_length ..).symm | exact (List.length_replicate ..).symm | simp only [List.length_append, List.length_nil, tab_length]) (by first | rfl | exact (tab_length ..).symm | exact (part_length ..).symm | exact (tabI_length ..).symm | exact (partI_length ..).symm | exact (List.length_replicate ..).symm | simp only [List.length_append, List.length_nil, tab_length]) (by omega) (fun A31 c31 => ?_) | refine jl_append (i := 1) (by' := 4) (Z := F 0) rfl rfl rfl rfl Try.underlying34 (by kernel_rfl) zero24 rfl (by kernel_rfl) (by rfl) rfl rfl rfl (fun w hI => by first | exact hI.vecRo (by (repeat first | exact m0 | refine List.Mem.tail _ ?_); first | done | fail) | exact hI.roRo (by (repeat first | exact m0 | refine List.Mem.tail _ ?_); first | done | fail)) (by first | rfl | exact (tab_length ..).symm | exact (part_length ..).symm | exact (tabI_length ..).symm | exact (partI_length ..).symm | exact (List.length_replicate ..).symm | simp only [List.length_append, List.length_nil, tab_length]) (by first | rfl | exact (tab_length ..).symm | exact (part_length ..).symm | exact (tabI_length ..).symm | exact (partI_length ..).symm | exact (List.length_replicate ..).symm | simp only [List.length_append, List.length_nil, tab_length]) (by omega) (fun A31 c31 => ?_) | refine jl_append (i := 2) (by' := 4) (Z := F 0) rfl rfl rfl rfl Try.underlying34 (by kernel_rfl) zero24 rfl (by kernel_rfl) (by rfl) rfl rfl rfl (fun w hI => by first | exact hI.vecRo (by (repeat first | exact m0 | refine List.Mem.tail _ ?_); first | done | fail) | exact hI.roRo (by (repeat first | exact m0 | refine List.Mem.tail _ ?_); first | done | fail)) (by first | rfl | exact (tab_length ..).symm | exact (part_length ..).symm | exact (tabI_length ..).symm | exact (partI_length ..).symm | exact (List.length_replicate ..).symm | simp only [List.length_append, List.length_nil, tab_length]) (by first | rfl | exact (tab_length ..).symm | exact (part_length ..).symm | exact (tabI_length ..).symm | exact (partI_length ..).symm | exact (List.length_replicate ..).symm | simp only [List.length_append, List.length_nil, tab_length]) (by omega) (fun A31 c31 => ?_) | refine jl_append (i := 3) (by' := 4) (Z := F 0) rfl rfl rfl rfl Try.underlying34 (by kernel_rfl) zero24 rfl (by kernel_rfl) (by rfl) rfl rfl rfl (fun w hI => by first | exact hI.vecRo (by (repeat first | exact m0 | refine List.Mem.tail _ ?_); first | done | fail) | exact hI.roRo (by (repeat first | exact m0 | refine List.Mem.tail _ ?_); first | done | fail)) (by first | rfl | exact (tab_length ..).symm | exact (part_length ..).symm | exact (tabI_length ..).symm | exact (partI_length ..).symm | exact (List.length_replicate ..).symm | simp only [List.length_append, List.length_nil, tab_length]) (by first | rfl | exact (tab_length ..).symm | exact (part_length ..).symm | exact (tabI_length ..).symm | exact (partI_length ..).symm | exact (List.length_replicate ..).symm | simp only [List.length_append, List.length_nil, tab_length]) (by omega) (fun A31 c31 => ?_) | refine jl_append (i := 4) (by' := 4) (Z := F 0) rfl rfl rfl rfl Try.underlying34 (by kernel_rfl) zero24 rfl (by kernel_rfl) (by rfl) rfl rfl rfl (fun w hI => by first | exact hI.vecRo (by (repeat first | exact m0 | refine List.Mem.tail _ ?_); first | done | fail) | exact hI.roRo (by (repeat first | exact m0 | refine List.Mem.tail _ ?_); first | done | fail)) (by first | rfl | exact (tab_length ..).symm | exact (part_length ..).symm | exact (tabI_length ..).symm | exact (partI_length ..).symm | exact (List.length_replicate ..).symm | simp only [List.length_append, List.length_nil, tab_length]) (by first | rfl | exact (tab_length ..).symm | exact (part_length ..).symm | exact (tabI_length ..).symm | exact (partI_length ..).symm | exact (List.length_replicate ..).symm | simp only [List.length_append, List.length_nil, tab_length]) (by omega) (fun A31 c31 => ?_) | refine jl_append (i := 5) (by' := 4) (Z := F 0) rfl rfl rfl rfl Try.underlying34 (by kernel_rfl) zero24 rfl (by kernel_rfl) (by rfl) rfl rfl rfl (fun w hI => by first | exact hI.vecRo (by (repeat first | exact m0 | refine List.Mem.tail _ ?_); first | done | fail) | exact hI.roRo (by (repeat first | exact m0 | refine List.Mem.tail _ ?_); first | done | fail)) (by first | rfl | exact (tab_length ..).symm | exact (part_length ..).symm | exact (tabI_length ..).symm | exact (partI_length ..).symm | exact (List.length_replicate ..).symm | simp only [List.length_append, List.length_nil, tab_length]) (by first | rfl | exact (tab_length ..).symm | exact (part_length ..).symm | exact (tabI_length ..).symm | exact (partI_length ..).symm | exact (List.length_replicate ..).symm | simp only [List.length_append, List.length_nil, tab_length]) (by omega) (fun A31 c31 => ?_)
       refine jl_op rfl rfl (.none rfl) (v_assign rfl rfl tt) ?_
       refine jl_nil ?_)
    | (refine j_region (id := 7) ?_
       refine jl_op rfl rfl (.none rfl) (v_iarith' rfl rfl rfl rfl tt tt (by first | exact fun _ => iw_add (by omega) | exact fun _ => rfl)) ?_
       refine jl_op rfl rfl (.none rfl) (v_move rfl rfl tt) ?_
       refine jl_nil ?_)
    | (refine j_region (id := 8) ?_
       refine jl_op rfl rfl (.none rfl) (v_move rfl rfl tt) ?_
       refine jl_op rfl rfl (.none rfl) (v_move rfl rfl tt) ?_
       refine jl_op rfl rfl (.none rfl) (v_call (f := 95) (xs := [_]) rfl (c_areFinite _ _ _ _ (by omega)) (ev_cons rfl tt ev_nil) (by intro w hc hI; first | trivial | (exfalso; simp_all; done) | (clear hc; repeat' (first | exact ros_nil | refine ros_cons ?_ ?_ | exact hI.roRo (by (repeat first | exact m0 | refine List.Mem.tail _ ?_); first | done | fail) | exact hI.boxRo (by (repeat first | exact m0 | refine List.Mem.tail _ ?_); first | done | fail) | exact HInv.vecRo hI (by (repeat first | exact m0 | refine List.Mem.tail _ ?_); first | done | fail))))) ?_
       refine jl_op rfl rfl (.none rfl) (v_assign rfl rfl tt) ?_
       refine jl_op rfl rfl (.none rfl) (v_assign rfl rfl tt) ?_
       refine jl_nil ?_)))
  obtain rfl : i = N - 1 := (by omega)
  exact jq_retMM (_, _) (.inl rfl) Try.results122 (ret_tmp rfl rfl (ret_tmp rfl rfl ret_nil)) rfl rfl (fun w h => fresh_at 0 rfl rfl h)
end Go.Vx
