/- Contracts of functions of the program and of the reference. -/
import Derived.Test.YteddfolpmmimiaaCoTubes6
import Derived.Test.YteddfolpmmimiaaCoEnergyOfWaves
import Derived.Test.YteddfolpmmimiaaCoAddWavesA
import Derived.Test.YteddfolpmmimiaaCoRunW
import Derived.Test.YteddfolpmmimiaaCoStepWaves
import Derived.Test.YteddfolpmmimiaaSx
namespace Go.Vx
open Go.Proofs
set_option maxRecDepth 4000
set_option maxHeartbeats 4000000
attribute [local irreducible] J JL JQ JA VOp Con Ext XOp ConM
attribute [local irreducible] farith fcmp
theorem c_R8Sound (A : Option Addr) (N cap : Nat) (g : Nat → Nat) (m : Nat) (hm : m ≤ 300) (hg : ∀ j, j < N → g j < 256) : ConM Try.prog 30 [.slice A N cap, .int .i64 (m)] (RoS [.ro A (tabY N g)]) (fun s : {s : (Option Addr × Nat) × (Nat → Nat) // ∀ j, j < m → waveN (s.2 j)} => .slice s.1.1.1 m s.1.1.2) (fun s : {s : (Option Addr × Nat) × (Nat → Nat) // ∀ j, j < m → waveN (s.2 j)} => [.vec 24 s.1.1.1 s.1.1.2 (tab m s.1.2)]) := by
  refine conM_intro (H := [.ro A (tabY N g)]) Try.func30 (by decide) rfl rfl (fun w h => h.inv) (fun w0 _ => ?_)
  (repeat' (first
    | refine j_part (by omega) ?_
    | refine j_partI (by omega) ?_
    | (refine j_loop2 (σ := Nat × (Option Addr × Nat) × (Nat → Nat) × Int) (fun s => s.1 ≤ m ∧ ∀ j, j < s.1 → waveN (s.2.2.1 j)) (fun s => [(1, true, .int .i64 ((m : Int) - (s.1 : Int))), (5, true, .pointer (some ⟨s8, 0, none⟩)), (6, true, .slice s.2.1.1 s.1 s.2.1.2)]) (fun s => [.vec 24 s.2.1.1 s.2.1.2 (tab s.1 s.2.2.1), srcB s8 143 A N cap s.1 s.2.2.2, .ro A (tabY N g)]) (fun s => m - s.1) (0, (_, _), (fun _ => 0), _) (by exact ⟨Nat.zero_le _, fun j hj => absurd hj (Nat.not_lt_zero _)⟩) (fs_cons (by first | rfl | exact (congrArg some (congrArg (Prod.mk true) (congrArg (Value.int .i64) (by omega))))) (fs_cons rfl (fs_cons rfl fs_nil))) (fun _ h => h) ?_; intro s hi; obtain ⟨i, ⟨Z, zc⟩, h, sd⟩ := s; dsimp only at hi ⊢)
    | (exact jq_round (i + 1, (_, _), upd h i _, _) (by refine ⟨by omega, ?_⟩; exact all_upd hi.2 (wave_of s16.2)) (by omega) (fs_cons (by first | rfl | exact (congrArg some (congrArg (Prod.mk true) (congrArg (Value.int .i64) (by omega))))) (fs_cons rfl (fs_cons rfl fs_nil))) (fun w h => by rw [← tab_upd]; exact h.sub (List.sublist_cons_self _ _)))
    | refine j_condLt rfl (fun _ => ?_) (fun _ => ?_)
    | refine j_condLe rfl (fun _ => ?_) (fun _ => ?_)
    | refine j_condGt rfl (fun _ => ?_) (fun _ => ?_)
    | refine j_condGe rfl (fun _ => ?_) (fun _ => ?_)
    | refine j_condNe rfl (fun _ => ?_) (fun _ => ?_)
    | refine j_condEq rfl (fun _ => ?_) (fun _ => ?_)
    | refine j_condOrLt rfl (fun _ => ?_) (fun _ => ?_)
    | refine j_condAndLt rfl (fun _ => ?_) (fun _ => ?_)
    | refine j_condAndGe rfl (fun _ => ?_) (fun _ => ?_)
    | refine j_seq ?_
    | refine jq_then ?_
    | refine j_block ?_
    | refine j_ret ?_
    | refine jq_then_ret ?_
    | refine jq_block_ret ?_
    | refine jq_block_normal ?_
    | refine jq_then_exit ?_
    | refine jq_block_same rfl ?_
    | refine jq_block_other rfl ?_
    | refine j_skip ?_
    | refine j_exit ?_
    | refine j_label ?_
    | refine j_condCT ?_
    | refine j_condCF ?_
    | refine j_cond rfl (fun _ => ?_) (fun _ => ?_)
    | (refine j_region (id := 0) ?_
       refine jl_op rfl rfl (.none rfl) (v_assign rfl rfl tt) ?_
       refine jl_nil ?_)
    | (refine j_region (id := 1) ?_
       refine jl_op rfl rfl (.none rfl) (v_move rfl rfl tt) ?_
       refine jl_x1 rfl rfl rfl (x_call (f := 76) (xs := [_]) rfl (c_l00From ..) (ev_cons rfl tt ev_nil) (by intro w hI; first | trivial | (repeat' (first | exact ros_nil | refine ros_cons ?_ ?_ | exact hI.roRo (by (repeat first | exact m0 | refine List.Mem.tail _ ?_); first | done | fail) | exact hI.boxRo (by (repeat first | exact m0 | refine List.Mem.tail _ ?_); first | done | fail) | exact HInv.vecRo hI (by (repeat first | exact m0 | refine List.Mem.tail _ ?_); first | done | fail))))) (fun s8 => ?_)
       refine jl_op rfl rfl (.none rfl) (v_assign rfl rfl tt) ?_
       refine jl_nil ?_)
    | (refine j_region (id := 2) ?_
       refine jl_x1 rfl rfl rfl (x_lit (Ws := []) (Z := F 0) rfl Try.underlying34 (by kernel_rfl) zero24 rfl rfl ev_nil rfl rfl rfl rfl) (fun b9 => ?_)
       refine jl_op rfl rfl (.none rfl) (v_assign rfl rfl tt) ?_
       refine jl_nil ?_)
    | (refine j_region (id := 3) ?_
       refine jl_op rfl rfl (.none rfl) (v_move rfl rfl tt) ?_
       refine jl_op rfl rfl (.none rfl) (v_icmp rfl rfl rfl rfl tt tt) ?_
       refine jl_nil ?_)
    | (refine j_region (id := 4) ?_
       refine jl_op rfl rfl (.none rfl) (v_move rfl rfl tt) ?_
       refine jl_op rfl rfl (.none rfl) (v_iarith' rfl rfl rfl rfl tt tt (by first | exact fun _ => iw_sub (by omega) | exact fun _ => rfl)) ?_
       refine jl_op rfl rfl (.none rfl) (v_assign rfl rfl tt) ?_
       refine jl_nil ?_)
    | (refine j_region (id := 5) ?_
       refine jl_op rfl rfl (.none rfl) (v_move rfl rfl tt) ?_
       refine jl_op rfl rfl (.none rfl) (v_move rfl rfl tt) ?_
       refine jl_g (i := 1) (f := 79) (xs := [_, _]) rfl rfl rfl rfl (c_srcPick s8 A N cap g i sd 17 (by omega) (by omega) (by omega) hg) (ev_cons rfl tt (ev_cons rfl tt ev_nil)) rfl rfl (fun _ => rfl) (fun w hI => hI.rovRo 2 1 rfl rfl rfl rov_nil) (fun s16 => ?_)
       refine jl_op rfl rfl (.none rfl) (v_iarith' (Z := s16.1.1 - 8) rfl rfl rfl rfl tt tt (fun _ => (iw_sub (by have := s16.2; omega)))) ?_
       refine jl_op rfl rfl (.none rfl) (v_i2f rfl rfl tt (by rfl) Try.underlying24) ?_
       refine jl_op rfl rfl (.none rfl) (v_farith rfl rfl rfl rfl tt tt) ?_
       refine jl_x1 rfl rfl rfl (x_lit (Ws := [_]) (Z := F 0) rfl Try.underlying34 (by kernel_rfl) zero24 rfl rfl (ev_cons rfl tt ev_nil) rfl rfl rfl rfl) (fun b20 => ?_)
       first | refine jl_append (i := 0) (by' := 4) (Z := F 0) rfl rfl rfl rfl Try.underlying34 (by kernel_rfl) zero24 rfl (by kernel_rfl) (by rfl) rfl rfl rfl (fun w hI => by first | exact hI.vecRo (by (repeat first | exact m0 | refine List.Mem.tail _ ?_); first | done | fail) | exact hI.roRo (by (repeat first | exact m0 | refine List.Mem.tail _ ?_); first | done | fail)) (by first | rfl | exact (tab_length ..).symm | exact (part_length ..).symm | exact (tabI_length ..).symm | exact (partI_length ..).symm | exact (List.length_replicate ..).symm | simp only [List.length_append, List.length_nil, tab_length]) (by first | rfl | exact (tab_length ..).symm | exact (part_length ..).symm | exact (tabI_length ..).symm | exact (partI_length ..).symm | exact (List.length_replicate ..).symm | simp only [List.length_append, List.length_nil, tab_length]) (by omega) (fun A21 c21 => ?_) | refine jl_append (i := 1) (by' := 4) (Z := F 0) rfl rfl rfl rfl Try.underlying34 (by kernel_rfl) zero24 rfl (by kernel_rfl) (by rfl) rfl rfl rfl (fun w hI => by first | exact hI.vecRo (by (repeat first | exact m0 | refine List.Mem.tail _ ?_); first | done | fail) | exact hI.roRo (by (repeat first | exact m0 | refine List.Mem.tail _ ?_); first | done | fail)) (by first | rfl | exact (tab_length ..).symm | exact (part_length ..).symm | exact (tabI_length ..).symm | exact (partI_length ..).symm | exact (List.length_replicate ..).symm | simp only [List.length_append, List.length_nil, tab_length]) (by first | rfl | exact (tab_length ..).symm | exact (part_length ..).symm | exact (tabI_length ..).symm | exact (partI_length ..).symm | exact (List.length_replicate ..).symm | simp only [List.length_append, List.length_nil, tab_length]) (by omega) (fun A21 c21 => ?_) | refine jl_append (i := 2) (by' := 4) (Z := F 0) rfl rfl rfl rfl Try.underlying34 (by kernel_rfl) zero24 rfl (by kernel_rfl) (by rfl) rfl rfl rfl (fun w hI => by first | exact hI.vecRo (by (repeat first | exact m0 | refine List.Mem.tail _ ?_); first | done | fail) | exact hI.roRo (by (repeat first | exact m0 | refine List.Mem.tail _ ?_); first | done | fail)) (by first | rfl | exact (tab_length ..).symm | exact (part_length ..).symm | exact (tabI_length ..).symm | exact (partI_length ..).symm | exact (List.length_replicate ..).symm | simp only [List.length_append, List.length_nil, tab_length]) (by first | rfl | exact (tab_length ..).symm | exact (part_length ..).symm | exact (tabI_length ..).symm | exact (partI_length ..).symm | exact (List.length_replicate ..).symm | simp only [List.length_append, List.length_nil, tab_length]) (by omega) (fun A21 c21 => ?_) | refine jl_append (i := 3) (by' := 4) (Z := F 0) rfl rfl rfl rfl Try.underlying34 (by kernel_rfl) zero24 rfl (by kernel_rfl) (by rfl) rfl rfl rfl (fun w hI => by first | exact hI.vecRo (by (repeat first | exact m0 | refine List.Mem.tail _ ?_); first | done | fail) | exact hI.roRo (by (repeat first | exact m0 | refine List.Mem.tail _ ?_); first | done | fail)) (by first | rfl | exact (tab_length ..).symm | exact (part_length ..).symm | exact (tabI_length ..).symm | exact (partI_length ..).symm | exact (List.length_replicate ..).symm | simp only [List.length_append, List.length_nil, tab_length]) (by first | rfl | exact (tab_length ..).symm | exact (part_length ..).symm | exact (tabI_length ..).symm | exact (partI_length ..).symm | exact (List.length_replicate ..).symm | simp only [List.length_append, List.length_nil, tab_length]) (by omega) (fun A21 c21 => ?_) | refine jl_append (i := 4) (by' := 4) (Z := F 0) rfl rfl rfl rfl Try.underlying34 (by kernel_rfl) zero24 rfl (by kernel_rfl) (by rfl) rfl rfl rfl (fun w hI => by first | exact hI.vecRo (by (repeat first | exact m0 | refine List.Mem.tail _ ?_); first | done | fail) | exact hI.roRo (by (repeat first | exact m0 | refine List.Mem.tail _ ?_); first | done | fail)) (by first | rfl | exact (tab_length ..).symm | exact (part_length ..).symm | exact (tabI_length ..).symm | exact (partI_length ..).symm | exact (List.length_replicate ..).symm | simp only [List.length_append, List.length_nil, tab_length]) (by first | rfl | exact (tab_length ..).symm | exact (part_length ..).symm | exact (tabI_length ..).symm | exact (partI_length ..).symm | exact (List.length_replicate ..).symm | simp only [List.length_append, List.length_nil, tab_length]) (by omega) (fun A21 c21 => ?_) | refine jl_append (i := 5) (by' := 4) (Z := F 0) rfl rfl rfl rfl Try.underlying34 (by kernel_rfl) zero24 rfl (by kernel_rfl) (by rfl) rfl rfl rfl (fun w hI => by first | exact hI.vecRo (by (repeat first | exact m0 | refine List.Mem.tail _ ?_); first | done | fail) | exact hI.roRo (by (repeat first | exact m0 | refine List.Mem.tail _ ?_); first | done | fail)) (by first | rfl | exact (tab_length ..).symm | exact (part_length ..).symm | exact (tabI_length ..).symm | exact (partI_length ..).symm | exact (List.length_replicate ..).symm | simp only [List.length_append, List.length_nil, tab_length]) (by first | rfl | exact (tab_length ..).symm | exact (part_length ..).symm | exact (tabI_length ..).symm | exact (partI_length ..).symm | exact (List.length_replicate ..).symm | simp only [List.length_append, List.length_nil, tab_length]) (by omega) (fun A21 c21 => ?_)
       refine jl_op rfl rfl (.none rfl) (v_assign rfl rfl tt) ?_
       refine jl_nil ?_)
    | (refine j_region (id := 6) ?_
       refine jl_op rfl rfl (.none rfl) (v_move rfl rfl tt) ?_
       refine jl_op rfl rfl (.none rfl) (v_assign rfl rfl tt) ?_
       refine jl_nil ?_)))
  all_goals (obtain rfl : i = m := (by omega))
  all_goals exact jq_retM1 (σ := {s : (Option Addr × Nat) × (Nat → Nat) // ∀ j, j < i → waveN (s.2 j)}) ⟨((_, _), h), hi.2⟩ (.inl rfl) Try.results30 rfl rfl (fun w h => fresh_at 0 rfl rfl h)
theorem c_setEnds (z : Addr) (N cap : Nat) (g : Nat → Nat) (l t p : Nat) (l2 t2 p2 : Nat) (hN : N ≤ 4294967296) (hv : (tubeB N g l t p) = true) (hv2 : tubeB N g l2 t2 p2 = true) : ConM Try.prog 26 [.agg #[.slice (some z) N cap, F l, F t, F p], F l2, F t2, F p2] (RoS [.ro (some z) (tab N g)]) (fun s : Option Addr × Nat => .tuple #[.agg #[.slice s.1 N s.2, F l2, F t2, F p2], .bool true]) (fun s : Option Addr × Nat => [.vec 24 s.1 s.2 (tab N g)]) := by
  refine conM_intro (H := [.ro (some z) (tab N g)]) Try.func26 (by decide) rfl rfl (fun w h => h.inv) (fun w0 _ => ?_)
  (repeat' (first
    | refine j_condF rfl (by decide) ?_
    | refine j_condLt rfl (fun _ => ?_) (fun _ => ?_)
    | refine j_condLe rfl (fun _ => ?_) (fun _ => ?_)
    | refine j_condGt rfl (fun _ => ?_) (fun _ => ?_)
    | refine j_condGe rfl (fun _ => ?_) (fun _ => ?_)
    | refine j_condNe rfl (fun _ => ?_) (fun _ => ?_)
    | refine j_condEq rfl (fun _ => ?_) (fun _ => ?_)
    | refine j_condOrLt rfl (fun _ => ?_) (fun _ => ?_)
    | refine j_condAndLt rfl (fun _ => ?_) (fun _ => ?_)
    | refine j_condAndGe rfl (fun _ => ?_) (fun _ => ?_)
    | refine j_seq ?_
    | refine jq_then ?_
    | refine j_block ?_
    | refine j_ret ?_
    | refine jq_then_ret ?_
    | refine jq_block_ret ?_
    | refine jq_block_normal ?_
    | refine jq_then_exit ?_
    | refine jq_block_same rfl ?_
    | refine jq_block_other rfl ?_
    | refine j_skip ?_
    | refine j_exit ?_
    | refine j_label ?_
    | refine j_condCT ?_
    | refine j_condCF ?_
    | refine j_cond rfl (fun _ => ?_) (fun _ => ?_)
    | (refine j_region (id := 0) ?_
       refine jl_boxS rfl rfl rfl rfl rfl (fun b4 => ?_)
       refine jl_alloc rfl rfl rfl rfl zero47 (by rfl) (fun b8 => ?_)
       refine jl_op rfl rfl (.none rfl) (v_assign rfl rfl tt) ?_
       refine jl_nil ?_)
    | (refine j_region (id := 1) ?_
       first | refine jl_op rfl rfl (.none rfl) (v_loadS rfl Try.underlying47 (by rfl) (by kernel_rfl) rfl tt (by (repeat first | exact m0 | refine List.Mem.tail _ ?_); first | done | fail)) ?_ | refine jl_op rfl rfl (.none rfl) (v_loadSRo rfl Try.underlying47 (by rfl) (by kernel_rfl) rfl tt (by (repeat first | exact m0 | refine List.Mem.tail _ ?_); first | done | fail)) ?_
       refine jl_op rfl rfl (.none rfl) (v_call (f := 90) (xs := [_]) rfl (c_validVz (hN := hN) (hv := hv) ..) (ev_cons rfl tt ev_nil) (by intro w hc hI; first | trivial | (exfalso; simp_all; done) | (clear hc; repeat' (first | exact ros_nil | refine ros_cons ?_ ?_ | exact hI.roRo (by (repeat first | exact m0 | refine List.Mem.tail _ ?_); first | done | fail) | exact hI.boxRo (by (repeat first | exact m0 | refine List.Mem.tail _ ?_); first | done | fail) | exact HInv.vecRo hI (by (repeat first | exact m0 | refine List.Mem.tail _ ?_); first | done | fail))))) ?_
       refine jl_op rfl rfl (.none rfl) (v_not rfl rfl tt) ?_
       refine jl_nil ?_)
    | (refine j_region (id := 2) ?_
       refine jl_op rfl rfl (.none rfl) (v_buildW (Ws := [_, _, _, _]) rfl Try.underlying47 zero47 places47 (by rfl) (by rfl) ev_nil (by rfl) (by rfl) rfl) ?_
       first | refine jl_storeS (i := 0) rfl rfl rfl (by kernel_rfl) rfl rfl rfl rfl ?_ | refine jl_storeS (i := 1) rfl rfl rfl (by kernel_rfl) rfl rfl rfl rfl ?_ | refine jl_storeS (i := 2) rfl rfl rfl (by kernel_rfl) rfl rfl rfl rfl ?_ | refine jl_storeS (i := 3) rfl rfl rfl (by kernel_rfl) rfl rfl rfl rfl ?_ | refine jl_storeS (i := 4) rfl rfl rfl (by kernel_rfl) rfl rfl rfl rfl ?_ | refine jl_storeS (i := 5) rfl rfl rfl (by kernel_rfl) rfl rfl rfl rfl ?_ | refine jl_storeS (i := 6) rfl rfl rfl (by kernel_rfl) rfl rfl rfl rfl ?_ | refine jl_storeS (i := 7) rfl rfl rfl (by kernel_rfl) rfl rfl rfl rfl ?_
       refine jl_op rfl rfl (.none rfl) (v_assign rfl rfl tt) ?_
       refine jl_nil ?_)
    | (refine j_region (id := 3) ?_
       refine jl_op rfl rfl (.none rfl) (v_fieldAddr rfl Try.underlying47 (by rfl) (by kernel_rfl) rfl tt) ?_
       first | refine jl_op rfl rfl (.none rfl) (v_loadBox rfl Try.underlying34 (by rfl) rfl tt (by (repeat first | exact m0 | refine List.Mem.tail _ ?_); first | done | fail) (by rfl)) ?_ | refine jl_op rfl rfl (.none rfl) (v_loadRoB rfl Try.underlying34 (by rfl) rfl tt (by (repeat first | exact m0 | refine List.Mem.tail _ ?_); first | done | fail) (by rfl)) ?_
       refine jl_x1 rfl rfl rfl (x_call (f := 92) (xs := [_]) rfl (c_clone (hN := hN) ..) (ev_cons rfl tt ev_nil) (by intro w hI; first | trivial | (repeat' (first | exact ros_nil | refine ros_cons ?_ ?_ | exact hI.roRo (by (repeat first | exact m0 | refine List.Mem.tail _ ?_); first | done | fail) | exact hI.boxRo (by (repeat first | exact m0 | refine List.Mem.tail _ ?_); first | done | fail) | exact HInv.vecRo hI (by (repeat first | exact m0 | refine List.Mem.tail _ ?_); first | done | fail))))) (fun s16 => ?_)
       refine jl_op rfl rfl (.none rfl) (v_move rfl rfl tt) ?_
       refine jl_op rfl rfl (.none rfl) (v_move rfl rfl tt) ?_
       refine jl_op rfl rfl (.none rfl) (v_move rfl rfl tt) ?_
       refine jl_op rfl rfl (.none rfl) (v_buildW (Ws := [_, _, _, _]) rfl Try.underlying47 zero47 places47 (by rfl) (by rfl) (ev_cons rfl tt (ev_cons rfl tt (ev_cons rfl tt (ev_cons rfl tt ev_nil)))) (by rfl) (by rfl) rfl) ?_
       refine jl_op rfl rfl (.none rfl) (v_call (f := 91) (xs := [_]) rfl (c_checkedT (hN := hN) ..) (ev_cons rfl tt ev_nil) (by intro w hc hI; first | trivial | (exfalso; simp_all; done) | (clear hc; repeat' (first | exact ros_nil | refine ros_cons ?_ ?_ | exact hI.roRo (by (repeat first | exact m0 | refine List.Mem.tail _ ?_); first | done | fail) | exact hI.boxRo (by (repeat first | exact m0 | refine List.Mem.tail _ ?_); first | done | fail) | exact HInv.vecRo hI (by (repeat first | exact m0 | refine List.Mem.tail _ ?_); first | done | fail))))) ?_
       refine jl_op rfl rfl (.none rfl) (v_extract rfl rfl tt rfl) ?_
       refine jl_op rfl rfl (.none rfl) (v_extract rfl rfl tt rfl) ?_
       first | refine jl_storeS (i := 0) rfl rfl rfl (by kernel_rfl) rfl rfl rfl rfl ?_ | refine jl_storeS (i := 1) rfl rfl rfl (by kernel_rfl) rfl rfl rfl rfl ?_ | refine jl_storeS (i := 2) rfl rfl rfl (by kernel_rfl) rfl rfl rfl rfl ?_ | refine jl_storeS (i := 3) rfl rfl rfl (by kernel_rfl) rfl rfl rfl rfl ?_ | refine jl_storeS (i := 4) rfl rfl rfl (by kernel_rfl) rfl rfl rfl rfl ?_ | refine jl_storeS (i := 5) rfl rfl rfl (by kernel_rfl) rfl rfl rfl rfl ?_ | refine jl_storeS (i := 6) rfl rfl rfl (by kernel_rfl) rfl rfl rfl rfl ?_ | refine jl_storeS (i := 7) rfl rfl rfl (by kernel_rfl) rfl rfl rfl rfl ?_
       refine jl_op rfl rfl (.none rfl) (v_assign rfl rfl tt) ?_
       refine jl_nil ?_)))
  all_goals first | exact jq_retMM (_, _) (.inl rfl) Try.results26 (ret_cell (i := 2) rfl rfl Try.underlying47 rfl (by kernel_rfl) (ret_tmp rfl rfl ret_nil)) rfl (by rw [hv2]; rfl) (fun w h => fresh_at 0 rfl rfl h) | exact jq_retMM (_, _) (.inl rfl) Try.results26 (ret_cell (i := 1) rfl rfl Try.underlying47 rfl (by kernel_rfl) (ret_tmp rfl rfl ret_nil)) rfl (by rw [hv2]; rfl) (fun w h => fresh_at 0 rfl rfl h) | exact jq_retMM (_, _) (.inl rfl) Try.results26 (ret_cell (i := 0) rfl rfl Try.underlying47 rfl (by kernel_rfl) (ret_tmp rfl rfl ret_nil)) rfl (by rw [hv2]; rfl) (fun w h => fresh_at 1 rfl rfl h) | exact jq_retMM (_, _) (.inl rfl) Try.results26 (ret_cell (i := 2) rfl rfl Try.underlying47 rfl (by kernel_rfl) (ret_tmp rfl rfl ret_nil)) rfl (by rw [hv2]; rfl) (fun w h => fresh_at 1 rfl rfl h) | exact jq_retMM (_, _) (.inl rfl) Try.results26 (ret_cell (i := 3) rfl rfl Try.underlying47 rfl (by kernel_rfl) (ret_tmp rfl rfl ret_nil)) rfl (by rw [hv2]; rfl) (fun w h => fresh_at 0 rfl rfl h)
theorem c_sameWI (C : Option Addr) (R rc : Nat) (r : Nat → Nat) (D : Option Addr) (M mc : Nat) (q : Nat → Nat) (C2 : Option Addr) (R2 rc2 : Nat) (r2 : Nat → Nat) (D2 : Option Addr) (M2 mc2 : Nat) (q2 : Nat → Nat) (hR : R ≤ 4294967296) (hM : M ≤ 4294967296) : Con Try.prog 32 [.agg #[.slice C R rc, .slice D M mc], .agg #[.slice C2 R2 rc2, .slice D2 M2 mc2]] (RoS [.ro C (tab R r), .ro D (tab M q), .ro C2 (tab R2 r2), .ro D2 (tab M2 q2)]) (.bool ((decide (R = R2) && allB R (fun j => sameN (r j) (r2 j))) && (decide (M = M2) && allB M (fun j => sameN (q j) (q2 j))))) := by
  refine con_intro (H := [.ro C (tab R r), .ro D (tab M q), .ro C2 (tab R2 r2), .ro D2 (tab M2 q2)]) Try.func32 (by decide) rfl rfl (fun w h => h.inv) (fun w0 _ => ?_)
  (repeat' (first
    | refine j_condLt rfl (fun _ => ?_) (fun _ => ?_)
    | refine j_condLe rfl (fun _ => ?_) (fun _ => ?_)
    | refine j_condGt rfl (fun _ => ?_) (fun _ => ?_)
    | refine j_condGe rfl (fun _ => ?_) (fun _ => ?_)
    | refine j_condNe rfl (fun _ => ?_) (fun _ => ?_)
    | refine j_condEq rfl (fun _ => ?_) (fun _ => ?_)
    | refine j_condOrLt rfl (fun _ => ?_) (fun _ => ?_)
    | refine j_condAndLt rfl (fun _ => ?_) (fun _ => ?_)
    | refine j_condAndGe rfl (fun _ => ?_) (fun _ => ?_)
    | refine j_seq ?_
    | refine jq_then ?_
    | refine j_block ?_
    | refine j_ret ?_
    | refine jq_then_ret ?_
    | refine jq_block_ret ?_
    | refine jq_block_normal ?_
    | refine jq_then_exit ?_
    | refine jq_block_same rfl ?_
    | refine jq_block_other rfl ?_
    | refine j_skip ?_
    | refine j_exit ?_
    | refine j_label ?_
    | refine j_condCT ?_
    | refine j_condCF ?_
    | refine j_cond rfl (fun _ => ?_) (fun _ => ?_)
    | (refine j_region (id := 0) ?_
       refine jl_boxS rfl rfl rfl rfl rfl (fun b2 => ?_)
       refine jl_boxS rfl rfl rfl rfl rfl (fun b3 => ?_)
       refine jl_op rfl rfl (.none rfl) (v_assign rfl rfl tt) ?_
       refine jl_nil ?_)
    | (refine j_region (id := 1) ?_
       refine jl_op rfl rfl (.none rfl) (v_fieldAddr rfl Try.underlying50 (by rfl) (by kernel_rfl) rfl tt) ?_
       first | refine jl_op rfl rfl (.none rfl) (v_loadBox rfl Try.underlying34 (by rfl) rfl tt (by (repeat first | exact m0 | refine List.Mem.tail _ ?_); first | done | fail) (by rfl)) ?_ | refine jl_op rfl rfl (.none rfl) (v_loadRoB rfl Try.underlying34 (by rfl) rfl tt (by (repeat first | exact m0 | refine List.Mem.tail _ ?_); first | done | fail) (by rfl)) ?_
       refine jl_op rfl rfl (.none rfl) (v_fieldAddr rfl Try.underlying50 (by rfl) (by kernel_rfl) rfl tt) ?_
       first | refine jl_op rfl rfl (.none rfl) (v_loadBox rfl Try.underlying34 (by rfl) rfl tt (by (repeat first | exact m0 | refine List.Mem.tail _ ?_); first | done | fail) (by rfl)) ?_ | refine jl_op rfl rfl (.none rfl) (v_loadRoB rfl Try.underlying34 (by rfl) rfl tt (by (repeat first | exact m0 | refine List.Mem.tail _ ?_); first | done | fail) (by rfl)) ?_
       first | refine jl_op rfl rfl (.none rfl) (v_call (f := 94) (xs := [_, _]) rfl (c_sameNumbers _ _ _ _ _ _ _ _ hR) (ev_cons rfl tt (ev_cons rfl tt ev_nil)) (by intro w hc hI; first | trivial | (exfalso; simp_all; done) | (clear hc; repeat' (first | exact ros_nil | refine ros_cons ?_ ?_ | exact hI.roRo (by (repeat first | exact m0 | refine List.Mem.tail _ ?_); first | done | fail) | exact hI.boxRo (by (repeat first | exact m0 | refine List.Mem.tail _ ?_); first | done | fail) | exact HInv.vecRo hI (by (repeat first | exact m0 | refine List.Mem.tail _ ?_); first | done | fail))))) ?_ | refine jl_op rfl rfl (.none rfl) (v_call (f := 94) (xs := [_, _]) rfl (c_sameNumbers _ _ _ _ _ _ _ _ hM) (ev_cons rfl tt (ev_cons rfl tt ev_nil)) (by intro w hc hI; first | trivial | (exfalso; simp_all; done) | (clear hc; repeat' (first | exact ros_nil | refine ros_cons ?_ ?_ | exact hI.roRo (by (repeat first | exact m0 | refine List.Mem.tail _ ?_); first | done | fail) | exact hI.boxRo (by (repeat first | exact m0 | refine List.Mem.tail _ ?_); first | done | fail) | exact HInv.vecRo hI (by (repeat first | exact m0 | refine List.Mem.tail _ ?_); first | done | fail))))) ?_
       refine jl_op rfl rfl (.none rfl) (v_move rfl rfl tt) ?_
       refine jl_op rfl rfl (.some rfl rfl rfl) (v_fieldAddr rfl Try.underlying50 (by rfl) (by kernel_rfl) rfl tt) ?_
       first | refine jl_op rfl rfl (.some rfl rfl rfl) (v_loadBox rfl Try.underlying34 (by rfl) rfl ii (by (repeat first | exact m0 | refine List.Mem.tail _ ?_); first | done | fail) (by rfl)) ?_ | refine jl_op rfl rfl (.some rfl rfl rfl) (v_loadRoB rfl Try.underlying34 (by rfl) rfl ii (by (repeat first | exact m0 | refine List.Mem.tail _ ?_); first | done | fail) (by rfl)) ?_
       refine jl_op rfl rfl (.some rfl rfl rfl) (v_fieldAddr rfl Try.underlying50 (by rfl) (by kernel_rfl) rfl tt) ?_
       first | refine jl_op rfl rfl (.some rfl rfl rfl) (v_loadBox rfl Try.underlying34 (by rfl) rfl ii (by (repeat first | exact m0 | refine List.Mem.tail _ ?_); first | done | fail) (by rfl)) ?_ | refine jl_op rfl rfl (.some rfl rfl rfl) (v_loadRoB rfl Try.underlying34 (by rfl) rfl ii (by (repeat first | exact m0 | refine List.Mem.tail _ ?_); first | done | fail) (by rfl)) ?_
       first | refine jl_op rfl rfl (.some rfl rfl rfl) (v_call (f := 94) (xs := [_, _]) rfl (c_sameNumbers _ _ _ _ _ _ _ _ hR) (ev_cons rfl ii (ev_cons rfl ii ev_nil)) (by intro w hc hI; first | trivial | (exfalso; simp_all; done) | (clear hc; repeat' (first | exact ros_nil | refine ros_cons ?_ ?_ | exact hI.roRo (by (repeat first | exact m0 | refine List.Mem.tail _ ?_); first | done | fail) | exact hI.boxRo (by (repeat first | exact m0 | refine List.Mem.tail _ ?_); first | done | fail) | exact HInv.vecRo hI (by (repeat first | exact m0 | refine List.Mem.tail _ ?_); first | done | fail))))) ?_ | refine jl_op rfl rfl (.some rfl rfl rfl) (v_call (f := 94) (xs := [_, _]) rfl (c_sameNumbers _ _ _ _ _ _ _ _ hM) (ev_cons rfl ii (ev_cons rfl ii ev_nil)) (by intro w hc hI; first | trivial | (exfalso; simp_all; done) | (clear hc; repeat' (first | exact ros_nil | refine ros_cons ?_ ?_ | exact hI.roRo (by (repeat first | exact m0 | refine List.Mem.tail _ ?_); first | done | fail) | exact hI.boxRo (by (repeat first | exact m0 | refine List.Mem.tail _ ?_); first | done | fail) | exact HInv.vecRo hI (by (repeat first | exact m0 | refine List.Mem.tail _ ?_); first | done | fail))))) ?_
       refine jl_op rfl rfl (.none rfl) (v_and rfl rfl tt rfl ti) ?_
       refine jl_op rfl rfl (.none rfl) (v_assign rfl rfl tt) ?_
       refine jl_nil ?_)))
  all_goals exact jq_ret1 (.inl rfl) Try.results32 rfl
theorem c_r8At (A : Option Addr) (N cap : Nat) (g : Nat → Nat) (i n z : Int) (hi : 0 ≤ i ∧ i ≤ 1000) (hn : 2 ≤ n ∧ n ≤ 1000) (hg : ∀ j, j < N → g j < 256) (hz : at8 N g i n = z) : Con Try.prog 31 [.slice A N cap, .int .i64 i, .int .i64 n] (RoS [.ro A (tabY N g)]) (.int .i64 z) := by
  refine con_intro (H := [.ro A (tabY N g)]) Try.func31 (by decide) rfl rfl (fun w h => h.inv) (fun w0 _ => ?_)
  (repeat' (first
    | refine j_cond rfl (fun h_ => have _hge := at8_c0 hn h_; ?_) (fun h_ => have _hlt := at8_c1 h_; ?_)
    | refine j_condLt rfl (fun _ => ?_) (fun _ => ?_)
    | refine j_condLe rfl (fun _ => ?_) (fun _ => ?_)
    | refine j_condGt rfl (fun _ => ?_) (fun _ => ?_)
    | refine j_condGe rfl (fun _ => ?_) (fun _ => ?_)
    | refine j_condNe rfl (fun _ => ?_) (fun _ => ?_)
    | refine j_condEq rfl (fun _ => ?_) (fun _ => ?_)
    | refine j_condOrLt rfl (fun _ => ?_) (fun _ => ?_)
    | refine j_condAndLt rfl (fun _ => ?_) (fun _ => ?_)
    | refine j_condAndGe rfl (fun _ => ?_) (fun _ => ?_)
    | refine j_seq ?_
    | refine jq_then ?_
    | refine j_block ?_
    | refine j_ret ?_
    | refine jq_then_ret ?_
    | refine jq_block_ret ?_
    | refine jq_block_normal ?_
    | refine jq_then_exit ?_
    | refine jq_block_same rfl ?_
    | refine jq_block_other rfl ?_
    | refine j_skip ?_
    | refine j_exit ?_
    | refine j_label ?_
    | refine j_condCT ?_
    | refine j_condCF ?_
    | refine j_cond rfl (fun _ => ?_) (fun _ => ?_)
    | (refine j_region (id := 0) ?_
       refine jl_op rfl rfl (.none rfl) (v_assign rfl rfl tt) ?_
       refine jl_nil ?_)
    | (refine j_region (id := 1) ?_
       refine jl_op rfl rfl (.none rfl) (v_move rfl rfl tt) ?_
       refine jl_op rfl rfl (.none rfl) (v_icmp rfl rfl rfl rfl tt tt) ?_
       refine jl_op rfl rfl (.none rfl) (v_move rfl rfl tt) ?_
       refine jl_op rfl rfl (.some rfl rfl rfl) (v_move rfl rfl tt) ?_
       refine jl_op rfl rfl (.some rfl rfl rfl) (v_move rfl rfl tt) ?_
       refine jl_op rfl rfl (.some rfl rfl rfl) (v_len rfl rfl Try.underlying22 rfl ii) ?_
       refine jl_op rfl rfl (.some rfl rfl rfl) (v_icmp rfl rfl rfl rfl ii ii) ?_
       refine jl_op rfl rfl (.none rfl) (v_or rfl rfl tt rfl fi) ?_
       refine jl_nil ?_)
    | (refine j_region (id := 2) ?_
       refine jl_op rfl rfl (.none rfl) (v_assign rfl rfl tt) ?_
       refine jl_nil ?_)
    | (refine j_region (id := 3) ?_
       refine jl_op rfl rfl (.none rfl) (v_move rfl rfl tt) ?_
       refine jl_op rfl rfl (.none rfl) (v_move rfl rfl tt) ?_
       refine jl_op rfl rfl (.none rfl) (v_indexAddr rfl Try.underlying22 (by kernel_rfl) rfl rfl tt tt (by first | exact hA_some | exact hA_roT (by (repeat first | exact m0 | refine List.Mem.tail _ ?_); first | done | fail) | exact hA_vecT (by (repeat first | exact m0 | refine List.Mem.tail _ ?_); first | done | fail) | exact hA_vecP (by (repeat first | exact m0 | refine List.Mem.tail _ ?_); first | done | fail) | exact hA_roI (by (repeat first | exact m0 | refine List.Mem.tail _ ?_); first | done | fail) | exact hA_vecI (by (repeat first | exact m0 | refine List.Mem.tail _ ?_); first | done | fail) | exact hA_vecPI (by (repeat first | exact m0 | refine List.Mem.tail _ ?_); first | done | fail) | exact hA_vecPS (by (repeat first | exact m0 | refine List.Mem.tail _ ?_); first | done | fail) | exact hA_ro (by (repeat first | exact m0 | refine List.Mem.tail _ ?_); first | done | fail) | exact hA_vec (by (repeat first | exact m0 | refine List.Mem.tail _ ?_); first | done | fail) | exact hA_roY (by (repeat first | exact m0 | refine List.Mem.tail _ ?_); first | done | fail)) (fun _hc => ⟨(by first | with_reducible rfl | exact (Int.toNat_of_nonneg (by omega)).symm | (have hc := g_gt _hc; exact (Int.toNat_of_nonneg (by omega)).symm)), (by first | omega | (rw [tabY_length]; omega) | (rw [tab_length]; omega) | (rw [part_length]; omega) | (rw [tabI_length]; omega) | (rw [partI_length]; omega) | (rw [List.length_set, part_length]; omega))⟩)) ?_
       first | refine jl_op rfl rfl (.none rfl) (v_loadVec rfl Try.underlying5 (by rfl) rfl tt (by (repeat first | exact m0 | refine List.Mem.tail _ ?_); first | done | fail) (fun _ => (by first | with_reducible exact part_get_ge (by omega) (by omega) | with_reducible exact tab_get (by omega) | with_reducible exact tabI_get (by omega) | with_reducible exact part_get (by omega) | exact part_get_ge (by omega) (by omega) | exact tab_get (by omega) | exact tabI_get (by omega) | exact part_get (by omega) | exact part_set_get (by omega) | exact partI_get (by omega) | exact tabY_get (by omega) | assumption | rfl))) ?_ | refine jl_op rfl rfl (.none rfl) (v_loadRo rfl Try.underlying5 (by rfl) rfl tt (by (repeat first | exact m0 | refine List.Mem.tail _ ?_); first | done | fail) (fun _ => (by first | with_reducible exact part_get_ge (by omega) (by omega) | with_reducible exact tab_get (by omega) | with_reducible exact tabI_get (by omega) | with_reducible exact part_get (by omega) | exact part_get_ge (by omega) (by omega) | exact tab_get (by omega) | exact tabI_get (by omega) | exact part_get (by omega) | exact part_set_get (by omega) | exact partI_get (by omega) | exact tabY_get (by omega) | assumption | rfl))) ?_
       refine jl_op rfl rfl (.none rfl) (v_i2i (Z := (g i.toNat : Int)) rfl rfl tt (by rfl) Try.underlying2 (byte_i (hg _ (by omega)))) ?_
       refine jl_op rfl rfl (.none rfl) (v_move rfl rfl tt) ?_
       refine jl_op rfl rfl (.none rfl) (v_idiv (Z := (g i.toNat : Int).tmod n) rfl rfl rfl tt tt (fun _ => (by omega)) (fun _ => .inr ⟨rfl, rfl⟩)) ?_
       refine jl_op rfl rfl (.none rfl) (v_assign rfl rfl tt) ?_
       refine jl_nil ?_)))
  all_goals first | exact jq_retE (.inl rfl) Try.results31 rfl (congrArg (Value.int .i64) ((at8_0 (by assumption)).trans hz)) | exact jq_retE (.inl rfl) Try.results31 rfl (congrArg (Value.int .i64) ((at8_1 (by assumption)).trans hz))
theorem c_R8Waves (A : Option Addr) (N cap : Nat) (g : Nat → Nat) (C : Option Addr) (n cc : Nat) (hg : ∀ j, j < N → g j < 256) (hn : n ≤ 16) : ConM Try.prog 25 [.slice A N cap, .agg #[.slice C n cc, F 1065353216, F 1061158912, F 3210739712]] (RoS [.ro A (tabY N g)]) (fun s : {s : ((Option Addr × Nat) × (Option Addr × Nat)) × ((Nat → Nat) × (Nat → Nat)) // ∀ j, j < n → waveN (s.2.1 j) ∧ waveN (s.2.2 j)} => .agg #[.slice s.1.1.1.1 n s.1.1.1.2, .slice s.1.1.2.1 n s.1.1.2.2]) (fun s : {s : ((Option Addr × Nat) × (Option Addr × Nat)) × ((Nat → Nat) × (Nat → Nat)) // ∀ j, j < n → waveN (s.2.1 j) ∧ waveN (s.2.2 j)} => [.vec 24 s.1.1.1.1 s.1.1.1.2 (tab n s.1.2.1), .vec 24 s.1.1.2.1 s.1.1.2.2 (tab n s.1.2.2)]) := by
  refine conM_intro (H := [.ro A (tabY N g)]) Try.func25 (by decide) rfl rfl (fun w h => h.inv) (fun w0 _ => ?_)
  (repeat' (first
    | refine j_part (by omega) ?_
    | refine j_partI (by omega) ?_
    | (refine j_loop2 (σ := Nat × ((Option Addr × Nat) × (Option Addr × Nat)) × ((Nat → Nat) × (Nat → Nat)) × Int) (fun s => s.1 ≤ n ∧ (∀ j, j < s.1 → waveN (s.2.2.1.1 j)) ∧ (∀ j, j < s.1 → waveN (s.2.2.1.2 j))) (fun s => [(3, true, .pointer (some ⟨b3, 0, none⟩)), (4, true, .pointer (some ⟨b4, 0, none⟩)), (5, true, .pointer (some ⟨s9, 0, none⟩)), (6, true, .pointer (some ⟨b6, 0, none⟩)), (7, true, .int .i64 (s.1))]) (fun s => [.vec 24 s.2.1.1.1 s.2.1.1.2 (tab s.1 s.2.2.1.1), .vec 24 s.2.1.2.1 s.2.1.2.2 (tab s.1 s.2.2.1.2), .box b6 50 [.slice s.2.1.1.1 s.1 s.2.1.1.2, .slice s.2.1.2.1 s.1 s.2.1.2.2], srcB s9 143 A N cap (2 * s.1) s.2.2.2, .box b4 50 [.slice none 0 0, .slice none 0 0], .box b3 47 [.slice C n cc, F 1065353216, F 1061158912, F 3210739712], .ro A (tabY N g)]) (fun s => n - s.1) (0, ((_, _), (_, _)), ((fun _ => 0), (fun _ => 0)), _) (by exact ⟨Nat.zero_le _, fun j hj => absurd hj (Nat.not_lt_zero _), fun j hj => absurd hj (Nat.not_lt_zero _)⟩) (fs_cons rfl (fs_cons rfl (fs_cons rfl (fs_cons rfl (fs_cons rfl fs_nil))))) (fun w h => HInv.swap3 h) ?_; intro s hi; obtain ⟨i, ⟨⟨Z, zc⟩, ⟨Y, yc⟩⟩, ⟨h, h2⟩, sd⟩ := s; dsimp only at hi ⊢)
    | (exact jq_round (i + 1, ((_, _), (_, _)), (upd h i (farith .quo .f32 (ofInt .f32 (s23.1.1 - 8)) 1082130432), upd h2 i (farith .quo .f32 (ofInt .f32 (s33.1.1 - 8)) 1082130432)), s33.1.2) (by exact ⟨by omega, all_upd hi.2.1 (wave_of s23.2), all_upd hi.2.2 (wave_of s33.2)⟩) (by omega) (fs_cons rfl (fs_cons rfl (fs_cons rfl (fs_cons rfl (fs_cons rfl fs_nil))))) (fun _ h => h))
    | refine j_condLt rfl (fun _ => ?_) (fun _ => ?_)
    | refine j_condLe rfl (fun _ => ?_) (fun _ => ?_)
    | refine j_condGt rfl (fun _ => ?_) (fun _ => ?_)
    | refine j_condGe rfl (fun _ => ?_) (fun _ => ?_)
    | refine j_condNe rfl (fun _ => ?_) (fun _ => ?_)
    | refine j_condEq rfl (fun _ => ?_) (fun _ => ?_)
    | refine j_condOrLt rfl (fun _ => ?_) (fun _ => ?_)
    | refine j_condAndLt rfl (fun _ => ?_) (fun _ => ?_)
    | refine j_condAndGe rfl (fun _ => ?_) (fun _ => ?_)
    | refine j_seq ?_
    | refine jq_then ?_
    | refine j_block ?_
    | refine j_ret ?_
    | refine jq_then_ret ?_
    | refine jq_block_ret ?_
    | refine jq_block_normal ?_
    | refine jq_then_exit ?_
    | refine jq_block_same rfl ?_
    | refine jq_block_other rfl ?_
    | refine j_skip ?_
    | refine j_exit ?_
    | refine j_label ?_
    | refine j_condCT ?_
    | refine j_condCF ?_
    | refine j_cond rfl (fun _ => ?_) (fun _ => ?_)
    | (refine j_region (id := 0) ?_
       refine jl_boxS rfl rfl rfl rfl rfl (fun b3 => ?_)
       refine jl_alloc rfl rfl rfl rfl zero50 (by rfl) (fun b4 => ?_)
       refine jl_nil ?_)
    | (refine j_region (id := 1) ?_
       refine jl_op rfl rfl (.none rfl) (v_move rfl rfl tt) ?_
       refine jl_x1 rfl rfl rfl (x_call (f := 76) (xs := [_]) rfl (c_l00From ..) (ev_cons rfl tt ev_nil) (by intro w hI; first | trivial | (repeat' (first | exact ros_nil | refine ros_cons ?_ ?_ | exact hI.roRo (by (repeat first | exact m0 | refine List.Mem.tail _ ?_); first | done | fail) | exact hI.boxRo (by (repeat first | exact m0 | refine List.Mem.tail _ ?_); first | done | fail) | exact HInv.vecRo hI (by (repeat first | exact m0 | refine List.Mem.tail _ ?_); first | done | fail))))) (fun s9 => ?_)
       refine jl_op rfl rfl (.none rfl) (v_assign rfl rfl tt) ?_
       refine jl_nil ?_)
    | (refine j_region (id := 2) ?_
       refine jl_x1 rfl rfl rfl (x_lit (Ws := []) (Z := F 0) rfl Try.underlying34 (by kernel_rfl) zero24 rfl rfl ev_nil rfl rfl rfl rfl) (fun b10 => ?_)
       refine jl_x1 rfl rfl rfl (x_lit (Ws := []) (Z := F 0) rfl Try.underlying34 (by kernel_rfl) zero24 rfl rfl ev_nil rfl rfl rfl rfl) (fun b11 => ?_)
       refine jl_op rfl rfl (.none rfl) (v_buildW (Ws := [_, _]) rfl Try.underlying50 zero50 places50 (by rfl) (by rfl) (ev_cons rfl tt (ev_cons rfl tt ev_nil)) (by rfl) (by rfl) rfl) ?_
       refine jl_alloc rfl rfl rfl rfl zero50 (by rfl) (fun b6 => ?_)
       first | refine jl_storeS (i := 0) rfl rfl rfl (by kernel_rfl) rfl rfl rfl rfl ?_ | refine jl_storeS (i := 1) rfl rfl rfl (by kernel_rfl) rfl rfl rfl rfl ?_ | refine jl_storeS (i := 2) rfl rfl rfl (by kernel_rfl) rfl rfl rfl rfl ?_ | refine jl_storeS (i := 3) rfl rfl rfl (by kernel_rfl) rfl rfl rfl rfl ?_ | refine jl_storeS (i := 4) rfl rfl rfl (by kernel_rfl) rfl rfl rfl rfl ?_ | refine jl_storeS (i := 5) rfl rfl rfl (by kernel_rfl) rfl rfl rfl rfl ?_ | refine jl_storeS (i := 6) rfl rfl rfl (by kernel_rfl) rfl rfl rfl rfl ?_ | refine jl_storeS (i := 7) rfl rfl rfl (by kernel_rfl) rfl rfl rfl rfl ?_
       refine jl_nil ?_)
    | (refine j_region (id := 3) ?_
       refine jl_op rfl rfl (.none rfl) (v_assign rfl rfl tt) ?_
       refine jl_nil ?_)
    | (refine j_region (id := 4) ?_
       refine jl_op rfl rfl (.none rfl) (v_move rfl rfl tt) ?_
       refine jl_op rfl rfl (.none rfl) (v_fieldAddr rfl Try.underlying47 (by rfl) (by kernel_rfl) rfl tt) ?_
       first | refine jl_op rfl rfl (.none rfl) (v_loadBox rfl Try.underlying34 (by rfl) rfl tt (by (repeat first | exact m0 | refine List.Mem.tail _ ?_); first | done | fail) (by rfl)) ?_ | refine jl_op rfl rfl (.none rfl) (v_loadRoB rfl Try.underlying34 (by rfl) rfl tt (by (repeat first | exact m0 | refine List.Mem.tail _ ?_); first | done | fail) (by rfl)) ?_
       refine jl_op rfl rfl (.none rfl) (v_len rfl rfl Try.underlying34 rfl tt) ?_
       refine jl_op rfl rfl (.none rfl) (v_icmp rfl rfl rfl rfl tt tt) ?_
       refine jl_nil ?_)
    | (refine j_region (id := 5) ?_
       refine jl_op rfl rfl (.none rfl) (v_move rfl rfl tt) ?_
       refine jl_op rfl rfl (.none rfl) (v_iarith' rfl rfl rfl rfl tt tt (by first | exact fun _ => iw_add (by omega) | exact fun _ => rfl)) ?_
       refine jl_op rfl rfl (.none rfl) (v_assign rfl rfl tt) ?_
       refine jl_nil ?_)
    | (refine j_mid (c := .region 6 _ _) (σ := Pk 17 × (Option Addr × Nat)) (fun s => [(3, true, .pointer (some ⟨b3, 0, none⟩)), (4, true, .pointer (some ⟨b4, 0, none⟩)), (5, true, .pointer (some ⟨s9, 0, none⟩)), (6, true, .pointer (some ⟨b6, 0, none⟩)), (7, true, .int .i64 (i))]) (fun s => [.vec 24 s.2.1 s.2.2 (tab (i + 1) (upd h i (farith .quo .f32 (ofInt .f32 (s.1.1.1 - 8)) 1082130432))), .vec 24 Y yc (tab i h2), .box b6 50 [.slice s.2.1 (i + 1) s.2.2, .slice Y i yc], srcB s9 143 A N cap (2 * i + 1) s.1.1.2, .box b4 50 [.slice none 0 0, .slice none 0 0], .box b3 47 [.slice C n cc, F 1065353216, F 1061158912, F 3210739712], .ro A (tabY N g)]) ?_ ?_
       · refine j_drawN (id := 6) (m := 11) (by kernel_rfl) rfl ?_
         refine jn2 0 2 (by kernel_rfl) rfl rfl ?_ ?_
         · refine jl_op rfl rfl (.none rfl) (v_fieldAddr rfl Try.underlying50 (by rfl) (by kernel_rfl) rfl tt) ?_
           refine jl_nil ?_
           refine jn_next ?_
           refine jn2 1 2 (by kernel_rfl) rfl rfl ?_ ?_
           · refine jl_op rfl rfl (.none rfl) (v_loadBox rfl Try.underlying34 (by rfl) rfl tt (by (repeat first | exact m0 | refine List.Mem.tail _ ?_); first | done | fail) (by rfl)) ?_
             refine jl_nil ?_
             refine jn_next ?_
             refine jn1 2 (by kernel_rfl) rfl ?_
             refine jl_op rfl rfl (.none rfl) (v_move rfl rfl tt) ?_
             refine jl_nil ?_
             refine jn_next ?_
             refine jn1 3 (by kernel_rfl) rfl ?_
             refine jl_g (i := 3) (f := 79) (xs := [_, _]) rfl rfl rfl rfl (c_srcPick s9 A N cap g (2 * i) sd 17 (by omega) (by omega) (by omega) hg) (ev_cons rfl tt (ev_cons rfl tt ev_nil)) rfl rfl (fun _ => rfl) (fun w hI => hI.rovRo 6 3 rfl rfl rfl rov_nil) (fun s23 => ?_)
             refine jl_nil ?_
             refine jn_next ?_
             refine jn1 4 (by kernel_rfl) rfl ?_
             refine jl_op rfl rfl (.none rfl) (v_iarith' (Z := s23.1.1 - 8) rfl rfl rfl rfl tt tt (fun _ => (iw_sub (by have := s23.2; omega)))) ?_
             refine jl_nil ?_
             refine jn_next ?_
             refine jn1 5 (by kernel_rfl) rfl ?_
             refine jl_op rfl rfl (.none rfl) (v_i2f rfl rfl tt (by rfl) Try.underlying24) ?_
             refine jl_nil ?_
             refine jn_next ?_
             refine jn1 6 (by kernel_rfl) rfl ?_
             refine jl_op rfl rfl (.none rfl) (v_farith rfl rfl rfl rfl tt tt) ?_
             refine jl_nil ?_
             refine jn_next ?_
             refine jn1 7 (by kernel_rfl) rfl ?_
             refine jl_x1 rfl rfl rfl (x_lit (Ws := [_]) (Z := F 0) rfl Try.underlying34 (by kernel_rfl) zero24 rfl rfl (ev_cons rfl tt ev_nil) rfl rfl rfl rfl) (fun b27 => ?_)
             refine jl_nil ?_
             refine jn_next ?_
             refine jn1 8 (by kernel_rfl) rfl ?_
             refine jl_append (i := 1) (by' := 4) (Z := F 0) rfl rfl rfl rfl Try.underlying34 (by kernel_rfl) zero24 rfl (by kernel_rfl) (by rfl) rfl rfl rfl (fun w hI => hI.vecRo m0) (tab_length ..).symm rfl (by omega) (fun A28 c28 => ?_)
             refine jl_nil ?_
             refine jn_next ?_
             refine jn1 9 (by kernel_rfl) rfl ?_
             refine jl_op rfl rfl (.none rfl) (v_fieldAddr rfl Try.underlying50 (by rfl) (by kernel_rfl) rfl tt) ?_
             refine jl_nil ?_
             refine jn_next ?_
             refine jn1 10 (by kernel_rfl) rfl ?_
             refine jl_storeBox (i := 3) rfl rfl rfl (by kernel_rfl) rfl rfl rfl rfl rfl ?_
             refine jl_nil ?_
             refine jn_next ?_
             refine jn_end (by kernel_rfl) ?_
             exact jq_mid (s23, (A28, c28)) (fs_cons rfl (fs_cons rfl (fs_cons rfl (fs_cons rfl (fs_cons rfl fs_nil))))) (fun w h => by rw [← tab_upd]; exact h.sub (.cons _ (List.Sublist.refl _)))
           · refine jl_op rfl rfl (.none rfl) (v_move rfl rfl tt) ?_
             refine jl_nil ?_
             refine jn_next ?_
             refine jn2 1 3 (by kernel_rfl) rfl rfl ?_ ?_
             · refine jl_op rfl rfl (.none rfl) (v_loadBox rfl Try.underlying34 (by rfl) rfl tt (by (repeat first | exact m0 | refine List.Mem.tail _ ?_); first | done | fail) (by rfl)) ?_
               refine jl_nil ?_
               refine jn_next ?_
               refine jn1 3 (by kernel_rfl) rfl ?_
               refine jl_g (i := 3) (f := 79) (xs := [_, _]) rfl rfl rfl rfl (c_srcPick s9 A N cap g (2 * i) sd 17 (by omega) (by omega) (by omega) hg) (ev_cons rfl tt (ev_cons rfl tt ev_nil)) rfl rfl (fun _ => rfl) (fun w hI => hI.rovRo 6 3 rfl rfl rfl rov_nil) (fun s23 => ?_)
               refine jl_nil ?_
               refine jn_next ?_
               refine jn1 4 (by kernel_rfl) rfl ?_
               refine jl_op rfl rfl (.none rfl) (v_iarith' (Z := s23.1.1 - 8) rfl rfl rfl rfl tt tt (fun _ => (iw_sub (by have := s23.2; omega)))) ?_
               refine jl_nil ?_
               refine jn_next ?_
               refine jn1 5 (by kernel_rfl) rfl ?_
               refine jl_op rfl rfl (.none rfl) (v_i2f rfl rfl tt (by rfl) Try.underlying24) ?_
               refine jl_nil ?_
               refine jn_next ?_
               refine jn1 6 (by kernel_rfl) rfl ?_
               refine jl_op rfl rfl (.none rfl) (v_farith rfl rfl rfl rfl tt tt) ?_
               refine jl_nil ?_
               refine jn_next ?_
               refine jn1 7 (by kernel_rfl) rfl ?_
               refine jl_x1 rfl rfl rfl (x_lit (Ws := [_]) (Z := F 0) rfl Try.underlying34 (by kernel_rfl) zero24 rfl rfl (ev_cons rfl tt ev_nil) rfl rfl rfl rfl) (fun b27 => ?_)
               refine jl_nil ?_
               refine jn_next ?_
               refine jn1 8 (by kernel_rfl) rfl ?_
               refine jl_append (i := 1) (by' := 4) (Z := F 0) rfl rfl rfl rfl Try.underlying34 (by kernel_rfl) zero24 rfl (by kernel_rfl) (by rfl) rfl rfl rfl (fun w hI => hI.vecRo m0) (tab_length ..).symm rfl (by omega) (fun A28 c28 => ?_)
               refine jl_nil ?_
               refine jn_next ?_
               refine jn1 9 (by kernel_rfl) rfl ?_
               refine jl_op rfl rfl (.none rfl) (v_fieldAddr rfl Try.underlying50 (by rfl) (by kernel_rfl) rfl tt) ?_
               refine jl_nil ?_
               refine jn_next ?_
               refine jn1 10 (by kernel_rfl) rfl ?_
               refine jl_storeBox (i := 3) rfl rfl rfl (by kernel_rfl) rfl rfl rfl rfl rfl ?_
               refine jl_nil ?_
               refine jn_next ?_
               refine jn_end (by kernel_rfl) ?_
               exact jq_mid (s23, (A28, c28)) (fs_cons rfl (fs_cons rfl (fs_cons rfl (fs_cons rfl (fs_cons rfl fs_nil))))) (fun w h => by rw [← tab_upd]; exact h.sub (.cons _ (List.Sublist.refl _)))
             · refine jl_g (i := 3) (f := 79) (xs := [_, _]) rfl rfl rfl rfl (c_srcPick s9 A N cap g (2 * i) sd 17 (by omega) (by omega) (by omega) hg) (ev_cons rfl tt (ev_cons rfl tt ev_nil)) rfl rfl (fun _ => rfl) (fun w hI => hI.rovRo 6 3 rfl rfl rfl rov_nil) (fun s23 => ?_)
               refine jl_nil ?_
               refine jn_next ?_
               refine jn2 1 4 (by kernel_rfl) rfl rfl ?_ ?_
               · refine jl_op rfl rfl (.none rfl) (v_loadBox rfl Try.underlying34 (by rfl) rfl tt (by (repeat first | exact m0 | refine List.Mem.tail _ ?_); first | done | fail) (by rfl)) ?_
                 refine jl_nil ?_
                 refine jn_next ?_
                 refine jn1 4 (by kernel_rfl) rfl ?_
                 refine jl_op rfl rfl (.none rfl) (v_iarith' (Z := s23.1.1 - 8) rfl rfl rfl rfl tt tt (fun _ => (iw_sub (by have := s23.2; omega)))) ?_
                 refine jl_nil ?_
                 refine jn_next ?_
                 refine jn1 5 (by kernel_rfl) rfl ?_
                 refine jl_op rfl rfl (.none rfl) (v_i2f rfl rfl tt (by rfl) Try.underlying24) ?_
                 refine jl_nil ?_
                 refine jn_next ?_
                 refine jn1 6 (by kernel_rfl) rfl ?_
                 refine jl_op rfl rfl (.none rfl) (v_farith rfl rfl rfl rfl tt tt) ?_
                 refine jl_nil ?_
                 refine jn_next ?_
                 refine jn1 7 (by kernel_rfl) rfl ?_
                 refine jl_x1 rfl rfl rfl (x_lit (Ws := [_]) (Z := F 0) rfl Try.underlying34 (by kernel_rfl) zero24 rfl rfl (ev_cons rfl tt ev_nil) rfl rfl rfl rfl) (fun b27 => ?_)
                 refine jl_nil ?_
                 refine jn_next ?_
                 refine jn1 8 (by kernel_rfl) rfl ?_
                 refine jl_append (i := 1) (by' := 4) (Z := F 0) rfl rfl rfl rfl Try.underlying34 (by kernel_rfl) zero24 rfl (by kernel_rfl) (by rfl) rfl rfl rfl (fun w hI => hI.vecRo m0) (tab_length ..).symm rfl (by omega) (fun A28 c28 => ?_)
                 refine jl_nil ?_
                 refine jn_next ?_
                 refine jn1 9 (by kernel_rfl) rfl ?_
                 refine jl_op rfl rfl (.none rfl) (v_fieldAddr rfl Try.underlying50 (by rfl) (by kernel_rfl) rfl tt) ?_
                 refine jl_nil ?_
                 refine jn_next ?_
                 refine jn1 10 (by kernel_rfl) rfl ?_
                 refine jl_storeBox (i := 3) rfl rfl rfl (by kernel_rfl) rfl rfl rfl rfl rfl ?_
                 refine jl_nil ?_
                 refine jn_next ?_
                 refine jn_end (by kernel_rfl) ?_
                 exact jq_mid (s23, (A28, c28)) (fs_cons rfl (fs_cons rfl (fs_cons rfl (fs_cons rfl (fs_cons rfl fs_nil))))) (fun w h => by rw [← tab_upd]; exact h.sub (.cons _ (List.Sublist.refl _)))
               · refine jl_op rfl rfl (.none rfl) (v_iarith' (Z := s23.1.1 - 8) rfl rfl rfl rfl tt tt (fun _ => (iw_sub (by have := s23.2; omega)))) ?_
                 refine jl_nil ?_
                 refine jn_next ?_
                 refine jn2 1 5 (by kernel_rfl) rfl rfl ?_ ?_
                 · refine jl_op rfl rfl (.none rfl) (v_loadBox rfl Try.underlying34 (by rfl) rfl tt (by (repeat first | exact m0 | refine List.Mem.tail _ ?_); first | done | fail) (by rfl)) ?_
                   refine jl_nil ?_
                   refine jn_next ?_
                   refine jn1 5 (by kernel_rfl) rfl ?_
                   refine jl_op rfl rfl (.none rfl) (v_i2f rfl rfl tt (by rfl) Try.underlying24) ?_
                   refine jl_nil ?_
                   refine jn_next ?_
                   refine jn1 6 (by kernel_rfl) rfl ?_
                   refine jl_op rfl rfl (.none rfl) (v_farith rfl rfl rfl rfl tt tt) ?_
                   refine jl_nil ?_
                   refine jn_next ?_
                   refine jn1 7 (by kernel_rfl) rfl ?_
                   refine jl_x1 rfl rfl rfl (x_lit (Ws := [_]) (Z := F 0) rfl Try.underlying34 (by kernel_rfl) zero24 rfl rfl (ev_cons rfl tt ev_nil) rfl rfl rfl rfl) (fun b27 => ?_)
                   refine jl_nil ?_
                   refine jn_next ?_
                   refine jn1 8 (by kernel_rfl) rfl ?_
                   refine jl_append (i := 1) (by' := 4) (Z := F 0) rfl rfl rfl rfl Try.underlying34 (by kernel_rfl) zero24 rfl (by kernel_rfl) (by rfl) rfl rfl rfl (fun w hI => hI.vecRo m0) (tab_length ..).symm rfl (by omega) (fun A28 c28 => ?_)
                   refine jl_nil ?_
                   refine jn_next ?_
                   refine jn1 9 (by kernel_rfl) rfl ?_
                   refine jl_op rfl rfl (.none rfl) (v_fieldAddr rfl Try.underlying50 (by rfl) (by kernel_rfl) rfl tt) ?_
                   refine jl_nil ?_
                   refine jn_next ?_
                   refine jn1 10 (by kernel_rfl) rfl ?_
                   refine jl_storeBox (i := 3) rfl rfl rfl (by kernel_rfl) rfl rfl rfl rfl rfl ?_
                   refine jl_nil ?_
                   refine jn_next ?_
                   refine jn_end (by kernel_rfl) ?_
                   exact jq_mid (s23, (A28, c28)) (fs_cons rfl (fs_cons rfl (fs_cons rfl (fs_cons rfl (fs_cons rfl fs_nil))))) (fun w h => by rw [← tab_upd]; exact h.sub (.cons _ (List.Sublist.refl _)))
                 · refine jl_op rfl rfl (.none rfl) (v_i2f rfl rfl tt (by rfl) Try.underlying24) ?_
                   refine jl_nil ?_
                   refine jn_next ?_
                   refine jn2 1 6 (by kernel_rfl) rfl rfl ?_ ?_
                   · refine jl_op rfl rfl (.none rfl) (v_loadBox rfl Try.underlying34 (by rfl) rfl tt (by (repeat first | exact m0 | refine List.Mem.tail _ ?_); first | done | fail) (by rfl)) ?_
                     refine jl_nil ?_
                     refine jn_next ?_
                     refine jn1 6 (by kernel_rfl) rfl ?_
                     refine jl_op rfl rfl (.none rfl) (v_farith rfl rfl rfl rfl tt tt) ?_
                     refine jl_nil ?_
                     refine jn_next ?_
                     refine jn1 7 (by kernel_rfl) rfl ?_
                     refine jl_x1 rfl rfl rfl (x_lit (Ws := [_]) (Z := F 0) rfl Try.underlying34 (by kernel_rfl) zero24 rfl rfl (ev_cons rfl tt ev_nil) rfl rfl rfl rfl) (fun b27 => ?_)
                     refine jl_nil ?_
                     refine jn_next ?_
                     refine jn1 8 (by kernel_rfl) rfl ?_
                     refine jl_append (i := 1) (by' := 4) (Z := F 0) rfl rfl rfl rfl Try.underlying34 (by kernel_rfl) zero24 rfl (by kernel_rfl) (by rfl) rfl rfl rfl (fun w hI => hI.vecRo m0) (tab_length ..).symm rfl (by omega) (fun A28 c28 => ?_)
                     refine jl_nil ?_
                     refine jn_next ?_
                     refine jn1 9 (by kernel_rfl) rfl ?_
                     refine jl_op rfl rfl (.none rfl) (v_fieldAddr rfl Try.underlying50 (by rfl) (by kernel_rfl) rfl tt) ?_
                     refine jl_nil ?_
                     refine jn_next ?_
                     refine jn1 10 (by kernel_rfl) rfl ?_
                     refine jl_storeBox (i := 3) rfl rfl rfl (by kernel_rfl) rfl rfl rfl rfl rfl ?_
                     refine jl_nil ?_
                     refine jn_next ?_
                     refine jn_end (by kernel_rfl) ?_
                     exact jq_mid (s23, (A28, c28)) (fs_cons rfl (fs_cons rfl (fs_cons rfl (fs_cons rfl (fs_cons rfl fs_nil))))) (fun w h => by rw [← tab_upd]; exact h.sub (.cons _ (List.Sublist.refl _)))
                   · refine jl_op rfl rfl (.none rfl) (v_farith rfl rfl rfl rfl tt tt) ?_
                     refine jl_nil ?_
                     refine jn_next ?_
                     refine jn2 1 7 (by kernel_rfl) rfl rfl ?_ ?_
                     · refine jl_op rfl rfl (.none rfl) (v_loadBox rfl Try.underlying34 (by rfl) rfl tt (by (repeat first | exact m0 | refine List.Mem.tail _ ?_); first | done | fail) (by rfl)) ?_
                       refine jl_nil ?_
                       refine jn_next ?_
                       refine jn1 7 (by kernel_rfl) rfl ?_
                       refine jl_x1 rfl rfl rfl (x_lit (Ws := [_]) (Z := F 0) rfl Try.underlying34 (by kernel_rfl) zero24 rfl rfl (ev_cons rfl tt ev_nil) rfl rfl rfl rfl) (fun b27 => ?_)
                       refine jl_nil ?_
                       refine jn_next ?_
                       refine jn1 8 (by kernel_rfl) rfl ?_
                       refine jl_append (i := 1) (by' := 4) (Z := F 0) rfl rfl rfl rfl Try.underlying34 (by kernel_rfl) zero24 rfl (by kernel_rfl) (by rfl) rfl rfl rfl (fun w hI => hI.vecRo m0) (tab_length ..).symm rfl (by omega) (fun A28 c28 => ?_)
                       refine jl_nil ?_
                       refine jn_next ?_
                       refine jn1 9 (by kernel_rfl) rfl ?_
                       refine jl_op rfl rfl (.none rfl) (v_fieldAddr rfl Try.underlying50 (by rfl) (by kernel_rfl) rfl tt) ?_
                       refine jl_nil ?_
                       refine jn_next ?_
                       refine jn1 10 (by kernel_rfl) rfl ?_
                       refine jl_storeBox (i := 3) rfl rfl rfl (by kernel_rfl) rfl rfl rfl rfl rfl ?_
                       refine jl_nil ?_
                       refine jn_next ?_
                       refine jn_end (by kernel_rfl) ?_
                       exact jq_mid (s23, (A28, c28)) (fs_cons rfl (fs_cons rfl (fs_cons rfl (fs_cons rfl (fs_cons rfl fs_nil))))) (fun w h => by rw [← tab_upd]; exact h.sub (.cons _ (List.Sublist.refl _)))
                     · refine jl_x1 rfl rfl rfl (x_lit (Ws := [_]) (Z := F 0) rfl Try.underlying34 (by kernel_rfl) zero24 rfl rfl (ev_cons rfl tt ev_nil) rfl rfl rfl rfl) (fun b27 => ?_)
                       refine jl_nil ?_
                       refine jn_next ?_
                       refine jn1 1 (by kernel_rfl) rfl ?_
                       refine jl_op rfl rfl (.none rfl) (v_loadBox rfl Try.underlying34 (by rfl) rfl tt (by (repeat first | exact m0 | refine List.Mem.tail _ ?_); first | done | fail) (by rfl)) ?_
                       refine jl_nil ?_
                       refine jn_next ?_
                       refine jn1 8 (by kernel_rfl) rfl ?_
                       refine jl_append (i := 1) (by' := 4) (Z := F 0) rfl rfl rfl rfl Try.underlying34 (by kernel_rfl) zero24 rfl (by kernel_rfl) (by rfl) rfl rfl rfl (fun w hI => hI.vecRo m0) (tab_length ..).symm rfl (by omega) (fun A28 c28 => ?_)
                       refine jl_nil ?_
                       refine jn_next ?_
                       refine jn1 9 (by kernel_rfl) rfl ?_
                       refine jl_op rfl rfl (.none rfl) (v_fieldAddr rfl Try.underlying50 (by rfl) (by kernel_rfl) rfl tt) ?_
                       refine jl_nil ?_
                       refine jn_next ?_
                       refine jn1 10 (by kernel_rfl) rfl ?_
                       refine jl_storeBox (i := 3) rfl rfl rfl (by kernel_rfl) rfl rfl rfl rfl rfl ?_
                       refine jl_nil ?_
                       refine jn_next ?_
                       refine jn_end (by kernel_rfl) ?_
                       exact jq_mid (s23, (A28, c28)) (fs_cons rfl (fs_cons rfl (fs_cons rfl (fs_cons rfl (fs_cons rfl fs_nil))))) (fun w h => by rw [← tab_upd]; exact h.sub (.cons _ (List.Sublist.refl _)))
         · refine jl_op rfl rfl (.none rfl) (v_move rfl rfl tt) ?_
           refine jl_nil ?_
           refine jn_next ?_
           refine jn2 0 3 (by kernel_rfl) rfl rfl ?_ ?_
           · refine jl_op rfl rfl (.none rfl) (v_fieldAddr rfl Try.underlying50 (by rfl) (by kernel_rfl) rfl tt) ?_
             refine jl_nil ?_
             refine jn_next ?_
             refine jn2 1 3 (by kernel_rfl) rfl rfl ?_ ?_
             · refine jl_op rfl rfl (.none rfl) (v_loadBox rfl Try.underlying34 (by rfl) rfl tt (by (repeat first | exact m0 | refine List.Mem.tail _ ?_); first | done | fail) (by rfl)) ?_
               refine jl_nil ?_
               refine jn_next ?_
               refine jn1 3 (by kernel_rfl) rfl ?_
               refine jl_g (i := 3) (f := 79) (xs := [_, _]) rfl rfl rfl rfl (c_srcPick s9 A N cap g (2 * i) sd 17 (by omega) (by omega) (by omega) hg) (ev_cons rfl tt (ev_cons rfl tt ev_nil)) rfl rfl (fun _ => rfl) (fun w hI => hI.rovRo 6 3 rfl rfl rfl rov_nil) (fun s23 => ?_)
               refine jl_nil ?_
               refine jn_next ?_
               refine jn1 4 (by kernel_rfl) rfl ?_
               refine jl_op rfl rfl (.none rfl) (v_iarith' (Z := s23.1.1 - 8) rfl rfl rfl rfl tt tt (fun _ => (iw_sub (by have := s23.2; omega)))) ?_
               refine jl_nil ?_
               refine jn_next ?_
               refine jn1 5 (by kernel_rfl) rfl ?_
               refine jl_op rfl rfl (.none rfl) (v_i2f rfl rfl tt (by rfl) Try.underlying24) ?_
               refine jl_nil ?_
               refine jn_next ?_
               refine jn1 6 (by kernel_rfl) rfl ?_
               refine jl_op rfl rfl (.none rfl) (v_farith rfl rfl rfl rfl tt tt) ?_
               refine jl_nil ?_
               refine jn_next ?_
               refine jn1 7 (by kernel_rfl) rfl ?_
               refine jl_x1 rfl rfl rfl (x_lit (Ws := [_]) (Z := F 0) rfl Try.underlying34 (by kernel_rfl) zero24 rfl rfl (ev_cons rfl tt ev_nil) rfl rfl rfl rfl) (fun b27 => ?_)
               refine jl_nil ?_
               refine jn_next ?_
               refine jn1 8 (by kernel_rfl) rfl ?_
               refine jl_append (i := 1) (by' := 4) (Z := F 0) rfl rfl rfl rfl Try.underlying34 (by kernel_rfl) zero24 rfl (by kernel_rfl) (by rfl) rfl rfl rfl (fun w hI => hI.vecRo m0) (tab_length ..).symm rfl (by omega) (fun A28 c28 => ?_)
               refine jl_nil ?_
               refine jn_next ?_
               refine jn1 9 (by kernel_rfl) rfl ?_
               refine jl_op rfl rfl (.none rfl) (v_fieldAddr rfl Try.underlying50 (by rfl) (by kernel_rfl) rfl tt) ?_
               refine jl_nil ?_
               refine jn_next ?_
               refine jn1 10 (by kernel_rfl) rfl ?_
               refine jl_storeBox (i := 3) rfl rfl rfl (by kernel_rfl) rfl rfl rfl rfl rfl ?_
               refine jl_nil ?_
               refine jn_next ?_
               refine jn_end (by kernel_rfl) ?_
               exact jq_mid (s23, (A28, c28)) (fs_cons rfl (fs_cons rfl (fs_cons rfl (fs_cons rfl (fs_cons rfl fs_nil))))) (fun w h => by rw [← tab_upd]; exact h.sub (.cons _ (List.Sublist.refl _)))
             · refine jl_g (i := 3) (f := 79) (xs := [_, _]) rfl rfl rfl rfl (c_srcPick s9 A N cap g (2 * i) sd 17 (by omega) (by omega) (by omega) hg) (ev_cons rfl tt (ev_cons rfl tt ev_nil)) rfl rfl (fun _ => rfl) (fun w hI => hI.rovRo 6 3 rfl rfl rfl rov_nil) (fun s23 => ?_)
               refine jl_nil ?_
               refine jn_next ?_
               refine jn2 1 4 (by kernel_rfl) rfl rfl ?_ ?_
               · refine jl_op rfl rfl (.none rfl) (v_loadBox rfl Try.underlying34 (by rfl) rfl tt (by (repeat first | exact m0 | refine List.Mem.tail _ ?_); first | done | fail) (by rfl)) ?_
                 refine jl_nil ?_
                 refine jn_next ?_
                 refine jn1 4 (by kernel_rfl) rfl ?_
                 refine jl_op rfl rfl (.none rfl) (v_iarith' (Z := s23.1.1 - 8) rfl rfl rfl rfl tt tt (fun _ => (iw_sub (by have := s23.2; omega)))) ?_
                 refine jl_nil ?_
                 refine jn_next ?_
                 refine jn1 5 (by kernel_rfl) rfl ?_
                 refine jl_op rfl rfl (.none rfl) (v_i2f rfl rfl tt (by rfl) Try.underlying24) ?_
                 refine jl_nil ?_
                 refine jn_next ?_
                 refine jn1 6 (by kernel_rfl) rfl ?_
                 refine jl_op rfl rfl (.none rfl) (v_farith rfl rfl rfl rfl tt tt) ?_
                 refine jl_nil ?_
                 refine jn_next ?_
                 refine jn1 7 (by kernel_rfl) rfl ?_
                 refine jl_x1 rfl rfl rfl (x_lit (Ws := [_]) (Z := F 0) rfl Try.underlying34 (by kernel_rfl) zero24 rfl rfl (ev_cons rfl tt ev_nil) rfl rfl rfl rfl) (fun b27 => ?_)
                 refine jl_nil ?_
                 refine jn_next ?_
                 refine jn1 8 (by kernel_rfl) rfl ?_
                 refine jl_append (i := 1) (by' := 4) (Z := F 0) rfl rfl rfl rfl Try.underlying34 (by kernel_rfl) zero24 rfl (by kernel_rfl) (by rfl) rfl rfl rfl (fun w hI => hI.vecRo m0) (tab_length ..).symm rfl (by omega) (fun A28 c28 => ?_)
                 refine jl_nil ?_
                 refine jn_next ?_
                 refine jn1 9 (by kernel_rfl) rfl ?_
                 refine jl_op rfl rfl (.none rfl) (v_fieldAddr rfl Try.underlying50 (by rfl) (by kernel_rfl) rfl tt) ?_
                 refine jl_nil ?_
                 refine jn_next ?_
                 refine jn1 10 (by kernel_rfl) rfl ?_
                 refine jl_storeBox (i := 3) rfl rfl rfl (by kernel_rfl) rfl rfl rfl rfl rfl ?_
                 refine jl_nil ?_
                 refine jn_next ?_
                 refine jn_end (by kernel_rfl) ?_
                 exact jq_mid (s23, (A28, c28)) (fs_cons rfl (fs_cons rfl (fs_cons rfl (fs_cons rfl (fs_cons rfl fs_nil))))) (fun w h => by rw [← tab_upd]; exact h.sub (.cons _ (List.Sublist.refl _)))
               · refine jl_op rfl rfl (.none rfl) (v_iarith' (Z := s23.1.1 - 8) rfl rfl rfl rfl tt tt (fun _ => (iw_sub (by have := s23.2; omega)))) ?_
                 refine jl_nil ?_
                 refine jn_next ?_
                 refine jn2 1 5 (by kernel_rfl) rfl rfl ?_ ?_
                 · refine jl_op rfl rfl (.none rfl) (v_loadBox rfl Try.underlying34 (by rfl) rfl tt (by (repeat first | exact m0 | refine List.Mem.tail _ ?_); first | done | fail) (by rfl)) ?_
                   refine jl_nil ?_
                   refine jn_next ?_
                   refine jn1 5 (by kernel_rfl) rfl ?_
                   refine jl_op rfl rfl (.none rfl) (v_i2f rfl rfl tt (by rfl) Try.underlying24) ?_
                   refine jl_nil ?_
                   refine jn_next ?_
                   refine jn1 6 (by kernel_rfl) rfl ?_
                   refine jl_op rfl rfl (.none rfl) (v_farith rfl rfl rfl rfl tt tt) ?_
                   refine jl_nil ?_
                   refine jn_next ?_
                   refine jn1 7 (by kernel_rfl) rfl ?_
                   refine jl_x1 rfl rfl rfl (x_lit (Ws := [_]) (Z := F 0) rfl Try.underlying34 (by kernel_rfl) zero24 rfl rfl (ev_cons rfl tt ev_nil) rfl rfl rfl rfl) (fun b27 => ?_)
                   refine jl_nil ?_
                   refine jn_next ?_
                   refine jn1 8 (by kernel_rfl) rfl ?_
                   refine jl_append (i := 1) (by' := 4) (Z := F 0) rfl rfl rfl rfl Try.underlying34 (by kernel_rfl) zero24 rfl (by kernel_rfl) (by rfl) rfl rfl rfl (fun w hI => hI.vecRo m0) (tab_length ..).symm rfl (by omega) (fun A28 c28 => ?_)
                   refine jl_nil ?_
                   refine jn_next ?_
                   refine jn1 9 (by kernel_rfl) rfl ?_
                   refine jl_op rfl rfl (.none rfl) (v_fieldAddr rfl Try.underlying50 (by rfl) (by kernel_rfl) rfl tt) ?_
                   refine jl_nil ?_
                   refine jn_next ?_
                   refine jn1 10 (by kernel_rfl) rfl ?_
                   refine jl_storeBox (i := 3) rfl rfl rfl (by kernel_rfl) rfl rfl rfl rfl rfl ?_
                   refine jl_nil ?_
                   refine jn_next ?_
                   refine jn_end (by kernel_rfl) ?_
                   exact jq_mid (s23, (A28, c28)) (fs_cons rfl (fs_cons rfl (fs_cons rfl (fs_cons rfl (fs_cons rfl fs_nil))))) (fun w h => by rw [← tab_upd]; exact h.sub (.cons _ (List.Sublist.refl _)))
                 · refine jl_op rfl rfl (.none rfl) (v_i2f rfl rfl tt (by rfl) Try.underlying24) ?_
                   refine jl_nil ?_
                   refine jn_next ?_
                   refine jn2 1 6 (by kernel_rfl) rfl rfl ?_ ?_
                   · refine jl_op rfl rfl (.none rfl) (v_loadBox rfl Try.underlying34 (by rfl) rfl tt (by (repeat first | exact m0 | refine List.Mem.tail _ ?_); first | done | fail) (by rfl)) ?_
                     refine jl_nil ?_
                     refine jn_next ?_
                     refine jn1 6 (by kernel_rfl) rfl ?_
                     refine jl_op rfl rfl (.none rfl) (v_farith rfl rfl rfl rfl tt tt) ?_
                     refine jl_nil ?_
                     refine jn_next ?_
                     refine jn1 7 (by kernel_rfl) rfl ?_
                     refine jl_x1 rfl rfl rfl (x_lit (Ws := [_]) (Z := F 0) rfl Try.underlying34 (by kernel_rfl) zero24 rfl rfl (ev_cons rfl tt ev_nil) rfl rfl rfl rfl) (fun b27 => ?_)
                     refine jl_nil ?_
                     refine jn_next ?_
                     refine jn1 8 (by kernel_rfl) rfl ?_
                     refine jl_append (i := 1) (by' := 4) (Z := F 0) rfl rfl rfl rfl Try.underlying34 (by kernel_rfl) zero24 rfl (by kernel_rfl) (by rfl) rfl rfl rfl (fun w hI => hI.vecRo m0) (tab_length ..).symm rfl (by omega) (fun A28 c28 => ?_)
                     refine jl_nil ?_
                     refine jn_next ?_
                     refine jn1 9 (by kernel_rfl) rfl ?_
                     refine jl_op rfl rfl (.none rfl) (v_fieldAddr rfl Try.underlying50 (by rfl) (by kernel_rfl) rfl tt) ?_
                     refine jl_nil ?_
                     refine jn_next ?_
                     refine jn1 10 (by kernel_rfl) rfl ?_
                     refine jl_storeBox (i := 3) rfl rfl rfl (by kernel_rfl) rfl rfl rfl rfl rfl ?_
                     refine jl_nil ?_
                     refine jn_next ?_
                     refine jn_end (by kernel_rfl) ?_
                     exact jq_mid (s23, (A28, c28)) (fs_cons rfl (fs_cons rfl (fs_cons rfl (fs_cons rfl (fs_cons rfl fs_nil))))) (fun w h => by rw [← tab_upd]; exact h.sub (.cons _ (List.Sublist.refl _)))
                   · refine jl_op rfl rfl (.none rfl) (v_farith rfl rfl rfl rfl tt tt) ?_
                     refine jl_nil ?_
                     refine jn_next ?_
                     refine jn2 1 7 (by kernel_rfl) rfl rfl ?_ ?_
                     · refine jl_op rfl rfl (.none rfl) (v_loadBox rfl Try.underlying34 (by rfl) rfl tt (by (repeat first | exact m0 | refine List.Mem.tail _ ?_); first | done | fail) (by rfl)) ?_
                       refine jl_nil ?_
                       refine jn_next ?_
                       refine jn1 7 (by kernel_rfl) rfl ?_
                       refine jl_x1 rfl rfl rfl (x_lit (Ws := [_]) (Z := F 0) rfl Try.underlying34 (by kernel_rfl) zero24 rfl rfl (ev_cons rfl tt ev_nil) rfl rfl rfl rfl) (fun b27 => ?_)
                       refine jl_nil ?_
                       refine jn_next ?_
                       refine jn1 8 (by kernel_rfl) rfl ?_
                       refine jl_append (i := 1) (by' := 4) (Z := F 0) rfl rfl rfl rfl Try.underlying34 (by kernel_rfl) zero24 rfl (by kernel_rfl) (by rfl) rfl rfl rfl (fun w hI => hI.vecRo m0) (tab_length ..).symm rfl (by omega) (fun A28 c28 => ?_)
                       refine jl_nil ?_
                       refine jn_next ?_
                       refine jn1 9 (by kernel_rfl) rfl ?_
                       refine jl_op rfl rfl (.none rfl) (v_fieldAddr rfl Try.underlying50 (by rfl) (by kernel_rfl) rfl tt) ?_
                       refine jl_nil ?_
                       refine jn_next ?_
                       refine jn1 10 (by kernel_rfl) rfl ?_
                       refine jl_storeBox (i := 3) rfl rfl rfl (by kernel_rfl) rfl rfl rfl rfl rfl ?_
                       refine jl_nil ?_
                       refine jn_next ?_
                       refine jn_end (by kernel_rfl) ?_
                       exact jq_mid (s23, (A28, c28)) (fs_cons rfl (fs_cons rfl (fs_cons rfl (fs_cons rfl (fs_cons rfl fs_nil))))) (fun w h => by rw [← tab_upd]; exact h.sub (.cons _ (List.Sublist.refl _)))
                     · refine jl_x1 rfl rfl rfl (x_lit (Ws := [_]) (Z := F 0) rfl Try.underlying34 (by kernel_rfl) zero24 rfl rfl (ev_cons rfl tt ev_nil) rfl rfl rfl rfl) (fun b27 => ?_)
                       refine jl_nil ?_
                       refine jn_next ?_
                       refine jn1 1 (by kernel_rfl) rfl ?_
                       refine jl_op rfl rfl (.none rfl) (v_loadBox rfl Try.underlying34 (by rfl) rfl tt (by (repeat first | exact m0 | refine List.Mem.tail _ ?_); first | done | fail) (by rfl)) ?_
                       refine jl_nil ?_
                       refine jn_next ?_
                       refine jn1 8 (by kernel_rfl) rfl ?_
                       refine jl_append (i := 1) (by' := 4) (Z := F 0) rfl rfl rfl rfl Try.underlying34 (by kernel_rfl) zero24 rfl (by kernel_rfl) (by rfl) rfl rfl rfl (fun w hI => hI.vecRo m0) (tab_length ..).symm rfl (by omega) (fun A28 c28 => ?_)
                       refine jl_nil ?_
                       refine jn_next ?_
                       refine jn1 9 (by kernel_rfl) rfl ?_
                       refine jl_op rfl rfl (.none rfl) (v_fieldAddr rfl Try.underlying50 (by rfl) (by kernel_rfl) rfl tt) ?_
                       refine jl_nil ?_
                       refine jn_next ?_
                       refine jn1 10 (by kernel_rfl) rfl ?_
                       refine jl_storeBox (i := 3) rfl rfl rfl (by kernel_rfl) rfl rfl rfl rfl rfl ?_
                       refine jl_nil ?_
                       refine jn_next ?_
                       refine jn_end (by kernel_rfl) ?_
                       exact jq_mid (s23, (A28, c28)) (fs_cons rfl (fs_cons rfl (fs_cons rfl (fs_cons rfl (fs_cons rfl fs_nil))))) (fun w h => by rw [← tab_upd]; exact h.sub (.cons _ (List.Sublist.refl _)))
           · refine jl_g (i := 3) (f := 79) (xs := [_, _]) rfl rfl rfl rfl (c_srcPick s9 A N cap g (2 * i) sd 17 (by omega) (by omega) (by omega) hg) (ev_cons rfl tt (ev_cons rfl tt ev_nil)) rfl rfl (fun _ => rfl) (fun w hI => hI.rovRo 6 3 rfl rfl rfl rov_nil) (fun s23 => ?_)
             refine jl_nil ?_
             refine jn_next ?_
             refine jn2 0 4 (by kernel_rfl) rfl rfl ?_ ?_
             · refine jl_op rfl rfl (.none rfl) (v_fieldAddr rfl Try.underlying50 (by rfl) (by kernel_rfl) rfl tt) ?_
               refine jl_nil ?_
               refine jn_next ?_
               refine jn2 1 4 (by kernel_rfl) rfl rfl ?_ ?_
               · refine jl_op rfl rfl (.none rfl) (v_loadBox rfl Try.underlying34 (by rfl) rfl tt (by (repeat first | exact m0 | refine List.Mem.tail _ ?_); first | done | fail) (by rfl)) ?_
                 refine jl_nil ?_
                 refine jn_next ?_
                 refine jn1 4 (by kernel_rfl) rfl ?_
                 refine jl_op rfl rfl (.none rfl) (v_iarith' (Z := s23.1.1 - 8) rfl rfl rfl rfl tt tt (fun _ => (iw_sub (by have := s23.2; omega)))) ?_
                 refine jl_nil ?_
                 refine jn_next ?_
                 refine jn1 5 (by kernel_rfl) rfl ?_
                 refine jl_op rfl rfl (.none rfl) (v_i2f rfl rfl tt (by rfl) Try.underlying24) ?_
                 refine jl_nil ?_
                 refine jn_next ?_
                 refine jn1 6 (by kernel_rfl) rfl ?_
                 refine jl_op rfl rfl (.none rfl) (v_farith rfl rfl rfl rfl tt tt) ?_
                 refine jl_nil ?_
                 refine jn_next ?_
                 refine jn1 7 (by kernel_rfl) rfl ?_
                 refine jl_x1 rfl rfl rfl (x_lit (Ws := [_]) (Z := F 0) rfl Try.underlying34 (by kernel_rfl) zero24 rfl rfl (ev_cons rfl tt ev_nil) rfl rfl rfl rfl) (fun b27 => ?_)
                 refine jl_nil ?_
                 refine jn_next ?_
                 refine jn1 8 (by kernel_rfl) rfl ?_
                 refine jl_append (i := 1) (by' := 4) (Z := F 0) rfl rfl rfl rfl Try.underlying34 (by kernel_rfl) zero24 rfl (by kernel_rfl) (by rfl) rfl rfl rfl (fun w hI => hI.vecRo m0) (tab_length ..).symm rfl (by omega) (fun A28 c28 => ?_)
                 refine jl_nil ?_
                 refine jn_next ?_
                 refine jn1 9 (by kernel_rfl) rfl ?_
                 refine jl_op rfl rfl (.none rfl) (v_fieldAddr rfl Try.underlying50 (by rfl) (by kernel_rfl) rfl tt) ?_
                 refine jl_nil ?_
                 refine jn_next ?_
                 refine jn1 10 (by kernel_rfl) rfl ?_
                 refine jl_storeBox (i := 3) rfl rfl rfl (by kernel_rfl) rfl rfl rfl rfl rfl ?_
                 refine jl_nil ?_
                 refine jn_next ?_
                 refine jn_end (by kernel_rfl) ?_
                 exact jq_mid (s23, (A28, c28)) (fs_cons rfl (fs_cons rfl (fs_cons rfl (fs_cons rfl (fs_cons rfl fs_nil))))) (fun w h => by rw [← tab_upd]; exact h.sub (.cons _ (List.Sublist.refl _)))
               · refine jl_op rfl rfl (.none rfl) (v_iarith' (Z := s23.1.1 - 8) rfl rfl rfl rfl tt tt (fun _ => (iw_sub (by have := s23.2; omega)))) ?_
                 refine jl_nil ?_
                 refine jn_next ?_
                 refine jn2 1 5 (by kernel_rfl) rfl rfl ?_ ?_
                 · refine jl_op rfl rfl (.none rfl) (v_loadBox rfl Try.underlying34 (by rfl) rfl tt (by (repeat first | exact m0 | refine List.Mem.tail _ ?_); first | done | fail) (by rfl)) ?_
                   refine jl_nil ?_
                   refine jn_next ?_
                   refine jn1 5 (by kernel_rfl) rfl ?_
                   refine jl_op rfl rfl (.none rfl) (v_i2f rfl rfl tt (by rfl) Try.underlying24) ?_
                   refine jl_nil ?_
                   refine jn_next ?_
                   refine jn1 6 (by kernel_rfl) rfl ?_
                   refine jl_op rfl rfl (.none rfl) (v_farith rfl rfl rfl rfl tt tt) ?_
                   refine jl_nil ?_
                   refine jn_next ?_
                   refine jn1 7 (by kernel_rfl) rfl ?_
                   refine jl_x1 rfl rfl rfl (x_lit (Ws := [_]) (Z := F 0) rfl Try.underlying34 (by kernel_rfl) zero24 rfl rfl (ev_cons rfl tt ev_nil) rfl rfl rfl rfl) (fun b27 => ?_)
                   refine jl_nil ?_
                   refine jn_next ?_
                   refine jn1 8 (by kernel_rfl) rfl ?_
                   refine jl_append (i := 1) (by' := 4) (Z := F 0) rfl rfl rfl rfl Try.underlying34 (by kernel_rfl) zero24 rfl (by kernel_rfl) (by rfl) rfl rfl rfl (fun w hI => hI.vecRo m0) (tab_length ..).symm rfl (by omega) (fun A28 c28 => ?_)
                   refine jl_nil ?_
                   refine jn_next ?_
                   refine jn1 9 (by kernel_rfl) rfl ?_
                   refine jl_op rfl rfl (.none rfl) (v_fieldAddr rfl Try.underlying50 (by rfl) (by kernel_rfl) rfl tt) ?_
                   refine jl_nil ?_
                   refine jn_next ?_
                   refine jn1 10 (by kernel_rfl) rfl ?_
                   refine jl_storeBox (i := 3) rfl rfl rfl (by kernel_rfl) rfl rfl rfl rfl rfl ?_
                   refine jl_nil ?_
                   refine jn_next ?_
                   refine jn_end (by kernel_rfl) ?_
                   exact jq_mid (s23, (A28, c28)) (fs_cons rfl (fs_cons rfl (fs_cons rfl (fs_cons rfl (fs_cons rfl fs_nil))))) (fun w h => by rw [← tab_upd]; exact h.sub (.cons _ (List.Sublist.refl _)))
                 · refine jl_op rfl rfl (.none rfl) (v_i2f rfl rfl tt (by rfl) Try.underlying24) ?_
                   refine jl_nil ?_
                   refine jn_next ?_
                   refine jn2 1 6 (by kernel_rfl) rfl rfl ?_ ?_
                   · refine jl_op rfl rfl (.none rfl) (v_loadBox rfl Try.underlying34 (by rfl) rfl tt (by (repeat first | exact m0 | refine List.Mem.tail _ ?_); first | done | fail) (by rfl)) ?_
                     refine jl_nil ?_
                     refine jn_next ?_
                     refine jn1 6 (by kernel_rfl) rfl ?_
                     refine jl_op rfl rfl (.none rfl) (v_farith rfl rfl rfl rfl tt tt) ?_
                     refine jl_nil ?_
                     refine jn_next ?_
                     refine jn1 7 (by kernel_rfl) rfl ?_
                     refine jl_x1 rfl rfl rfl (x_lit (Ws := [_]) (Z := F 0) rfl Try.underlying34 (by kernel_rfl) zero24 rfl rfl (ev_cons rfl tt ev_nil) rfl rfl rfl rfl) (fun b27 => ?_)
                     refine jl_nil ?_
                     refine jn_next ?_
                     refine jn1 8 (by kernel_rfl) rfl ?_
                     refine jl_append (i := 1) (by' := 4) (Z := F 0) rfl rfl rfl rfl Try.underlying34 (by kernel_rfl) zero24 rfl (by kernel_rfl) (by rfl) rfl rfl rfl (fun w hI => hI.vecRo m0) (tab_length ..).symm rfl (by omega) (fun A28 c28 => ?_)
                     refine jl_nil ?_
                     refine jn_next ?_
                     refine jn1 9 (by kernel_rfl) rfl ?_
                     refine jl_op rfl rfl (.none rfl) (v_fieldAddr rfl Try.underlying50 (by rfl) (by kernel_rfl) rfl tt) ?_
                     refine jl_nil ?_
                     refine jn_next ?_
                     refine jn1 10 (by kernel_rfl) rfl ?_
                     refine jl_storeBox (i := 3) rfl rfl rfl (by kernel_rfl) rfl rfl rfl rfl rfl ?_
                     refine jl_nil ?_
                     refine jn_next ?_
                     refine jn_end (by kernel_rfl) ?_
                     exact jq_mid (s23, (A28, c28)) (fs_cons rfl (fs_cons rfl (fs_cons rfl (fs_cons rfl (fs_cons rfl fs_nil))))) (fun w h => by rw [← tab_upd]; exact h.sub (.cons _ (List.Sublist.refl _)))
                   · refine jl_op rfl rfl (.none rfl) (v_farith rfl rfl rfl rfl tt tt) ?_
                     refine jl_nil ?_
                     refine jn_next ?_
                     refine jn2 1 7 (by kernel_rfl) rfl rfl ?_ ?_
                     · refine jl_op rfl rfl (.none rfl) (v_loadBox rfl Try.underlying34 (by rfl) rfl tt (by (repeat first | exact m0 | refine List.Mem.tail _ ?_); first | done | fail) (by rfl)) ?_
                       refine jl_nil ?_
                       refine jn_next ?_
                       refine jn1 7 (by kernel_rfl) rfl ?_
                       refine jl_x1 rfl rfl rfl (x_lit (Ws := [_]) (Z := F 0) rfl Try.underlying34 (by kernel_rfl) zero24 rfl rfl (ev_cons rfl tt ev_nil) rfl rfl rfl rfl) (fun b27 => ?_)
                       refine jl_nil ?_
                       refine jn_next ?_
                       refine jn1 8 (by kernel_rfl) rfl ?_
                       refine jl_append (i := 1) (by' := 4) (Z := F 0) rfl rfl rfl rfl Try.underlying34 (by kernel_rfl) zero24 rfl (by kernel_rfl) (by rfl) rfl rfl rfl (fun w hI => hI.vecRo m0) (tab_length ..).symm rfl (by omega) (fun A28 c28 => ?_)
                       refine jl_nil ?_
                       refine jn_next ?_
                       refine jn1 9 (by kernel_rfl) rfl ?_
                       refine jl_op rfl rfl (.none rfl) (v_fieldAddr rfl Try.underlying50 (by rfl) (by kernel_rfl) rfl tt) ?_
                       refine jl_nil ?_
                       refine jn_next ?_
                       refine jn1 10 (by kernel_rfl) rfl ?_
                       refine jl_storeBox (i := 3) rfl rfl rfl (by kernel_rfl) rfl rfl rfl rfl rfl ?_
                       refine jl_nil ?_
                       refine jn_next ?_
                       refine jn_end (by kernel_rfl) ?_
                       exact jq_mid (s23, (A28, c28)) (fs_cons rfl (fs_cons rfl (fs_cons rfl (fs_cons rfl (fs_cons rfl fs_nil))))) (fun w h => by rw [← tab_upd]; exact h.sub (.cons _ (List.Sublist.refl _)))
                     · refine jl_x1 rfl rfl rfl (x_lit (Ws := [_]) (Z := F 0) rfl Try.underlying34 (by kernel_rfl) zero24 rfl rfl (ev_cons rfl tt ev_nil) rfl rfl rfl rfl) (fun b27 => ?_)
                       refine jl_nil ?_
                       refine jn_next ?_
                       refine jn1 1 (by kernel_rfl) rfl ?_
                       refine jl_op rfl rfl (.none rfl) (v_loadBox rfl Try.underlying34 (by rfl) rfl tt (by (repeat first | exact m0 | refine List.Mem.tail _ ?_); first | done | fail) (by rfl)) ?_
                       refine jl_nil ?_
                       refine jn_next ?_
                       refine jn1 8 (by kernel_rfl) rfl ?_
                       refine jl_append (i := 1) (by' := 4) (Z := F 0) rfl rfl rfl rfl Try.underlying34 (by kernel_rfl) zero24 rfl (by kernel_rfl) (by rfl) rfl rfl rfl (fun w hI => hI.vecRo m0) (tab_length ..).symm rfl (by omega) (fun A28 c28 => ?_)
                       refine jl_nil ?_
                       refine jn_next ?_
                       refine jn1 9 (by kernel_rfl) rfl ?_
                       refine jl_op rfl rfl (.none rfl) (v_fieldAddr rfl Try.underlying50 (by rfl) (by kernel_rfl) rfl tt) ?_
                       refine jl_nil ?_
                       refine jn_next ?_
                       refine jn1 10 (by kernel_rfl) rfl ?_
                       refine jl_storeBox (i := 3) rfl rfl rfl (by kernel_rfl) rfl rfl rfl rfl rfl ?_
                       refine jl_nil ?_
                       refine jn_next ?_
                       refine jn_end (by kernel_rfl) ?_
                       exact jq_mid (s23, (A28, c28)) (fs_cons rfl (fs_cons rfl (fs_cons rfl (fs_cons rfl (fs_cons rfl fs_nil))))) (fun w h => by rw [← tab_upd]; exact h.sub (.cons _ (List.Sublist.refl _)))
             · refine jl_op rfl rfl (.none rfl) (v_iarith' (Z := s23.1.1 - 8) rfl rfl rfl rfl tt tt (fun _ => (iw_sub (by have := s23.2; omega)))) ?_
               refine jl_nil ?_
               refine jn_next ?_
               refine jn2 0 5 (by kernel_rfl) rfl rfl ?_ ?_
               · refine jl_op rfl rfl (.none rfl) (v_fieldAddr rfl Try.underlying50 (by rfl) (by kernel_rfl) rfl tt) ?_
                 refine jl_nil ?_
                 refine jn_next ?_
                 refine jn2 1 5 (by kernel_rfl) rfl rfl ?_ ?_
                 · refine jl_op rfl rfl (.none rfl) (v_loadBox rfl Try.underlying34 (by rfl) rfl tt (by (repeat first | exact m0 | refine List.Mem.tail _ ?_); first | done | fail) (by rfl)) ?_
                   refine jl_nil ?_
                   refine jn_next ?_
                   refine jn1 5 (by kernel_rfl) rfl ?_
                   refine jl_op rfl rfl (.none rfl) (v_i2f rfl rfl tt (by rfl) Try.underlying24) ?_
                   refine jl_nil ?_
                   refine jn_next ?_
                   refine jn1 6 (by kernel_rfl) rfl ?_
                   refine jl_op rfl rfl (.none rfl) (v_farith rfl rfl rfl rfl tt tt) ?_
                   refine jl_nil ?_
                   refine jn_next ?_
                   refine jn1 7 (by kernel_rfl) rfl ?_
                   refine jl_x1 rfl rfl rfl (x_lit (Ws := [_]) (Z := F 0) rfl Try.underlying34 (by kernel_rfl) zero24 rfl rfl (ev_cons rfl tt ev_nil) rfl rfl rfl rfl) (fun b27 => ?_)
                   refine jl_nil ?_
                   refine jn_next ?_
                   refine jn1 8 (by kernel_rfl) rfl ?_
                   refine jl_append (i := 1) (by' := 4) (Z := F 0) rfl rfl rfl rfl Try.underlying34 (by kernel_rfl) zero24 rfl (by kernel_rfl) (by rfl) rfl rfl rfl (fun w hI => hI.vecRo m0) (tab_length ..).symm rfl (by omega) (fun A28 c28 => ?_)
                   refine jl_nil ?_
                   refine jn_next ?_
                   refine jn1 9 (by kernel_rfl) rfl ?_
                   refine jl_op rfl rfl (.none rfl) (v_fieldAddr rfl Try.underlying50 (by rfl) (by kernel_rfl) rfl tt) ?_
                   refine jl_nil ?_
                   refine jn_next ?_
                   refine jn1 10 (by kernel_rfl) rfl ?_
                   refine jl_storeBox (i := 3) rfl rfl rfl (by kernel_rfl) rfl rfl rfl rfl rfl ?_
                   refine jl_nil ?_
                   refine jn_next ?_
                   refine jn_end (by kernel_rfl) ?_
                   exact jq_mid (s23, (A28, c28)) (fs_cons rfl (fs_cons rfl (fs_cons rfl (fs_cons rfl (fs_cons rfl fs_nil))))) (fun w h => by rw [← tab_upd]; exact h.sub (.cons _ (List.Sublist.refl _)))
                 · refine jl_op rfl rfl (.none rfl) (v_i2f rfl rfl tt (by rfl) Try.underlying24) ?_
                   refine jl_nil ?_
                   refine jn_next ?_
                   refine jn2 1 6 (by kernel_rfl) rfl rfl ?_ ?_
                   · refine jl_op rfl rfl (.none rfl) (v_loadBox rfl Try.underlying34 (by rfl) rfl tt (by (repeat first | exact m0 | refine List.Mem.tail _ ?_); first | done | fail) (by rfl)) ?_
                     refine jl_nil ?_
                     refine jn_next ?_
                     refine jn1 6 (by kernel_rfl) rfl ?_
                     refine jl_op rfl rfl (.none rfl) (v_farith rfl rfl rfl rfl tt tt) ?_
                     refine jl_nil ?_
                     refine jn_next ?_
                     refine jn1 7 (by kernel_rfl) rfl ?_
                     refine jl_x1 rfl rfl rfl (x_lit (Ws := [_]) (Z := F 0) rfl Try.underlying34 (by kernel_rfl) zero24 rfl rfl (ev_cons rfl tt ev_nil) rfl rfl rfl rfl) (fun b27 => ?_)
                     refine jl_nil ?_
                     refine jn_next ?_
                     refine jn1 8 (by kernel_rfl) rfl ?_
                     refine jl_append (i := 1) (by' := 4) (Z := F 0) rfl rfl rfl rfl Try.underlying34 (by kernel_rfl) zero24 rfl (by kernel_rfl) (by rfl) rfl rfl rfl (fun w hI => hI.vecRo m0) (tab_length ..).symm rfl (by omega) (fun A28 c28 => ?_)
                     refine jl_nil ?_
                     refine jn_next ?_
                     refine jn1 9 (by kernel_rfl) rfl ?_
                     refine jl_op rfl rfl (.none rfl) (v_fieldAddr rfl Try.underlying50 (by rfl) (by kernel_rfl) rfl tt) ?_
                     refine jl_nil ?_
                     refine jn_next ?_
                     refine jn1 10 (by kernel_rfl) rfl ?_
                     refine jl_storeBox (i := 3) rfl rfl rfl (by kernel_rfl) rfl rfl rfl rfl rfl ?_
                     refine jl_nil ?_
                     refine jn_next ?_
                     refine jn_end (by kernel_rfl) ?_
                     exact jq_mid (s23, (A28, c28)) (fs_cons rfl (fs_cons rfl (fs_cons rfl (fs_cons rfl (fs_cons rfl fs_nil))))) (fun w h => by rw [← tab_upd]; exact h.sub (.cons _ (List.Sublist.refl _)))
                   · refine jl_op rfl rfl (.none rfl) (v_farith rfl rfl rfl rfl tt tt) ?_
                     refine jl_nil ?_
                     refine jn_next ?_
                     refine jn2 1 7 (by kernel_rfl) rfl rfl ?_ ?_
                     · refine jl_op rfl rfl (.none rfl) (v_loadBox rfl Try.underlying34 (by rfl) rfl tt (by (repeat first | exact m0 | refine List.Mem.tail _ ?_); first | done | fail) (by rfl)) ?_
                       refine jl_nil ?_
                       refine jn_next ?_
                       refine jn1 7 (by kernel_rfl) rfl ?_
                       refine jl_x1 rfl rfl rfl (x_lit (Ws := [_]) (Z := F 0) rfl Try.underlying34 (by kernel_rfl) zero24 rfl rfl (ev_cons rfl tt ev_nil) rfl rfl rfl rfl) (fun b27 => ?_)
                       refine jl_nil ?_
                       refine jn_next ?_
                       refine jn1 8 (by kernel_rfl) rfl ?_
                       refine jl_append (i := 1) (by' := 4) (Z := F 0) rfl rfl rfl rfl Try.underlying34 (by kernel_rfl) zero24 rfl (by kernel_rfl) (by rfl) rfl rfl rfl (fun w hI => hI.vecRo m0) (tab_length ..).symm rfl (by omega) (fun A28 c28 => ?_)
                       refine jl_nil ?_
                       refine jn_next ?_
                       refine jn1 9 (by kernel_rfl) rfl ?_
                       refine jl_op rfl rfl (.none rfl) (v_fieldAddr rfl Try.underlying50 (by rfl) (by kernel_rfl) rfl tt) ?_
                       refine jl_nil ?_
                       refine jn_next ?_
                       refine jn1 10 (by kernel_rfl) rfl ?_
                       refine jl_storeBox (i := 3) rfl rfl rfl (by kernel_rfl) rfl rfl rfl rfl rfl ?_
                       refine jl_nil ?_
                       refine jn_next ?_
                       refine jn_end (by kernel_rfl) ?_
                       exact jq_mid (s23, (A28, c28)) (fs_cons rfl (fs_cons rfl (fs_cons rfl (fs_cons rfl (fs_cons rfl fs_nil))))) (fun w h => by rw [← tab_upd]; exact h.sub (.cons _ (List.Sublist.refl _)))
                     · refine jl_x1 rfl rfl rfl (x_lit (Ws := [_]) (Z := F 0) rfl Try.underlying34 (by kernel_rfl) zero24 rfl rfl (ev_cons rfl tt ev_nil) rfl rfl rfl rfl) (fun b27 => ?_)
                       refine jl_nil ?_
                       refine jn_next ?_
                       refine jn1 1 (by kernel_rfl) rfl ?_
                       refine jl_op rfl rfl (.none rfl) (v_loadBox rfl Try.underlying34 (by rfl) rfl tt (by (repeat first | exact m0 | refine List.Mem.tail _ ?_); first | done | fail) (by rfl)) ?_
                       refine jl_nil ?_
                       refine jn_next ?_
                       refine jn1 8 (by kernel_rfl) rfl ?_
                       refine jl_append (i := 1) (by' := 4) (Z := F 0) rfl rfl rfl rfl Try.underlying34 (by kernel_rfl) zero24 rfl (by kernel_rfl) (by rfl) rfl rfl rfl (fun w hI => hI.vecRo m0) (tab_length ..).symm rfl (by omega) (fun A28 c28 => ?_)
                       refine jl_nil ?_
                       refine jn_next ?_
                       refine jn1 9 (by kernel_rfl) rfl ?_
                       refine jl_op rfl rfl (.none rfl) (v_fieldAddr rfl Try.underlying50 (by rfl) (by kernel_rfl) rfl tt) ?_
                       refine jl_nil ?_
                       refine jn_next ?_
                       refine jn1 10 (by kernel_rfl) rfl ?_
                       refine jl_storeBox (i := 3) rfl rfl rfl (by kernel_rfl) rfl rfl rfl rfl rfl ?_
                       refine jl_nil ?_
                       refine jn_next ?_
                       refine jn_end (by kernel_rfl) ?_
                       exact jq_mid (s23, (A28, c28)) (fs_cons rfl (fs_cons rfl (fs_cons rfl (fs_cons rfl (fs_cons rfl fs_nil))))) (fun w h => by rw [← tab_upd]; exact h.sub (.cons _ (List.Sublist.refl _)))
               · refine jl_op rfl rfl (.none rfl) (v_i2f rfl rfl tt (by rfl) Try.underlying24) ?_
                 refine jl_nil ?_
                 refine jn_next ?_
                 refine jn2 0 6 (by kernel_rfl) rfl rfl ?_ ?_
                 · refine jl_op rfl rfl (.none rfl) (v_fieldAddr rfl Try.underlying50 (by rfl) (by kernel_rfl) rfl tt) ?_
                   refine jl_nil ?_
                   refine jn_next ?_
                   refine jn2 1 6 (by kernel_rfl) rfl rfl ?_ ?_
                   · refine jl_op rfl rfl (.none rfl) (v_loadBox rfl Try.underlying34 (by rfl) rfl tt (by (repeat first | exact m0 | refine List.Mem.tail _ ?_); first | done | fail) (by rfl)) ?_
                     refine jl_nil ?_
                     refine jn_next ?_
                     refine jn1 6 (by kernel_rfl) rfl ?_
                     refine jl_op rfl rfl (.none rfl) (v_farith rfl rfl rfl rfl tt tt) ?_
                     refine jl_nil ?_
                     refine jn_next ?_
                     refine jn1 7 (by kernel_rfl) rfl ?_
                     refine jl_x1 rfl rfl rfl (x_lit (Ws := [_]) (Z := F 0) rfl Try.underlying34 (by kernel_rfl) zero24 rfl rfl (ev_cons rfl tt ev_nil) rfl rfl rfl rfl) (fun b27 => ?_)
                     refine jl_nil ?_
                     refine jn_next ?_
                     refine jn1 8 (by kernel_rfl) rfl ?_
                     refine jl_append (i := 1) (by' := 4) (Z := F 0) rfl rfl rfl rfl Try.underlying34 (by kernel_rfl) zero24 rfl (by kernel_rfl) (by rfl) rfl rfl rfl (fun w hI => hI.vecRo m0) (tab_length ..).symm rfl (by omega) (fun A28 c28 => ?_)
                     refine jl_nil ?_
                     refine jn_next ?_
                     refine jn1 9 (by kernel_rfl) rfl ?_
                     refine jl_op rfl rfl (.none rfl) (v_fieldAddr rfl Try.underlying50 (by rfl) (by kernel_rfl) rfl tt) ?_
                     refine jl_nil ?_
                     refine jn_next ?_
                     refine jn1 10 (by kernel_rfl) rfl ?_
                     refine jl_storeBox (i := 3) rfl rfl rfl (by kernel_rfl) rfl rfl rfl rfl rfl ?_
                     refine jl_nil ?_
                     refine jn_next ?_
                     refine jn_end (by kernel_rfl) ?_
                     exact jq_mid (s23, (A28, c28)) (fs_cons rfl (fs_cons rfl (fs_cons rfl (fs_cons rfl (fs_cons rfl fs_nil))))) (fun w h => by rw [← tab_upd]; exact h.sub (.cons _ (List.Sublist.refl _)))
                   · refine jl_op rfl rfl (.none rfl) (v_farith rfl rfl rfl rfl tt tt) ?_
                     refine jl_nil ?_
                     refine jn_next ?_
                     refine jn2 1 7 (by kernel_rfl) rfl rfl ?_ ?_
                     · refine jl_op rfl rfl (.none rfl) (v_loadBox rfl Try.underlying34 (by rfl) rfl tt (by (repeat first | exact m0 | refine List.Mem.tail _ ?_); first | done | fail) (by rfl)) ?_
                       refine jl_nil ?_
                       refine jn_next ?_
                       refine jn1 7 (by kernel_rfl) rfl ?_
                       refine jl_x1 rfl rfl rfl (x_lit (Ws := [_]) (Z := F 0) rfl Try.underlying34 (by kernel_rfl) zero24 rfl rfl (ev_cons rfl tt ev_nil) rfl rfl rfl rfl) (fun b27 => ?_)
                       refine jl_nil ?_
                       refine jn_next ?_
                       refine jn1 8 (by kernel_rfl) rfl ?_
                       refine jl_append (i := 1) (by' := 4) (Z := F 0) rfl rfl rfl rfl Try.underlying34 (by kernel_rfl) zero24 rfl (by kernel_rfl) (by rfl) rfl rfl rfl (fun w hI => hI.vecRo m0) (tab_length ..).symm rfl (by omega) (fun A28 c28 => ?_)
                       refine jl_nil ?_
                       refine jn_next ?_
                       refine jn1 9 (by kernel_rfl) rfl ?_
                       refine jl_op rfl rfl (.none rfl) (v_fieldAddr rfl Try.underlying50 (by rfl) (by kernel_rfl) rfl tt) ?_
                       refine jl_nil ?_
                       refine jn_next ?_
                       refine jn1 10 (by kernel_rfl) rfl ?_
                       refine jl_storeBox (i := 3) rfl rfl rfl (by kernel_rfl) rfl rfl rfl rfl rfl ?_
                       refine jl_nil ?_
                       refine jn_next ?_
                       refine jn_end (by kernel_rfl) ?_
                       exact jq_mid (s23, (A28, c28)) (fs_cons rfl (fs_cons rfl (fs_cons rfl (fs_cons rfl (fs_cons rfl fs_nil))))) (fun w h => by rw [← tab_upd]; exact h.sub (.cons _ (List.Sublist.refl _)))
                     · refine jl_x1 rfl rfl rfl (x_lit (Ws := [_]) (Z := F 0) rfl Try.underlying34 (by kernel_rfl) zero24 rfl rfl (ev_cons rfl tt ev_nil) rfl rfl rfl rfl) (fun b27 => ?_)
                       refine jl_nil ?_
                       refine jn_next ?_
                       refine jn1 1 (by kernel_rfl) rfl ?_
                       refine jl_op rfl rfl (.none rfl) (v_loadBox rfl Try.underlying34 (by rfl) rfl tt (by (repeat first | exact m0 | refine List.Mem.tail _ ?_); first | done | fail) (by rfl)) ?_
                       refine jl_nil ?_
                       refine jn_next ?_
                       refine jn1 8 (by kernel_rfl) rfl ?_
                       refine jl_append (i := 1) (by' := 4) (Z := F 0) rfl rfl rfl rfl Try.underlying34 (by kernel_rfl) zero24 rfl (by kernel_rfl) (by rfl) rfl rfl rfl (fun w hI => hI.vecRo m0) (tab_length ..).symm rfl (by omega) (fun A28 c28 => ?_)
                       refine jl_nil ?_
                       refine jn_next ?_
                       refine jn1 9 (by kernel_rfl) rfl ?_
                       refine jl_op rfl rfl (.none rfl) (v_fieldAddr rfl Try.underlying50 (by rfl) (by kernel_rfl) rfl tt) ?_
                       refine jl_nil ?_
                       refine jn_next ?_
                       refine jn1 10 (by kernel_rfl) rfl ?_
                       refine jl_storeBox (i := 3) rfl rfl rfl (by kernel_rfl) rfl rfl rfl rfl rfl ?_
                       refine jl_nil ?_
                       refine jn_next ?_
                       refine jn_end (by kernel_rfl) ?_
                       exact jq_mid (s23, (A28, c28)) (fs_cons rfl (fs_cons rfl (fs_cons rfl (fs_cons rfl (fs_cons rfl fs_nil))))) (fun w h => by rw [← tab_upd]; exact h.sub (.cons _ (List.Sublist.refl _)))
                 · refine jl_op rfl rfl (.none rfl) (v_farith rfl rfl rfl rfl tt tt) ?_
                   refine jl_nil ?_
                   refine jn_next ?_
                   refine jn2 0 7 (by kernel_rfl) rfl rfl ?_ ?_
                   · refine jl_op rfl rfl (.none rfl) (v_fieldAddr rfl Try.underlying50 (by rfl) (by kernel_rfl) rfl tt) ?_
                     refine jl_nil ?_
                     refine jn_next ?_
                     refine jn2 1 7 (by kernel_rfl) rfl rfl ?_ ?_
                     · refine jl_op rfl rfl (.none rfl) (v_loadBox rfl Try.underlying34 (by rfl) rfl tt (by (repeat first | exact m0 | refine List.Mem.tail _ ?_); first | done | fail) (by rfl)) ?_
                       refine jl_nil ?_
                       refine jn_next ?_
                       refine jn1 7 (by kernel_rfl) rfl ?_
                       refine jl_x1 rfl rfl rfl (x_lit (Ws := [_]) (Z := F 0) rfl Try.underlying34 (by kernel_rfl) zero24 rfl rfl (ev_cons rfl tt ev_nil) rfl rfl rfl rfl) (fun b27 => ?_)
                       refine jl_nil ?_
                       refine jn_next ?_
                       refine jn1 8 (by kernel_rfl) rfl ?_
                       refine jl_append (i := 1) (by' := 4) (Z := F 0) rfl rfl rfl rfl Try.underlying34 (by kernel_rfl) zero24 rfl (by kernel_rfl) (by rfl) rfl rfl rfl (fun w hI => hI.vecRo m0) (tab_length ..).symm rfl (by omega) (fun A28 c28 => ?_)
                       refine jl_nil ?_
                       refine jn_next ?_
                       refine jn1 9 (by kernel_rfl) rfl ?_
                       refine jl_op rfl rfl (.none rfl) (v_fieldAddr rfl Try.underlying50 (by rfl) (by kernel_rfl) rfl tt) ?_
                       refine jl_nil ?_
                       refine jn_next ?_
                       refine jn1 10 (by kernel_rfl) rfl ?_
                       refine jl_storeBox (i := 3) rfl rfl rfl (by kernel_rfl) rfl rfl rfl rfl rfl ?_
                       refine jl_nil ?_
                       refine jn_next ?_
                       refine jn_end (by kernel_rfl) ?_
                       exact jq_mid (s23, (A28, c28)) (fs_cons rfl (fs_cons rfl (fs_cons rfl (fs_cons rfl (fs_cons rfl fs_nil))))) (fun w h => by rw [← tab_upd]; exact h.sub (.cons _ (List.Sublist.refl _)))
                     · refine jl_x1 rfl rfl rfl (x_lit (Ws := [_]) (Z := F 0) rfl Try.underlying34 (by kernel_rfl) zero24 rfl rfl (ev_cons rfl tt ev_nil) rfl rfl rfl rfl) (fun b27 => ?_)
                       refine jl_nil ?_
                       refine jn_next ?_
                       refine jn1 1 (by kernel_rfl) rfl ?_
                       refine jl_op rfl rfl (.none rfl) (v_loadBox rfl Try.underlying34 (by rfl) rfl tt (by (repeat first | exact m0 | refine List.Mem.tail _ ?_); first | done | fail) (by rfl)) ?_
                       refine jl_nil ?_
                       refine jn_next ?_
                       refine jn1 8 (by kernel_rfl) rfl ?_
                       refine jl_append (i := 1) (by' := 4) (Z := F 0) rfl rfl rfl rfl Try.underlying34 (by kernel_rfl) zero24 rfl (by kernel_rfl) (by rfl) rfl rfl rfl (fun w hI => hI.vecRo m0) (tab_length ..).symm rfl (by omega) (fun A28 c28 => ?_)
                       refine jl_nil ?_
                       refine jn_next ?_
                       refine jn1 9 (by kernel_rfl) rfl ?_
                       refine jl_op rfl rfl (.none rfl) (v_fieldAddr rfl Try.underlying50 (by rfl) (by kernel_rfl) rfl tt) ?_
                       refine jl_nil ?_
                       refine jn_next ?_
                       refine jn1 10 (by kernel_rfl) rfl ?_
                       refine jl_storeBox (i := 3) rfl rfl rfl (by kernel_rfl) rfl rfl rfl rfl rfl ?_
                       refine jl_nil ?_
                       refine jn_next ?_
                       refine jn_end (by kernel_rfl) ?_
                       exact jq_mid (s23, (A28, c28)) (fs_cons rfl (fs_cons rfl (fs_cons rfl (fs_cons rfl (fs_cons rfl fs_nil))))) (fun w h => by rw [← tab_upd]; exact h.sub (.cons _ (List.Sublist.refl _)))
                   · refine jl_x1 rfl rfl rfl (x_lit (Ws := [_]) (Z := F 0) rfl Try.underlying34 (by kernel_rfl) zero24 rfl rfl (ev_cons rfl tt ev_nil) rfl rfl rfl rfl) (fun b27 => ?_)
                     refine jl_nil ?_
                     refine jn_next ?_
                     refine jn1 0 (by kernel_rfl) rfl ?_
                     refine jl_op rfl rfl (.none rfl) (v_fieldAddr rfl Try.underlying50 (by rfl) (by kernel_rfl) rfl tt) ?_
                     refine jl_nil ?_
                     refine jn_next ?_
                     refine jn1 1 (by kernel_rfl) rfl ?_
                     refine jl_op rfl rfl (.none rfl) (v_loadBox rfl Try.underlying34 (by rfl) rfl tt (by (repeat first | exact m0 | refine List.Mem.tail _ ?_); first | done | fail) (by rfl)) ?_
                     refine jl_nil ?_
                     refine jn_next ?_
                     refine jn1 8 (by kernel_rfl) rfl ?_
                     refine jl_append (i := 1) (by' := 4) (Z := F 0) rfl rfl rfl rfl Try.underlying34 (by kernel_rfl) zero24 rfl (by kernel_rfl) (by rfl) rfl rfl rfl (fun w hI => hI.vecRo m0) (tab_length ..).symm rfl (by omega) (fun A28 c28 => ?_)
                     refine jl_nil ?_
                     refine jn_next ?_
                     refine jn1 9 (by kernel_rfl) rfl ?_
                     refine jl_op rfl rfl (.none rfl) (v_fieldAddr rfl Try.underlying50 (by rfl) (by kernel_rfl) rfl tt) ?_
                     refine jl_nil ?_
                     refine jn_next ?_
                     refine jn1 10 (by kernel_rfl) rfl ?_
                     refine jl_storeBox (i := 3) rfl rfl rfl (by kernel_rfl) rfl rfl rfl rfl rfl ?_
                     refine jl_nil ?_
                     refine jn_next ?_
                     refine jn_end (by kernel_rfl) ?_
                     exact jq_mid (s23, (A28, c28)) (fs_cons rfl (fs_cons rfl (fs_cons rfl (fs_cons rfl (fs_cons rfl fs_nil))))) (fun w h => by rw [← tab_upd]; exact h.sub (.cons _ (List.Sublist.refl _)))
       intro s; obtain ⟨s23, A28, c28⟩ := s; dsimp only)
    | (refine j_mid (c := .region 7 _ _) (σ := Pk 17 × (Option Addr × Nat)) (fun s => [(3, true, .pointer (some ⟨b3, 0, none⟩)), (4, true, .pointer (some ⟨b4, 0, none⟩)), (5, true, .pointer (some ⟨s9, 0, none⟩)), (6, true, .pointer (some ⟨b6, 0, none⟩)), (7, true, .int .i64 (i))]) (fun s => [.vec 24 A28 c28 (tab (i + 1) (upd h i (farith .quo .f32 (ofInt .f32 (s23.1.1 - 8)) 1082130432))), .vec 24 s.2.1 s.2.2 (tab (i + 1) (upd h2 i (farith .quo .f32 (ofInt .f32 (s.1.1.1 - 8)) 1082130432))), .box b6 50 [.slice A28 (i + 1) c28, .slice s.2.1 (i + 1) s.2.2], srcB s9 143 A N cap (2 * i + 1 + 1) s.1.1.2, .box b4 50 [.slice none 0 0, .slice none 0 0], .box b3 47 [.slice C n cc, F 1065353216, F 1061158912, F 3210739712], .ro A (tabY N g)]) ?_ ?_
       · refine j_drawN (id := 7) (m := 11) (by kernel_rfl) rfl ?_
         refine jn2 0 2 (by kernel_rfl) rfl rfl ?_ ?_
         · refine jl_op rfl rfl (.none rfl) (v_fieldAddr rfl Try.underlying50 (by rfl) (by kernel_rfl) rfl tt) ?_
           refine jl_nil ?_
           refine jn_next ?_
           refine jn2 1 2 (by kernel_rfl) rfl rfl ?_ ?_
           · refine jl_op rfl rfl (.none rfl) (v_loadBox rfl Try.underlying34 (by rfl) rfl tt (by (repeat first | exact m0 | refine List.Mem.tail _ ?_); first | done | fail) (by rfl)) ?_
             refine jl_nil ?_
             refine jn_next ?_
             refine jn1 2 (by kernel_rfl) rfl ?_
             refine jl_op rfl rfl (.none rfl) (v_move rfl rfl tt) ?_
             refine jl_nil ?_
             refine jn_next ?_
             refine jn1 3 (by kernel_rfl) rfl ?_
             refine jl_g (i := 3) (f := 79) (xs := [_, _]) rfl rfl rfl rfl (c_srcPick s9 A N cap g (2 * i + 1) _ 17 (by omega) (by omega) (by omega) hg) (ev_cons rfl tt (ev_cons rfl tt ev_nil)) rfl rfl (fun _ => rfl) (fun w hI => hI.rovRo 6 3 rfl rfl rfl rov_nil) (fun s33 => ?_)
             refine jl_nil ?_
             refine jn_next ?_
             refine jn1 4 (by kernel_rfl) rfl ?_
             refine jl_op rfl rfl (.none rfl) (v_iarith' (Z := s33.1.1 - 8) rfl rfl rfl rfl tt tt (fun _ => (iw_sub (by have := s33.2; omega)))) ?_
             refine jl_nil ?_
             refine jn_next ?_
             refine jn1 5 (by kernel_rfl) rfl ?_
             refine jl_op rfl rfl (.none rfl) (v_i2f rfl rfl tt (by rfl) Try.underlying24) ?_
             refine jl_nil ?_
             refine jn_next ?_
             refine jn1 6 (by kernel_rfl) rfl ?_
             refine jl_op rfl rfl (.none rfl) (v_farith rfl rfl rfl rfl tt tt) ?_
             refine jl_nil ?_
             refine jn_next ?_
             refine jn1 7 (by kernel_rfl) rfl ?_
             refine jl_x1 rfl rfl rfl (x_lit (Ws := [_]) (Z := F 0) rfl Try.underlying34 (by kernel_rfl) zero24 rfl rfl (ev_cons rfl tt ev_nil) rfl rfl rfl rfl) (fun b37 => ?_)
             refine jl_nil ?_
             refine jn_next ?_
             refine jn1 8 (by kernel_rfl) rfl ?_
             refine jl_append (i := 2) (by' := 4) (Z := F 0) rfl rfl rfl rfl Try.underlying34 (by kernel_rfl) zero24 rfl (by kernel_rfl) (by rfl) rfl rfl rfl (fun w hI => hI.vecRo m0) (tab_length ..).symm rfl (by omega) (fun A38 c38 => ?_)
             refine jl_nil ?_
             refine jn_next ?_
             refine jn1 9 (by kernel_rfl) rfl ?_
             refine jl_op rfl rfl (.none rfl) (v_fieldAddr rfl Try.underlying50 (by rfl) (by kernel_rfl) rfl tt) ?_
             refine jl_nil ?_
             refine jn_next ?_
             refine jn1 10 (by kernel_rfl) rfl ?_
             refine jl_storeBox (i := 3) rfl rfl rfl (by kernel_rfl) rfl rfl rfl rfl rfl ?_
             refine jl_nil ?_
             refine jn_next ?_
             refine jn_end (by kernel_rfl) ?_
             exact jq_mid (s33, (A38, c38)) (fs_cons rfl (fs_cons rfl (fs_cons rfl (fs_cons rfl (fs_cons rfl fs_nil))))) (fun w h => by rw [← tab_upd (h := h2)]; exact h.sub (.cons _ (List.Sublist.refl _)))
           · refine jl_op rfl rfl (.none rfl) (v_move rfl rfl tt) ?_
             refine jl_nil ?_
             refine jn_next ?_
             refine jn2 1 3 (by kernel_rfl) rfl rfl ?_ ?_
             · refine jl_op rfl rfl (.none rfl) (v_loadBox rfl Try.underlying34 (by rfl) rfl tt (by (repeat first | exact m0 | refine List.Mem.tail _ ?_); first | done | fail) (by rfl)) ?_
               refine jl_nil ?_
               refine jn_next ?_
               refine jn1 3 (by kernel_rfl) rfl ?_
               refine jl_g (i := 3) (f := 79) (xs := [_, _]) rfl rfl rfl rfl (c_srcPick s9 A N cap g (2 * i + 1) _ 17 (by omega) (by omega) (by omega) hg) (ev_cons rfl tt (ev_cons rfl tt ev_nil)) rfl rfl (fun _ => rfl) (fun w hI => hI.rovRo 6 3 rfl rfl rfl rov_nil) (fun s33 => ?_)
               refine jl_nil ?_
               refine jn_next ?_
               refine jn1 4 (by kernel_rfl) rfl ?_
               refine jl_op rfl rfl (.none rfl) (v_iarith' (Z := s33.1.1 - 8) rfl rfl rfl rfl tt tt (fun _ => (iw_sub (by have := s33.2; omega)))) ?_
               refine jl_nil ?_
               refine jn_next ?_
               refine jn1 5 (by kernel_rfl) rfl ?_
               refine jl_op rfl rfl (.none rfl) (v_i2f rfl rfl tt (by rfl) Try.underlying24) ?_
               refine jl_nil ?_
               refine jn_next ?_
               refine jn1 6 (by kernel_rfl) rfl ?_
               refine jl_op rfl rfl (.none rfl) (v_farith rfl rfl rfl rfl tt tt) ?_
               refine jl_nil ?_
               refine jn_next ?_
               refine jn1 7 (by kernel_rfl) rfl ?_
               refine jl_x1 rfl rfl rfl (x_lit (Ws := [_]) (Z := F 0) rfl Try.underlying34 (by kernel_rfl) zero24 rfl rfl (ev_cons rfl tt ev_nil) rfl rfl rfl rfl) (fun b37 => ?_)
               refine jl_nil ?_
               refine jn_next ?_
               refine jn1 8 (by kernel_rfl) rfl ?_
               refine jl_append (i := 2) (by' := 4) (Z := F 0) rfl rfl rfl rfl Try.underlying34 (by kernel_rfl) zero24 rfl (by kernel_rfl) (by rfl) rfl rfl rfl (fun w hI => hI.vecRo m0) (tab_length ..).symm rfl (by omega) (fun A38 c38 => ?_)
               refine jl_nil ?_
               refine jn_next ?_
               refine jn1 9 (by kernel_rfl) rfl ?_
               refine jl_op rfl rfl (.none rfl) (v_fieldAddr rfl Try.underlying50 (by rfl) (by kernel_rfl) rfl tt) ?_
               refine jl_nil ?_
               refine jn_next ?_
               refine jn1 10 (by kernel_rfl) rfl ?_
               refine jl_storeBox (i := 3) rfl rfl rfl (by kernel_rfl) rfl rfl rfl rfl rfl ?_
               refine jl_nil ?_
               refine jn_next ?_
               refine jn_end (by kernel_rfl) ?_
               exact jq_mid (s33, (A38, c38)) (fs_cons rfl (fs_cons rfl (fs_cons rfl (fs_cons rfl (fs_cons rfl fs_nil))))) (fun w h => by rw [← tab_upd (h := h2)]; exact h.sub (.cons _ (List.Sublist.refl _)))
             · refine jl_g (i := 3) (f := 79) (xs := [_, _]) rfl rfl rfl rfl (c_srcPick s9 A N cap g (2 * i + 1) _ 17 (by omega) (by omega) (by omega) hg) (ev_cons rfl tt (ev_cons rfl tt ev_nil)) rfl rfl (fun _ => rfl) (fun w hI => hI.rovRo 6 3 rfl rfl rfl rov_nil) (fun s33 => ?_)
               refine jl_nil ?_
               refine jn_next ?_
               refine jn2 1 4 (by kernel_rfl) rfl rfl ?_ ?_
               · refine jl_op rfl rfl (.none rfl) (v_loadBox rfl Try.underlying34 (by rfl) rfl tt (by (repeat first | exact m0 | refine List.Mem.tail _ ?_); first | done | fail) (by rfl)) ?_
                 refine jl_nil ?_
                 refine jn_next ?_
                 refine jn1 4 (by kernel_rfl) rfl ?_
                 refine jl_op rfl rfl (.none rfl) (v_iarith' (Z := s33.1.1 - 8) rfl rfl rfl rfl tt tt (fun _ => (iw_sub (by have := s33.2; omega)))) ?_
                 refine jl_nil ?_
                 refine jn_next ?_
                 refine jn1 5 (by kernel_rfl) rfl ?_
                 refine jl_op rfl rfl (.none rfl) (v_i2f rfl rfl tt (by rfl) Try.underlying24) ?_
                 refine jl_nil ?_
                 refine jn_next ?_
                 refine jn1 6 (by kernel_rfl) rfl ?_
                 refine jl_op rfl rfl (.none rfl) (v_farith rfl rfl rfl rfl tt tt) ?_
                 refine jl_nil ?_
                 refine jn_next ?_
                 refine jn1 7 (by kernel_rfl) rfl ?_
                 refine jl_x1 rfl rfl rfl (x_lit (Ws := [_]) (Z := F 0) rfl Try.underlying34 (by kernel_rfl) zero24 rfl rfl (ev_cons rfl tt ev_nil) rfl rfl rfl rfl) (fun b37 => ?_)
                 refine jl_nil ?_
                 refine jn_next ?_
                 refine jn1 8 (by kernel_rfl) rfl ?_
                 refine jl_append (i := 2) (by' := 4) (Z := F 0) rfl rfl rfl rfl Try.underlying34 (by kernel_rfl) zero24 rfl (by kernel_rfl) (by rfl) rfl rfl rfl (fun w hI => hI.vecRo m0) (tab_length ..).symm rfl (by omega) (fun A38 c38 => ?_)
                 refine jl_nil ?_
                 refine jn_next ?_
                 refine jn1 9 (by kernel_rfl) rfl ?_
                 refine jl_op rfl rfl (.none rfl) (v_fieldAddr rfl Try.underlying50 (by rfl) (by kernel_rfl) rfl tt) ?_
                 refine jl_nil ?_
                 refine jn_next ?_
                 refine jn1 10 (by kernel_rfl) rfl ?_
                 refine jl_storeBox (i := 3) rfl rfl rfl (by kernel_rfl) rfl rfl rfl rfl rfl ?_
                 refine jl_nil ?_
                 refine jn_next ?_
                 refine jn_end (by kernel_rfl) ?_
                 exact jq_mid (s33, (A38, c38)) (fs_cons rfl (fs_cons rfl (fs_cons rfl (fs_cons rfl (fs_cons rfl fs_nil))))) (fun w h => by rw [← tab_upd (h := h2)]; exact h.sub (.cons _ (List.Sublist.refl _)))
               · refine jl_op rfl rfl (.none rfl) (v_iarith' (Z := s33.1.1 - 8) rfl rfl rfl rfl tt tt (fun _ => (iw_sub (by have := s33.2; omega)))) ?_
                 refine jl_nil ?_
                 refine jn_next ?_
                 refine jn2 1 5 (by kernel_rfl) rfl rfl ?_ ?_
                 · refine jl_op rfl rfl (.none rfl) (v_loadBox rfl Try.underlying34 (by rfl) rfl tt (by (repeat first | exact m0 | refine List.Mem.tail _ ?_); first | done | fail) (by rfl)) ?_
                   refine jl_nil ?_
                   refine jn_next ?_
                   refine jn1 5 (by kernel_rfl) rfl ?_
                   refine jl_op rfl rfl (.none rfl) (v_i2f rfl rfl tt (by rfl) Try.underlying24) ?_
                   refine jl_nil ?_
                   refine jn_next ?_
                   refine jn1 6 (by kernel_rfl) rfl ?_
                   refine jl_op rfl rfl (.none rfl) (v_farith rfl rfl rfl rfl tt tt) ?_
                   refine jl_nil ?_
                   refine jn_next ?_
                   refine jn1 7 (by kernel_rfl) rfl ?_
                   refine jl_x1 rfl rfl rfl (x_lit (Ws := [_]) (Z := F 0) rfl Try.underlying34 (by kernel_rfl) zero24 rfl rfl (ev_cons rfl tt ev_nil) rfl rfl rfl rfl) (fun b37 => ?_)
                   refine jl_nil ?_
                   refine jn_next ?_
                   refine jn1 8 (by kernel_rfl) rfl ?_
                   refine jl_append (i := 2) (by' := 4) (Z := F 0) rfl rfl rfl rfl Try.underlying34 (by kernel_rfl) zero24 rfl (by kernel_rfl) (by rfl) rfl rfl rfl (fun w hI => hI.vecRo m0) (tab_length ..).symm rfl (by omega) (fun A38 c38 => ?_)
                   refine jl_nil ?_
                   refine jn_next ?_
                   refine jn1 9 (by kernel_rfl) rfl ?_
                   refine jl_op rfl rfl (.none rfl) (v_fieldAddr rfl Try.underlying50 (by rfl) (by kernel_rfl) rfl tt) ?_
                   refine jl_nil ?_
                   refine jn_next ?_
                   refine jn1 10 (by kernel_rfl) rfl ?_
                   refine jl_storeBox (i := 3) rfl rfl rfl (by kernel_rfl) rfl rfl rfl rfl rfl ?_
                   refine jl_nil ?_
                   refine jn_next ?_
                   refine jn_end (by kernel_rfl) ?_
                   exact jq_mid (s33, (A38, c38)) (fs_cons rfl (fs_cons rfl (fs_cons rfl (fs_cons rfl (fs_cons rfl fs_nil))))) (fun w h => by rw [← tab_upd (h := h2)]; exact h.sub (.cons _ (List.Sublist.refl _)))
                 · refine jl_op rfl rfl (.none rfl) (v_i2f rfl rfl tt (by rfl) Try.underlying24) ?_
                   refine jl_nil ?_
                   refine jn_next ?_
                   refine jn2 1 6 (by kernel_rfl) rfl rfl ?_ ?_
                   · refine jl_op rfl rfl (.none rfl) (v_loadBox rfl Try.underlying34 (by rfl) rfl tt (by (repeat first | exact m0 | refine List.Mem.tail _ ?_); first | done | fail) (by rfl)) ?_
                     refine jl_nil ?_
                     refine jn_next ?_
                     refine jn1 6 (by kernel_rfl) rfl ?_
                     refine jl_op rfl rfl (.none rfl) (v_farith rfl rfl rfl rfl tt tt) ?_
                     refine jl_nil ?_
                     refine jn_next ?_
                     refine jn1 7 (by kernel_rfl) rfl ?_
                     refine jl_x1 rfl rfl rfl (x_lit (Ws := [_]) (Z := F 0) rfl Try.underlying34 (by kernel_rfl) zero24 rfl rfl (ev_cons rfl tt ev_nil) rfl rfl rfl rfl) (fun b37 => ?_)
                     refine jl_nil ?_
                     refine jn_next ?_
                     refine jn1 8 (by kernel_rfl) rfl ?_
                     refine jl_append (i := 2) (by' := 4) (Z := F 0) rfl rfl rfl rfl Try.underlying34 (by kernel_rfl) zero24 rfl (by kernel_rfl) (by rfl) rfl rfl rfl (fun w hI => hI.vecRo m0) (tab_length ..).symm rfl (by omega) (fun A38 c38 => ?_)
                     refine jl_nil ?_
                     refine jn_next ?_
                     refine jn1 9 (by kernel_rfl) rfl ?_
                     refine jl_op rfl rfl (.none rfl) (v_fieldAddr rfl Try.underlying50 (by rfl) (by kernel_rfl) rfl tt) ?_
                     refine jl_nil ?_
                     refine jn_next ?_
                     refine jn1 10 (by kernel_rfl) rfl ?_
                     refine jl_storeBox (i := 3) rfl rfl rfl (by kernel_rfl) rfl rfl rfl rfl rfl ?_
                     refine jl_nil ?_
                     refine jn_next ?_
                     refine jn_end (by kernel_rfl) ?_
                     exact jq_mid (s33, (A38, c38)) (fs_cons rfl (fs_cons rfl (fs_cons rfl (fs_cons rfl (fs_cons rfl fs_nil))))) (fun w h => by rw [← tab_upd (h := h2)]; exact h.sub (.cons _ (List.Sublist.refl _)))
                   · refine jl_op rfl rfl (.none rfl) (v_farith rfl rfl rfl rfl tt tt) ?_
                     refine jl_nil ?_
                     refine jn_next ?_
                     refine jn2 1 7 (by kernel_rfl) rfl rfl ?_ ?_
                     · refine jl_op rfl rfl (.none rfl) (v_loadBox rfl Try.underlying34 (by rfl) rfl tt (by (repeat first | exact m0 | refine List.Mem.tail _ ?_); first | done | fail) (by rfl)) ?_
                       refine jl_nil ?_
                       refine jn_next ?_
                       refine jn1 7 (by kernel_rfl) rfl ?_
                       refine jl_x1 rfl rfl rfl (x_lit (Ws := [_]) (Z := F 0) rfl Try.underlying34 (by kernel_rfl) zero24 rfl rfl (ev_cons rfl tt ev_nil) rfl rfl rfl rfl) (fun b37 => ?_)
                       refine jl_nil ?_
                       refine jn_next ?_
                       refine jn1 8 (by kernel_rfl) rfl ?_
                       refine jl_append (i := 2) (by' := 4) (Z := F 0) rfl rfl rfl rfl Try.underlying34 (by kernel_rfl) zero24 rfl (by kernel_rfl) (by rfl) rfl rfl rfl (fun w hI => hI.vecRo m0) (tab_length ..).symm rfl (by omega) (fun A38 c38 => ?_)
                       refine jl_nil ?_
                       refine jn_next ?_
                       refine jn1 9 (by kernel_rfl) rfl ?_
                       refine jl_op rfl rfl (.none rfl) (v_fieldAddr rfl Try.underlying50 (by rfl) (by kernel_rfl) rfl tt) ?_
                       refine jl_nil ?_
                       refine jn_next ?_
                       refine jn1 10 (by kernel_rfl) rfl ?_
                       refine jl_storeBox (i := 3) rfl rfl rfl (by kernel_rfl) rfl rfl rfl rfl rfl ?_
                       refine jl_nil ?_
                       refine jn_next ?_
                       refine jn_end (by kernel_rfl) ?_
                       exact jq_mid (s33, (A38, c38)) (fs_cons rfl (fs_cons rfl (fs_cons rfl (fs_cons rfl (fs_cons rfl fs_nil))))) (fun w h => by rw [← tab_upd (h := h2)]; exact h.sub (.cons _ (List.Sublist.refl _)))
                     · refine jl_x1 rfl rfl rfl (x_lit (Ws := [_]) (Z := F 0) rfl Try.underlying34 (by kernel_rfl) zero24 rfl rfl (ev_cons rfl tt ev_nil) rfl rfl rfl rfl) (fun b37 => ?_)
                       refine jl_nil ?_
                       refine jn_next ?_
                       refine jn1 1 (by kernel_rfl) rfl ?_
                       refine jl_op rfl rfl (.none rfl) (v_loadBox rfl Try.underlying34 (by rfl) rfl tt (by (repeat first | exact m0 | refine List.Mem.tail _ ?_); first | done | fail) (by rfl)) ?_
                       refine jl_nil ?_
                       refine jn_next ?_
                       refine jn1 8 (by kernel_rfl) rfl ?_
                       refine jl_append (i := 2) (by' := 4) (Z := F 0) rfl rfl rfl rfl Try.underlying34 (by kernel_rfl) zero24 rfl (by kernel_rfl) (by rfl) rfl rfl rfl (fun w hI => hI.vecRo m0) (tab_length ..).symm rfl (by omega) (fun A38 c38 => ?_)
                       refine jl_nil ?_
                       refine jn_next ?_
                       refine jn1 9 (by kernel_rfl) rfl ?_
                       refine jl_op rfl rfl (.none rfl) (v_fieldAddr rfl Try.underlying50 (by rfl) (by kernel_rfl) rfl tt) ?_
                       refine jl_nil ?_
                       refine jn_next ?_
                       refine jn1 10 (by kernel_rfl) rfl ?_
                       refine jl_storeBox (i := 3) rfl rfl rfl (by kernel_rfl) rfl rfl rfl rfl rfl ?_
                       refine jl_nil ?_
                       refine jn_next ?_
                       refine jn_end (by kernel_rfl) ?_
                       exact jq_mid (s33, (A38, c38)) (fs_cons rfl (fs_cons rfl (fs_cons rfl (fs_cons rfl (fs_cons rfl fs_nil))))) (fun w h => by rw [← tab_upd (h := h2)]; exact h.sub (.cons _ (List.Sublist.refl _)))
         · refine jl_op rfl rfl (.none rfl) (v_move rfl rfl tt) ?_
           refine jl_nil ?_
           refine jn_next ?_
           refine jn2 0 3 (by kernel_rfl) rfl rfl ?_ ?_
           · refine jl_op rfl rfl (.none rfl) (v_fieldAddr rfl Try.underlying50 (by rfl) (by kernel_rfl) rfl tt) ?_
             refine jl_nil ?_
             refine jn_next ?_
             refine jn2 1 3 (by kernel_rfl) rfl rfl ?_ ?_
             · refine jl_op rfl rfl (.none rfl) (v_loadBox rfl Try.underlying34 (by rfl) rfl tt (by (repeat first | exact m0 | refine List.Mem.tail _ ?_); first | done | fail) (by rfl)) ?_
               refine jl_nil ?_
               refine jn_next ?_
               refine jn1 3 (by kernel_rfl) rfl ?_
               refine jl_g (i := 3) (f := 79) (xs := [_, _]) rfl rfl rfl rfl (c_srcPick s9 A N cap g (2 * i + 1) _ 17 (by omega) (by omega) (by omega) hg) (ev_cons rfl tt (ev_cons rfl tt ev_nil)) rfl rfl (fun _ => rfl) (fun w hI => hI.rovRo 6 3 rfl rfl rfl rov_nil) (fun s33 => ?_)
               refine jl_nil ?_
               refine jn_next ?_
               refine jn1 4 (by kernel_rfl) rfl ?_
               refine jl_op rfl rfl (.none rfl) (v_iarith' (Z := s33.1.1 - 8) rfl rfl rfl rfl tt tt (fun _ => (iw_sub (by have := s33.2; omega)))) ?_
               refine jl_nil ?_
               refine jn_next ?_
               refine jn1 5 (by kernel_rfl) rfl ?_
               refine jl_op rfl rfl (.none rfl) (v_i2f rfl rfl tt (by rfl) Try.underlying24) ?_
               refine jl_nil ?_
               refine jn_next ?_
               refine jn1 6 (by kernel_rfl) rfl ?_
               refine jl_op rfl rfl (.none rfl) (v_farith rfl rfl rfl rfl tt tt) ?_
               refine jl_nil ?_
               refine jn_next ?_
               refine jn1 7 (by kernel_rfl) rfl ?_
               refine jl_x1 rfl rfl rfl (x_lit (Ws := [_]) (Z := F 0) rfl Try.underlying34 (by kernel_rfl) zero24 rfl rfl (ev_cons rfl tt ev_nil) rfl rfl rfl rfl) (fun b37 => ?_)
               refine jl_nil ?_
               refine jn_next ?_
               refine jn1 8 (by kernel_rfl) rfl ?_
               refine jl_append (i := 2) (by' := 4) (Z := F 0) rfl rfl rfl rfl Try.underlying34 (by kernel_rfl) zero24 rfl (by kernel_rfl) (by rfl) rfl rfl rfl (fun w hI => hI.vecRo m0) (tab_length ..).symm rfl (by omega) (fun A38 c38 => ?_)
               refine jl_nil ?_
               refine jn_next ?_
               refine jn1 9 (by kernel_rfl) rfl ?_
               refine jl_op rfl rfl (.none rfl) (v_fieldAddr rfl Try.underlying50 (by rfl) (by kernel_rfl) rfl tt) ?_
               refine jl_nil ?_
               refine jn_next ?_
               refine jn1 10 (by kernel_rfl) rfl ?_
               refine jl_storeBox (i := 3) rfl rfl rfl (by kernel_rfl) rfl rfl rfl rfl rfl ?_
               refine jl_nil ?_
               refine jn_next ?_
               refine jn_end (by kernel_rfl) ?_
               exact jq_mid (s33, (A38, c38)) (fs_cons rfl (fs_cons rfl (fs_cons rfl (fs_cons rfl (fs_cons rfl fs_nil))))) (fun w h => by rw [← tab_upd (h := h2)]; exact h.sub (.cons _ (List.Sublist.refl _)))
             · refine jl_g (i := 3) (f := 79) (xs := [_, _]) rfl rfl rfl rfl (c_srcPick s9 A N cap g (2 * i + 1) _ 17 (by omega) (by omega) (by omega) hg) (ev_cons rfl tt (ev_cons rfl tt ev_nil)) rfl rfl (fun _ => rfl) (fun w hI => hI.rovRo 6 3 rfl rfl rfl rov_nil) (fun s33 => ?_)
               refine jl_nil ?_
               refine jn_next ?_
               refine jn2 1 4 (by kernel_rfl) rfl rfl ?_ ?_
               · refine jl_op rfl rfl (.none rfl) (v_loadBox rfl Try.underlying34 (by rfl) rfl tt (by (repeat first | exact m0 | refine List.Mem.tail _ ?_); first | done | fail) (by rfl)) ?_
                 refine jl_nil ?_
                 refine jn_next ?_
                 refine jn1 4 (by kernel_rfl) rfl ?_
                 refine jl_op rfl rfl (.none rfl) (v_iarith' (Z := s33.1.1 - 8) rfl rfl rfl rfl tt tt (fun _ => (iw_sub (by have := s33.2; omega)))) ?_
                 refine jl_nil ?_
                 refine jn_next ?_
                 refine jn1 5 (by kernel_rfl) rfl ?_
                 refine jl_op rfl rfl (.none rfl) (v_i2f rfl rfl tt (by rfl) Try.underlying24) ?_
                 refine jl_nil ?_
                 refine jn_next ?_
                 refine jn1 6 (by kernel_rfl) rfl ?_
                 refine jl_op rfl rfl (.none rfl) (v_farith rfl rfl rfl rfl tt tt) ?_
                 refine jl_nil ?_
                 refine jn_next ?_
                 refine jn1 7 (by kernel_rfl) rfl ?_
                 refine jl_x1 rfl rfl rfl (x_lit (Ws := [_]) (Z := F 0) rfl Try.underlying34 (by kernel_rfl) zero24 rfl rfl (ev_cons rfl tt ev_nil) rfl rfl rfl rfl) (fun b37 => ?_)
                 refine jl_nil ?_
                 refine jn_next ?_
                 refine jn1 8 (by kernel_rfl) rfl ?_
                 refine jl_append (i := 2) (by' := 4) (Z := F 0) rfl rfl rfl rfl Try.underlying34 (by kernel_rfl) zero24 rfl (by kernel_rfl) (by rfl) rfl rfl rfl (fun w hI => hI.vecRo m0) (tab_length ..).symm rfl (by omega) (fun A38 c38 => ?_)
                 refine jl_nil ?_
                 refine jn_next ?_
                 refine jn1 9 (by kernel_rfl) rfl ?_
                 refine jl_op rfl rfl (.none rfl) (v_fieldAddr rfl Try.underlying50 (by rfl) (by kernel_rfl) rfl tt) ?_
                 refine jl_nil ?_
                 refine jn_next ?_
                 refine jn1 10 (by kernel_rfl) rfl ?_
                 refine jl_storeBox (i := 3) rfl rfl rfl (by kernel_rfl) rfl rfl rfl rfl rfl ?_
                 refine jl_nil ?_
                 refine jn_next ?_
                 refine jn_end (by kernel_rfl) ?_
                 exact jq_mid (s33, (A38, c38)) (fs_cons rfl (fs_cons rfl (fs_cons rfl (fs_cons rfl (fs_cons rfl fs_nil))))) (fun w h => by rw [← tab_upd (h := h2)]; exact h.sub (.cons _ (List.Sublist.refl _)))
               · refine jl_op rfl rfl (.none rfl) (v_iarith' (Z := s33.1.1 - 8) rfl rfl rfl rfl tt tt (fun _ => (iw_sub (by have := s33.2; omega)))) ?_
                 refine jl_nil ?_
                 refine jn_next ?_
                 refine jn2 1 5 (by kernel_rfl) rfl rfl ?_ ?_
                 · refine jl_op rfl rfl (.none rfl) (v_loadBox rfl Try.underlying34 (by rfl) rfl tt (by (repeat first | exact m0 | refine List.Mem.tail _ ?_); first | done | fail) (by rfl)) ?_
                   refine jl_nil ?_
                   refine jn_next ?_
                   refine jn1 5 (by kernel_rfl) rfl ?_
                   refine jl_op rfl rfl (.none rfl) (v_i2f rfl rfl tt (by rfl) Try.underlying24) ?_
                   refine jl_nil ?_
                   refine jn_next ?_
                   refine jn1 6 (by kernel_rfl) rfl ?_
                   refine jl_op rfl rfl (.none rfl) (v_farith rfl rfl rfl rfl tt tt) ?_
                   refine jl_nil ?_
                   refine jn_next ?_
                   refine jn1 7 (by kernel_rfl) rfl ?_
                   refine jl_x1 rfl rfl rfl (x_lit (Ws := [_]) (Z := F 0) rfl Try.underlying34 (by kernel_rfl) zero24 rfl rfl (ev_cons rfl tt ev_nil) rfl rfl rfl rfl) (fun b37 => ?_)
                   refine jl_nil ?_
                   refine jn_next ?_
                   refine jn1 8 (by kernel_rfl) rfl ?_
                   refine jl_append (i := 2) (by' := 4) (Z := F 0) rfl rfl rfl rfl Try.underlying34 (by kernel_rfl) zero24 rfl (by kernel_rfl) (by rfl) rfl rfl rfl (fun w hI => hI.vecRo m0) (tab_length ..).symm rfl (by omega) (fun A38 c38 => ?_)
                   refine jl_nil ?_
                   refine jn_next ?_
                   refine jn1 9 (by kernel_rfl) rfl ?_
                   refine jl_op rfl rfl (.none rfl) (v_fieldAddr rfl Try.underlying50 (by rfl) (by kernel_rfl) rfl tt) ?_
                   refine jl_nil ?_
                   refine jn_next ?_
                   refine jn1 10 (by kernel_rfl) rfl ?_
                   refine jl_storeBox (i := 3) rfl rfl rfl (by kernel_rfl) rfl rfl rfl rfl rfl ?_
                   refine jl_nil ?_
                   refine jn_next ?_
                   refine jn_end (by kernel_rfl) ?_
                   exact jq_mid (s33, (A38, c38)) (fs_cons rfl (fs_cons rfl (fs_cons rfl (fs_cons rfl (fs_cons rfl fs_nil))))) (fun w h => by rw [← tab_upd (h := h2)]; exact h.sub (.cons _ (List.Sublist.refl _)))
                 · refine jl_op rfl rfl (.none rfl) (v_i2f rfl rfl tt (by rfl) Try.underlying24) ?_
                   refine jl_nil ?_
                   refine jn_next ?_
                   refine jn2 1 6 (by kernel_rfl) rfl rfl ?_ ?_
                   · refine jl_op rfl rfl (.none rfl) (v_loadBox rfl Try.underlying34 (by rfl) rfl tt (by (repeat first | exact m0 | refine List.Mem.tail _ ?_); first | done | fail) (by rfl)) ?_
                     refine jl_nil ?_
                     refine jn_next ?_
                     refine jn1 6 (by kernel_rfl) rfl ?_
                     refine jl_op rfl rfl (.none rfl) (v_farith rfl rfl rfl rfl tt tt) ?_
                     refine jl_nil ?_
                     refine jn_next ?_
                     refine jn1 7 (by kernel_rfl) rfl ?_
                     refine jl_x1 rfl rfl rfl (x_lit (Ws := [_]) (Z := F 0) rfl Try.underlying34 (by kernel_rfl) zero24 rfl rfl (ev_cons rfl tt ev_nil) rfl rfl rfl rfl) (fun b37 => ?_)
                     refine jl_nil ?_
                     refine jn_next ?_
                     refine jn1 8 (by kernel_rfl) rfl ?_
                     refine jl_append (i := 2) (by' := 4) (Z := F 0) rfl rfl rfl rfl Try.underlying34 (by kernel_rfl) zero24 rfl (by kernel_rfl) (by rfl) rfl rfl rfl (fun w hI => hI.vecRo m0) (tab_length ..).symm rfl (by omega) (fun A38 c38 => ?_)
                     refine jl_nil ?_
                     refine jn_next ?_
                     refine jn1 9 (by kernel_rfl) rfl ?_
                     refine jl_op rfl rfl (.none rfl) (v_fieldAddr rfl Try.underlying50 (by rfl) (by kernel_rfl) rfl tt) ?_
                     refine jl_nil ?_
                     refine jn_next ?_
                     refine jn1 10 (by kernel_rfl) rfl ?_
                     refine jl_storeBox (i := 3) rfl rfl rfl (by kernel_rfl) rfl rfl rfl rfl rfl ?_
                     refine jl_nil ?_
                     refine jn_next ?_
                     refine jn_end (by kernel_rfl) ?_
                     exact jq_mid (s33, (A38, c38)) (fs_cons rfl (fs_cons rfl (fs_cons rfl (fs_cons rfl (fs_cons rfl fs_nil))))) (fun w h => by rw [← tab_upd (h := h2)]; exact h.sub (.cons _ (List.Sublist.refl _)))
                   · refine jl_op rfl rfl (.none rfl) (v_farith rfl rfl rfl rfl tt tt) ?_
                     refine jl_nil ?_
                     refine jn_next ?_
                     refine jn2 1 7 (by kernel_rfl) rfl rfl ?_ ?_
                     · refine jl_op rfl rfl (.none rfl) (v_loadBox rfl Try.underlying34 (by rfl) rfl tt (by (repeat first | exact m0 | refine List.Mem.tail _ ?_); first | done | fail) (by rfl)) ?_
                       refine jl_nil ?_
                       refine jn_next ?_
                       refine jn1 7 (by kernel_rfl) rfl ?_
                       refine jl_x1 rfl rfl rfl (x_lit (Ws := [_]) (Z := F 0) rfl Try.underlying34 (by kernel_rfl) zero24 rfl rfl (ev_cons rfl tt ev_nil) rfl rfl rfl rfl) (fun b37 => ?_)
                       refine jl_nil ?_
                       refine jn_next ?_
                       refine jn1 8 (by kernel_rfl) rfl ?_
                       refine jl_append (i := 2) (by' := 4) (Z := F 0) rfl rfl rfl rfl Try.underlying34 (by kernel_rfl) zero24 rfl (by kernel_rfl) (by rfl) rfl rfl rfl (fun w hI => hI.vecRo m0) (tab_length ..).symm rfl (by omega) (fun A38 c38 => ?_)
                       refine jl_nil ?_
                       refine jn_next ?_
                       refine jn1 9 (by kernel_rfl) rfl ?_
                       refine jl_op rfl rfl (.none rfl) (v_fieldAddr rfl Try.underlying50 (by rfl) (by kernel_rfl) rfl tt) ?_
                       refine jl_nil ?_
                       refine jn_next ?_
                       refine jn1 10 (by kernel_rfl) rfl ?_
                       refine jl_storeBox (i := 3) rfl rfl rfl (by kernel_rfl) rfl rfl rfl rfl rfl ?_
                       refine jl_nil ?_
                       refine jn_next ?_
                       refine jn_end (by kernel_rfl) ?_
                       exact jq_mid (s33, (A38, c38)) (fs_cons rfl (fs_cons rfl (fs_cons rfl (fs_cons rfl (fs_cons rfl fs_nil))))) (fun w h => by rw [← tab_upd (h := h2)]; exact h.sub (.cons _ (List.Sublist.refl _)))
                     · refine jl_x1 rfl rfl rfl (x_lit (Ws := [_]) (Z := F 0) rfl Try.underlying34 (by kernel_rfl) zero24 rfl rfl (ev_cons rfl tt ev_nil) rfl rfl rfl rfl) (fun b37 => ?_)
                       refine jl_nil ?_
                       refine jn_next ?_
                       refine jn1 1 (by kernel_rfl) rfl ?_
                       refine jl_op rfl rfl (.none rfl) (v_loadBox rfl Try.underlying34 (by rfl) rfl tt (by (repeat first | exact m0 | refine List.Mem.tail _ ?_); first | done | fail) (by rfl)) ?_
                       refine jl_nil ?_
                       refine jn_next ?_
                       refine jn1 8 (by kernel_rfl) rfl ?_
                       refine jl_append (i := 2) (by' := 4) (Z := F 0) rfl rfl rfl rfl Try.underlying34 (by kernel_rfl) zero24 rfl (by kernel_rfl) (by rfl) rfl rfl rfl (fun w hI => hI.vecRo m0) (tab_length ..).symm rfl (by omega) (fun A38 c38 => ?_)
                       refine jl_nil ?_
                       refine jn_next ?_
                       refine jn1 9 (by kernel_rfl) rfl ?_
                       refine jl_op rfl rfl (.none rfl) (v_fieldAddr rfl Try.underlying50 (by rfl) (by kernel_rfl) rfl tt) ?_
                       refine jl_nil ?_
                       refine jn_next ?_
                       refine jn1 10 (by kernel_rfl) rfl ?_
                       refine jl_storeBox (i := 3) rfl rfl rfl (by kernel_rfl) rfl rfl rfl rfl rfl ?_
                       refine jl_nil ?_
                       refine jn_next ?_
                       refine jn_end (by kernel_rfl) ?_
                       exact jq_mid (s33, (A38, c38)) (fs_cons rfl (fs_cons rfl (fs_cons rfl (fs_cons rfl (fs_cons rfl fs_nil))))) (fun w h => by rw [← tab_upd (h := h2)]; exact h.sub (.cons _ (List.Sublist.refl _)))
           · refine jl_g (i := 3) (f := 79) (xs := [_, _]) rfl rfl rfl rfl (c_srcPick s9 A N cap g (2 * i + 1) _ 17 (by omega) (by omega) (by omega) hg) (ev_cons rfl tt (ev_cons rfl tt ev_nil)) rfl rfl (fun _ => rfl) (fun w hI => hI.rovRo 6 3 rfl rfl rfl rov_nil) (fun s33 => ?_)
             refine jl_nil ?_
             refine jn_next ?_
             refine jn2 0 4 (by kernel_rfl) rfl rfl ?_ ?_
             · refine jl_op rfl rfl (.none rfl) (v_fieldAddr rfl Try.underlying50 (by rfl) (by kernel_rfl) rfl tt) ?_
               refine jl_nil ?_
               refine jn_next ?_
               refine jn2 1 4 (by kernel_rfl) rfl rfl ?_ ?_
               · refine jl_op rfl rfl (.none rfl) (v_loadBox rfl Try.underlying34 (by rfl) rfl tt (by (repeat first | exact m0 | refine List.Mem.tail _ ?_); first | done | fail) (by rfl)) ?_
                 refine jl_nil ?_
                 refine jn_next ?_
                 refine jn1 4 (by kernel_rfl) rfl ?_
                 refine jl_op rfl rfl (.none rfl) (v_iarith' (Z := s33.1.1 - 8) rfl rfl rfl rfl tt tt (fun _ => (iw_sub (by have := s33.2; omega)))) ?_
                 refine jl_nil ?_
                 refine jn_next ?_
                 refine jn1 5 (by kernel_rfl) rfl ?_
                 refine jl_op rfl rfl (.none rfl) (v_i2f rfl rfl tt (by rfl) Try.underlying24) ?_
                 refine jl_nil ?_
                 refine jn_next ?_
                 refine jn1 6 (by kernel_rfl) rfl ?_
                 refine jl_op rfl rfl (.none rfl) (v_farith rfl rfl rfl rfl tt tt) ?_
                 refine jl_nil ?_
                 refine jn_next ?_
                 refine jn1 7 (by kernel_rfl) rfl ?_
                 refine jl_x1 rfl rfl rfl (x_lit (Ws := [_]) (Z := F 0) rfl Try.underlying34 (by kernel_rfl) zero24 rfl rfl (ev_cons rfl tt ev_nil) rfl rfl rfl rfl) (fun b37 => ?_)
                 refine jl_nil ?_
                 refine jn_next ?_
                 refine jn1 8 (by kernel_rfl) rfl ?_
                 refine jl_append (i := 2) (by' := 4) (Z := F 0) rfl rfl rfl rfl Try.underlying34 (by kernel_rfl) zero24 rfl (by kernel_rfl) (by rfl) rfl rfl rfl (fun w hI => hI.vecRo m0) (tab_length ..).symm rfl (by omega) (fun A38 c38 => ?_)
                 refine jl_nil ?_
                 refine jn_next ?_
                 refine jn1 9 (by kernel_rfl) rfl ?_
                 refine jl_op rfl rfl (.none rfl) (v_fieldAddr rfl Try.underlying50 (by rfl) (by kernel_rfl) rfl tt) ?_
                 refine jl_nil ?_
                 refine jn_next ?_
                 refine jn1 10 (by kernel_rfl) rfl ?_
                 refine jl_storeBox (i := 3) rfl rfl rfl (by kernel_rfl) rfl rfl rfl rfl rfl ?_
                 refine jl_nil ?_
                 refine jn_next ?_
                 refine jn_end (by kernel_rfl) ?_
                 exact jq_mid (s33, (A38, c38)) (fs_cons rfl (fs_cons rfl (fs_cons rfl (fs_cons rfl (fs_cons rfl fs_nil))))) (fun w h => by rw [← tab_upd (h := h2)]; exact h.sub (.cons _ (List.Sublist.refl _)))
               · refine jl_op rfl rfl (.none rfl) (v_iarith' (Z := s33.1.1 - 8) rfl rfl rfl rfl tt tt (fun _ => (iw_sub (by have := s33.2; omega)))) ?_
                 refine jl_nil ?_
                 refine jn_next ?_
                 refine jn2 1 5 (by kernel_rfl) rfl rfl ?_ ?_
                 · refine jl_op rfl rfl (.none rfl) (v_loadBox rfl Try.underlying34 (by rfl) rfl tt (by (repeat first | exact m0 | refine List.Mem.tail _ ?_); first | done | fail) (by rfl)) ?_
                   refine jl_nil ?_
                   refine jn_next ?_
                   refine jn1 5 (by kernel_rfl) rfl ?_
                   refine jl_op rfl rfl (.none rfl) (v_i2f rfl rfl tt (by rfl) Try.underlying24) ?_
                   refine jl_nil ?_
                   refine jn_next ?_
                   refine jn1 6 (by kernel_rfl) rfl ?_
                   refine jl_op rfl rfl (.none rfl) (v_farith rfl rfl rfl rfl tt tt) ?_
                   refine jl_nil ?_
                   refine jn_next ?_
                   refine jn1 7 (by kernel_rfl) rfl ?_
                   refine jl_x1 rfl rfl rfl (x_lit (Ws := [_]) (Z := F 0) rfl Try.underlying34 (by kernel_rfl) zero24 rfl rfl (ev_cons rfl tt ev_nil) rfl rfl rfl rfl) (fun b37 => ?_)
                   refine jl_nil ?_
                   refine jn_next ?_
                   refine jn1 8 (by kernel_rfl) rfl ?_
                   refine jl_append (i := 2) (by' := 4) (Z := F 0) rfl rfl rfl rfl Try.underlying34 (by kernel_rfl) zero24 rfl (by kernel_rfl) (by rfl) rfl rfl rfl (fun w hI => hI.vecRo m0) (tab_length ..).symm rfl (by omega) (fun A38 c38 => ?_)
                   refine jl_nil ?_
                   refine jn_next ?_
                   refine jn1 9 (by kernel_rfl) rfl ?_
                   refine jl_op rfl rfl (.none rfl) (v_fieldAddr rfl Try.underlying50 (by rfl) (by kernel_rfl) rfl tt) ?_
                   refine jl_nil ?_
                   refine jn_next ?_
                   refine jn1 10 (by kernel_rfl) rfl ?_
                   refine jl_storeBox (i := 3) rfl rfl rfl (by kernel_rfl) rfl rfl rfl rfl rfl ?_
                   refine jl_nil ?_
                   refine jn_next ?_
                   refine jn_end (by kernel_rfl) ?_
                   exact jq_mid (s33, (A38, c38)) (fs_cons rfl (fs_cons rfl (fs_cons rfl (fs_cons rfl (fs_cons rfl fs_nil))))) (fun w h => by rw [← tab_upd (h := h2)]; exact h.sub (.cons _ (List.Sublist.refl _)))
                 · refine jl_op rfl rfl (.none rfl) (v_i2f rfl rfl tt (by rfl) Try.underlying24) ?_
                   refine jl_nil ?_
                   refine jn_next ?_
                   refine jn2 1 6 (by kernel_rfl) rfl rfl ?_ ?_
                   · refine jl_op rfl rfl (.none rfl) (v_loadBox rfl Try.underlying34 (by rfl) rfl tt (by (repeat first | exact m0 | refine List.Mem.tail _ ?_); first | done | fail) (by rfl)) ?_
                     refine jl_nil ?_
                     refine jn_next ?_
                     refine jn1 6 (by kernel_rfl) rfl ?_
                     refine jl_op rfl rfl (.none rfl) (v_farith rfl rfl rfl rfl tt tt) ?_
                     refine jl_nil ?_
                     refine jn_next ?_
                     refine jn1 7 (by kernel_rfl) rfl ?_
                     refine jl_x1 rfl rfl rfl (x_lit (Ws := [_]) (Z := F 0) rfl Try.underlying34 (by kernel_rfl) zero24 rfl rfl (ev_cons rfl tt ev_nil) rfl rfl rfl rfl) (fun b37 => ?_)
                     refine jl_nil ?_
                     refine jn_next ?_
                     refine jn1 8 (by kernel_rfl) rfl ?_
                     refine jl_append (i := 2) (by' := 4) (Z := F 0) rfl rfl rfl rfl Try.underlying34 (by kernel_rfl) zero24 rfl (by kernel_rfl) (by rfl) rfl rfl rfl (fun w hI => hI.vecRo m0) (tab_length ..).symm rfl (by omega) (fun A38 c38 => ?_)
                     refine jl_nil ?_
                     refine jn_next ?_
                     refine jn1 9 (by kernel_rfl) rfl ?_
                     refine jl_op rfl rfl (.none rfl) (v_fieldAddr rfl Try.underlying50 (by rfl) (by kernel_rfl) rfl tt) ?_
                     refine jl_nil ?_
                     refine jn_next ?_
                     refine jn1 10 (by kernel_rfl) rfl ?_
                     refine jl_storeBox (i := 3) rfl rfl rfl (by kernel_rfl) rfl rfl rfl rfl rfl ?_
                     refine jl_nil ?_
                     refine jn_next ?_
                     refine jn_end (by kernel_rfl) ?_
                     exact jq_mid (s33, (A38, c38)) (fs_cons rfl (fs_cons rfl (fs_cons rfl (fs_cons rfl (fs_cons rfl fs_nil))))) (fun w h => by rw [← tab_upd (h := h2)]; exact h.sub (.cons _ (List.Sublist.refl _)))
                   · refine jl_op rfl rfl (.none rfl) (v_farith rfl rfl rfl rfl tt tt) ?_
                     refine jl_nil ?_
                     refine jn_next ?_
                     refine jn2 1 7 (by kernel_rfl) rfl rfl ?_ ?_
                     · refine jl_op rfl rfl (.none rfl) (v_loadBox rfl Try.underlying34 (by rfl) rfl tt (by (repeat first | exact m0 | refine List.Mem.tail _ ?_); first | done | fail) (by rfl)) ?_
                       refine jl_nil ?_
                       refine jn_next ?_
                       refine jn1 7 (by kernel_rfl) rfl ?_
                       refine jl_x1 rfl rfl rfl (x_lit (Ws := [_]) (Z := F 0) rfl Try.underlying34 (by kernel_rfl) zero24 rfl rfl (ev_cons rfl tt ev_nil) rfl rfl rfl rfl) (fun b37 => ?_)
                       refine jl_nil ?_
                       refine jn_next ?_
                       refine jn1 8 (by kernel_rfl) rfl ?_
                       refine jl_append (i := 2) (by' := 4) (Z := F 0) rfl rfl rfl rfl Try.underlying34 (by kernel_rfl) zero24 rfl (by kernel_rfl) (by rfl) rfl rfl rfl (fun w hI => hI.vecRo m0) (tab_length ..).symm rfl (by omega) (fun A38 c38 => ?_)
                       refine jl_nil ?_
                       refine jn_next ?_
                       refine jn1 9 (by kernel_rfl) rfl ?_
                       refine jl_op rfl rfl (.none rfl) (v_fieldAddr rfl Try.underlying50 (by rfl) (by kernel_rfl) rfl tt) ?_
                       refine jl_nil ?_
                       refine jn_next ?_
                       refine jn1 10 (by kernel_rfl) rfl ?_
                       refine jl_storeBox (i := 3) rfl rfl rfl (by kernel_rfl) rfl rfl rfl rfl rfl ?_
                       refine jl_nil ?_
                       refine jn_next ?_
                       refine jn_end (by kernel_rfl) ?_
                       exact jq_mid (s33, (A38, c38)) (fs_cons rfl (fs_cons rfl (fs_cons rfl (fs_cons rfl (fs_cons rfl fs_nil))))) (fun w h => by rw [← tab_upd (h := h2)]; exact h.sub (.cons _ (List.Sublist.refl _)))
                     · refine jl_x1 rfl rfl rfl (x_lit (Ws := [_]) (Z := F 0) rfl Try.underlying34 (by kernel_rfl) zero24 rfl rfl (ev_cons rfl tt ev_nil) rfl rfl rfl rfl) (fun b37 => ?_)
                       refine jl_nil ?_
                       refine jn_next ?_
                       refine jn1 1 (by kernel_rfl) rfl ?_
                       refine jl_op rfl rfl (.none rfl) (v_loadBox rfl Try.underlying34 (by rfl) rfl tt (by (repeat first | exact m0 | refine List.Mem.tail _ ?_); first | done | fail) (by rfl)) ?_
                       refine jl_nil ?_
                       refine jn_next ?_
                       refine jn1 8 (by kernel_rfl) rfl ?_
                       refine jl_append (i := 2) (by' := 4) (Z := F 0) rfl rfl rfl rfl Try.underlying34 (by kernel_rfl) zero24 rfl (by kernel_rfl) (by rfl) rfl rfl rfl (fun w hI => hI.vecRo m0) (tab_length ..).symm rfl (by omega) (fun A38 c38 => ?_)
                       refine jl_nil ?_
                       refine jn_next ?_
                       refine jn1 9 (by kernel_rfl) rfl ?_
                       refine jl_op rfl rfl (.none rfl) (v_fieldAddr rfl Try.underlying50 (by rfl) (by kernel_rfl) rfl tt) ?_
                       refine jl_nil ?_
                       refine jn_next ?_
                       refine jn1 10 (by kernel_rfl) rfl ?_
                       refine jl_storeBox (i := 3) rfl rfl rfl (by kernel_rfl) rfl rfl rfl rfl rfl ?_
                       refine jl_nil ?_
                       refine jn_next ?_
                       refine jn_end (by kernel_rfl) ?_
                       exact jq_mid (s33, (A38, c38)) (fs_cons rfl (fs_cons rfl (fs_cons rfl (fs_cons rfl (fs_cons rfl fs_nil))))) (fun w h => by rw [← tab_upd (h := h2)]; exact h.sub (.cons _ (List.Sublist.refl _)))
             · refine jl_op rfl rfl (.none rfl) (v_iarith' (Z := s33.1.1 - 8) rfl rfl rfl rfl tt tt (fun _ => (iw_sub (by have := s33.2; omega)))) ?_
               refine jl_nil ?_
               refine jn_next ?_
               refine jn2 0 5 (by kernel_rfl) rfl rfl ?_ ?_
               · refine jl_op rfl rfl (.none rfl) (v_fieldAddr rfl Try.underlying50 (by rfl) (by kernel_rfl) rfl tt) ?_
                 refine jl_nil ?_
                 refine jn_next ?_
                 refine jn2 1 5 (by kernel_rfl) rfl rfl ?_ ?_
                 · refine jl_op rfl rfl (.none rfl) (v_loadBox rfl Try.underlying34 (by rfl) rfl tt (by (repeat first | exact m0 | refine List.Mem.tail _ ?_); first | done | fail) (by rfl)) ?_
                   refine jl_nil ?_
                   refine jn_next ?_
                   refine jn1 5 (by kernel_rfl) rfl ?_
                   refine jl_op rfl rfl (.none rfl) (v_i2f rfl rfl tt (by rfl) Try.underlying24) ?_
                   refine jl_nil ?_
                   refine jn_next ?_
                   refine jn1 6 (by kernel_rfl) rfl ?_
                   refine jl_op rfl rfl (.none rfl) (v_farith rfl rfl rfl rfl tt tt) ?_
                   refine jl_nil ?_
                   refine jn_next ?_
                   refine jn1 7 (by kernel_rfl) rfl ?_
                   refine jl_x1 rfl rfl rfl (x_lit (Ws := [_]) (Z := F 0) rfl Try.underlying34 (by kernel_rfl) zero24 rfl rfl (ev_cons rfl tt ev_nil) rfl rfl rfl rfl) (fun b37 => ?_)
                   refine jl_nil ?_
                   refine jn_next ?_
                   refine jn1 8 (by kernel_rfl) rfl ?_
                   refine jl_append (i := 2) (by' := 4) (Z := F 0) rfl rfl rfl rfl Try.underlying34 (by kernel_rfl) zero24 rfl (by kernel_rfl) (by rfl) rfl rfl rfl (fun w hI => hI.vecRo m0) (tab_length ..).symm rfl (by omega) (fun A38 c38 => ?_)
                   refine jl_nil ?_
                   refine jn_next ?_
                   refine jn1 9 (by kernel_rfl) rfl ?_
                   refine jl_op rfl rfl (.none rfl) (v_fieldAddr rfl Try.underlying50 (by rfl) (by kernel_rfl) rfl tt) ?_
                   refine jl_nil ?_
                   refine jn_next ?_
                   refine jn1 10 (by kernel_rfl) rfl ?_
                   refine jl_storeBox (i := 3) rfl rfl rfl (by kernel_rfl) rfl rfl rfl rfl rfl ?_
                   refine jl_nil ?_
                   refine jn_next ?_
                   refine jn_end (by kernel_rfl) ?_
                   exact jq_mid (s33, (A38, c38)) (fs_cons rfl (fs_cons rfl (fs_cons rfl (fs_cons rfl (fs_cons rfl fs_nil))))) (fun w h => by rw [← tab_upd (h := h2)]; exact h.sub (.cons _ (List.Sublist.refl _)))
                 · refine jl_op rfl rfl (.none rfl) (v_i2f rfl rfl tt (by rfl) Try.underlying24) ?_
                   refine jl_nil ?_
                   refine jn_next ?_
                   refine jn2 1 6 (by kernel_rfl) rfl rfl ?_ ?_
                   · refine jl_op rfl rfl (.none rfl) (v_loadBox rfl Try.underlying34 (by rfl) rfl tt (by (repeat first | exact m0 | refine List.Mem.tail _ ?_); first | done | fail) (by rfl)) ?_
                     refine jl_nil ?_
                     refine jn_next ?_
                     refine jn1 6 (by kernel_rfl) rfl ?_
                     refine jl_op rfl rfl (.none rfl) (v_farith rfl rfl rfl rfl tt tt) ?_
                     refine jl_nil ?_
                     refine jn_next ?_
                     refine jn1 7 (by kernel_rfl) rfl ?_
                     refine jl_x1 rfl rfl rfl (x_lit (Ws := [_]) (Z := F 0) rfl Try.underlying34 (by kernel_rfl) zero24 rfl rfl (ev_cons rfl tt ev_nil) rfl rfl rfl rfl) (fun b37 => ?_)
                     refine jl_nil ?_
                     refine jn_next ?_
                     refine jn1 8 (by kernel_rfl) rfl ?_
                     refine jl_append (i := 2) (by' := 4) (Z := F 0) rfl rfl rfl rfl Try.underlying34 (by kernel_rfl) zero24 rfl (by kernel_rfl) (by rfl) rfl rfl rfl (fun w hI => hI.vecRo m0) (tab_length ..).symm rfl (by omega) (fun A38 c38 => ?_)
                     refine jl_nil ?_
                     refine jn_next ?_
                     refine jn1 9 (by kernel_rfl) rfl ?_
                     refine jl_op rfl rfl (.none rfl) (v_fieldAddr rfl Try.underlying50 (by rfl) (by kernel_rfl) rfl tt) ?_
                     refine jl_nil ?_
                     refine jn_next ?_
                     refine jn1 10 (by kernel_rfl) rfl ?_
                     refine jl_storeBox (i := 3) rfl rfl rfl (by kernel_rfl) rfl rfl rfl rfl rfl ?_
                     refine jl_nil ?_
                     refine jn_next ?_
                     refine jn_end (by kernel_rfl) ?_
                     exact jq_mid (s33, (A38, c38)) (fs_cons rfl (fs_cons rfl (fs_cons rfl (fs_cons rfl (fs_cons rfl fs_nil))))) (fun w h => by rw [← tab_upd (h := h2)]; exact h.sub (.cons _ (List.Sublist.refl _)))
                   · refine jl_op rfl rfl (.none rfl) (v_farith rfl rfl rfl rfl tt tt) ?_
                     refine jl_nil ?_
                     refine jn_next ?_
                     refine jn2 1 7 (by kernel_rfl) rfl rfl ?_ ?_
                     · refine jl_op rfl rfl (.none rfl) (v_loadBox rfl Try.underlying34 (by rfl) rfl tt (by (repeat first | exact m0 | refine List.Mem.tail _ ?_); first | done | fail) (by rfl)) ?_
                       refine jl_nil ?_
                       refine jn_next ?_
                       refine jn1 7 (by kernel_rfl) rfl ?_
                       refine jl_x1 rfl rfl rfl (x_lit (Ws := [_]) (Z := F 0) rfl Try.underlying34 (by kernel_rfl) zero24 rfl rfl (ev_cons rfl tt ev_nil) rfl rfl rfl rfl) (fun b37 => ?_)
                       refine jl_nil ?_
                       refine jn_next ?_
                       refine jn1 8 (by kernel_rfl) rfl ?_
                       refine jl_append (i := 2) (by' := 4) (Z := F 0) rfl rfl rfl rfl Try.underlying34 (by kernel_rfl) zero24 rfl (by kernel_rfl) (by rfl) rfl rfl rfl (fun w hI => hI.vecRo m0) (tab_length ..).symm rfl (by omega) (fun A38 c38 => ?_)
                       refine jl_nil ?_
                       refine jn_next ?_
                       refine jn1 9 (by kernel_rfl) rfl ?_
                       refine jl_op rfl rfl (.none rfl) (v_fieldAddr rfl Try.underlying50 (by rfl) (by kernel_rfl) rfl tt) ?_
                       refine jl_nil ?_
                       refine jn_next ?_
                       refine jn1 10 (by kernel_rfl) rfl ?_
                       refine jl_storeBox (i := 3) rfl rfl rfl (by kernel_rfl) rfl rfl rfl rfl rfl ?_
                       refine jl_nil ?_
                       refine jn_next ?_
                       refine jn_end (by kernel_rfl) ?_
                       exact jq_mid (s33, (A38, c38)) (fs_cons rfl (fs_cons rfl (fs_cons rfl (fs_cons rfl (fs_cons rfl fs_nil))))) (fun w h => by rw [← tab_upd (h := h2)]; exact h.sub (.cons _ (List.Sublist.refl _)))
                     · refine jl_x1 rfl rfl rfl (x_lit (Ws := [_]) (Z := F 0) rfl Try.underlying34 (by kernel_rfl) zero24 rfl rfl (ev_cons rfl tt ev_nil) rfl rfl rfl rfl) (fun b37 => ?_)
                       refine jl_nil ?_
                       refine jn_next ?_
                       refine jn1 1 (by kernel_rfl) rfl ?_
                       refine jl_op rfl rfl (.none rfl) (v_loadBox rfl Try.underlying34 (by rfl) rfl tt (by (repeat first | exact m0 | refine List.Mem.tail _ ?_); first | done | fail) (by rfl)) ?_
                       refine jl_nil ?_
                       refine jn_next ?_
                       refine jn1 8 (by kernel_rfl) rfl ?_
                       refine jl_append (i := 2) (by' := 4) (Z := F 0) rfl rfl rfl rfl Try.underlying34 (by kernel_rfl) zero24 rfl (by kernel_rfl) (by rfl) rfl rfl rfl (fun w hI => hI.vecRo m0) (tab_length ..).symm rfl (by omega) (fun A38 c38 => ?_)
                       refine jl_nil ?_
                       refine jn_next ?_
                       refine jn1 9 (by kernel_rfl) rfl ?_
                       refine jl_op rfl rfl (.none rfl) (v_fieldAddr rfl Try.underlying50 (by rfl) (by kernel_rfl) rfl tt) ?_
                       refine jl_nil ?_
                       refine jn_next ?_
                       refine jn1 10 (by kernel_rfl) rfl ?_
                       refine jl_storeBox (i := 3) rfl rfl rfl (by kernel_rfl) rfl rfl rfl rfl rfl ?_
                       refine jl_nil ?_
                       refine jn_next ?_
                       refine jn_end (by kernel_rfl) ?_
                       exact jq_mid (s33, (A38, c38)) (fs_cons rfl (fs_cons rfl (fs_cons rfl (fs_cons rfl (fs_cons rfl fs_nil))))) (fun w h => by rw [← tab_upd (h := h2)]; exact h.sub (.cons _ (List.Sublist.refl _)))
               · refine jl_op rfl rfl (.none rfl) (v_i2f rfl rfl tt (by rfl) Try.underlying24) ?_
                 refine jl_nil ?_
                 refine jn_next ?_
                 refine jn2 0 6 (by kernel_rfl) rfl rfl ?_ ?_
                 · refine jl_op rfl rfl (.none rfl) (v_fieldAddr rfl Try.underlying50 (by rfl) (by kernel_rfl) rfl tt) ?_
                   refine jl_nil ?_
                   refine jn_next ?_
                   refine jn2 1 6 (by kernel_rfl) rfl rfl ?_ ?_
                   · refine jl_op rfl rfl (.none rfl) (v_loadBox rfl Try.underlying34 (by rfl) rfl tt (by (repeat first | exact m0 | refine List.Mem.tail _ ?_); first | done | fail) (by rfl)) ?_
                     refine jl_nil ?_
                     refine jn_next ?_
                     refine jn1 6 (by kernel_rfl) rfl ?_
                     refine jl_op rfl rfl (.none rfl) (v_farith rfl rfl rfl rfl tt tt) ?_
                     refine jl_nil ?_
                     refine jn_next ?_
                     refine jn1 7 (by kernel_rfl) rfl ?_
                     refine jl_x1 rfl rfl rfl (x_lit (Ws := [_]) (Z := F 0) rfl Try.underlying34 (by kernel_rfl) zero24 rfl rfl (ev_cons rfl tt ev_nil) rfl rfl rfl rfl) (fun b37 => ?_)
                     refine jl_nil ?_
                     refine jn_next ?_
                     refine jn1 8 (by kernel_rfl) rfl ?_
                     refine jl_append (i := 2) (by' := 4) (Z := F 0) rfl rfl rfl rfl Try.underlying34 (by kernel_rfl) zero24 rfl (by kernel_rfl) (by rfl) rfl rfl rfl (fun w hI => hI.vecRo m0) (tab_length ..).symm rfl (by omega) (fun A38 c38 => ?_)
                     refine jl_nil ?_
                     refine jn_next ?_
                     refine jn1 9 (by kernel_rfl) rfl ?_
                     refine jl_op rfl rfl (.none rfl) (v_fieldAddr rfl Try.underlying50 (by rfl) (by kernel_rfl) rfl tt) ?_
                     refine jl_nil ?_
                     refine jn_next ?_
                     refine jn1 10 (by kernel_rfl) rfl ?_
                     refine jl_storeBox (i := 3) rfl rfl rfl (by kernel_rfl) rfl rfl rfl rfl rfl ?_
                     refine jl_nil ?_
                     refine jn_next ?_
                     refine jn_end (by kernel_rfl) ?_
                     exact jq_mid (s33, (A38, c38)) (fs_cons rfl (fs_cons rfl (fs_cons rfl (fs_cons rfl (fs_cons rfl fs_nil))))) (fun w h => by rw [← tab_upd (h := h2)]; exact h.sub (.cons _ (List.Sublist.refl _)))
                   · refine jl_op rfl rfl (.none rfl) (v_farith rfl rfl rfl rfl tt tt) ?_
                     refine jl_nil ?_
                     refine jn_next ?_
                     refine jn2 1 7 (by kernel_rfl) rfl rfl ?_ ?_
                     · refine jl_op rfl rfl (.none rfl) (v_loadBox rfl Try.underlying34 (by rfl) rfl tt (by (repeat first | exact m0 | refine List.Mem.tail _ ?_); first | done | fail) (by rfl)) ?_
                       refine jl_nil ?_
                       refine jn_next ?_
                       refine jn1 7 (by kernel_rfl) rfl ?_
                       refine jl_x1 rfl rfl rfl (x_lit (Ws := [_]) (Z := F 0) rfl Try.underlying34 (by kernel_rfl) zero24 rfl rfl (ev_cons rfl tt ev_nil) rfl rfl rfl rfl) (fun b37 => ?_)
                       refine jl_nil ?_
                       refine jn_next ?_
                       refine jn1 8 (by kernel_rfl) rfl ?_
                       refine jl_append (i := 2) (by' := 4) (Z := F 0) rfl rfl rfl rfl Try.underlying34 (by kernel_rfl) zero24 rfl (by kernel_rfl) (by rfl) rfl rfl rfl (fun w hI => hI.vecRo m0) (tab_length ..).symm rfl (by omega) (fun A38 c38 => ?_)
                       refine jl_nil ?_
                       refine jn_next ?_
                       refine jn1 9 (by kernel_rfl) rfl ?_
                       refine jl_op rfl rfl (.none rfl) (v_fieldAddr rfl Try.underlying50 (by rfl) (by kernel_rfl) rfl tt) ?_
                       refine jl_nil ?_
                       refine jn_next ?_
                       refine jn1 10 (by kernel_rfl) rfl ?_
                       refine jl_storeBox (i := 3) rfl rfl rfl (by kernel_rfl) rfl rfl rfl rfl rfl ?_
                       refine jl_nil ?_
                       refine jn_next ?_
                       refine jn_end (by kernel_rfl) ?_
                       exact jq_mid (s33, (A38, c38)) (fs_cons rfl (fs_cons rfl (fs_cons rfl (fs_cons rfl (fs_cons rfl fs_nil))))) (fun w h => by rw [← tab_upd (h := h2)]; exact h.sub (.cons _ (List.Sublist.refl _)))
                     · refine jl_x1 rfl rfl rfl (x_lit (Ws := [_]) (Z := F 0) rfl Try.underlying34 (by kernel_rfl) zero24 rfl rfl (ev_cons rfl tt ev_nil) rfl rfl rfl rfl) (fun b37 => ?_)
                       refine jl_nil ?_
                       refine jn_next ?_
                       refine jn1 1 (by kernel_rfl) rfl ?_
                       refine jl_op rfl rfl (.none rfl) (v_loadBox rfl Try.underlying34 (by rfl) rfl tt (by (repeat first | exact m0 | refine List.Mem.tail _ ?_); first | done | fail) (by rfl)) ?_
                       refine jl_nil ?_
                       refine jn_next ?_
                       refine jn1 8 (by kernel_rfl) rfl ?_
                       refine jl_append (i := 2) (by' := 4) (Z := F 0) rfl rfl rfl rfl Try.underlying34 (by kernel_rfl) zero24 rfl (by kernel_rfl) (by rfl) rfl rfl rfl (fun w hI => hI.vecRo m0) (tab_length ..).symm rfl (by omega) (fun A38 c38 => ?_)
                       refine jl_nil ?_
                       refine jn_next ?_
                       refine jn1 9 (by kernel_rfl) rfl ?_
                       refine jl_op rfl rfl (.none rfl) (v_fieldAddr rfl Try.underlying50 (by rfl) (by kernel_rfl) rfl tt) ?_
                       refine jl_nil ?_
                       refine jn_next ?_
                       refine jn1 10 (by kernel_rfl) rfl ?_
                       refine jl_storeBox (i := 3) rfl rfl rfl (by kernel_rfl) rfl rfl rfl rfl rfl ?_
                       refine jl_nil ?_
                       refine jn_next ?_
                       refine jn_end (by kernel_rfl) ?_
                       exact jq_mid (s33, (A38, c38)) (fs_cons rfl (fs_cons rfl (fs_cons rfl (fs_cons rfl (fs_cons rfl fs_nil))))) (fun w h => by rw [← tab_upd (h := h2)]; exact h.sub (.cons _ (List.Sublist.refl _)))
                 · refine jl_op rfl rfl (.none rfl) (v_farith rfl rfl rfl rfl tt tt) ?_
                   refine jl_nil ?_
                   refine jn_next ?_
                   refine jn2 0 7 (by kernel_rfl) rfl rfl ?_ ?_
                   · refine jl_op rfl rfl (.none rfl) (v_fieldAddr rfl Try.underlying50 (by rfl) (by kernel_rfl) rfl tt) ?_
                     refine jl_nil ?_
                     refine jn_next ?_
                     refine jn2 1 7 (by kernel_rfl) rfl rfl ?_ ?_
                     · refine jl_op rfl rfl (.none rfl) (v_loadBox rfl Try.underlying34 (by rfl) rfl tt (by (repeat first | exact m0 | refine List.Mem.tail _ ?_); first | done | fail) (by rfl)) ?_
                       refine jl_nil ?_
                       refine jn_next ?_
                       refine jn1 7 (by kernel_rfl) rfl ?_
                       refine jl_x1 rfl rfl rfl (x_lit (Ws := [_]) (Z := F 0) rfl Try.underlying34 (by kernel_rfl) zero24 rfl rfl (ev_cons rfl tt ev_nil) rfl rfl rfl rfl) (fun b37 => ?_)
                       refine jl_nil ?_
                       refine jn_next ?_
                       refine jn1 8 (by kernel_rfl) rfl ?_
                       refine jl_append (i := 2) (by' := 4) (Z := F 0) rfl rfl rfl rfl Try.underlying34 (by kernel_rfl) zero24 rfl (by kernel_rfl) (by rfl) rfl rfl rfl (fun w hI => hI.vecRo m0) (tab_length ..).symm rfl (by omega) (fun A38 c38 => ?_)
                       refine jl_nil ?_
                       refine jn_next ?_
                       refine jn1 9 (by kernel_rfl) rfl ?_
                       refine jl_op rfl rfl (.none rfl) (v_fieldAddr rfl Try.underlying50 (by rfl) (by kernel_rfl) rfl tt) ?_
                       refine jl_nil ?_
                       refine jn_next ?_
                       refine jn1 10 (by kernel_rfl) rfl ?_
                       refine jl_storeBox (i := 3) rfl rfl rfl (by kernel_rfl) rfl rfl rfl rfl rfl ?_
                       refine jl_nil ?_
                       refine jn_next ?_
                       refine jn_end (by kernel_rfl) ?_
                       exact jq_mid (s33, (A38, c38)) (fs_cons rfl (fs_cons rfl (fs_cons rfl (fs_cons rfl (fs_cons rfl fs_nil))))) (fun w h => by rw [← tab_upd (h := h2)]; exact h.sub (.cons _ (List.Sublist.refl _)))
                     · refine jl_x1 rfl rfl rfl (x_lit (Ws := [_]) (Z := F 0) rfl Try.underlying34 (by kernel_rfl) zero24 rfl rfl (ev_cons rfl tt ev_nil) rfl rfl rfl rfl) (fun b37 => ?_)
                       refine jl_nil ?_
                       refine jn_next ?_
                       refine jn1 1 (by kernel_rfl) rfl ?_
                       refine jl_op rfl rfl (.none rfl) (v_loadBox rfl Try.underlying34 (by rfl) rfl tt (by (repeat first | exact m0 | refine List.Mem.tail _ ?_); first | done | fail) (by rfl)) ?_
                       refine jl_nil ?_
                       refine jn_next ?_
                       refine jn1 8 (by kernel_rfl) rfl ?_
                       refine jl_append (i := 2) (by' := 4) (Z := F 0) rfl rfl rfl rfl Try.underlying34 (by kernel_rfl) zero24 rfl (by kernel_rfl) (by rfl) rfl rfl rfl (fun w hI => hI.vecRo m0) (tab_length ..).symm rfl (by omega) (fun A38 c38 => ?_)
                       refine jl_nil ?_
                       refine jn_next ?_
                       refine jn1 9 (by kernel_rfl) rfl ?_
                       refine jl_op rfl rfl (.none rfl) (v_fieldAddr rfl Try.underlying50 (by rfl) (by kernel_rfl) rfl tt) ?_
                       refine jl_nil ?_
                       refine jn_next ?_
                       refine jn1 10 (by kernel_rfl) rfl ?_
                       refine jl_storeBox (i := 3) rfl rfl rfl (by kernel_rfl) rfl rfl rfl rfl rfl ?_
                       refine jl_nil ?_
                       refine jn_next ?_
                       refine jn_end (by kernel_rfl) ?_
                       exact jq_mid (s33, (A38, c38)) (fs_cons rfl (fs_cons rfl (fs_cons rfl (fs_cons rfl (fs_cons rfl fs_nil))))) (fun w h => by rw [← tab_upd (h := h2)]; exact h.sub (.cons _ (List.Sublist.refl _)))
                   · refine jl_x1 rfl rfl rfl (x_lit (Ws := [_]) (Z := F 0) rfl Try.underlying34 (by kernel_rfl) zero24 rfl rfl (ev_cons rfl tt ev_nil) rfl rfl rfl rfl) (fun b37 => ?_)
                     refine jl_nil ?_
                     refine jn_next ?_
                     refine jn1 0 (by kernel_rfl) rfl ?_
                     refine jl_op rfl rfl (.none rfl) (v_fieldAddr rfl Try.underlying50 (by rfl) (by kernel_rfl) rfl tt) ?_
                     refine jl_nil ?_
                     refine jn_next ?_
                     refine jn1 1 (by kernel_rfl) rfl ?_
                     refine jl_op rfl rfl (.none rfl) (v_loadBox rfl Try.underlying34 (by rfl) rfl tt (by (repeat first | exact m0 | refine List.Mem.tail _ ?_); first | done | fail) (by rfl)) ?_
                     refine jl_nil ?_
                     refine jn_next ?_
                     refine jn1 8 (by kernel_rfl) rfl ?_
                     refine jl_append (i := 2) (by' := 4) (Z := F 0) rfl rfl rfl rfl Try.underlying34 (by kernel_rfl) zero24 rfl (by kernel_rfl) (by rfl) rfl rfl rfl (fun w hI => hI.vecRo m0) (tab_length ..).symm rfl (by omega) (fun A38 c38 => ?_)
                     refine jl_nil ?_
                     refine jn_next ?_
                     refine jn1 9 (by kernel_rfl) rfl ?_
                     refine jl_op rfl rfl (.none rfl) (v_fieldAddr rfl Try.underlying50 (by rfl) (by kernel_rfl) rfl tt) ?_
                     refine jl_nil ?_
                     refine jn_next ?_
                     refine jn1 10 (by kernel_rfl) rfl ?_
                     refine jl_storeBox (i := 3) rfl rfl rfl (by kernel_rfl) rfl rfl rfl rfl rfl ?_
                     refine jl_nil ?_
                     refine jn_next ?_
                     refine jn_end (by kernel_rfl) ?_
                     exact jq_mid (s33, (A38, c38)) (fs_cons rfl (fs_cons rfl (fs_cons rfl (fs_cons rfl (fs_cons rfl fs_nil))))) (fun w h => by rw [← tab_upd (h := h2)]; exact h.sub (.cons _ (List.Sublist.refl _)))
       intro s; obtain ⟨s33, A38, c38⟩ := s; dsimp only)
    | (refine j_region (id := 8) ?_
       first | refine jl_op rfl rfl (.none rfl) (v_loadS rfl Try.underlying50 (by rfl) (by kernel_rfl) rfl tt (by (repeat first | exact m0 | refine List.Mem.tail _ ?_); first | done | fail)) ?_ | refine jl_op rfl rfl (.none rfl) (v_loadSRo rfl Try.underlying50 (by rfl) (by kernel_rfl) rfl tt (by (repeat first | exact m0 | refine List.Mem.tail _ ?_); first | done | fail)) ?_
       first | refine jl_storeS (i := 0) rfl rfl rfl (by kernel_rfl) rfl rfl rfl rfl ?_ | refine jl_storeS (i := 1) rfl rfl rfl (by kernel_rfl) rfl rfl rfl rfl ?_ | refine jl_storeS (i := 2) rfl rfl rfl (by kernel_rfl) rfl rfl rfl rfl ?_ | refine jl_storeS (i := 3) rfl rfl rfl (by kernel_rfl) rfl rfl rfl rfl ?_ | refine jl_storeS (i := 4) rfl rfl rfl (by kernel_rfl) rfl rfl rfl rfl ?_ | refine jl_storeS (i := 5) rfl rfl rfl (by kernel_rfl) rfl rfl rfl rfl ?_ | refine jl_storeS (i := 6) rfl rfl rfl (by kernel_rfl) rfl rfl rfl rfl ?_ | refine jl_storeS (i := 7) rfl rfl rfl (by kernel_rfl) rfl rfl rfl rfl ?_
       refine jl_nil ?_)))
  all_goals (obtain rfl : i = n := (by omega))
  all_goals exact jq_retMS (i := 4) (σ := {s : ((Option Addr × Nat) × (Option Addr × Nat)) × ((Nat → Nat) × (Nat → Nat)) // ∀ j, j < i → waveN (s.2.1 j) ∧ waveN (s.2.2 j)}) ⟨(((_, _), (_, _)), (h, h2)), fun j hj => ⟨hi.2.1 j hj, hi.2.2 j hj⟩⟩ (.inl rfl) Try.results25 rfl rfl Try.underlying50 rfl (by kernel_rfl) rfl (fun w h => HInv.fresh h (.cons_cons _ (.cons_cons _ (List.nil_sublist _))) rfl)
theorem c_stillV (A : Option Addr) (N cap : Nat) (g : Nat → Nat) (l t p : Nat) (hN : N ≤ 16) (hv : (tubeB N g l t p) = true) : ConM Try.prog 33 [.agg #[.slice A N cap, F l, F t, F p]] (RoS [.ro A (tab N g)]) (fun s : Nat × Nat => .tuple #[.agg #[.slice (some ⟨s.1, 0, none⟩) N N, .slice (some ⟨s.2, 0, none⟩) N N], .bool true]) (fun s : Nat × Nat => [.vec 24 (some ⟨s.1, 0, none⟩) N (tab N zF), .vec 24 (some ⟨s.2, 0, none⟩) N (tab N zF)]) := by
  refine conM_intro (H := [.ro A (tab N g)]) Try.func33 (by decide) rfl rfl (fun w h => h.inv) (fun w0 _ => ?_)
  (repeat' (first
    | refine j_condF rfl (by decide) ?_
    | refine j_condLt rfl (fun _ => ?_) (fun _ => ?_)
    | refine j_condLe rfl (fun _ => ?_) (fun _ => ?_)
    | refine j_condGt rfl (fun _ => ?_) (fun _ => ?_)
    | refine j_condGe rfl (fun _ => ?_) (fun _ => ?_)
    | refine j_condNe rfl (fun _ => ?_) (fun _ => ?_)
    | refine j_condEq rfl (fun _ => ?_) (fun _ => ?_)
    | refine j_condOrLt rfl (fun _ => ?_) (fun _ => ?_)
    | refine j_condAndLt rfl (fun _ => ?_) (fun _ => ?_)
    | refine j_condAndGe rfl (fun _ => ?_) (fun _ => ?_)
    | refine j_seq ?_
    | refine jq_then ?_
    | refine j_block ?_
    | refine j_ret ?_
    | refine jq_then_ret ?_
    | refine jq_block_ret ?_
    | refine jq_block_normal ?_
    | refine jq_then_exit ?_
    | refine jq_block_same rfl ?_
    | refine jq_block_other rfl ?_
    | refine j_skip ?_
    | refine j_exit ?_
    | refine j_label ?_
    | refine j_condCT ?_
    | refine j_condCF ?_
    | refine j_cond rfl (fun _ => ?_) (fun _ => ?_)
    | (refine j_region (id := 0) ?_
       refine jl_boxS rfl rfl rfl rfl rfl (fun b1 => ?_)
       refine jl_alloc rfl rfl rfl rfl zero50 (by rfl) (fun b2 => ?_)
       refine jl_op rfl rfl (.none rfl) (v_assign rfl rfl tt) ?_
       refine jl_nil ?_)
    | (refine j_region (id := 1) ?_
       first | refine jl_op rfl rfl (.none rfl) (v_loadS rfl Try.underlying47 (by rfl) (by kernel_rfl) rfl tt (by (repeat first | exact m0 | refine List.Mem.tail _ ?_); first | done | fail)) ?_ | refine jl_op rfl rfl (.none rfl) (v_loadSRo rfl Try.underlying47 (by rfl) (by kernel_rfl) rfl tt (by (repeat first | exact m0 | refine List.Mem.tail _ ?_); first | done | fail)) ?_
       refine jl_op rfl rfl (.none rfl) (v_call (f := 90) (xs := [_]) rfl (c_validV (hN := (by omega)) (hv := hv) ..) (ev_cons rfl tt ev_nil) (by intro w hc hI; first | trivial | (exfalso; simp_all; done) | (clear hc; repeat' (first | exact ros_nil | refine ros_cons ?_ ?_ | exact hI.roRo (by (repeat first | exact m0 | refine List.Mem.tail _ ?_); first | done | fail) | exact hI.boxRo (by (repeat first | exact m0 | refine List.Mem.tail _ ?_); first | done | fail) | exact HInv.vecRo hI (by (repeat first | exact m0 | refine List.Mem.tail _ ?_); first | done | fail))))) ?_
       refine jl_op rfl rfl (.none rfl) (v_not rfl rfl tt) ?_
       refine jl_nil ?_)
    | (refine j_region (id := 2) ?_
       refine jl_op rfl rfl (.none rfl) (v_buildW (Ws := [_, _]) rfl Try.underlying50 zero50 places50 (by rfl) (by rfl) ev_nil (by rfl) (by rfl) rfl) ?_
       first | refine jl_storeS (i := 0) rfl rfl rfl (by kernel_rfl) rfl rfl rfl rfl ?_ | refine jl_storeS (i := 1) rfl rfl rfl (by kernel_rfl) rfl rfl rfl rfl ?_ | refine jl_storeS (i := 2) rfl rfl rfl (by kernel_rfl) rfl rfl rfl rfl ?_ | refine jl_storeS (i := 3) rfl rfl rfl (by kernel_rfl) rfl rfl rfl rfl ?_ | refine jl_storeS (i := 4) rfl rfl rfl (by kernel_rfl) rfl rfl rfl rfl ?_ | refine jl_storeS (i := 5) rfl rfl rfl (by kernel_rfl) rfl rfl rfl rfl ?_ | refine jl_storeS (i := 6) rfl rfl rfl (by kernel_rfl) rfl rfl rfl rfl ?_ | refine jl_storeS (i := 7) rfl rfl rfl (by kernel_rfl) rfl rfl rfl rfl ?_
       refine jl_op rfl rfl (.none rfl) (v_assign rfl rfl tt) ?_
       refine jl_nil ?_)
    | (refine j_drawZ (id := 3) (m := 9) [(11, [3]), (15, [7]), (16, [8, 3, 7])] [none, none, none, some [], none, none, none, some [], some [11, 15]] (by kernel_rfl) (by kernel_rfl) (fun Bq hBq => ?_)
       refine jz_op rfl (.none rfl) (v_fieldAddr rfl Try.underlying47 (by rfl) (by kernel_rfl) rfl tt) ?_
       first | refine jz_op rfl (.none rfl) (v_loadBox rfl Try.underlying34 (by rfl) rfl tt (by (repeat first | exact m0 | refine List.Mem.tail _ ?_); first | done | fail) (by rfl)) ?_ | refine jz_op rfl (.none rfl) (v_loadRoB rfl Try.underlying34 (by rfl) rfl tt (by (repeat first | exact m0 | refine List.Mem.tail _ ?_); first | done | fail) (by rfl)) ?_
       refine jz_op rfl (.none rfl) (v_len rfl rfl Try.underlying34 rfl tt) ?_
       refine jz_x rfl rfl rfl (x_make (by' := 4) (Z := F 0) rfl Try.underlying34 (by kernel_rfl) zero24 rfl (by kernel_rfl) (by rfl) rfl rfl (by first | omega | decide)) (by first | exact runW_Vin | exact fun _ _ h => ⟨_, .head _, h⟩ | exact fun _ _ h => ⟨_, .head _, inV_tup2 rfl rfl h⟩ | exact fun _ _ h => ⟨_, .head _, inV_tup1 rfl h⟩ | exact fun _ _ h => ⟨_, .head _, inV_agg1 rfl (inV_tup1 rfl h)⟩ | exact fun _ _ h => ⟨_, .head _, inV_agg1 rfl h⟩ | exact fun _ _ h => (inV_agg2 h).elim (fun h => ⟨_, .head _, h⟩) (fun h => ⟨_, .tail _ (.head _), h⟩) | exact fun _ _ h => (inV_agg2 h).elim (fun h => ⟨_, .tail _ (.head _), h⟩) (fun h => ⟨_, .head _, h⟩) | exact fun _ _ h => (inV_agg2 (inV_tup1 rfl h)).elim (fun h => ⟨_, .head _, h⟩) (fun h => ⟨_, .tail _ (.head _), h⟩) | exact fun _ _ h => (inV_agg2 (inV_tup1 rfl h)).elim (fun h => ⟨_, .tail _ (.head _), h⟩) (fun h => ⟨_, .head _, h⟩)) ?_
       refine jz_op rfl (.none rfl) (v_fieldAddr rfl Try.underlying47 (by rfl) (by kernel_rfl) rfl tt) ?_
       first | refine jz_op rfl (.none rfl) (v_loadBox rfl Try.underlying34 (by rfl) rfl tt (by (repeat first | exact m0 | refine List.Mem.tail _ ?_); first | done | fail) (by rfl)) ?_ | refine jz_op rfl (.none rfl) (v_loadRoB rfl Try.underlying34 (by rfl) rfl tt (by (repeat first | exact m0 | refine List.Mem.tail _ ?_); first | done | fail) (by rfl)) ?_
       refine jz_op rfl (.none rfl) (v_len rfl rfl Try.underlying34 rfl tt) ?_
       refine jz_x rfl rfl rfl (x_make (by' := 4) (Z := F 0) rfl Try.underlying34 (by kernel_rfl) zero24 rfl (by kernel_rfl) (by rfl) rfl rfl (by first | omega | decide)) (by first | exact runW_Vin | exact fun _ _ h => ⟨_, .head _, h⟩ | exact fun _ _ h => ⟨_, .head _, inV_tup2 rfl rfl h⟩ | exact fun _ _ h => ⟨_, .head _, inV_tup1 rfl h⟩ | exact fun _ _ h => ⟨_, .head _, inV_agg1 rfl (inV_tup1 rfl h)⟩ | exact fun _ _ h => ⟨_, .head _, inV_agg1 rfl h⟩ | exact fun _ _ h => (inV_agg2 h).elim (fun h => ⟨_, .head _, h⟩) (fun h => ⟨_, .tail _ (.head _), h⟩) | exact fun _ _ h => (inV_agg2 h).elim (fun h => ⟨_, .tail _ (.head _), h⟩) (fun h => ⟨_, .head _, h⟩) | exact fun _ _ h => (inV_agg2 (inV_tup1 rfl h)).elim (fun h => ⟨_, .head _, h⟩) (fun h => ⟨_, .tail _ (.head _), h⟩) | exact fun _ _ h => (inV_agg2 (inV_tup1 rfl h)).elim (fun h => ⟨_, .tail _ (.head _), h⟩) (fun h => ⟨_, .head _, h⟩)) ?_
       refine jz_xv2 (t1 := 11) (t2 := 15) rfl rfl rfl hBq rfl rfl rfl rfl (by kernel_rfl) (by kernel_rfl) (by kernel_rfl) (fun s f hf k hk => by first | exact runW_inV s f hf k hk | (obtain rfl := mem1 hf; first | exact hk | exact inV_agg1' hk) | (rcases mem2 hf with rfl | rfl; exact inV_agg2l hk; exact inV_agg2r hk)) (fun s f hf k hk => by first | exact runW_inV s f hf k hk | (obtain rfl := mem1 hf; first | exact hk | exact inV_agg1' hk) | (rcases mem2 hf with rfl | rfl; exact inV_agg2l hk; exact inV_agg2r hk)) (fun s11 s15 => v_buildW (Ws := [_, _]) rfl Try.underlying50 zero50 places50 (by rfl) (by rfl) (ev_cons rfl tt (ev_cons rfl tt ev_nil)) (by rfl) (by rfl) rfl) (by first | exact fun _ _ _ h => inV_agg2 h) ?_
       refine jz_nil1 (d := 16) rfl hBq rfl rfl (fun b16 => ?_)
       first | refine jl_storeS (i := 0) rfl rfl rfl (by kernel_rfl) rfl rfl rfl rfl ?_ | refine jl_storeS (i := 1) rfl rfl rfl (by kernel_rfl) rfl rfl rfl rfl ?_ | refine jl_storeS (i := 2) rfl rfl rfl (by kernel_rfl) rfl rfl rfl rfl ?_ | refine jl_storeS (i := 3) rfl rfl rfl (by kernel_rfl) rfl rfl rfl rfl ?_ | refine jl_storeS (i := 4) rfl rfl rfl (by kernel_rfl) rfl rfl rfl rfl ?_ | refine jl_storeS (i := 5) rfl rfl rfl (by kernel_rfl) rfl rfl rfl rfl ?_ | refine jl_storeS (i := 6) rfl rfl rfl (by kernel_rfl) rfl rfl rfl rfl ?_ | refine jl_storeS (i := 7) rfl rfl rfl (by kernel_rfl) rfl rfl rfl rfl ?_
       refine jl_op rfl rfl (.none rfl) (v_assign rfl rfl tt) ?_
       refine jl_nil ?_)))
  all_goals exact jq_retMM (σ := Nat × Nat) b16 (.inl rfl) Try.results33 (ret_cell (i := 2) rfl rfl Try.underlying50 rfl (by kernel_rfl) (ret_tmp rfl rfl ret_nil)) rfl rfl (fun w h => by rw [tab_replicate] at h; exact HInv.fresh h (.cons_cons _ (.cons_cons _ (List.nil_sublist _))) rfl)
theorem c_runC (A : Option Addr) (c d : Addr) (rc mc : Nat) (X : Option Addr) (fc : Nat) (cap m : Nat) (g κ r q : Nat → Nat) (hW : Wd m g κ r q) (hcap : m + 1 ≤ cap) : ConM Try.prog 27 [.agg #[.slice A (m + 1) cap, F 1065353216, F 1065353216, F 3212836864], .agg #[.slice (some c) (m + 1) rc, .slice (some d) (m + 1) mc], .slice X 6 fc] (RoS [.ro A (tab (m + 1) g), .ro (some c) (tab (m + 1) r), .ro (some d) (tab (m + 1) q), .ro X (tab 6 zF)]) (fun s : ((Option Addr × Nat) × (Option Addr × Nat)) × (Option Addr × Nat) => .tuple #[.agg #[.slice s.1.1.1 (m + 1) s.1.1.2, .slice s.1.2.1 (m + 1) s.1.2.2], .slice s.2.1 6 s.2.2, .bool true]) (fun s => [.vec 24 s.1.1.1 s.1.1.2 (tab (m + 1) (Ck m g r q 6).1), .vec 24 s.1.2.1 s.1.2.2 (tab (m + 1) (Ck m g r q 6).2), .vec 24 s.2.1 s.2.2 (tab 6 (wys (m + 1) g 1065353216 1065353216 3212836864 r q zF))]) := by
  have h := c_runWI A (m + 1) cap g 1065353216 1065353216 3212836864 c (m + 1) rc r d (m + 1) mc q X 6 fc zF (by have := hW.four; omega) (by have := hW.four; omega) (by have := hW.four; omega) (by omega) hcap
  rw [rb_c hW] at h
  exact h
theorem c_run1 (A : Option Addr) (c d : Addr) (rc mc : Nat) (X : Option Addr) (fc : Nat) (f : Nat → Nat) (cap m : Nat) (g κ r q : Nat → Nat) (hW : Wd m g κ r q) (hcap : m + 1 ≤ cap) (hf : ∀ k, k < 8 → waveN (f k)) (c8 : Nat) (hc8 : c8 ≤ 8) : ConM Try.prog 27 [.agg #[.slice A (m + 1) cap, F 1065353216, F 1061158912, F 3210739712], .agg #[.slice (some c) (m + 1) rc, .slice (some d) (m + 1) mc], .slice X c8 fc] (RoS [.ro A (tab (m + 1) g), .ro (some c) (tab (m + 1) r), .ro (some d) (tab (m + 1) q), .ro X (tab c8 f)]) (fun s : ((Option Addr × Nat) × (Option Addr × Nat)) × (Option Addr × Nat) => .tuple #[.agg #[.slice s.1.1.1 (m + 1) s.1.1.2, .slice s.1.2.1 (m + 1) s.1.2.2], .slice s.2.1 c8 s.2.2, .bool true]) (fun s => [.vec 24 s.1.1.1 s.1.1.2 (tab (m + 1) (Zk m g r q f c8).1), .vec 24 s.1.2.1 s.1.2.2 (tab (m + 1) (Zk m g r q f c8).2), .vec 24 s.2.1 s.2.2 (tab c8 (yK m g r q f))]) := by
  have h := c_runWI A (m + 1) cap g 1065353216 1061158912 3210739712 c (m + 1) rc r d (m + 1) mc q X c8 fc f (by have := hW.four; omega) (by have := hW.four; omega) (by have := hW.four; omega) (by omega) hcap
  rw [rb_w hW hf hc8] at h
  exact h
theorem c_run2 (A : Option Addr) (c d : Addr) (rc mc : Nat) (X : Option Addr) (fc : Nat) (f : Nat → Nat) (cap m : Nat) (g κ r q : Nat → Nat) (hW : Wd m g κ r q) (hcap : m + 1 ≤ cap) (hf : ∀ k, k < 8 → waveN (f k)) (c8 : Nat) (hc8 : c8 ≤ 8) : ConM Try.prog 27 [.agg #[.slice A (m + 1) cap, F 1065353216, F 1061158912, F 3210739712], .agg #[.slice (some c) (m + 1) rc, .slice (some d) (m + 1) mc], .slice X (8 - c8) fc] (RoS [.ro A (tab (m + 1) g), .ro (some c) (tab (m + 1) (Zk m g r q f c8).1), .ro (some d) (tab (m + 1) (Zk m g r q f c8).2), .ro X (tab (8 - c8) (fun k => f (c8 + k)))]) (fun s : ((Option Addr × Nat) × (Option Addr × Nat)) × (Option Addr × Nat) => .tuple #[.agg #[.slice s.1.1.1 (m + 1) s.1.1.2, .slice s.1.2.1 (m + 1) s.1.2.2], .slice s.2.1 (8 - c8) s.2.2, .bool true]) (fun s => [.vec 24 s.1.1.1 s.1.1.2 (tab (m + 1) (Zk m g r q f 8).1), .vec 24 s.1.2.1 s.1.2.2 (tab (m + 1) (Zk m g r q f 8).2), .vec 24 s.2.1 s.2.2 (tab (8 - c8) (wys (m + 1) g 1065353216 1061158912 3210739712 (Zk m g r q f c8).1 (Zk m g r q f c8).2 (fun k => f (c8 + k))))]) := by
  have h := c_runWI A (m + 1) cap g 1065353216 1061158912 3210739712 c (m + 1) rc (Zk m g r q f c8).1 d (m + 1) mc (Zk m g r q f c8).2 X (8 - c8) fc (fun k => f (c8 + k)) (by have := hW.four; omega) (by have := hW.four; omega) (by have := hW.four; omega) (by omega) hcap
  rw [rb_2 hW hf hc8, cut_8 hc8] at h
  exact h
theorem c_runU (A : Option Addr) (c d : Addr) (rc mc : Nat) (X : Option Addr) (fc : Nat) (f : Nat → Nat) (cap m : Nat) (g κ r q : Nat → Nat) (hW : Wd m g κ r q) (hcap : m + 1 ≤ cap) (hf : ∀ k, k < 8 → waveN (f k)) : ConM Try.prog 27 [.agg #[.slice A (m + 1) cap, F 1065353216, F 1061158912, F 3210739712], .agg #[.slice (some c) (m + 1) rc, .slice (some d) (m + 1) mc], .slice X 8 fc] (RoS [.ro A (tab (m + 1) g), .ro (some c) (tab (m + 1) zF), .ro (some d) (tab (m + 1) zF), .ro X (tab 8 f)]) (fun s : ((Option Addr × Nat) × (Option Addr × Nat)) × (Option Addr × Nat) => .tuple #[.agg #[.slice s.1.1.1 (m + 1) s.1.1.2, .slice s.1.2.1 (m + 1) s.1.2.2], .slice s.2.1 8 s.2.2, .bool true]) (fun s => [.vec 24 s.1.1.1 s.1.1.2 (tab (m + 1) (Zk m g zF zF f 8).1), .vec 24 s.1.2.1 s.1.2.2 (tab (m + 1) (Zk m g zF zF f 8).2), .vec 24 s.2.1 s.2.2 (tab 8 (yK m g zF zF f))]) := by
  have h := c_runWI A (m + 1) cap g 1065353216 1061158912 3210739712 c (m + 1) rc zF d (m + 1) mc zF X 8 fc f (by have := hW.four; omega) (by have := hW.four; omega) (by have := hW.four; omega) (by omega) hcap
  rw [rb_u hW hf] at h
  exact h
theorem c_runV (A : Option Addr) (c d : Addr) (rc mc : Nat) (X : Option Addr) (fc : Nat) (cap m : Nat) (g κ r q : Nat → Nat) (hW : Wd m g κ r q) (hcap : m + 1 ≤ cap) : ConM Try.prog 27 [.agg #[.slice A (m + 1) cap, F 1065353216, F 1061158912, F 3210739712], .agg #[.slice (some c) (m + 1) rc, .slice (some d) (m + 1) mc], .slice X 8 fc] (RoS [.ro A (tab (m + 1) g), .ro (some c) (tab (m + 1) r), .ro (some d) (tab (m + 1) q), .ro X (tab 8 zF)]) (fun s : ((Option Addr × Nat) × (Option Addr × Nat)) × (Option Addr × Nat) => .tuple #[.agg #[.slice s.1.1.1 (m + 1) s.1.1.2, .slice s.1.2.1 (m + 1) s.1.2.2], .slice s.2.1 8 s.2.2, .bool true]) (fun s => [.vec 24 s.1.1.1 s.1.1.2 (tab (m + 1) (Zk m g r q zF 8).1), .vec 24 s.1.2.1 s.1.2.2 (tab (m + 1) (Zk m g r q zF 8).2), .vec 24 s.2.1 s.2.2 (tab 8 (yK m g r q zF))]) := by
  have h := c_runWI A (m + 1) cap g 1065353216 1061158912 3210739712 c (m + 1) rc r d (m + 1) mc q X 8 fc zF (by have := hW.four; omega) (by have := hW.four; omega) (by have := hW.four; omega) (by omega) hcap
  rw [rb_v hW] at h
  exact h
theorem c_endsW (z : Addr) (cap m : Nat) (g κ r q : Nat → Nat) (hW : Wd m g κ r q) : ConM Try.prog 26 [.agg #[.slice (some z) (m + 1) cap, F 1065353216, F 1061158912, F 3210739712], F 1065353216, F 1065353216, F 3212836864] (RoS [.ro (some z) (tab (m + 1) g)]) (fun r : Option Addr × Nat => .tuple #[.agg #[.slice r.1 (m + 1) r.2, F 1065353216, F 1065353216, F 3212836864], .bool true]) (fun r => [.vec 24 r.1 r.2 (tab (m + 1) g)]) := by
  exact c_setEnds z (m + 1) cap g _ _ _ _ _ _ (by have := hW.four; omega) (wd_t hW) (tq_c (wd_tq hW))
theorem c_stillQ (A : Option Addr) (cap m : Nat) (g κ r q : Nat → Nat) (hW : Wd m g κ r q) : ConM Try.prog 33 [.agg #[.slice A (m + 1) cap, F 1065353216, F 1061158912, F 3210739712]] (RoS [.ro A (tab (m + 1) g)]) (fun s : Nat × Nat => .tuple #[.agg #[.slice (some ⟨s.1, 0, none⟩) (m + 1) (m + 1), .slice (some ⟨s.2, 0, none⟩) (m + 1) (m + 1)], .bool true]) (fun s => [.vec 24 (some ⟨s.1, 0, none⟩) (m + 1) (tab (m + 1) zF), .vec 24 (some ⟨s.2, 0, none⟩) (m + 1) (tab (m + 1) zF)]) := by
  exact c_stillV A (m + 1) cap g _ _ _ (by have := hW.four; omega) (wd_t hW)
theorem c_en0 (A : Option Addr) (C : Option Addr) (rc : Nat) (D : Option Addr) (mc : Nat) (cap m : Nat) (g κ r q : Nat → Nat) (hW : Wd m g κ r q) : Con Try.prog 28 [.agg #[.slice A (m + 1) cap, F 1065353216, F 1061158912, F 3210739712], .agg #[.slice C (m + 1) rc, .slice D (m + 1) mc]] (RoS [.ro A (tab (m + 1) g), .ro C (tab (m + 1) r), .ro D (tab (m + 1) q)]) (.tuple #[F (enS g r q (m + 1)), .bool true]) := by
  have h := c_energyI A (m + 1) cap g 1065353216 1061158912 3210739712 C (m + 1) rc r D (m + 1) mc q (by have := hW.four; omega) (by have := hW.four; omega) (by have := hW.four; omega)
  rw [en_ok hW] at h
  exact h
theorem c_en6 (A : Option Addr) (C : Option Addr) (rc : Nat) (D : Option Addr) (mc : Nat) (cap m : Nat) (g κ r q : Nat → Nat) (hW : Wd m g κ r q) : Con Try.prog 28 [.agg #[.slice A (m + 1) cap, F 1065353216, F 1061158912, F 3210739712], .agg #[.slice C (m + 1) rc, .slice D (m + 1) mc]] (RoS [.ro A (tab (m + 1) g), .ro C (tab (m + 1) (Ck m g r q 6).1), .ro D (tab (m + 1) (Ck m g r q 6).2)]) (.tuple #[F (enS g (Ck m g r q 6).1 (Ck m g r q 6).2 (m + 1)), .bool true]) := by
  have h := c_energyI A (m + 1) cap g 1065353216 1061158912 3210739712 C (m + 1) rc (Ck m g r q 6).1 D (m + 1) mc (Ck m g r q 6).2 (by have := hW.four; omega) (by have := hW.four; omega) (by have := hW.four; omega)
  rw [en_ok6 hW] at h
  exact h
theorem c_gapE (m : Nat) (g κ r q : Nat → Nat) (hW : Wd m g κ r q) : Con Try.prog 29 [.float .f64 (conv .f32 .f64 (enS g r q (m + 1))), .float .f64 (conv .f32 .f64 (enS g (Ck m g r q 6).1 (Ck m g r q 6).2 (m + 1)))] (fun _ => True) (.float .f64 (gapM (conv .f32 .f64 (enS g r q (m + 1))) (conv .f32 .f64 (enS g (Ck m g r q 6).1 (Ck m g r q 6).2 (m + 1))))) := by
  exact c_r8Gap _ _ ((q_energy hW).2.2.1).1 ((q_energy hW).2.2.1).2
theorem c_gapO (m : Nat) (g κ r q f : Nat → Nat) (hW : Wd m g κ r q) (hf : ∀ k, k < 8 → waveN (f k)) (k : Nat) (hk : k ≤ 8) : Con Try.prog 29 [.float .f64 (conv .f32 .f64 (yK m g r q f k)), .float .f64 (farith .add .f64 (conv .f32 .f64 (yK m g zF zF f k)) (conv .f32 .f64 (yK m g r q zF k)))] (fun _ => True) (.float .f64 (gapM (conv .f32 .f64 (yK m g r q f k)) (farith .add .f64 (conv .f32 .f64 (yK m g zF zF f k)) (conv .f32 .f64 (yK m g r q zF k))))) := by
  exact c_r8Gap _ _ ((q_out hW hf hk).1).1 ((q_out hW hf hk).1).2
theorem c_gapP (m : Nat) (g κ r q f : Nat → Nat) (hW : Wd m g κ r q) (hf : ∀ k, k < 8 → waveN (f k)) (i : Nat) (hi : i < m + 1) : Con Try.prog 29 [.float .f64 (conv .f32 .f64 (farith .add .f32 ((Zk m g zF zF f 8).1 i) ((Zk m g r q zF 8).1 i))), .float .f64 (conv .f32 .f64 ((Zk m g r q f 8).1 i))] (fun _ => True) (.float .f64 (gapM (conv .f32 .f64 (farith .add .f32 ((Zk m g zF zF f 8).1 i) ((Zk m g r q zF 8).1 i))) (conv .f32 .f64 ((Zk m g r q f 8).1 i)))) := by
  exact c_r8Gap _ _ ((q_sum hW hf hi).1.1).1 ((q_sum hW hf hi).1.1).2
theorem c_gapQ (m : Nat) (g κ r q f : Nat → Nat) (hW : Wd m g κ r q) (hf : ∀ k, k < 8 → waveN (f k)) (i : Nat) (hi : i < m + 1) : Con Try.prog 29 [.float .f64 (conv .f32 .f64 (farith .add .f32 ((Zk m g zF zF f 8).2 i) ((Zk m g r q zF 8).2 i))), .float .f64 (conv .f32 .f64 ((Zk m g r q f 8).2 i))] (fun _ => True) (.float .f64 (gapM (conv .f32 .f64 (farith .add .f32 ((Zk m g zF zF f 8).2 i) ((Zk m g r q zF 8).2 i))) (conv .f32 .f64 ((Zk m g r q f 8).2 i)))) := by
  exact c_r8Gap _ _ ((q_sum hW hf hi).2.1.1).1 ((q_sum hW hf hi).2.1.1).2
theorem c_addQ (A : Option Addr) (c d : Addr) (rc mc : Nat) (C2 : Option Addr) (rc2 : Nat) (D2 : Option Addr) (mc2 : Nat) (f : Nat → Nat) (cap m : Nat) (g κ r q : Nat → Nat) (hW : Wd m g κ r q) (hf : ∀ k, k < 8 → waveN (f k)) : ConM Try.prog 34 [.agg #[.slice A (m + 1) cap, F 1065353216, F 1061158912, F 3210739712], .agg #[.slice (some c) (m + 1) rc, .slice (some d) (m + 1) mc], .agg #[.slice C2 (m + 1) rc2, .slice D2 (m + 1) mc2]] (RoS [.ro A (tab (m + 1) g), .ro (some c) (tab (m + 1) (Zk m g zF zF f 8).1), .ro (some d) (tab (m + 1) (Zk m g zF zF f 8).2), .ro C2 (tab (m + 1) (Zk m g r q zF 8).1), .ro D2 (tab (m + 1) (Zk m g r q zF 8).2)]) (fun s : (Option Addr × Nat) × (Option Addr × Nat) => .tuple #[.agg #[.slice s.1.1 (m + 1) s.1.2, .slice s.2.1 (m + 1) s.2.2], .bool true]) (fun s => [.vec 24 s.1.1 s.1.2 (tab (m + 1) (fun j => farith .add .f32 ((Zk m g zF zF f 8).1 j) ((Zk m g r q zF 8).1 j))), .vec 24 s.2.1 s.2.2 (tab (m + 1) (fun j => farith .add .f32 ((Zk m g zF zF f 8).2 j) ((Zk m g r q zF 8).2 j)))]) := by
  have h := c_addWI A (m + 1) cap g 1065353216 1061158912 3210739712 c (m + 1) rc (Zk m g zF zF f 8).1 d (m + 1) mc (Zk m g zF zF f 8).2 C2 (m + 1) rc2 (Zk m g r q zF 8).1 D2 (m + 1) mc2 (Zk m g r q zF 8).2 (by have := hW.four; omega) (by have := hW.four; omega) (by have := hW.four; omega) (by have := hW.four; omega) (by have := hW.four; omega)
  rw [add_ok hW hf] at h
  exact h
theorem c_areQ (A : Option Addr) (C : Option Addr) (rc : Nat) (D : Option Addr) (mc : Nat) (cap m : Nat) (g κ r q : Nat → Nat) (hW : Wd m g κ r q) : Con Try.prog 35 [.agg #[.slice A (m + 1) cap, F 1065353216, F 1061158912, F 3210739712], .agg #[.slice C (m + 1) rc, .slice D (m + 1) mc]] (RoS [.ro A (tab (m + 1) g), .ro C (tab (m + 1) zF), .ro D (tab (m + 1) zF)]) (.bool true) := by
  have h := c_areWavesI A (m + 1) cap g 1065353216 1061158912 3210739712 C (m + 1) rc zF D (m + 1) mc zF (by have := hW.four; omega) (by have := hW.four; omega) (by have := hW.four; omega)
  rw [wv_z hW] at h
  exact h
theorem c_sameQ (C : Option Addr) (rc : Nat) (D : Option Addr) (mc : Nat) (C2 : Option Addr) (rc2 : Nat) (D2 : Option Addr) (mc2 : Nat) (m : Nat) (g κ r q f : Nat → Nat) (hW : Wd m g κ r q) (hf : ∀ k, k < 8 → waveN (f k)) : Con Try.prog 32 [.agg #[.slice C (m + 1) rc, .slice D (m + 1) mc], .agg #[.slice C2 (m + 1) rc2, .slice D2 (m + 1) mc2]] (RoS [.ro C (tab (m + 1) (Zk m g r q f 8).1), .ro D (tab (m + 1) (Zk m g r q f 8).2), .ro C2 (tab (m + 1) (Zk m g r q f 8).1), .ro D2 (tab (m + 1) (Zk m g r q f 8).2)]) (.bool true) := by
  have h := c_sameWI C (m + 1) rc (Zk m g r q f 8).1 D (m + 1) mc (Zk m g r q f 8).2 C2 (m + 1) rc2 (Zk m g r q f 8).1 D2 (m + 1) mc2 (Zk m g r q f 8).2 (by have := hW.four; omega) (by have := hW.four; omega)
  rw [same_z hW hf] at h
  exact h
attribute [local irreducible] outR outL outS lossG wavesB
theorem c_stepQ (A : Option Addr) (C : Option Addr) (rc : Nat) (D : Option Addr) (mc : Nat) (cap m : Nat) (g κ r q : Nat → Nat) (hW : Wd m g κ r q) (hcap : m + 1 ≤ cap) : ConM Try.prog 36 [.agg #[.slice A (m + 1) cap, F 1065353216, F 1061158912, F 3210739712], .agg #[.slice C (m + 1) rc, .slice D (m + 1) mc], F 0] (RoS [.ro A (tab (m + 1) g), .ro C (tab (m + 1) zF), .ro D (tab (m + 1) zF)]) (fun s : (Option Addr × Nat) × (Option Addr × Nat) => .tuple #[.agg #[.slice s.1.1 (m + 1) s.1.2, .slice s.2.1 (m + 1) s.2.2], F (outS (m + 1) (lossG 1065353216 zF) 3210739712), .bool true]) (fun s => [.vec 24 s.1.1 s.1.2 (tab (m + 1) (outR g (lossG 1065353216 zF) (lossG 1065353216 zF) 1061158912 0)), .vec 24 s.2.1 s.2.2 (tab (m + 1) (outL (m + 1) g (lossG 1065353216 zF) (lossG 1065353216 zF) 3210739712))]) := by
  have h := c_StepWI A (m + 1) cap g 1065353216 1061158912 3210739712 C (m + 1) rc zF D (m + 1) mc zF 0 (by have := hW.four; omega) (by have := hW.four; omega) (by have := hW.four; omega) hcap
  rw [st_ok hW, stepWV_true, stepWK_true] at h
  exact h
end Go.Vx
