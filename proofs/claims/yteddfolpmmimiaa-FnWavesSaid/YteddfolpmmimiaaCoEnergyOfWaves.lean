/- Contracts of functions of the program and of the reference. -/
import Derived.Test.YteddfolpmmimiaaCoFour
import Derived.Test.YteddfolpmmimiaaCoLoudOf
import Derived.Test.YteddfolpmmimiaaCoMixLadders
import Derived.Test.YteddfolpmmimiaaCoSamePredictor
import Derived.Test.YteddfolpmmimiaaCoValidPredictor
import Derived.Test.YteddfolpmmimiaaCoWaves
namespace Go.Vx
open Go.Proofs
set_option maxRecDepth 4000
set_option maxHeartbeats 4000000
attribute [local irreducible] J JL JQ JA VOp Con Ext XOp ConM
theorem c_energyI (A : Option Addr) (N cap : Nat) (g : Nat → Nat) (l t p : Nat) (C : Option Addr) (R rc : Nat) (r : Nat → Nat) (D : Option Addr) (M mc : Nat) (q : Nat → Nat) (hN : N ≤ 4294967296) (hR : R ≤ 4294967296) (hM : M ≤ 4294967296) : Con Try.prog 28 [.agg #[.slice A N cap, F l, F t, F p], .agg #[.slice C R rc, .slice D M mc]] (RoS [.ro A (tab N g), .ro C (tab R r), .ro D (tab M q)]) (numV (wavesB N g l t p R r M q && fin (enS g r q N)) (enS g r q N)) := by
  refine con_intro (H := [.ro A (tab N g), .ro C (tab R r), .ro D (tab M q)]) Try.func28 (by decide) rfl rfl (fun w h => h.inv) (fun w0 _ => ?_)
  (repeat' (first
    | refine j_part (by omega) ?_
    | refine j_partI (by omega) ?_
    | (refine j_loop2 (σ := Nat) (fun i => (R = N ∧ M = N) ∧ i ≤ N) (fun i => [(2, true, .pointer (some ⟨b2, 0, none⟩)), (3, true, .pointer (some ⟨b3, 0, none⟩)), (6, true, F (enS g r q i)), (16, true, .slice A N cap), (17, true, .int .i64 (N)), (18, true, .int .i64 (i))]) (fun i => [.box b3 50 [.slice C R rc, .slice D M mc], .box b2 47 [.slice A N cap, F l, F t, F p], .ro A (tab N g), .ro C (tab R r), .ro D (tab M q)]) (fun i => N - i) 0 (by exact ⟨(waves_len (by assumption)).2, Nat.zero_le _⟩) (fs_cons rfl (fs_cons rfl (fs_cons (by first | rfl | rfl) (fs_cons rfl (fs_cons rfl (fs_cons rfl fs_nil)))))) (fun _ h => h) ?_; intro i hi)
    | (exact jq_round (i + 1) (by exact ⟨hi.1, by omega⟩) (by omega) (fs_cons rfl (fs_cons rfl (fs_cons rfl (fs_cons rfl (fs_cons rfl (fs_cons rfl fs_nil)))))) (fun _ h => h))
    | refine j_condLt rfl (fun _ => ?_) (fun _ => ?_)
    | refine j_condLe rfl (fun _ => ?_) (fun _ => ?_)
    | refine j_condGt rfl (fun _ => ?_) (fun _ => ?_)
    | refine j_condGe rfl (fun _ => ?_) (fun _ => ?_)
    | refine j_condNe rfl (fun _ => ?_) (fun _ => ?_)
    | refine j_condEq rfl (fun _ => ?_) (fun _ => ?_)
    | refine j_condOrLt rfl (fun _ => ?_) (fun _ => ?_)
    | refine j_condAndLt rfl (fun _ => ?_) (fun _ => ?_)
    | refine j_condAndGe rfl (fun _ => ?_) (fun _ => ?_)
    | refine j_seq ?_
    | refine jq_then ?_
    | refine j_block ?_
    | refine j_ret ?_
    | refine jq_then_ret ?_
    | refine jq_block_ret ?_
    | refine jq_block_normal ?_
    | refine jq_then_exit ?_
    | refine jq_block_same rfl ?_
    | refine jq_block_other rfl ?_
    | refine j_skip ?_
    | refine j_exit ?_
    | refine j_label ?_
    | refine j_condCT ?_
    | refine j_condCF ?_
    | refine j_cond rfl (fun _ => ?_) (fun _ => ?_)
    | (refine j_region (id := 0) ?_
       refine jl_boxS rfl rfl rfl rfl rfl (fun b2 => ?_)
       refine jl_boxS rfl rfl rfl rfl rfl (fun b3 => ?_)
       refine jl_op rfl rfl (.none rfl) (v_assign rfl rfl tt) ?_
       refine jl_op rfl rfl (.none rfl) (v_assign rfl rfl tt) ?_
       refine jl_nil ?_)
    | (refine j_region (id := 1) ?_
       first | refine jl_op rfl rfl (.none rfl) (v_loadS rfl Try.underlying47 (by rfl) (by kernel_rfl) rfl tt (by (repeat first | exact m0 | refine List.Mem.tail _ ?_); first | done | fail)) ?_ | refine jl_op rfl rfl (.none rfl) (v_loadSRo rfl Try.underlying47 (by rfl) (by kernel_rfl) rfl tt (by (repeat first | exact m0 | refine List.Mem.tail _ ?_); first | done | fail)) ?_
       first | refine jl_op rfl rfl (.none rfl) (v_loadS rfl Try.underlying50 (by rfl) (by kernel_rfl) rfl tt (by (repeat first | exact m0 | refine List.Mem.tail _ ?_); first | done | fail)) ?_ | refine jl_op rfl rfl (.none rfl) (v_loadSRo rfl Try.underlying50 (by rfl) (by kernel_rfl) rfl tt (by (repeat first | exact m0 | refine List.Mem.tail _ ?_); first | done | fail)) ?_
       refine jl_op rfl rfl (.none rfl) (v_call (f := 35) (xs := [_, _]) rfl (c_areWavesI (hN := hN) (hR := hR) (hM := hM) ..) (ev_cons rfl tt (ev_cons rfl tt ev_nil)) (by intro w hc hI; first | trivial | (exfalso; simp_all; done) | (clear hc; repeat' (first | exact ros_nil | refine ros_cons ?_ ?_ | exact hI.roRo (by (repeat first | exact m0 | refine List.Mem.tail _ ?_); first | done | fail) | exact hI.boxRo (by (repeat first | exact m0 | refine List.Mem.tail _ ?_); first | done | fail) | exact HInv.vecRo hI (by (repeat first | exact m0 | refine List.Mem.tail _ ?_); first | done | fail))))) ?_
       refine jl_op rfl rfl (.none rfl) (v_not rfl rfl tt) ?_
       refine jl_nil ?_)
    | (refine j_region (id := 2) ?_
       refine jl_op rfl rfl (.none rfl) (v_assign rfl rfl tt) ?_
       refine jl_op rfl rfl (.none rfl) (v_assign rfl rfl tt) ?_
       refine jl_nil ?_)
    | (refine j_region (id := 3) ?_
       refine jl_op rfl rfl (.none rfl) (v_assign rfl rfl tt) ?_
       refine jl_nil ?_)
    | (refine j_region (id := 4) ?_
       refine jl_op rfl rfl (.none rfl) (v_fieldAddr rfl Try.underlying47 (by rfl) (by kernel_rfl) rfl tt) ?_
       first | refine jl_op rfl rfl (.none rfl) (v_loadBox rfl Try.underlying34 (by rfl) rfl tt (by (repeat first | exact m0 | refine List.Mem.tail _ ?_); first | done | fail) (by rfl)) ?_ | refine jl_op rfl rfl (.none rfl) (v_loadRoB rfl Try.underlying34 (by rfl) rfl tt (by (repeat first | exact m0 | refine List.Mem.tail _ ?_); first | done | fail) (by rfl)) ?_
       refine jl_op rfl rfl (.none rfl) (v_len rfl rfl Try.underlying34 rfl tt) ?_
       refine jl_op rfl rfl (.none rfl) (v_move rfl rfl tt) ?_
       refine jl_nil ?_)
    | (refine j_region (id := 5) ?_
       refine jl_op rfl rfl (.none rfl) (v_icmp rfl rfl rfl rfl tt tt) ?_
       refine jl_nil ?_)
    | (refine j_region (id := 6) ?_
       refine jl_op rfl rfl (.none rfl) (v_move rfl rfl tt) ?_
       refine jl_op rfl rfl (.none rfl) (v_indexAddr rfl Try.underlying34 (by kernel_rfl) rfl rfl tt tt (by first | exact hA_some | exact hA_roT (by (repeat first | exact m0 | refine List.Mem.tail _ ?_); first | done | fail) | exact hA_vecT (by (repeat first | exact m0 | refine List.Mem.tail _ ?_); first | done | fail) | exact hA_vecP (by (repeat first | exact m0 | refine List.Mem.tail _ ?_); first | done | fail) | exact hA_roI (by (repeat first | exact m0 | refine List.Mem.tail _ ?_); first | done | fail) | exact hA_vecI (by (repeat first | exact m0 | refine List.Mem.tail _ ?_); first | done | fail) | exact hA_vecPI (by (repeat first | exact m0 | refine List.Mem.tail _ ?_); first | done | fail) | exact hA_vecPS (by (repeat first | exact m0 | refine List.Mem.tail _ ?_); first | done | fail) | exact hA_ro (by (repeat first | exact m0 | refine List.Mem.tail _ ?_); first | done | fail) | exact hA_vec (by (repeat first | exact m0 | refine List.Mem.tail _ ?_); first | done | fail) | exact hA_roY (by (repeat first | exact m0 | refine List.Mem.tail _ ?_); first | done | fail)) (fun _hc => ⟨(by first | with_reducible rfl | exact (Int.toNat_of_nonneg (by omega)).symm | (have hc := g_gt _hc; exact (Int.toNat_of_nonneg (by omega)).symm)), (by first | omega | (rw [tabY_length]; omega) | (rw [tab_length]; omega) | (rw [part_length]; omega) | (rw [tabI_length]; omega) | (rw [partI_length]; omega) | (rw [List.length_set, part_length]; omega))⟩)) ?_
       first | refine jl_op rfl rfl (.none rfl) (v_loadVec rfl Try.underlying24 (by rfl) rfl tt (by (repeat first | exact m0 | refine List.Mem.tail _ ?_); first | done | fail) (fun _ => (by first | with_reducible exact part_get_ge (by omega) (by omega) | with_reducible exact tab_get (by omega) | with_reducible exact tabI_get (by omega) | with_reducible exact part_get (by omega) | exact part_get_ge (by omega) (by omega) | exact tab_get (by omega) | exact tabI_get (by omega) | exact part_get (by omega) | exact part_set_get (by omega) | exact partI_get (by omega) | exact tabY_get (by omega) | assumption | rfl))) ?_ | refine jl_op rfl rfl (.none rfl) (v_loadRo rfl Try.underlying24 (by rfl) rfl tt (by (repeat first | exact m0 | refine List.Mem.tail _ ?_); first | done | fail) (fun _ => (by first | with_reducible exact part_get_ge (by omega) (by omega) | with_reducible exact tab_get (by omega) | with_reducible exact tabI_get (by omega) | with_reducible exact part_get (by omega) | exact part_get_ge (by omega) (by omega) | exact tab_get (by omega) | exact tabI_get (by omega) | exact part_get (by omega) | exact part_set_get (by omega) | exact partI_get (by omega) | exact tabY_get (by omega) | assumption | rfl))) ?_
       refine jl_op rfl rfl (.none rfl) (v_assign rfl rfl tt) ?_
       refine jl_op rfl rfl (.none rfl) (v_assign rfl rfl tt) ?_
       refine jl_nil ?_)
    | (refine j_draw (id := 7) (by kernel_rfl) (by kernel_rfl) ?_
       refine ja_op rfl (.none rfl) (v_fieldAddr rfl Try.underlying50 (by rfl) (by kernel_rfl) rfl tt) ?_
       first | refine ja_op rfl (.none rfl) (v_loadBox rfl Try.underlying34 (by rfl) rfl tt (by (repeat first | exact m0 | refine List.Mem.tail _ ?_); first | done | fail) (by rfl)) ?_ | refine ja_op rfl (.none rfl) (v_loadRoB rfl Try.underlying34 (by rfl) rfl tt (by (repeat first | exact m0 | refine List.Mem.tail _ ?_); first | done | fail) (by rfl)) ?_
       refine ja_op rfl (.none rfl) (v_move rfl rfl tt) ?_
       refine ja_op rfl (.none rfl) (v_indexAddr rfl Try.underlying34 (by kernel_rfl) rfl rfl tt tt (by first | exact hA_some | exact hA_roT (by (repeat first | exact m0 | refine List.Mem.tail _ ?_); first | done | fail) | exact hA_vecT (by (repeat first | exact m0 | refine List.Mem.tail _ ?_); first | done | fail) | exact hA_vecP (by (repeat first | exact m0 | refine List.Mem.tail _ ?_); first | done | fail) | exact hA_roI (by (repeat first | exact m0 | refine List.Mem.tail _ ?_); first | done | fail) | exact hA_vecI (by (repeat first | exact m0 | refine List.Mem.tail _ ?_); first | done | fail) | exact hA_vecPI (by (repeat first | exact m0 | refine List.Mem.tail _ ?_); first | done | fail) | exact hA_vecPS (by (repeat first | exact m0 | refine List.Mem.tail _ ?_); first | done | fail) | exact hA_ro (by (repeat first | exact m0 | refine List.Mem.tail _ ?_); first | done | fail) | exact hA_vec (by (repeat first | exact m0 | refine List.Mem.tail _ ?_); first | done | fail) | exact hA_roY (by (repeat first | exact m0 | refine List.Mem.tail _ ?_); first | done | fail)) (fun _hc => ⟨(by first | with_reducible rfl | exact (Int.toNat_of_nonneg (by omega)).symm | (have hc := g_gt _hc; exact (Int.toNat_of_nonneg (by omega)).symm)), (by first | omega | (rw [tabY_length]; omega) | (rw [tab_length]; omega) | (rw [part_length]; omega) | (rw [tabI_length]; omega) | (rw [partI_length]; omega) | (rw [List.length_set, part_length]; omega))⟩)) ?_
       first | refine ja_op rfl (.none rfl) (v_loadVec rfl Try.underlying24 (by rfl) rfl tt (by (repeat first | exact m0 | refine List.Mem.tail _ ?_); first | done | fail) (fun _ => (by first | with_reducible exact part_get_ge (by omega) (by omega) | with_reducible exact tab_get (by omega) | with_reducible exact tabI_get (by omega) | with_reducible exact part_get (by omega) | exact part_get_ge (by omega) (by omega) | exact tab_get (by omega) | exact tabI_get (by omega) | exact part_get (by omega) | exact part_set_get (by omega) | exact partI_get (by omega) | exact tabY_get (by omega) | assumption | rfl))) ?_ | refine ja_op rfl (.none rfl) (v_loadRo rfl Try.underlying24 (by rfl) rfl tt (by (repeat first | exact m0 | refine List.Mem.tail _ ?_); first | done | fail) (fun _ => (by first | with_reducible exact part_get_ge (by omega) (by omega) | with_reducible exact tab_get (by omega) | with_reducible exact tabI_get (by omega) | with_reducible exact part_get (by omega) | exact part_get_ge (by omega) (by omega) | exact tab_get (by omega) | exact tabI_get (by omega) | exact part_get (by omega) | exact part_set_get (by omega) | exact partI_get (by omega) | exact tabY_get (by omega) | assumption | rfl))) ?_
       refine ja_op rfl (.none rfl) (v_fieldAddr rfl Try.underlying50 (by rfl) (by kernel_rfl) rfl tt) ?_
       first | refine ja_op rfl (.none rfl) (v_loadBox rfl Try.underlying34 (by rfl) rfl tt (by (repeat first | exact m0 | refine List.Mem.tail _ ?_); first | done | fail) (by rfl)) ?_ | refine ja_op rfl (.none rfl) (v_loadRoB rfl Try.underlying34 (by rfl) rfl tt (by (repeat first | exact m0 | refine List.Mem.tail _ ?_); first | done | fail) (by rfl)) ?_
       refine ja_op rfl (.none rfl) (v_move rfl rfl tt) ?_
       refine ja_op rfl (.none rfl) (v_indexAddr rfl Try.underlying34 (by kernel_rfl) rfl rfl tt tt (by first | exact hA_some | exact hA_roT (by (repeat first | exact m0 | refine List.Mem.tail _ ?_); first | done | fail) | exact hA_vecT (by (repeat first | exact m0 | refine List.Mem.tail _ ?_); first | done | fail) | exact hA_vecP (by (repeat first | exact m0 | refine List.Mem.tail _ ?_); first | done | fail) | exact hA_roI (by (repeat first | exact m0 | refine List.Mem.tail _ ?_); first | done | fail) | exact hA_vecI (by (repeat first | exact m0 | refine List.Mem.tail _ ?_); first | done | fail) | exact hA_vecPI (by (repeat first | exact m0 | refine List.Mem.tail _ ?_); first | done | fail) | exact hA_vecPS (by (repeat first | exact m0 | refine List.Mem.tail _ ?_); first | done | fail) | exact hA_ro (by (repeat first | exact m0 | refine List.Mem.tail _ ?_); first | done | fail) | exact hA_vec (by (repeat first | exact m0 | refine List.Mem.tail _ ?_); first | done | fail) | exact hA_roY (by (repeat first | exact m0 | refine List.Mem.tail _ ?_); first | done | fail)) (fun _hc => ⟨(by first | with_reducible rfl | exact (Int.toNat_of_nonneg (by omega)).symm | (have hc := g_gt _hc; exact (Int.toNat_of_nonneg (by omega)).symm)), (by first | omega | (rw [tabY_length]; omega) | (rw [tab_length]; omega) | (rw [part_length]; omega) | (rw [tabI_length]; omega) | (rw [partI_length]; omega) | (rw [List.length_set, part_length]; omega))⟩)) ?_
       first | refine ja_op rfl (.none rfl) (v_loadVec rfl Try.underlying24 (by rfl) rfl tt (by (repeat first | exact m0 | refine List.Mem.tail _ ?_); first | done | fail) (fun _ => (by first | with_reducible exact part_get_ge (by omega) (by omega) | with_reducible exact tab_get (by omega) | with_reducible exact tabI_get (by omega) | with_reducible exact part_get (by omega) | exact part_get_ge (by omega) (by omega) | exact tab_get (by omega) | exact tabI_get (by omega) | exact part_get (by omega) | exact part_set_get (by omega) | exact partI_get (by omega) | exact tabY_get (by omega) | assumption | rfl))) ?_ | refine ja_op rfl (.none rfl) (v_loadRo rfl Try.underlying24 (by rfl) rfl tt (by (repeat first | exact m0 | refine List.Mem.tail _ ?_); first | done | fail) (fun _ => (by first | with_reducible exact part_get_ge (by omega) (by omega) | with_reducible exact tab_get (by omega) | with_reducible exact tabI_get (by omega) | with_reducible exact part_get (by omega) | exact part_get_ge (by omega) (by omega) | exact tab_get (by omega) | exact tabI_get (by omega) | exact part_get (by omega) | exact part_set_get (by omega) | exact partI_get (by omega) | exact tabY_get (by omega) | assumption | rfl))) ?_
       refine ja_op rfl (.none rfl) (v_assign rfl rfl tt) ?_
       refine ja_op rfl (.none rfl) (v_assign rfl rfl tt) ?_
       refine ja_nil rfl ?_)
    | (refine j_region (id := 8) ?_
       refine jl_op rfl rfl (.none rfl) (v_move rfl rfl tt) ?_
       refine jl_op rfl rfl (.none rfl) (v_move rfl rfl tt) ?_
       refine jl_op rfl rfl (.none rfl) (v_move rfl rfl tt) ?_
       refine jl_op rfl rfl (.none rfl) (v_move rfl rfl tt) ?_
       refine jl_op rfl rfl (.none rfl) (v_farith rfl rfl rfl rfl tt tt) ?_
       refine jl_op rfl rfl (.none rfl) (v_move rfl rfl tt) ?_
       refine jl_op rfl rfl (.none rfl) (v_move rfl rfl tt) ?_
       refine jl_op rfl rfl (.none rfl) (v_farith rfl rfl rfl rfl tt tt) ?_
       refine jl_op rfl rfl (.none rfl) (v_farith rfl rfl rfl rfl tt tt) ?_
       refine jl_op rfl rfl (.none rfl) (v_farith rfl rfl rfl rfl tt tt) ?_
       refine jl_op rfl rfl (.none rfl) (v_farith rfl rfl rfl rfl tt tt) ?_
       refine jl_op rfl rfl (.none rfl) (v_assign rfl rfl tt) ?_
       refine jl_nil ?_)
    | (refine j_region (id := 9) ?_
       refine jl_op rfl rfl (.none rfl) (v_iarith' rfl rfl rfl rfl tt tt (by first | exact fun _ => iw_add (by omega) | exact fun _ => rfl)) ?_
       refine jl_op rfl rfl (.none rfl) (v_move rfl rfl tt) ?_
       refine jl_nil ?_)
    | (refine j_region (id := 10) ?_
       refine jl_op rfl rfl (.none rfl) (v_move rfl rfl tt) ?_
       refine jl_op rfl rfl (.none rfl) (v_call (f := 83) (xs := [_]) rfl (c_checkedNumber ..) (ev_cons rfl tt ev_nil) (by intro w hc hI; first | trivial | (exfalso; simp_all; done) | (clear hc; repeat' (first | exact ros_nil | refine ros_cons ?_ ?_ | exact hI.roRo (by (repeat first | exact m0 | refine List.Mem.tail _ ?_); first | done | fail) | exact hI.boxRo (by (repeat first | exact m0 | refine List.Mem.tail _ ?_); first | done | fail) | exact HInv.vecRo hI (by (repeat first | exact m0 | refine List.Mem.tail _ ?_); first | done | fail))))) ?_
       refine jl_op rfl rfl (.none rfl) (v_extract rfl rfl tt rfl) ?_
       refine jl_op rfl rfl (.none rfl) (v_extract rfl rfl tt rfl) ?_
       refine jl_op rfl rfl (.none rfl) (v_assign rfl rfl tt) ?_
       refine jl_op rfl rfl (.none rfl) (v_assign rfl rfl tt) ?_
       refine jl_nil ?_)))
  all_goals first | exact jq_ret2E (.inl rfl) Try.results28 rfl rfl rfl rfl (num_no (by simp_all) rfl) | (obtain rfl : i = N := (by omega); exact jq_ret2E (.inl rfl) Try.results28 rfl rfl rfl rfl (num_yes (by simp_all)))
end Go.Vx
