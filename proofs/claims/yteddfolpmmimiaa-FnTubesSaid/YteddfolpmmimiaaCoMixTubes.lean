/- Contracts of functions of the program and of the reference. -/
import Derived.Test.YteddfolpmmimiaaCoFour
import Derived.Test.YteddfolpmmimiaaCoLoudOf
import Derived.Test.YteddfolpmmimiaaCoMixLadders
import Derived.Test.YteddfolpmmimiaaCoSamePredictor
import Derived.Test.YteddfolpmmimiaaCoTube
import Derived.Test.YteddfolpmmimiaaCoValidPredictor
namespace Go.Vx
open Go.Proofs
set_option maxRecDepth 4000
set_option maxHeartbeats 4000000
attribute [local irreducible] J JL JQ JA VOp Con Ext XOp ConM ConW ConW2
theorem c_mixTF (i y : Nat) (b1 b2 : Nat) (x : Nat) (B : Option Addr) (M bc : Nat) (h : Nat → Nat) (l2 t2 p2 : Nat) (hi : i < M) : Con Try.prog 126 [.int .i64 i, F y, .pointer (some ⟨b1, 0, none⟩), .pointer (some ⟨b2, 0, none⟩)] (RoS [.ro (some ⟨b1, 0, none⟩) [F x], .ro (some ⟨b2, 0, none⟩) [.slice B M bc, F l2, F t2, F p2], .ro B (tab M h)]) (F (farith .add .f32 y (farith .mul .f32 x (farith .sub .f32 (h i) y)))) := by
  refine con_intro (H := [.ro (some ⟨b1, 0, none⟩) [F x], .ro (some ⟨b2, 0, none⟩) [.slice B M bc, F l2, F t2, F p2], .ro B (tab M h)]) Try.func126 (by decide) rfl rfl (fun w h => h.inv) (fun w0 _ => ?_)
  (repeat' (first
    | refine j_condLt rfl (fun _ => ?_) (fun _ => ?_)
    | refine j_condLe rfl (fun _ => ?_) (fun _ => ?_)
    | refine j_condGt rfl (fun _ => ?_) (fun _ => ?_)
    | refine j_condGe rfl (fun _ => ?_) (fun _ => ?_)
    | refine j_condNe rfl (fun _ => ?_) (fun _ => ?_)
    | refine j_condEq rfl (fun _ => ?_) (fun _ => ?_)
    | refine j_condOrLt rfl (fun _ => ?_) (fun _ => ?_)
    | refine j_condAndLt rfl (fun _ => ?_) (fun _ => ?_)
    | refine j_condAndGe rfl (fun _ => ?_) (fun _ => ?_)
    | refine j_seq ?_
    | refine jq_then ?_
    | refine j_block ?_
    | refine j_ret ?_
    | refine jq_then_ret ?_
    | refine jq_block_ret ?_
    | refine jq_block_normal ?_
    | refine jq_then_exit ?_
    | refine jq_block_same rfl ?_
    | refine jq_block_other rfl ?_
    | refine j_skip ?_
    | refine j_exit ?_
    | refine j_label ?_
    | refine j_condCT ?_
    | refine j_condCF ?_
    | refine j_cond rfl (fun _ => ?_) (fun _ => ?_)
    | (refine j_region (id := 0) ?_
       refine jl_op rfl rfl (.none rfl) (v_assign rfl rfl tt) ?_
       refine jl_nil ?_)
    | (refine j_draw (id := 1) (by kernel_rfl) (by kernel_rfl) ?_
       refine ja_op rfl (.none rfl) (v_move rfl rfl tt) ?_
       first | refine ja_op rfl (.none rfl) (v_loadBox rfl Try.underlying24 (by rfl) rfl tt (by (repeat first | exact m0 | refine List.Mem.tail _ ?_); first | done | fail) (by rfl)) ?_ | refine ja_op rfl (.none rfl) (v_loadRoB rfl Try.underlying24 (by rfl) rfl tt (by (repeat first | exact m0 | refine List.Mem.tail _ ?_); first | done | fail) (by rfl)) ?_
       refine ja_op rfl (.none rfl) (v_fieldAddr rfl Try.underlying47 (by rfl) (by kernel_rfl) rfl tt) ?_
       first | refine ja_op rfl (.none rfl) (v_loadBox rfl Try.underlying34 (by rfl) rfl tt (by (repeat first | exact m0 | refine List.Mem.tail _ ?_); first | done | fail) (by rfl)) ?_ | refine ja_op rfl (.none rfl) (v_loadRoB rfl Try.underlying34 (by rfl) rfl tt (by (repeat first | exact m0 | refine List.Mem.tail _ ?_); first | done | fail) (by rfl)) ?_
       refine ja_op rfl (.none rfl) (v_move rfl rfl tt) ?_
       refine ja_op rfl (.none rfl) (v_indexAddr rfl Try.underlying34 (by kernel_rfl) rfl rfl tt tt (by first | exact hA_some | exact hA_roT (by (repeat first | exact m0 | refine List.Mem.tail _ ?_); first | done | fail) | exact hA_vecT (by (repeat first | exact m0 | refine List.Mem.tail _ ?_); first | done | fail) | exact hA_vecP (by (repeat first | exact m0 | refine List.Mem.tail _ ?_); first | done | fail) | exact hA_roI (by (repeat first | exact m0 | refine List.Mem.tail _ ?_); first | done | fail) | exact hA_vecI (by (repeat first | exact m0 | refine List.Mem.tail _ ?_); first | done | fail) | exact hA_vecPI (by (repeat first | exact m0 | refine List.Mem.tail _ ?_); first | done | fail) | exact hA_vecPS (by (repeat first | exact m0 | refine List.Mem.tail _ ?_); first | done | fail) | exact hA_ro (by (repeat first | exact m0 | refine List.Mem.tail _ ?_); first | done | fail) | exact hA_vec (by (repeat first | exact m0 | refine List.Mem.tail _ ?_); first | done | fail) | exact hA_roY (by (repeat first | exact m0 | refine List.Mem.tail _ ?_); first | done | fail)) (fun _hc => ⟨(by first | with_reducible rfl | exact (Int.toNat_of_nonneg (by omega)).symm | (have hc := g_gt _hc; exact (Int.toNat_of_nonneg (by omega)).symm)), (by first | omega | (rw [tabY_length]; omega) | (rw [tab_length]; omega) | (rw [part_length]; omega) | (rw [tabI_length]; omega) | (rw [partI_length]; omega) | (rw [List.length_set, part_length]; omega))⟩)) ?_
       first | refine ja_op rfl (.none rfl) (v_loadVec rfl Try.underlying24 (by rfl) rfl tt (by (repeat first | exact m0 | refine List.Mem.tail _ ?_); first | done | fail) (fun _ => (by first | with_reducible exact part_get_ge (by omega) (by omega) | with_reducible exact tab_get (by omega) | with_reducible exact tabI_get (by omega) | with_reducible exact part_get (by omega) | exact part_get_ge (by omega) (by omega) | exact tab_get (by omega) | exact tabI_get (by omega) | exact part_get (by omega) | exact part_set_get (by omega) | exact partI_get (by omega) | exact tabY_get (by omega) | assumption | rfl))) ?_ | refine ja_op rfl (.none rfl) (v_loadRo rfl Try.underlying24 (by rfl) rfl tt (by (repeat first | exact m0 | refine List.Mem.tail _ ?_); first | done | fail) (fun _ => (by first | with_reducible exact part_get_ge (by omega) (by omega) | with_reducible exact tab_get (by omega) | with_reducible exact tabI_get (by omega) | with_reducible exact part_get (by omega) | exact part_get_ge (by omega) (by omega) | exact tab_get (by omega) | exact tabI_get (by omega) | exact part_get (by omega) | exact part_set_get (by omega) | exact partI_get (by omega) | exact tabY_get (by omega) | assumption | rfl))) ?_
       refine ja_op rfl (.none rfl) (v_move rfl rfl tt) ?_
       refine ja_op rfl (.none rfl) (v_farith rfl rfl rfl rfl tt tt) ?_
       refine ja_op rfl (.none rfl) (v_farith rfl rfl rfl rfl tt tt) ?_
       refine ja_op rfl (.none rfl) (v_farith rfl rfl rfl rfl tt tt) ?_
       refine ja_op rfl (.none rfl) (v_assign rfl rfl tt) ?_
       refine ja_nil rfl ?_)))
  all_goals exact jq_ret1 (.inl rfl) Try.results126 rfl
theorem c_mixTI (A : Option Addr) (N cap : Nat) (g : Nat → Nat) (l t p : Nat) (B : Option Addr) (M bc : Nat) (h : Nat → Nat) (l2 t2 p2 : Nat) (x : Nat) (hN : N ≤ 4294967296) (hM : M ≤ 4294967296) : ConM Try.prog 70 [.agg #[.slice A N cap, F l, F t, F p], .agg #[.slice B M bc, F l2, F t2, F p2], F x] (RoS [.ro A (tab N g), .ro B (tab M h)]) (strV ((((tubeB N g l t p && tubeB M h l2 t2 p2) && decide (N = M)) && btw x 0 1065353216) && tubeB N (fun j => farith .add .f32 (g j) (farith .mul .f32 x (farith .sub .f32 (h j) (g j)))) l t p) N (tubeR l t p)) (listK 24 ((((tubeB N g l t p && tubeB M h l2 t2 p2) && decide (N = M)) && btw x 0 1065353216) && tubeB N (fun j => farith .add .f32 (g j) (farith .mul .f32 x (farith .sub .f32 (h j) (g j)))) l t p) N (fun j => farith .add .f32 (g j) (farith .mul .f32 x (farith .sub .f32 (h j) (g j))))) := by
  refine conM_intro (H := [.ro A (tab N g), .ro B (tab M h)]) Try.func70 (by decide) rfl rfl (fun w h => h.inv) (fun w0 _ => ?_)
  (repeat' (first
    | refine j_condLt rfl (fun _ => ?_) (fun _ => ?_)
    | refine j_condLe rfl (fun _ => ?_) (fun _ => ?_)
    | refine j_condGt rfl (fun _ => ?_) (fun _ => ?_)
    | refine j_condGe rfl (fun _ => ?_) (fun _ => ?_)
    | refine j_condNe rfl (fun _ => ?_) (fun _ => ?_)
    | refine j_condEq rfl (fun _ => ?_) (fun _ => ?_)
    | refine j_condOrLt rfl (fun _ => ?_) (fun _ => ?_)
    | refine j_condAndLt rfl (fun _ => ?_) (fun _ => ?_)
    | refine j_condAndGe rfl (fun _ => ?_) (fun _ => ?_)
    | refine j_seq ?_
    | refine jq_then ?_
    | refine j_block ?_
    | refine j_ret ?_
    | refine jq_then_ret ?_
    | refine jq_block_ret ?_
    | refine jq_block_normal ?_
    | refine jq_then_exit ?_
    | refine jq_block_same rfl ?_
    | refine jq_block_other rfl ?_
    | refine j_skip ?_
    | refine j_exit ?_
    | refine j_label ?_
    | refine j_condCT ?_
    | refine j_condCF ?_
    | refine j_cond rfl (fun _ => ?_) (fun _ => ?_)
    | (refine j_region (id := 0) ?_
       refine jl_boxS rfl rfl rfl rfl rfl (fun b3 => ?_)
       refine jl_boxS rfl rfl rfl rfl rfl (fun b4 => ?_)
       refine jl_box rfl rfl rfl rfl rfl rfl (fun b5 => ?_)
       refine jl_alloc rfl rfl rfl rfl zero47 (by rfl) (fun b6 => ?_)
       refine jl_op rfl rfl (.none rfl) (v_assign rfl rfl tt) ?_
       refine jl_nil ?_)
    | (refine j_region (id := 1) ?_
       first | refine jl_op rfl rfl (.none rfl) (v_loadS rfl Try.underlying47 (by rfl) (by kernel_rfl) rfl tt (by (repeat first | exact m0 | refine List.Mem.tail _ ?_); first | done | fail)) ?_ | refine jl_op rfl rfl (.none rfl) (v_loadSRo rfl Try.underlying47 (by rfl) (by kernel_rfl) rfl tt (by (repeat first | exact m0 | refine List.Mem.tail _ ?_); first | done | fail)) ?_
       refine jl_op rfl rfl (.none rfl) (v_call (f := 90) (xs := [_]) rfl (c_validTI _ _ _ _ _ _ _ (by omega)) (ev_cons rfl tt ev_nil) (by intro w hc hI; first | trivial | (exfalso; simp_all; done) | (clear hc; repeat' (first | exact ros_nil | refine ros_cons ?_ ?_ | exact hI.roRo (by (repeat first | exact m0 | refine List.Mem.tail _ ?_); first | done | fail) | exact hI.boxRo (by (repeat first | exact m0 | refine List.Mem.tail _ ?_); first | done | fail) | exact HInv.vecRo hI (by (repeat first | exact m0 | refine List.Mem.tail _ ?_); first | done | fail))))) ?_
       refine jl_op rfl rfl (.none rfl) (v_not rfl rfl tt) ?_
       refine jl_op rfl rfl (.none rfl) (v_move rfl rfl tt) ?_
       first | refine jl_op rfl rfl (.some rfl rfl rfl) (v_loadS rfl Try.underlying47 (by rfl) (by kernel_rfl) rfl tt (by (repeat first | exact m0 | refine List.Mem.tail _ ?_); first | done | fail)) ?_ | refine jl_op rfl rfl (.some rfl rfl rfl) (v_loadSRo rfl Try.underlying47 (by rfl) (by kernel_rfl) rfl tt (by (repeat first | exact m0 | refine List.Mem.tail _ ?_); first | done | fail)) ?_
       refine jl_op rfl rfl (.some rfl rfl rfl) (v_call (f := 90) (xs := [_]) rfl (c_validTI _ _ _ _ _ _ _ (by omega)) (ev_cons rfl ii ev_nil) (by intro w hc hI; first | trivial | (exfalso; simp_all; done) | (clear hc; repeat' (first | exact ros_nil | refine ros_cons ?_ ?_ | exact hI.roRo (by (repeat first | exact m0 | refine List.Mem.tail _ ?_); first | done | fail) | exact hI.boxRo (by (repeat first | exact m0 | refine List.Mem.tail _ ?_); first | done | fail) | exact HInv.vecRo hI (by (repeat first | exact m0 | refine List.Mem.tail _ ?_); first | done | fail))))) ?_
       refine jl_op rfl rfl (.some rfl rfl rfl) (v_not rfl rfl ii) ?_
       refine jl_op rfl rfl (.none rfl) (v_or rfl rfl tt rfl fi) ?_
       refine jl_op rfl rfl (.none rfl) (v_move rfl rfl tt) ?_
       refine jl_op rfl rfl (.some rfl rfl rfl) (v_fieldAddr rfl Try.underlying47 (by rfl) (by kernel_rfl) rfl tt) ?_
       first | refine jl_op rfl rfl (.some rfl rfl rfl) (v_loadBox rfl Try.underlying34 (by rfl) rfl ii (by (repeat first | exact m0 | refine List.Mem.tail _ ?_); first | done | fail) (by rfl)) ?_ | refine jl_op rfl rfl (.some rfl rfl rfl) (v_loadRoB rfl Try.underlying34 (by rfl) rfl ii (by (repeat first | exact m0 | refine List.Mem.tail _ ?_); first | done | fail) (by rfl)) ?_
       refine jl_op rfl rfl (.some rfl rfl rfl) (v_len rfl rfl Try.underlying34 rfl ii) ?_
       refine jl_op rfl rfl (.some rfl rfl rfl) (v_fieldAddr rfl Try.underlying47 (by rfl) (by kernel_rfl) rfl tt) ?_
       first | refine jl_op rfl rfl (.some rfl rfl rfl) (v_loadBox rfl Try.underlying34 (by rfl) rfl ii (by (repeat first | exact m0 | refine List.Mem.tail _ ?_); first | done | fail) (by rfl)) ?_ | refine jl_op rfl rfl (.some rfl rfl rfl) (v_loadRoB rfl Try.underlying34 (by rfl) rfl ii (by (repeat first | exact m0 | refine List.Mem.tail _ ?_); first | done | fail) (by rfl)) ?_
       refine jl_op rfl rfl (.some rfl rfl rfl) (v_len rfl rfl Try.underlying34 rfl ii) ?_
       refine jl_op rfl rfl (.some rfl rfl rfl) (v_icmp rfl rfl rfl rfl ii ii) ?_
       refine jl_op rfl rfl (.none rfl) (v_or rfl rfl tt rfl fi) ?_
       refine jl_op rfl rfl (.none rfl) (v_move rfl rfl tt) ?_
       first | refine jl_op rfl rfl (.some rfl rfl rfl) (v_loadBox rfl Try.underlying24 (by rfl) rfl tt (by (repeat first | exact m0 | refine List.Mem.tail _ ?_); first | done | fail) (by rfl)) ?_ | refine jl_op rfl rfl (.some rfl rfl rfl) (v_loadRoB rfl Try.underlying24 (by rfl) rfl tt (by (repeat first | exact m0 | refine List.Mem.tail _ ?_); first | done | fail) (by rfl)) ?_
       refine jl_op rfl rfl (.some rfl rfl rfl) (v_call (f := 104) (xs := [_, _, _]) rfl (c_isBetween ..) (ev_cons rfl ii (ev_cons rfl tt (ev_cons rfl tt ev_nil))) (by intro w hc hI; first | trivial | (exfalso; simp_all; done) | (clear hc; repeat' (first | exact ros_nil | refine ros_cons ?_ ?_ | exact hI.roRo (by (repeat first | exact m0 | refine List.Mem.tail _ ?_); first | done | fail) | exact hI.boxRo (by (repeat first | exact m0 | refine List.Mem.tail _ ?_); first | done | fail) | exact HInv.vecRo hI (by (repeat first | exact m0 | refine List.Mem.tail _ ?_); first | done | fail))))) ?_
       refine jl_op rfl rfl (.some rfl rfl rfl) (v_not rfl rfl ii) ?_
       refine jl_op rfl rfl (.none rfl) (v_or rfl rfl tt rfl fi) ?_
       refine jl_nil ?_)
    | (refine j_region (id := 2) ?_
       refine jl_op rfl rfl (.none rfl) (v_buildW (Ws := [_, _, _, _]) rfl Try.underlying47 zero47 places47 (by rfl) (by rfl) ev_nil (by rfl) (by rfl) rfl) ?_
       first | refine jl_storeS (i := 0) rfl rfl rfl (by kernel_rfl) rfl rfl rfl rfl ?_ | refine jl_storeS (i := 1) rfl rfl rfl (by kernel_rfl) rfl rfl rfl rfl ?_ | refine jl_storeS (i := 2) rfl rfl rfl (by kernel_rfl) rfl rfl rfl rfl ?_ | refine jl_storeS (i := 3) rfl rfl rfl (by kernel_rfl) rfl rfl rfl rfl ?_ | refine jl_storeS (i := 4) rfl rfl rfl (by kernel_rfl) rfl rfl rfl rfl ?_ | refine jl_storeS (i := 5) rfl rfl rfl (by kernel_rfl) rfl rfl rfl rfl ?_ | refine jl_storeS (i := 6) rfl rfl rfl (by kernel_rfl) rfl rfl rfl rfl ?_ | refine jl_storeS (i := 7) rfl rfl rfl (by kernel_rfl) rfl rfl rfl rfl ?_
       refine jl_op rfl rfl (.none rfl) (v_assign rfl rfl tt) ?_
       refine jl_nil ?_)
    | (refine j_region (id := 3) ?_
       first | refine jl_op rfl rfl (.none rfl) (v_loadS rfl Try.underlying47 (by rfl) (by kernel_rfl) rfl tt (by (repeat first | exact m0 | refine List.Mem.tail _ ?_); first | done | fail)) ?_ | refine jl_op rfl rfl (.none rfl) (v_loadSRo rfl Try.underlying47 (by rfl) (by kernel_rfl) rfl tt (by (repeat first | exact m0 | refine List.Mem.tail _ ?_); first | done | fail)) ?_
       refine jl_op rfl rfl (.none rfl) (v_makeFunc rfl (ev_cons rfl tt (ev_cons rfl tt ev_nil)) (fun vs h => by exact abL_exact rfl h)) ?_
       refine jl_x rfl rfl rfl (x_call (f := 125) (xs := [_, _]) rfl (c_changedT _ _ _ _ _ _ _ (fun j => farith .add .f32 (g j) (farith .mul .f32 x (farith .sub .f32 (h j) (g j)))) _ [.pointer (some ⟨b5, 0, none⟩), .pointer (some ⟨b4, 0, none⟩)] [.ro (some ⟨b5, 0, none⟩) [F x], .ro (some ⟨b4, 0, none⟩) [.slice B M bc, F l2, F t2, F p2], .ro B (tab M h)] hN ⟨rfl, rfl, trivial⟩ (by simp [HFact.isOwn]) (fun _ j hj => c_mixTF j _ _ _ _ _ _ _ _ _ _ _ (by have := mixT_len (by assumption); omega))) (ev_cons rfl tt (ev_cons rfl tt ev_nil)) (by intro w hI; first | trivial | (repeat' (first | exact ros_nil | refine ros_cons ?_ ?_ | exact hI.roRo (by (repeat first | exact m0 | refine List.Mem.tail _ ?_); first | done | fail) | exact hI.boxRo (by (repeat first | exact m0 | refine List.Mem.tail _ ?_); first | done | fail) | exact HInv.vecRo hI (by (repeat first | exact m0 | refine List.Mem.tail _ ?_); first | done | fail))))) (fun s33 => ?_)
       refine jl_op rfl rfl (.none rfl) (v_extract rfl rfl tt rfl) ?_
       refine jl_op rfl rfl (.none rfl) (v_extract rfl rfl tt rfl) ?_
       first | refine jl_storeS (i := 0) rfl rfl rfl (by kernel_rfl) rfl rfl rfl rfl ?_ | refine jl_storeS (i := 1) rfl rfl rfl (by kernel_rfl) rfl rfl rfl rfl ?_ | refine jl_storeS (i := 2) rfl rfl rfl (by kernel_rfl) rfl rfl rfl rfl ?_ | refine jl_storeS (i := 3) rfl rfl rfl (by kernel_rfl) rfl rfl rfl rfl ?_ | refine jl_storeS (i := 4) rfl rfl rfl (by kernel_rfl) rfl rfl rfl rfl ?_ | refine jl_storeS (i := 5) rfl rfl rfl (by kernel_rfl) rfl rfl rfl rfl ?_ | refine jl_storeS (i := 6) rfl rfl rfl (by kernel_rfl) rfl rfl rfl rfl ?_ | refine jl_storeS (i := 7) rfl rfl rfl (by kernel_rfl) rfl rfl rfl rfl ?_
       refine jl_op rfl rfl (.none rfl) (v_assign rfl rfl tt) ?_
       refine jl_nil ?_)))
  all_goals first | exact retS_no 0 Try.results70 rfl rfl rfl Try.underlying47 rfl (by kernel_rfl) (mixT_no (by assumption)) rfl | exact retS_pass 1 0 Try.results70 rfl rfl rfl Try.underlying47 rfl (by kernel_rfl) rfl (mixT_yes (by assumption) (by rw [mixT_a (a := tubeB N g l t p) (by assumption)]; rfl)) rfl
end Go.Vx
