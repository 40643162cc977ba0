/- Contracts of functions of the program and of the reference. -/
import Derived.Test.YteddfolpmmimiaaCoFour
import Derived.Test.YteddfolpmmimiaaCoLoudOf
import Derived.Test.YteddfolpmmimiaaCoMixLadders
import Derived.Test.YteddfolpmmimiaaCoSamePredictor
import Derived.Test.YteddfolpmmimiaaCoTube
import Derived.Test.YteddfolpmmimiaaCoValidPredictor
namespace Go.Vx
open Go.Proofs
set_option maxRecDepth 4000
set_option maxHeartbeats 4000000
attribute [local irreducible] J JL JQ JA VOp Con Ext XOp ConM ConW ConW2
theorem c_scaleTF (i : Int) (y : Nat) (B : Nat) (x : Nat) : Con Try.prog 127 [.int .i64 i, F y, .pointer (some ⟨B, 0, none⟩)] (RoS [.ro (some ⟨B, 0, none⟩) [F x]]) (F (farith .mul .f32 y x)) := by
  refine con_intro (H := [.ro (some ⟨B, 0, none⟩) [F x]]) Try.func127 (by decide) rfl rfl (fun w h => h.inv) (fun w0 _ => ?_)
  (repeat' (first
    | refine j_condLt rfl (fun _ => ?_) (fun _ => ?_)
    | refine j_condLe rfl (fun _ => ?_) (fun _ => ?_)
    | refine j_condGt rfl (fun _ => ?_) (fun _ => ?_)
    | refine j_condGe rfl (fun _ => ?_) (fun _ => ?_)
    | refine j_condNe rfl (fun _ => ?_) (fun _ => ?_)
    | refine j_condEq rfl (fun _ => ?_) (fun _ => ?_)
    | refine j_condOrLt rfl (fun _ => ?_) (fun _ => ?_)
    | refine j_condAndLt rfl (fun _ => ?_) (fun _ => ?_)
    | refine j_condAndGe rfl (fun _ => ?_) (fun _ => ?_)
    | refine j_seq ?_
    | refine jq_then ?_
    | refine j_block ?_
    | refine j_ret ?_
    | refine jq_then_ret ?_
    | refine jq_block_ret ?_
    | refine jq_block_normal ?_
    | refine jq_then_exit ?_
    | refine jq_block_same rfl ?_
    | refine jq_block_other rfl ?_
    | refine j_skip ?_
    | refine j_exit ?_
    | refine j_label ?_
    | refine j_condCT ?_
    | refine j_condCF ?_
    | refine j_cond rfl (fun _ => ?_) (fun _ => ?_)
    | (refine j_region (id := 0) ?_
       refine jl_op rfl rfl (.none rfl) (v_assign rfl rfl tt) ?_
       refine jl_nil ?_)
    | (refine j_region (id := 1) ?_
       refine jl_op rfl rfl (.none rfl) (v_move rfl rfl tt) ?_
       first | refine jl_op rfl rfl (.none rfl) (v_loadBox rfl Try.underlying24 (by rfl) rfl tt (by (repeat first | exact m0 | refine List.Mem.tail _ ?_); first | done | fail) (by rfl)) ?_ | refine jl_op rfl rfl (.none rfl) (v_loadRoB rfl Try.underlying24 (by rfl) rfl tt (by (repeat first | exact m0 | refine List.Mem.tail _ ?_); first | done | fail) (by rfl)) ?_
       refine jl_op rfl rfl (.none rfl) (v_farith rfl rfl rfl rfl tt tt) ?_
       refine jl_op rfl rfl (.none rfl) (v_assign rfl rfl tt) ?_
       refine jl_nil ?_)))
  all_goals exact jq_ret1 (.inl rfl) Try.results127 rfl
theorem c_scaleTI (A : Option Addr) (N cap : Nat) (g : Nat → Nat) (l t p : Nat) (x : Nat) (hN : N ≤ 4294967296) : ConM Try.prog 71 [.agg #[.slice A N cap, F l, F t, F p], F x] (RoS [.ro A (tab N g)]) (strV (tubeB N g l t p && tubeB N (fun j => farith .mul .f32 (g j) x) l t p) N (tubeR l t p)) (listK 24 (tubeB N g l t p && tubeB N (fun j => farith .mul .f32 (g j) x) l t p) N (fun j => farith .mul .f32 (g j) x)) := by
  refine conM_intro (H := [.ro A (tab N g)]) Try.func71 (by decide) rfl rfl (fun w h => h.inv) (fun w0 _ => ?_)
  (repeat' (first
    | refine j_condLt rfl (fun _ => ?_) (fun _ => ?_)
    | refine j_condLe rfl (fun _ => ?_) (fun _ => ?_)
    | refine j_condGt rfl (fun _ => ?_) (fun _ => ?_)
    | refine j_condGe rfl (fun _ => ?_) (fun _ => ?_)
    | refine j_condNe rfl (fun _ => ?_) (fun _ => ?_)
    | refine j_condEq rfl (fun _ => ?_) (fun _ => ?_)
    | refine j_condOrLt rfl (fun _ => ?_) (fun _ => ?_)
    | refine j_condAndLt rfl (fun _ => ?_) (fun _ => ?_)
    | refine j_condAndGe rfl (fun _ => ?_) (fun _ => ?_)
    | refine j_seq ?_
    | refine jq_then ?_
    | refine j_block ?_
    | refine j_ret ?_
    | refine jq_then_ret ?_
    | refine jq_block_ret ?_
    | refine jq_block_normal ?_
    | refine jq_then_exit ?_
    | refine jq_block_same rfl ?_
    | refine jq_block_other rfl ?_
    | refine j_skip ?_
    | refine j_exit ?_
    | refine j_label ?_
    | refine j_condCT ?_
    | refine j_condCF ?_
    | refine j_cond rfl (fun _ => ?_) (fun _ => ?_)
    | (refine j_region (id := 0) ?_
       refine jl_boxS rfl rfl rfl rfl rfl (fun b2 => ?_)
       refine jl_box rfl rfl rfl rfl rfl rfl (fun b3 => ?_)
       refine jl_alloc rfl rfl rfl rfl zero47 (by rfl) (fun b4 => ?_)
       refine jl_op rfl rfl (.none rfl) (v_assign rfl rfl tt) ?_
       refine jl_nil ?_)
    | (refine j_region (id := 1) ?_
       first | refine jl_op rfl rfl (.none rfl) (v_loadBox rfl Try.underlying24 (by rfl) rfl tt (by (repeat first | exact m0 | refine List.Mem.tail _ ?_); first | done | fail) (by rfl)) ?_ | refine jl_op rfl rfl (.none rfl) (v_loadRoB rfl Try.underlying24 (by rfl) rfl tt (by (repeat first | exact m0 | refine List.Mem.tail _ ?_); first | done | fail) (by rfl)) ?_
       refine jl_op rfl rfl (.none rfl) (v_call (f := 86) (xs := [_]) rfl (c_IsFinite ..) (ev_cons rfl tt ev_nil) (by intro w hc hI; first | trivial | (exfalso; simp_all; done) | (clear hc; repeat' (first | exact ros_nil | refine ros_cons ?_ ?_ | exact hI.roRo (by (repeat first | exact m0 | refine List.Mem.tail _ ?_); first | done | fail) | exact hI.boxRo (by (repeat first | exact m0 | refine List.Mem.tail _ ?_); first | done | fail) | exact HInv.vecRo hI (by (repeat first | exact m0 | refine List.Mem.tail _ ?_); first | done | fail))))) ?_
       refine jl_op rfl rfl (.none rfl) (v_not rfl rfl tt) ?_
       refine jl_nil ?_)
    | (refine j_region (id := 2) ?_
       refine jl_op rfl rfl (.none rfl) (v_buildW (Ws := [_, _, _, _]) rfl Try.underlying47 zero47 places47 (by rfl) (by rfl) ev_nil (by rfl) (by rfl) rfl) ?_
       first | refine jl_storeS (i := 0) rfl rfl rfl (by kernel_rfl) rfl rfl rfl rfl ?_ | refine jl_storeS (i := 1) rfl rfl rfl (by kernel_rfl) rfl rfl rfl rfl ?_ | refine jl_storeS (i := 2) rfl rfl rfl (by kernel_rfl) rfl rfl rfl rfl ?_ | refine jl_storeS (i := 3) rfl rfl rfl (by kernel_rfl) rfl rfl rfl rfl ?_ | refine jl_storeS (i := 4) rfl rfl rfl (by kernel_rfl) rfl rfl rfl rfl ?_ | refine jl_storeS (i := 5) rfl rfl rfl (by kernel_rfl) rfl rfl rfl rfl ?_ | refine jl_storeS (i := 6) rfl rfl rfl (by kernel_rfl) rfl rfl rfl rfl ?_ | refine jl_storeS (i := 7) rfl rfl rfl (by kernel_rfl) rfl rfl rfl rfl ?_
       refine jl_op rfl rfl (.none rfl) (v_assign rfl rfl tt) ?_
       refine jl_nil ?_)
    | (refine j_region (id := 3) ?_
       first | refine jl_op rfl rfl (.none rfl) (v_loadS rfl Try.underlying47 (by rfl) (by kernel_rfl) rfl tt (by (repeat first | exact m0 | refine List.Mem.tail _ ?_); first | done | fail)) ?_ | refine jl_op rfl rfl (.none rfl) (v_loadSRo rfl Try.underlying47 (by rfl) (by kernel_rfl) rfl tt (by (repeat first | exact m0 | refine List.Mem.tail _ ?_); first | done | fail)) ?_
       refine jl_op rfl rfl (.none rfl) (v_makeFunc rfl (ev_cons rfl tt ev_nil) (fun vs h => by exact abL_exact rfl h)) ?_
       refine jl_x rfl rfl rfl (x_call (f := 125) (xs := [_, _]) rfl (c_changedT _ _ _ _ _ _ _ (fun j => farith .mul .f32 (g j) x) _ [.pointer (some ⟨b3, 0, none⟩)] [.ro (some ⟨b3, 0, none⟩) [F x]] hN ⟨rfl, trivial⟩ (by simp [HFact.isOwn]) (fun _ j hj => c_scaleTF ..)) (ev_cons rfl tt (ev_cons rfl tt ev_nil)) (by intro w hI; first | trivial | (repeat' (first | exact ros_nil | refine ros_cons ?_ ?_ | exact hI.roRo (by (repeat first | exact m0 | refine List.Mem.tail _ ?_); first | done | fail) | exact hI.boxRo (by (repeat first | exact m0 | refine List.Mem.tail _ ?_); first | done | fail) | exact HInv.vecRo hI (by (repeat first | exact m0 | refine List.Mem.tail _ ?_); first | done | fail))))) (fun s12 => ?_)
       refine jl_op rfl rfl (.none rfl) (v_extract rfl rfl tt rfl) ?_
       refine jl_op rfl rfl (.none rfl) (v_extract rfl rfl tt rfl) ?_
       first | refine jl_storeS (i := 0) rfl rfl rfl (by kernel_rfl) rfl rfl rfl rfl ?_ | refine jl_storeS (i := 1) rfl rfl rfl (by kernel_rfl) rfl rfl rfl rfl ?_ | refine jl_storeS (i := 2) rfl rfl rfl (by kernel_rfl) rfl rfl rfl rfl ?_ | refine jl_storeS (i := 3) rfl rfl rfl (by kernel_rfl) rfl rfl rfl rfl ?_ | refine jl_storeS (i := 4) rfl rfl rfl (by kernel_rfl) rfl rfl rfl rfl ?_ | refine jl_storeS (i := 5) rfl rfl rfl (by kernel_rfl) rfl rfl rfl rfl ?_ | refine jl_storeS (i := 6) rfl rfl rfl (by kernel_rfl) rfl rfl rfl rfl ?_ | refine jl_storeS (i := 7) rfl rfl rfl (by kernel_rfl) rfl rfl rfl rfl ?_
       refine jl_op rfl rfl (.none rfl) (v_assign rfl rfl tt) ?_
       refine jl_nil ?_)))
  all_goals first | exact retS_no 0 Try.results71 rfl rfl rfl Try.underlying47 rfl (by kernel_rfl) (scale_fin ((Bool.not_eq_true' ..).mp (by assumption))) rfl | exact retS_pass 1 0 Try.results71 rfl rfl rfl Try.underlying47 rfl (by kernel_rfl) rfl rfl rfl
end Go.Vx
