/- Contracts of functions of the program and of the reference. -/
import Derived.Test.YteddfolpmmimiaaCoLoudOf
import Derived.Test.YteddfolpmmimiaaCoMixLadders
import Derived.Test.YteddfolpmmimiaaCoOne
import Derived.Test.YteddfolpmmimiaaCoPulse
import Derived.Test.YteddfolpmmimiaaCoSamePredictor
import Derived.Test.YteddfolpmmimiaaCoValidPredictor
namespace Go.Vx
open Go.Proofs
set_option maxRecDepth 4000
set_option maxHeartbeats 4000000
attribute [local irreducible] J JL JQ JA VOp Con Ext XOp ConM ConW ConW2
attribute [local irreducible] farith fcmp ofInt truncZ conv sinN
theorem c_drawn (s : Int) (hs : 0 ≤ s ∧ s ≤ 2147483647) : Con Try.prog 132 [.int .i64 s] (fun _ => True) (.tuple #[F (drawU s), .int .i64 (nextS s)]) := by
  refine con_intro (H := []) Try.func132 (by decide) rfl rfl (fun w _ => HInv.refl w) (fun w0 _ => ?_)
  (repeat' (first
    | refine j_condLt rfl (fun _ => ?_) (fun _ => ?_)
    | refine j_condLe rfl (fun _ => ?_) (fun _ => ?_)
    | refine j_condGt rfl (fun _ => ?_) (fun _ => ?_)
    | refine j_condGe rfl (fun _ => ?_) (fun _ => ?_)
    | refine j_condNe rfl (fun _ => ?_) (fun _ => ?_)
    | refine j_condEq rfl (fun _ => ?_) (fun _ => ?_)
    | refine j_condOrLt rfl (fun _ => ?_) (fun _ => ?_)
    | refine j_condAndLt rfl (fun _ => ?_) (fun _ => ?_)
    | refine j_condAndGe rfl (fun _ => ?_) (fun _ => ?_)
    | refine j_seq ?_
    | refine jq_then ?_
    | refine j_block ?_
    | refine j_ret ?_
    | refine jq_then_ret ?_
    | refine jq_block_ret ?_
    | refine jq_block_normal ?_
    | refine jq_then_exit ?_
    | refine jq_block_same rfl ?_
    | refine jq_block_other rfl ?_
    | refine j_skip ?_
    | refine j_exit ?_
    | refine j_label ?_
    | refine j_condCT ?_
    | refine j_condCF ?_
    | refine j_cond rfl (fun _ => ?_) (fun _ => ?_)
    | (refine j_region (id := 0) ?_
       refine jl_op rfl rfl (.none rfl) (v_assign rfl rfl tt) ?_
       refine jl_op rfl rfl (.none rfl) (v_assign rfl rfl tt) ?_
       refine jl_nil ?_)
    | (refine j_region (id := 1) ?_
       refine jl_op rfl rfl (.none rfl) (v_move rfl rfl tt) ?_
       refine jl_op rfl rfl (.none rfl) (v_iarith' rfl rfl rfl rfl tt tt (by first | exact fun _ => iw_mul (by omega) | exact fun _ => rfl)) ?_
       refine jl_op rfl rfl (.none rfl) (v_iarith' rfl rfl rfl rfl tt tt (by first | exact fun _ => iw_add (by omega) | exact fun _ => rfl)) ?_
       refine jl_op rfl rfl (.none rfl) (v_idiv rfl rfl rfl tt tt (fun _ => by omega) (by first | exact fun _ => .inl ⟨rfl, rfl⟩ | exact fun _ => .inr ⟨rfl, rfl⟩)) ?_
       refine jl_op rfl rfl (.none rfl) (v_assign rfl rfl tt) ?_
       refine jl_nil ?_)
    | (refine j_region (id := 2) ?_
       refine jl_op rfl rfl (.none rfl) (v_move rfl rfl tt) ?_
       refine jl_op rfl rfl (.none rfl) (v_idiv (Z := qS s) rfl rfl rfl tt tt (fun _ => by decide) (fun _ => .inl ⟨rfl, qS_eq hs⟩)) ?_
       refine jl_op rfl rfl (.none rfl) (v_iarith' (Z := qS s - 16384) rfl rfl rfl rfl tt tt (fun _ => iw_sub (by have := qS_in hs; omega))) ?_
       refine jl_op rfl rfl (.none rfl) (v_i2f rfl rfl tt (by rfl) Try.underlying24) ?_
       refine jl_op rfl rfl (.none rfl) (v_farith rfl rfl rfl rfl tt tt) ?_
       refine jl_op rfl rfl (.none rfl) (v_move rfl rfl tt) ?_
       refine jl_op rfl rfl (.none rfl) (v_assign rfl rfl tt) ?_
       refine jl_op rfl rfl (.none rfl) (v_assign rfl rfl tt) ?_
       refine jl_nil ?_)))
  all_goals (try simp only [show cn FloatKind.f32 0 = 0 from rfl, show cn FloatKind.f32 1182793728 = 1182793728 from rfl] at *)
  all_goals exact jq_ret2E (.inl rfl) Try.results132 rfl rfl rfl rfl rfl
attribute [local irreducible] drawU nextS pulse
theorem c_stepVoiceI (p o cl br sh q n : Nat) (s : Int) (ht : throatI p o cl br sh = true) (hv : voiceV q n s = true) : Con Try.prog 81 [.agg (throatC p o cl br sh).toArray, .agg (voiceC q n s).toArray] (fun _ => True) (stepV (fin (outN o cl br q s)) (stQ q n) (stN p sh q n s) (stS q n s) (outN o cl br q s)) := by
  refine con_intro (H := []) Try.func81 (by decide) rfl rfl (fun w _ => HInv.refl w) (fun w0 _ => ?_)
  (repeat' (first
    | refine j_condLt rfl (fun _ => ?_) (fun _ => ?_)
    | refine j_condLe rfl (fun _ => ?_) (fun _ => ?_)
    | refine j_condGt rfl (fun _ => ?_) (fun _ => ?_)
    | refine j_condGe rfl (fun _ => ?_) (fun _ => ?_)
    | refine j_condNe rfl (fun _ => ?_) (fun _ => ?_)
    | refine j_condEq rfl (fun _ => ?_) (fun _ => ?_)
    | refine j_condOrLt rfl (fun _ => ?_) (fun _ => ?_)
    | refine j_condAndLt rfl (fun _ => ?_) (fun _ => ?_)
    | refine j_condAndGe rfl (fun _ => ?_) (fun _ => ?_)
    | refine j_seq ?_
    | refine jq_then ?_
    | refine j_block ?_
    | refine j_ret ?_
    | refine jq_then_ret ?_
    | refine jq_block_ret ?_
    | refine jq_block_normal ?_
    | refine jq_then_exit ?_
    | refine jq_block_same rfl ?_
    | refine jq_block_other rfl ?_
    | refine j_skip ?_
    | refine j_exit ?_
    | refine j_label ?_
    | refine j_condCT ?_
    | refine j_condCF ?_
    | refine j_cond rfl (fun _ => ?_) (fun _ => ?_)
    | (refine j_region (id := 0) ?_
       refine jl_boxS rfl rfl rfl rfl rfl (fun b2 => ?_)
       refine jl_boxS rfl rfl rfl rfl rfl (fun b3 => ?_)
       refine jl_alloc rfl rfl rfl rfl zero29 (by rfl) (fun b4 => ?_)
       refine jl_op rfl rfl (.none rfl) (v_assign rfl rfl tt) ?_
       refine jl_op rfl rfl (.none rfl) (v_assign rfl rfl tt) ?_
       refine jl_nil ?_)
    | (refine j_region (id := 1) ?_
       first | refine jl_op rfl rfl (.none rfl) (v_loadS rfl Try.underlying26 (by rfl) (by kernel_rfl) rfl tt (by first | exact m0 | exact m1 | exact m2 | exact m3 | exact m4 | exact m5 | exact m6 | exact m7 | exact m8 | exact m9 | exact m10 | exact m11 | exact m12 | exact m13)) ?_ | refine jl_op rfl rfl (.none rfl) (v_loadSRo rfl Try.underlying26 (by rfl) (by kernel_rfl) rfl tt (by first | exact m0 | exact m1 | exact m2 | exact m3 | exact m4 | exact m5 | exact m6 | exact m7 | exact m8 | exact m9 | exact m10 | exact m11 | exact m12 | exact m13)) ?_
       refine jl_op rfl rfl (.none rfl) (v_fieldAddr rfl Try.underlying29 (by rfl) (by kernel_rfl) rfl tt) ?_
       first | refine jl_op rfl rfl (.none rfl) (v_loadBox rfl Try.underlying24 (by rfl) rfl tt (by first | exact m0 | exact m1 | exact m2 | exact m3 | exact m4 | exact m5 | exact m6 | exact m7 | exact m8 | exact m9 | exact m10 | exact m11 | exact m12 | exact m13) (by rfl)) ?_ | refine jl_op rfl rfl (.none rfl) (v_loadRoB rfl Try.underlying24 (by rfl) rfl tt (by first | exact m0 | exact m1 | exact m2 | exact m3 | exact m4 | exact m5 | exact m6 | exact m7 | exact m8 | exact m9 | exact m10 | exact m11 | exact m12 | exact m13) (by rfl)) ?_
       refine jl_op rfl rfl (.none rfl) (v_call (f := 84) (xs := [_, _]) rfl (c_pulseAt ..) (ev_cons rfl tt (ev_cons rfl tt ev_nil)) (by intro w hc hI; first | trivial | (exfalso; simp_all; done) | (clear hc; repeat' (first | exact ros_nil | refine ros_cons ?_ ?_ | exact hI.roRo (by first | exact m0 | exact m1 | exact m2 | exact m3 | exact m4 | exact m5 | exact m6 | exact m7 | exact m8 | exact m9 | exact m10 | exact m11 | exact m12 | exact m13) | exact hI.boxRo (by first | exact m0 | exact m1 | exact m2 | exact m3 | exact m4 | exact m5 | exact m6 | exact m7 | exact m8 | exact m9 | exact m10 | exact m11 | exact m12 | exact m13) | exact HInv.vecRo hI (by first | exact m0 | exact m1 | exact m2 | exact m3 | exact m4 | exact m5 | exact m6 | exact m7 | exact m8 | exact m9 | exact m10 | exact m11 | exact m12 | exact m13))))) ?_
       refine jl_op rfl rfl (.none rfl) (v_assign rfl rfl tt) ?_
       refine jl_nil ?_)
    | (refine j_region (id := 2) ?_
       refine jl_op rfl rfl (.none rfl) (v_fieldAddr rfl Try.underlying29 (by rfl) (by kernel_rfl) rfl tt) ?_
       first | refine jl_op rfl rfl (.none rfl) (v_loadBox rfl Try.underlying2 (by rfl) rfl tt (by first | exact m0 | exact m1 | exact m2 | exact m3 | exact m4 | exact m5 | exact m6 | exact m7 | exact m8 | exact m9 | exact m10 | exact m11 | exact m12 | exact m13) (by rfl)) ?_ | refine jl_op rfl rfl (.none rfl) (v_loadRoB rfl Try.underlying2 (by rfl) rfl tt (by first | exact m0 | exact m1 | exact m2 | exact m3 | exact m4 | exact m5 | exact m6 | exact m7 | exact m8 | exact m9 | exact m10 | exact m11 | exact m12 | exact m13) (by rfl)) ?_
       first | refine jl_op rfl rfl (.none rfl) (v_call (f := 132) (xs := [_]) rfl (c_drawn s (seedOf hv)) (ev_cons rfl tt ev_nil) (by intro w hc hI; first | trivial | (exfalso; simp_all; done) | (clear hc; repeat' (first | exact ros_nil | refine ros_cons ?_ ?_ | exact hI.roRo (by first | exact m0 | exact m1 | exact m2 | exact m3 | exact m4 | exact m5 | exact m6 | exact m7 | exact m8 | exact m9 | exact m10 | exact m11 | exact m12 | exact m13) | exact hI.boxRo (by first | exact m0 | exact m1 | exact m2 | exact m3 | exact m4 | exact m5 | exact m6 | exact m7 | exact m8 | exact m9 | exact m10 | exact m11 | exact m12 | exact m13) | exact HInv.vecRo hI (by first | exact m0 | exact m1 | exact m2 | exact m3 | exact m4 | exact m5 | exact m6 | exact m7 | exact m8 | exact m9 | exact m10 | exact m11 | exact m12 | exact m13))))) ?_ | refine jl_op rfl rfl (.none rfl) (v_call (f := 132) (xs := [_]) rfl (c_drawn (nextS s) (nextS_in (seedOf hv))) (ev_cons rfl tt ev_nil) (by intro w hc hI; first | trivial | (exfalso; simp_all; done) | (clear hc; repeat' (first | exact ros_nil | refine ros_cons ?_ ?_ | exact hI.roRo (by first | exact m0 | exact m1 | exact m2 | exact m3 | exact m4 | exact m5 | exact m6 | exact m7 | exact m8 | exact m9 | exact m10 | exact m11 | exact m12 | exact m13) | exact hI.boxRo (by first | exact m0 | exact m1 | exact m2 | exact m3 | exact m4 | exact m5 | exact m6 | exact m7 | exact m8 | exact m9 | exact m10 | exact m11 | exact m12 | exact m13) | exact HInv.vecRo hI (by first | exact m0 | exact m1 | exact m2 | exact m3 | exact m4 | exact m5 | exact m6 | exact m7 | exact m8 | exact m9 | exact m10 | exact m11 | exact m12 | exact m13))))) ?_
       refine jl_op rfl rfl (.none rfl) (v_move rfl rfl tt) ?_
       refine jl_op rfl rfl (.none rfl) (v_extract rfl rfl tt rfl) ?_
       refine jl_op rfl rfl (.none rfl) (v_extract rfl rfl tt rfl) ?_
       refine jl_op rfl rfl (.none rfl) (v_assign rfl rfl tt) ?_
       refine jl_op rfl rfl (.none rfl) (v_assign rfl rfl tt) ?_
       refine jl_nil ?_)
    | (refine j_region (id := 3) ?_
       refine jl_op rfl rfl (.none rfl) (v_move rfl rfl tt) ?_
       refine jl_op rfl rfl (.none rfl) (v_fieldAddr rfl Try.underlying29 (by rfl) (by kernel_rfl) rfl tt) ?_
       first | refine jl_storeBox (i := 0) rfl rfl rfl (by kernel_rfl) rfl rfl rfl rfl rfl ?_ | refine jl_storeBox (i := 1) rfl rfl rfl (by kernel_rfl) rfl rfl rfl rfl rfl ?_ | refine jl_storeBox (i := 2) rfl rfl rfl (by kernel_rfl) rfl rfl rfl rfl rfl ?_ | refine jl_storeBox (i := 3) rfl rfl rfl (by kernel_rfl) rfl rfl rfl rfl rfl ?_ | refine jl_storeBox (i := 4) rfl rfl rfl (by kernel_rfl) rfl rfl rfl rfl rfl ?_ | refine jl_storeBox (i := 5) rfl rfl rfl (by kernel_rfl) rfl rfl rfl rfl rfl ?_ | refine jl_storeBox (i := 6) rfl rfl rfl (by kernel_rfl) rfl rfl rfl rfl rfl ?_ | refine jl_storeBox (i := 7) rfl rfl rfl (by kernel_rfl) rfl rfl rfl rfl rfl ?_
       refine jl_nil ?_)
    | (refine j_region (id := 4) ?_
       refine jl_op rfl rfl (.none rfl) (v_move rfl rfl tt) ?_
       refine jl_op rfl rfl (.none rfl) (v_fieldAddr rfl Try.underlying26 (by rfl) (by kernel_rfl) rfl tt) ?_
       first | refine jl_op rfl rfl (.none rfl) (v_loadBox rfl Try.underlying24 (by rfl) rfl tt (by first | exact m0 | exact m1 | exact m2 | exact m3 | exact m4 | exact m5 | exact m6 | exact m7 | exact m8 | exact m9 | exact m10 | exact m11 | exact m12 | exact m13) (by rfl)) ?_ | refine jl_op rfl rfl (.none rfl) (v_loadRoB rfl Try.underlying24 (by rfl) rfl tt (by first | exact m0 | exact m1 | exact m2 | exact m3 | exact m4 | exact m5 | exact m6 | exact m7 | exact m8 | exact m9 | exact m10 | exact m11 | exact m12 | exact m13) (by rfl)) ?_
       refine jl_op rfl rfl (.none rfl) (v_move rfl rfl tt) ?_
       refine jl_op rfl rfl (.none rfl) (v_move rfl rfl tt) ?_
       refine jl_op rfl rfl (.none rfl) (v_farith rfl rfl rfl rfl tt tt) ?_
       refine jl_op rfl rfl (.none rfl) (v_farith rfl rfl rfl rfl tt tt) ?_
       refine jl_op rfl rfl (.none rfl) (v_farith rfl rfl rfl rfl tt tt) ?_
       refine jl_op rfl rfl (.none rfl) (v_assign rfl rfl tt) ?_
       refine jl_nil ?_)
    | (refine j_region (id := 5) ?_
       refine jl_op rfl rfl (.none rfl) (v_fieldAddr rfl Try.underlying29 (by rfl) (by kernel_rfl) rfl tt) ?_
       first | refine jl_op rfl rfl (.none rfl) (v_loadBox rfl Try.underlying24 (by rfl) rfl tt (by first | exact m0 | exact m1 | exact m2 | exact m3 | exact m4 | exact m5 | exact m6 | exact m7 | exact m8 | exact m9 | exact m10 | exact m11 | exact m12 | exact m13) (by rfl)) ?_ | refine jl_op rfl rfl (.none rfl) (v_loadRoB rfl Try.underlying24 (by rfl) rfl tt (by first | exact m0 | exact m1 | exact m2 | exact m3 | exact m4 | exact m5 | exact m6 | exact m7 | exact m8 | exact m9 | exact m10 | exact m11 | exact m12 | exact m13) (by rfl)) ?_
       refine jl_op rfl rfl (.none rfl) (v_fieldAddr rfl Try.underlying29 (by rfl) (by kernel_rfl) rfl tt) ?_
       first | refine jl_op rfl rfl (.none rfl) (v_loadBox rfl Try.underlying24 (by rfl) rfl tt (by first | exact m0 | exact m1 | exact m2 | exact m3 | exact m4 | exact m5 | exact m6 | exact m7 | exact m8 | exact m9 | exact m10 | exact m11 | exact m12 | exact m13) (by rfl)) ?_ | refine jl_op rfl rfl (.none rfl) (v_loadRoB rfl Try.underlying24 (by rfl) rfl tt (by first | exact m0 | exact m1 | exact m2 | exact m3 | exact m4 | exact m5 | exact m6 | exact m7 | exact m8 | exact m9 | exact m10 | exact m11 | exact m12 | exact m13) (by rfl)) ?_
       refine jl_op rfl rfl (.none rfl) (v_farith rfl rfl rfl rfl tt tt) ?_
       refine jl_op rfl rfl (.none rfl) (v_farith rfl rfl rfl rfl tt tt) ?_
       refine jl_op rfl rfl (.none rfl) (v_fieldAddr rfl Try.underlying29 (by rfl) (by kernel_rfl) rfl tt) ?_
       first | refine jl_storeBox (i := 0) rfl rfl rfl (by kernel_rfl) rfl rfl rfl rfl rfl ?_ | refine jl_storeBox (i := 1) rfl rfl rfl (by kernel_rfl) rfl rfl rfl rfl rfl ?_ | refine jl_storeBox (i := 2) rfl rfl rfl (by kernel_rfl) rfl rfl rfl rfl rfl ?_ | refine jl_storeBox (i := 3) rfl rfl rfl (by kernel_rfl) rfl rfl rfl rfl rfl ?_ | refine jl_storeBox (i := 4) rfl rfl rfl (by kernel_rfl) rfl rfl rfl rfl rfl ?_ | refine jl_storeBox (i := 5) rfl rfl rfl (by kernel_rfl) rfl rfl rfl rfl rfl ?_ | refine jl_storeBox (i := 6) rfl rfl rfl (by kernel_rfl) rfl rfl rfl rfl rfl ?_ | refine jl_storeBox (i := 7) rfl rfl rfl (by kernel_rfl) rfl rfl rfl rfl rfl ?_
       refine jl_nil ?_)
    | (refine j_region (id := 6) ?_
       refine jl_op rfl rfl (.none rfl) (v_fieldAddr rfl Try.underlying29 (by rfl) (by kernel_rfl) rfl tt) ?_
       first | refine jl_op rfl rfl (.none rfl) (v_loadBox rfl Try.underlying24 (by rfl) rfl tt (by first | exact m0 | exact m1 | exact m2 | exact m3 | exact m4 | exact m5 | exact m6 | exact m7 | exact m8 | exact m9 | exact m10 | exact m11 | exact m12 | exact m13) (by rfl)) ?_ | refine jl_op rfl rfl (.none rfl) (v_loadRoB rfl Try.underlying24 (by rfl) rfl tt (by first | exact m0 | exact m1 | exact m2 | exact m3 | exact m4 | exact m5 | exact m6 | exact m7 | exact m8 | exact m9 | exact m10 | exact m11 | exact m12 | exact m13) (by rfl)) ?_
       refine jl_op rfl rfl (.none rfl) (v_fcmp rfl rfl rfl rfl tt tt) ?_
       refine jl_nil ?_)
    | (refine j_region (id := 7) ?_
       refine jl_op rfl rfl (.none rfl) (v_fieldAddr rfl Try.underlying29 (by rfl) (by kernel_rfl) rfl tt) ?_
       first | refine jl_op rfl rfl (.none rfl) (v_loadBox rfl Try.underlying24 (by rfl) rfl tt (by first | exact m0 | exact m1 | exact m2 | exact m3 | exact m4 | exact m5 | exact m6 | exact m7 | exact m8 | exact m9 | exact m10 | exact m11 | exact m12 | exact m13) (by rfl)) ?_ | refine jl_op rfl rfl (.none rfl) (v_loadRoB rfl Try.underlying24 (by rfl) rfl tt (by first | exact m0 | exact m1 | exact m2 | exact m3 | exact m4 | exact m5 | exact m6 | exact m7 | exact m8 | exact m9 | exact m10 | exact m11 | exact m12 | exact m13) (by rfl)) ?_
       refine jl_op rfl rfl (.none rfl) (v_farith rfl rfl rfl rfl tt tt) ?_
       refine jl_op rfl rfl (.none rfl) (v_fieldAddr rfl Try.underlying29 (by rfl) (by kernel_rfl) rfl tt) ?_
       first | refine jl_storeBox (i := 0) rfl rfl rfl (by kernel_rfl) rfl rfl rfl rfl rfl ?_ | refine jl_storeBox (i := 1) rfl rfl rfl (by kernel_rfl) rfl rfl rfl rfl rfl ?_ | refine jl_storeBox (i := 2) rfl rfl rfl (by kernel_rfl) rfl rfl rfl rfl rfl ?_ | refine jl_storeBox (i := 3) rfl rfl rfl (by kernel_rfl) rfl rfl rfl rfl rfl ?_ | refine jl_storeBox (i := 4) rfl rfl rfl (by kernel_rfl) rfl rfl rfl rfl rfl ?_ | refine jl_storeBox (i := 5) rfl rfl rfl (by kernel_rfl) rfl rfl rfl rfl rfl ?_ | refine jl_storeBox (i := 6) rfl rfl rfl (by kernel_rfl) rfl rfl rfl rfl rfl ?_ | refine jl_storeBox (i := 7) rfl rfl rfl (by kernel_rfl) rfl rfl rfl rfl rfl ?_
       refine jl_nil ?_)
    | (refine j_region (id := 8) ?_
       refine jl_op rfl rfl (.none rfl) (v_fieldAddr rfl Try.underlying29 (by rfl) (by kernel_rfl) rfl tt) ?_
       first | refine jl_op rfl rfl (.none rfl) (v_loadBox rfl Try.underlying24 (by rfl) rfl tt (by first | exact m0 | exact m1 | exact m2 | exact m3 | exact m4 | exact m5 | exact m6 | exact m7 | exact m8 | exact m9 | exact m10 | exact m11 | exact m12 | exact m13) (by rfl)) ?_ | refine jl_op rfl rfl (.none rfl) (v_loadRoB rfl Try.underlying24 (by rfl) rfl tt (by first | exact m0 | exact m1 | exact m2 | exact m3 | exact m4 | exact m5 | exact m6 | exact m7 | exact m8 | exact m9 | exact m10 | exact m11 | exact m12 | exact m13) (by rfl)) ?_
       refine jl_op rfl rfl (.none rfl) (v_fcmp rfl rfl rfl rfl tt tt) ?_
       refine jl_nil ?_)
    | (refine j_region (id := 9) ?_
       refine jl_op rfl rfl (.none rfl) (v_fieldAddr rfl Try.underlying29 (by rfl) (by kernel_rfl) rfl tt) ?_
       first | refine jl_storeBox (i := 0) rfl rfl rfl (by kernel_rfl) rfl rfl rfl rfl rfl ?_ | refine jl_storeBox (i := 1) rfl rfl rfl (by kernel_rfl) rfl rfl rfl rfl rfl ?_ | refine jl_storeBox (i := 2) rfl rfl rfl (by kernel_rfl) rfl rfl rfl rfl rfl ?_ | refine jl_storeBox (i := 3) rfl rfl rfl (by kernel_rfl) rfl rfl rfl rfl rfl ?_ | refine jl_storeBox (i := 4) rfl rfl rfl (by kernel_rfl) rfl rfl rfl rfl rfl ?_ | refine jl_storeBox (i := 5) rfl rfl rfl (by kernel_rfl) rfl rfl rfl rfl rfl ?_ | refine jl_storeBox (i := 6) rfl rfl rfl (by kernel_rfl) rfl rfl rfl rfl rfl ?_ | refine jl_storeBox (i := 7) rfl rfl rfl (by kernel_rfl) rfl rfl rfl rfl rfl ?_
       refine jl_nil ?_)
    | (refine j_region (id := 10) ?_
       refine jl_op rfl rfl (.none rfl) (v_fieldAddr rfl Try.underlying29 (by rfl) (by kernel_rfl) rfl tt) ?_
       first | refine jl_op rfl rfl (.none rfl) (v_loadBox rfl Try.underlying2 (by rfl) rfl tt (by first | exact m0 | exact m1 | exact m2 | exact m3 | exact m4 | exact m5 | exact m6 | exact m7 | exact m8 | exact m9 | exact m10 | exact m11 | exact m12 | exact m13) (by rfl)) ?_ | refine jl_op rfl rfl (.none rfl) (v_loadRoB rfl Try.underlying2 (by rfl) rfl tt (by first | exact m0 | exact m1 | exact m2 | exact m3 | exact m4 | exact m5 | exact m6 | exact m7 | exact m8 | exact m9 | exact m10 | exact m11 | exact m12 | exact m13) (by rfl)) ?_
       first | refine jl_op rfl rfl (.none rfl) (v_call (f := 132) (xs := [_]) rfl (c_drawn s (seedOf hv)) (ev_cons rfl tt ev_nil) (by intro w hc hI; first | trivial | (exfalso; simp_all; done) | (clear hc; repeat' (first | exact ros_nil | refine ros_cons ?_ ?_ | exact hI.roRo (by first | exact m0 | exact m1 | exact m2 | exact m3 | exact m4 | exact m5 | exact m6 | exact m7 | exact m8 | exact m9 | exact m10 | exact m11 | exact m12 | exact m13) | exact hI.boxRo (by first | exact m0 | exact m1 | exact m2 | exact m3 | exact m4 | exact m5 | exact m6 | exact m7 | exact m8 | exact m9 | exact m10 | exact m11 | exact m12 | exact m13) | exact HInv.vecRo hI (by first | exact m0 | exact m1 | exact m2 | exact m3 | exact m4 | exact m5 | exact m6 | exact m7 | exact m8 | exact m9 | exact m10 | exact m11 | exact m12 | exact m13))))) ?_ | refine jl_op rfl rfl (.none rfl) (v_call (f := 132) (xs := [_]) rfl (c_drawn (nextS s) (nextS_in (seedOf hv))) (ev_cons rfl tt ev_nil) (by intro w hc hI; first | trivial | (exfalso; simp_all; done) | (clear hc; repeat' (first | exact ros_nil | refine ros_cons ?_ ?_ | exact hI.roRo (by first | exact m0 | exact m1 | exact m2 | exact m3 | exact m4 | exact m5 | exact m6 | exact m7 | exact m8 | exact m9 | exact m10 | exact m11 | exact m12 | exact m13) | exact hI.boxRo (by first | exact m0 | exact m1 | exact m2 | exact m3 | exact m4 | exact m5 | exact m6 | exact m7 | exact m8 | exact m9 | exact m10 | exact m11 | exact m12 | exact m13) | exact HInv.vecRo hI (by first | exact m0 | exact m1 | exact m2 | exact m3 | exact m4 | exact m5 | exact m6 | exact m7 | exact m8 | exact m9 | exact m10 | exact m11 | exact m12 | exact m13))))) ?_
       refine jl_op rfl rfl (.none rfl) (v_move rfl rfl tt) ?_
       refine jl_op rfl rfl (.none rfl) (v_extract rfl rfl tt rfl) ?_
       refine jl_op rfl rfl (.none rfl) (v_extract rfl rfl tt rfl) ?_
       refine jl_op rfl rfl (.none rfl) (v_assign rfl rfl tt) ?_
       refine jl_op rfl rfl (.none rfl) (v_assign rfl rfl tt) ?_
       refine jl_nil ?_)
    | (refine j_region (id := 11) ?_
       refine jl_op rfl rfl (.none rfl) (v_move rfl rfl tt) ?_
       refine jl_op rfl rfl (.none rfl) (v_fieldAddr rfl Try.underlying29 (by rfl) (by kernel_rfl) rfl tt) ?_
       first | refine jl_storeBox (i := 0) rfl rfl rfl (by kernel_rfl) rfl rfl rfl rfl rfl ?_ | refine jl_storeBox (i := 1) rfl rfl rfl (by kernel_rfl) rfl rfl rfl rfl rfl ?_ | refine jl_storeBox (i := 2) rfl rfl rfl (by kernel_rfl) rfl rfl rfl rfl rfl ?_ | refine jl_storeBox (i := 3) rfl rfl rfl (by kernel_rfl) rfl rfl rfl rfl rfl ?_ | refine jl_storeBox (i := 4) rfl rfl rfl (by kernel_rfl) rfl rfl rfl rfl rfl ?_ | refine jl_storeBox (i := 5) rfl rfl rfl (by kernel_rfl) rfl rfl rfl rfl rfl ?_ | refine jl_storeBox (i := 6) rfl rfl rfl (by kernel_rfl) rfl rfl rfl rfl rfl ?_ | refine jl_storeBox (i := 7) rfl rfl rfl (by kernel_rfl) rfl rfl rfl rfl rfl ?_
       refine jl_nil ?_)
    | (refine j_region (id := 12) ?_
       refine jl_op rfl rfl (.none rfl) (v_fieldAddr rfl Try.underlying26 (by rfl) (by kernel_rfl) rfl tt) ?_
       first | refine jl_op rfl rfl (.none rfl) (v_loadBox rfl Try.underlying24 (by rfl) rfl tt (by first | exact m0 | exact m1 | exact m2 | exact m3 | exact m4 | exact m5 | exact m6 | exact m7 | exact m8 | exact m9 | exact m10 | exact m11 | exact m12 | exact m13) (by rfl)) ?_ | refine jl_op rfl rfl (.none rfl) (v_loadRoB rfl Try.underlying24 (by rfl) rfl tt (by first | exact m0 | exact m1 | exact m2 | exact m3 | exact m4 | exact m5 | exact m6 | exact m7 | exact m8 | exact m9 | exact m10 | exact m11 | exact m12 | exact m13) (by rfl)) ?_
       refine jl_op rfl rfl (.none rfl) (v_fieldAddr rfl Try.underlying26 (by rfl) (by kernel_rfl) rfl tt) ?_
       first | refine jl_op rfl rfl (.none rfl) (v_loadBox rfl Try.underlying24 (by rfl) rfl tt (by first | exact m0 | exact m1 | exact m2 | exact m3 | exact m4 | exact m5 | exact m6 | exact m7 | exact m8 | exact m9 | exact m10 | exact m11 | exact m12 | exact m13) (by rfl)) ?_ | refine jl_op rfl rfl (.none rfl) (v_loadRoB rfl Try.underlying24 (by rfl) rfl tt (by first | exact m0 | exact m1 | exact m2 | exact m3 | exact m4 | exact m5 | exact m6 | exact m7 | exact m8 | exact m9 | exact m10 | exact m11 | exact m12 | exact m13) (by rfl)) ?_
       refine jl_op rfl rfl (.none rfl) (v_move rfl rfl tt) ?_
       refine jl_op rfl rfl (.none rfl) (v_farith rfl rfl rfl rfl tt tt) ?_
       refine jl_op rfl rfl (.none rfl) (v_farith rfl rfl rfl rfl tt tt) ?_
       refine jl_op rfl rfl (.none rfl) (v_farith rfl rfl rfl rfl tt tt) ?_
       refine jl_op rfl rfl (.none rfl) (v_maxF rfl rfl rfl rfl tt tt (fun _ => by decide) (fun _ => nowV_num ht hv)) ?_
       refine jl_op rfl rfl (.none rfl) (v_fieldAddr rfl Try.underlying29 (by rfl) (by kernel_rfl) rfl tt) ?_
       first | refine jl_storeBox (i := 0) rfl rfl rfl (by kernel_rfl) rfl rfl rfl rfl rfl ?_ | refine jl_storeBox (i := 1) rfl rfl rfl (by kernel_rfl) rfl rfl rfl rfl rfl ?_ | refine jl_storeBox (i := 2) rfl rfl rfl (by kernel_rfl) rfl rfl rfl rfl rfl ?_ | refine jl_storeBox (i := 3) rfl rfl rfl (by kernel_rfl) rfl rfl rfl rfl rfl ?_ | refine jl_storeBox (i := 4) rfl rfl rfl (by kernel_rfl) rfl rfl rfl rfl rfl ?_ | refine jl_storeBox (i := 5) rfl rfl rfl (by kernel_rfl) rfl rfl rfl rfl rfl ?_ | refine jl_storeBox (i := 6) rfl rfl rfl (by kernel_rfl) rfl rfl rfl rfl rfl ?_ | refine jl_storeBox (i := 7) rfl rfl rfl (by kernel_rfl) rfl rfl rfl rfl rfl ?_
       refine jl_nil ?_)
    | (refine j_region (id := 13) ?_
       refine jl_op rfl rfl (.none rfl) (v_move rfl rfl tt) ?_
       refine jl_op rfl rfl (.none rfl) (v_call (f := 86) (xs := [_]) rfl (c_IsFinite ..) (ev_cons rfl tt ev_nil) (by intro w hc hI; first | trivial | (exfalso; simp_all; done) | (clear hc; repeat' (first | exact ros_nil | refine ros_cons ?_ ?_ | exact hI.roRo (by first | exact m0 | exact m1 | exact m2 | exact m3 | exact m4 | exact m5 | exact m6 | exact m7 | exact m8 | exact m9 | exact m10 | exact m11 | exact m12 | exact m13) | exact hI.boxRo (by first | exact m0 | exact m1 | exact m2 | exact m3 | exact m4 | exact m5 | exact m6 | exact m7 | exact m8 | exact m9 | exact m10 | exact m11 | exact m12 | exact m13) | exact HInv.vecRo hI (by first | exact m0 | exact m1 | exact m2 | exact m3 | exact m4 | exact m5 | exact m6 | exact m7 | exact m8 | exact m9 | exact m10 | exact m11 | exact m12 | exact m13))))) ?_
       refine jl_op rfl rfl (.none rfl) (v_not rfl rfl tt) ?_
       refine jl_op rfl rfl (.none rfl) (v_move rfl rfl tt) ?_
       first | refine jl_op rfl rfl (.some rfl rfl rfl) (v_loadS rfl Try.underlying29 (by rfl) (by kernel_rfl) rfl tt (by first | exact m0 | exact m1 | exact m2 | exact m3 | exact m4 | exact m5 | exact m6 | exact m7 | exact m8 | exact m9 | exact m10 | exact m11 | exact m12 | exact m13)) ?_ | refine jl_op rfl rfl (.some rfl rfl rfl) (v_loadSRo rfl Try.underlying29 (by rfl) (by kernel_rfl) rfl tt (by first | exact m0 | exact m1 | exact m2 | exact m3 | exact m4 | exact m5 | exact m6 | exact m7 | exact m8 | exact m9 | exact m10 | exact m11 | exact m12 | exact m13)) ?_
       refine jl_op rfl rfl (.some rfl rfl rfl) (v_call (f := 20) (xs := [_]) rfl (c_validVoiceI ..) (ev_cons rfl ii ev_nil) (by intro w hc hI; first | trivial | (exfalso; simp_all; done) | (clear hc; repeat' (first | exact ros_nil | refine ros_cons ?_ ?_ | exact hI.roRo (by first | exact m0 | exact m1 | exact m2 | exact m3 | exact m4 | exact m5 | exact m6 | exact m7 | exact m8 | exact m9 | exact m10 | exact m11 | exact m12 | exact m13) | exact hI.boxRo (by first | exact m0 | exact m1 | exact m2 | exact m3 | exact m4 | exact m5 | exact m6 | exact m7 | exact m8 | exact m9 | exact m10 | exact m11 | exact m12 | exact m13) | exact HInv.vecRo hI (by first | exact m0 | exact m1 | exact m2 | exact m3 | exact m4 | exact m5 | exact m6 | exact m7 | exact m8 | exact m9 | exact m10 | exact m11 | exact m12 | exact m13))))) ?_
       refine jl_op rfl rfl (.some rfl rfl rfl) (v_not rfl rfl ii) ?_
       refine jl_op rfl rfl (.none rfl) (v_or rfl rfl tt rfl fi) ?_
       refine jl_nil ?_)
    | (refine j_region (id := 14) ?_
       refine jl_op rfl rfl (.none rfl) (v_buildW (Ws := [_, _, _]) rfl Try.underlying29 zero29 places29 (by rfl) (by rfl) ev_nil (by rfl) (by rfl) rfl) ?_
       first | refine jl_storeS (i := 0) rfl rfl rfl (by kernel_rfl) rfl rfl rfl rfl ?_ | refine jl_storeS (i := 1) rfl rfl rfl (by kernel_rfl) rfl rfl rfl rfl ?_ | refine jl_storeS (i := 2) rfl rfl rfl (by kernel_rfl) rfl rfl rfl rfl ?_ | refine jl_storeS (i := 3) rfl rfl rfl (by kernel_rfl) rfl rfl rfl rfl ?_ | refine jl_storeS (i := 4) rfl rfl rfl (by kernel_rfl) rfl rfl rfl rfl ?_ | refine jl_storeS (i := 5) rfl rfl rfl (by kernel_rfl) rfl rfl rfl rfl ?_ | refine jl_storeS (i := 6) rfl rfl rfl (by kernel_rfl) rfl rfl rfl rfl ?_ | refine jl_storeS (i := 7) rfl rfl rfl (by kernel_rfl) rfl rfl rfl rfl ?_
       refine jl_op rfl rfl (.none rfl) (v_assign rfl rfl tt) ?_
       refine jl_op rfl rfl (.none rfl) (v_assign rfl rfl tt) ?_
       refine jl_nil ?_)
    | (refine j_region (id := 15) ?_
       first | refine jl_op rfl rfl (.none rfl) (v_loadS rfl Try.underlying29 (by rfl) (by kernel_rfl) rfl tt (by first | exact m0 | exact m1 | exact m2 | exact m3 | exact m4 | exact m5 | exact m6 | exact m7 | exact m8 | exact m9 | exact m10 | exact m11 | exact m12 | exact m13)) ?_ | refine jl_op rfl rfl (.none rfl) (v_loadSRo rfl Try.underlying29 (by rfl) (by kernel_rfl) rfl tt (by first | exact m0 | exact m1 | exact m2 | exact m3 | exact m4 | exact m5 | exact m6 | exact m7 | exact m8 | exact m9 | exact m10 | exact m11 | exact m12 | exact m13)) ?_
       refine jl_op rfl rfl (.none rfl) (v_move rfl rfl tt) ?_
       first | refine jl_storeS (i := 0) rfl rfl rfl (by kernel_rfl) rfl rfl rfl rfl ?_ | refine jl_storeS (i := 1) rfl rfl rfl (by kernel_rfl) rfl rfl rfl rfl ?_ | refine jl_storeS (i := 2) rfl rfl rfl (by kernel_rfl) rfl rfl rfl rfl ?_ | refine jl_storeS (i := 3) rfl rfl rfl (by kernel_rfl) rfl rfl rfl rfl ?_ | refine jl_storeS (i := 4) rfl rfl rfl (by kernel_rfl) rfl rfl rfl rfl ?_ | refine jl_storeS (i := 5) rfl rfl rfl (by kernel_rfl) rfl rfl rfl rfl ?_ | refine jl_storeS (i := 6) rfl rfl rfl (by kernel_rfl) rfl rfl rfl rfl ?_ | refine jl_storeS (i := 7) rfl rfl rfl (by kernel_rfl) rfl rfl rfl rfl ?_
       refine jl_op rfl rfl (.none rfl) (v_assign rfl rfl tt) ?_
       refine jl_op rfl rfl (.none rfl) (v_assign rfl rfl tt) ?_
       refine jl_nil ?_)))
  all_goals (try simp only [show cn FloatKind.f32 0 = 0 from rfl, show cn FloatKind.f32 1065353216 = 1065353216 from rfl] at *)
  all_goals first | exact jq_retM (.inl rfl) Try.results81 (ret_cell (i := 0) rfl rfl Try.underlying29 rfl (by kernel_rfl) (ret_tmp rfl rfl (ret_tmp rfl rfl ret_nil))) rfl (stepV_no (step_no (voice_0 ht hv (by assumption)) (by assumption))) | exact jq_retM (.inl rfl) Try.results81 (ret_cell (i := 0) rfl rfl Try.underlying29 rfl (by kernel_rfl) (ret_tmp rfl rfl (ret_tmp rfl rfl ret_nil))) rfl (stepV_no (step_no (voice_1 ht hv (by assumption) (by assumption)) (by assumption))) | exact jq_retM (.inl rfl) Try.results81 (ret_cell (i := 0) rfl rfl Try.underlying29 rfl (by kernel_rfl) (ret_tmp rfl rfl (ret_tmp rfl rfl ret_nil))) rfl (stepV_no (step_no (voice_2 ht hv (by assumption) (by assumption)) (by assumption))) | exact jq_retM (.inl rfl) Try.results81 (ret_cell (i := 0) rfl rfl Try.underlying29 rfl (by kernel_rfl) (ret_tmp rfl rfl (ret_tmp rfl rfl ret_nil))) rfl (stepV_yes (step_yes (by assumption)) (stQ_0 (by assumption)) (stN_0 (by assumption)) (stS_0 (by assumption))) | exact jq_retM (.inl rfl) Try.results81 (ret_cell (i := 0) rfl rfl Try.underlying29 rfl (by kernel_rfl) (ret_tmp rfl rfl (ret_tmp rfl rfl ret_nil))) rfl (stepV_yes (step_yes (by assumption)) (stQ_1 (by assumption) (by assumption)) (stN_m (by assumption) (nowV_fn ht hv)) (stS_1 (by assumption))) | exact jq_retM (.inl rfl) Try.results81 (ret_cell (i := 0) rfl rfl Try.underlying29 rfl (by kernel_rfl) (ret_tmp rfl rfl (ret_tmp rfl rfl ret_nil))) rfl (stepV_yes (step_yes (by assumption)) (stQ_2 (by assumption) (by assumption)) (stN_m (by assumption) (nowV_fn ht hv)) (stS_1 (by assumption)))
end Go.Vx
