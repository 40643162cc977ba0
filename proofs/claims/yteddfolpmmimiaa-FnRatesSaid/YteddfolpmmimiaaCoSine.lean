/- Contracts of functions of the program and of the reference. -/
import Derived.Test.YteddfolpmmimiaaCoLoudOf
import Derived.Test.YteddfolpmmimiaaCoMixLadders
import Derived.Test.YteddfolpmmimiaaCoOne
import Derived.Test.YteddfolpmmimiaaCoSamePredictor
import Derived.Test.YteddfolpmmimiaaCoValidPredictor
import Derived.Test.YteddfolpmmimiaaCoVoices
namespace Go.Vx
open Go.Proofs
set_option maxRecDepth 4000
set_option maxHeartbeats 4000000
attribute [local irreducible] J JL JQ JA VOp Con Ext XOp ConM ConW ConW2
attribute [local irreducible] farith fcmp ofInt truncZ conv
theorem x_f64nan : Ext Try.prog 141 [.int .u64 9221120237041090561] (.float .f64 (qnan .f64)) := ext_f64nan Try.func141 (by decide) rfl rfl rfl
theorem c_NaN  : Con Try.prog 97 [] (fun _ => True) (.float .f64 (qnan .f64)) := by
  refine con_intro (H := []) Try.func97 (by decide) rfl rfl (fun w _ => HInv.refl w) (fun w0 _ => ?_)
  (repeat' (first
    | refine j_condLt rfl (fun _ => ?_) (fun _ => ?_)
    | refine j_condLe rfl (fun _ => ?_) (fun _ => ?_)
    | refine j_condGt rfl (fun _ => ?_) (fun _ => ?_)
    | refine j_condGe rfl (fun _ => ?_) (fun _ => ?_)
    | refine j_condNe rfl (fun _ => ?_) (fun _ => ?_)
    | refine j_condEq rfl (fun _ => ?_) (fun _ => ?_)
    | refine j_condOrLt rfl (fun _ => ?_) (fun _ => ?_)
    | refine j_condAndLt rfl (fun _ => ?_) (fun _ => ?_)
    | refine j_condAndGe rfl (fun _ => ?_) (fun _ => ?_)
    | refine j_seq ?_
    | refine jq_then ?_
    | refine j_block ?_
    | refine j_ret ?_
    | refine jq_then_ret ?_
    | refine jq_block_ret ?_
    | refine jq_block_normal ?_
    | refine jq_then_exit ?_
    | refine jq_block_same rfl ?_
    | refine jq_block_other rfl ?_
    | refine j_skip ?_
    | refine j_exit ?_
    | refine j_label ?_
    | refine j_condCT ?_
    | refine j_condCF ?_
    | refine j_cond rfl (fun _ => ?_) (fun _ => ?_)
    | (refine j_region (id := 0) ?_
       refine jl_op rfl rfl (.none rfl) (v_assign rfl rfl tt) ?_
       refine jl_nil ?_)
    | (refine j_region (id := 1) ?_
       refine jl_op rfl rfl (.none rfl) (v_ext (f := 141) (xs := [_]) rfl (ev_cons rfl tt ev_nil) (by first | exact fun _ => x_f64nan .. | skip)) ?_
       refine jl_op rfl rfl (.none rfl) (v_assign rfl rfl tt) ?_
       refine jl_nil ?_)))
  all_goals exact jq_ret1 (.inl rfl) Try.results97 rfl
theorem c_fractionOf (y : Nat) (hy : Fn .f64 y) (hb : bigW y = false) : Con Try.prog 98 [.float .f64 (y)] (fun _ => True) (.float .f64 (frac y)) := by
  refine con_intro (H := []) Try.func98 (by decide) rfl rfl (fun w _ => HInv.refl w) (fun w0 _ => ?_)
  (repeat' (first
    | refine j_condLt rfl (fun _ => ?_) (fun _ => ?_)
    | refine j_condLe rfl (fun _ => ?_) (fun _ => ?_)
    | refine j_condGt rfl (fun _ => ?_) (fun _ => ?_)
    | refine j_condGe rfl (fun _ => ?_) (fun _ => ?_)
    | refine j_condNe rfl (fun _ => ?_) (fun _ => ?_)
    | refine j_condEq rfl (fun _ => ?_) (fun _ => ?_)
    | refine j_condOrLt rfl (fun _ => ?_) (fun _ => ?_)
    | refine j_condAndLt rfl (fun _ => ?_) (fun _ => ?_)
    | refine j_condAndGe rfl (fun _ => ?_) (fun _ => ?_)
    | refine j_seq ?_
    | refine jq_then ?_
    | refine j_block ?_
    | refine j_ret ?_
    | refine jq_then_ret ?_
    | refine jq_block_ret ?_
    | refine jq_block_normal ?_
    | refine jq_then_exit ?_
    | refine jq_block_same rfl ?_
    | refine jq_block_other rfl ?_
    | refine j_skip ?_
    | refine j_exit ?_
    | refine j_label ?_
    | refine j_condCT ?_
    | refine j_condCF ?_
    | refine j_cond rfl (fun _ => ?_) (fun _ => ?_)
    | (refine j_region (id := 0) ?_
       refine jl_op rfl rfl (.none rfl) (v_assign rfl rfl tt) ?_
       refine jl_nil ?_)
    | (refine j_region (id := 1) ?_
       refine jl_op rfl rfl (.none rfl) (v_move rfl rfl tt) ?_
       refine jl_op rfl rfl (.none rfl) (v_move rfl rfl tt) ?_
       refine jl_op rfl rfl (.none rfl) (v_f2i rfl rfl tt (by rfl) Try.underlying2 (fun _ => trunc_in (by assumption) (by assumption))) ?_
       refine jl_op rfl rfl (.none rfl) (v_i2f rfl rfl tt (by rfl) Try.underlying43) ?_
       refine jl_op rfl rfl (.none rfl) (v_farith rfl rfl rfl rfl tt tt) ?_
       refine jl_op rfl rfl (.none rfl) (v_assign rfl rfl tt) ?_
       refine jl_nil ?_)
    | (refine j_region (id := 2) ?_
       refine jl_op rfl rfl (.none rfl) (v_move rfl rfl tt) ?_
       refine jl_op rfl rfl (.none rfl) (v_fcmp rfl rfl rfl rfl tt tt) ?_
       refine jl_nil ?_)
    | (refine j_region (id := 3) ?_
       refine jl_op rfl rfl (.none rfl) (v_move rfl rfl tt) ?_
       refine jl_op rfl rfl (.none rfl) (v_farith rfl rfl rfl rfl tt tt) ?_
       refine jl_op rfl rfl (.none rfl) (v_assign rfl rfl tt) ?_
       refine jl_nil ?_)
    | (refine j_region (id := 4) ?_
       refine jl_op rfl rfl (.none rfl) (v_move rfl rfl tt) ?_
       refine jl_op rfl rfl (.none rfl) (v_assign rfl rfl tt) ?_
       refine jl_nil ?_)))
  all_goals (try simp only [show cn FloatKind.f64 0 = 0 from rfl, show cn FloatKind.f64 4607182418800017408 = 4607182418800017408 from rfl] at *)
  all_goals rename_i hx
  all_goals first | exact jq_retE (.inl rfl) Try.results98 rfl (congrArg (Value.float .f64) (frac_neg hx)) | exact jq_retE (.inl rfl) Try.results98 rfl (congrArg (Value.float .f64) (frac_pos hx))
theorem c_sineOf (y : Nat) (hy : Fn .f64 y) (hb : bigW y = false) : Con Try.prog 99 [.float .f64 (y)] (fun _ => True) (.float .f64 (sinW y)) := by
  refine con_intro (H := []) Try.func99 (by decide) rfl rfl (fun w _ => HInv.refl w) (fun w0 _ => ?_)
  (repeat' (first
    | refine j_condT rfl (by assumption) ?_
    | refine j_condF rfl (by assumption) ?_
    | refine j_condT rfl (by decide +kernel) ?_
    | refine j_condF rfl (by decide +kernel) ?_
    | refine jq_rounds ?_
    | refine j_rounds 30 ?_
    | refine j_condLt rfl (fun _ => ?_) (fun _ => ?_)
    | refine j_condLe rfl (fun _ => ?_) (fun _ => ?_)
    | refine j_condGt rfl (fun _ => ?_) (fun _ => ?_)
    | refine j_condGe rfl (fun _ => ?_) (fun _ => ?_)
    | refine j_condNe rfl (fun _ => ?_) (fun _ => ?_)
    | refine j_condEq rfl (fun _ => ?_) (fun _ => ?_)
    | refine j_condOrLt rfl (fun _ => ?_) (fun _ => ?_)
    | refine j_condAndLt rfl (fun _ => ?_) (fun _ => ?_)
    | refine j_condAndGe rfl (fun _ => ?_) (fun _ => ?_)
    | refine j_seq ?_
    | refine jq_then ?_
    | refine j_block ?_
    | refine j_ret ?_
    | refine jq_then_ret ?_
    | refine jq_block_ret ?_
    | refine jq_block_normal ?_
    | refine jq_then_exit ?_
    | refine jq_block_same rfl ?_
    | refine jq_block_other rfl ?_
    | refine j_skip ?_
    | refine j_exit ?_
    | refine j_label ?_
    | refine j_condCT ?_
    | refine j_condCF ?_
    | refine j_cond rfl (fun _ => ?_) (fun _ => ?_)
    | (refine j_region (id := 0) ?_
       refine jl_op rfl rfl (.none rfl) (v_assign rfl rfl tt) ?_
       refine jl_nil ?_)
    | (refine j_region (id := 1) ?_
       refine jl_op rfl rfl (.none rfl) (v_move rfl rfl tt) ?_
       refine jl_op rfl rfl (.none rfl) (v_call (f := 98) (xs := [_]) rfl (c_fractionOf _ hy hb) (ev_cons rfl tt ev_nil) (by intro w hc hI; first | trivial | (exfalso; simp_all; done) | (clear hc; repeat' (first | exact ros_nil | refine ros_cons ?_ ?_ | exact hI.roRo (by first | exact m0 | exact m1 | exact m2 | exact m3 | exact m4 | exact m5 | exact m6 | exact m7 | exact m8 | exact m9 | exact m10 | exact m11 | exact m12 | exact m13) | exact hI.boxRo (by first | exact m0 | exact m1 | exact m2 | exact m3 | exact m4 | exact m5 | exact m6 | exact m7 | exact m8 | exact m9 | exact m10 | exact m11 | exact m12 | exact m13) | exact HInv.vecRo hI (by first | exact m0 | exact m1 | exact m2 | exact m3 | exact m4 | exact m5 | exact m6 | exact m7 | exact m8 | exact m9 | exact m10 | exact m11 | exact m12 | exact m13))))) ?_
       refine jl_op rfl rfl (.none rfl) (v_assign rfl rfl tt) ?_
       refine jl_nil ?_)
    | (refine j_region (id := 2) ?_
       refine jl_op rfl rfl (.none rfl) (v_move rfl rfl tt) ?_
       refine jl_op rfl rfl (.none rfl) (v_fcmp rfl rfl rfl rfl tt tt) ?_
       refine jl_op rfl rfl (.none rfl) (v_assign rfl rfl tt) ?_
       refine jl_nil ?_)
    | (refine j_region (id := 3) ?_
       refine jl_op rfl rfl (.none rfl) (v_move rfl rfl tt) ?_
       refine jl_nil ?_)
    | (refine j_region (id := 4) ?_
       refine jl_op rfl rfl (.none rfl) (v_move rfl rfl tt) ?_
       refine jl_op rfl rfl (.none rfl) (v_farith rfl rfl rfl rfl tt tt) ?_
       refine jl_op rfl rfl (.none rfl) (v_assign rfl rfl tt) ?_
       refine jl_nil ?_)
    | (refine j_region (id := 5) ?_
       refine jl_op rfl rfl (.none rfl) (v_move rfl rfl tt) ?_
       refine jl_op rfl rfl (.none rfl) (v_fcmp rfl rfl rfl rfl tt tt) ?_
       refine jl_nil ?_)
    | (refine j_region (id := 6) ?_
       refine jl_op rfl rfl (.none rfl) (v_move rfl rfl tt) ?_
       refine jl_op rfl rfl (.none rfl) (v_farith rfl rfl rfl rfl tt tt) ?_
       refine jl_op rfl rfl (.none rfl) (v_assign rfl rfl tt) ?_
       refine jl_nil ?_)
    | (refine j_region (id := 7) ?_
       refine jl_op rfl rfl (.none rfl) (v_move rfl rfl tt) ?_
       refine jl_op rfl rfl (.none rfl) (v_farith rfl rfl rfl rfl tt tt) ?_
       refine jl_op rfl rfl (.none rfl) (v_assign rfl rfl tt) ?_
       refine jl_nil ?_)
    | (refine j_region (id := 8) ?_
       refine jl_op rfl rfl (.none rfl) (v_move rfl rfl tt) ?_
       refine jl_op rfl rfl (.none rfl) (v_move rfl rfl tt) ?_
       refine jl_op rfl rfl (.none rfl) (v_farith rfl rfl rfl rfl tt tt) ?_
       refine jl_op rfl rfl (.none rfl) (v_assign rfl rfl tt) ?_
       refine jl_op rfl rfl (.none rfl) (v_assign rfl rfl tt) ?_
       refine jl_nil ?_)
    | (refine j_region (id := 9) ?_
       refine jl_op rfl rfl (.none rfl) (v_assign rfl rfl tt) ?_
       refine jl_nil ?_)
    | (refine j_region (id := 10) ?_
       refine jl_op rfl rfl (.none rfl) (v_move rfl rfl tt) ?_
       refine jl_op rfl rfl (.none rfl) (v_fcmp rfl rfl rfl rfl tt tt) ?_
       refine jl_nil ?_)
    | (refine j_region (id := 11) ?_
       refine jl_op rfl rfl (.none rfl) (v_move rfl rfl tt) ?_
       refine jl_op rfl rfl (.none rfl) (v_farith rfl rfl rfl rfl tt tt) ?_
       refine jl_op rfl rfl (.none rfl) (v_assign rfl rfl tt) ?_
       refine jl_nil ?_)
    | (refine j_region (id := 12) ?_
       refine jl_op rfl rfl (.none rfl) (v_move rfl rfl tt) ?_
       refine jl_op rfl rfl (.none rfl) (v_move rfl rfl tt) ?_
       refine jl_op rfl rfl (.none rfl) (v_farith rfl rfl rfl rfl tt tt) ?_
       refine jl_op rfl rfl (.none rfl) (v_move rfl rfl tt) ?_
       refine jl_op rfl rfl (.none rfl) (v_farith rfl rfl rfl rfl tt tt) ?_
       refine jl_op rfl rfl (.none rfl) (v_move rfl rfl tt) ?_
       refine jl_op rfl rfl (.none rfl) (v_farith rfl rfl rfl rfl tt tt) ?_
       refine jl_op rfl rfl (.none rfl) (v_farith rfl rfl rfl rfl tt tt) ?_
       refine jl_op rfl rfl (.none rfl) (v_farith rfl rfl rfl rfl tt tt) ?_
       refine jl_op rfl rfl (.none rfl) (v_farith rfl rfl rfl rfl tt tt) ?_
       refine jl_op rfl rfl (.none rfl) (v_farith rfl rfl rfl rfl tt tt) ?_
       refine jl_op rfl rfl (.none rfl) (v_assign rfl rfl tt) ?_
       refine jl_nil ?_)
    | (refine j_region (id := 13) ?_
       refine jl_op rfl rfl (.none rfl) (v_move rfl rfl tt) ?_
       refine jl_nil ?_)
    | (refine j_region (id := 14) ?_
       refine jl_op rfl rfl (.none rfl) (v_move rfl rfl tt) ?_
       refine jl_op rfl rfl (.none rfl) (v_move rfl rfl tt) ?_
       refine jl_op rfl rfl (.none rfl) (v_farith rfl rfl rfl rfl tt tt) ?_
       refine jl_op rfl rfl (.none rfl) (v_fneg rfl rfl tt) ?_
       refine jl_op rfl rfl (.none rfl) (v_assign rfl rfl tt) ?_
       refine jl_nil ?_)
    | (refine j_region (id := 15) ?_
       refine jl_op rfl rfl (.none rfl) (v_move rfl rfl tt) ?_
       refine jl_op rfl rfl (.none rfl) (v_move rfl rfl tt) ?_
       refine jl_op rfl rfl (.none rfl) (v_farith rfl rfl rfl rfl tt tt) ?_
       refine jl_op rfl rfl (.none rfl) (v_assign rfl rfl tt) ?_
       refine jl_nil ?_)))
  all_goals (try simp only [show cn FloatKind.f64 0 = 0 from rfl, show cn FloatKind.f64 4602678819172646912 = 4602678819172646912 from rfl, show cn FloatKind.f64 4598175219545276416 = 4598175219545276416 from rfl, show cn FloatKind.f64 4618760256179416344 = 4618760256179416344 from rfl, show cn FloatKind.f64 4607182418800017408 = 4607182418800017408 from rfl, show cn FloatKind.f64 4620693217682128896 = 4620693217682128896 from rfl, show cn FloatKind.f64 4611686018427387904 = 4611686018427387904 from rfl] at *)
  all_goals first | exact jq_retE (.inl rfl) Try.results99 rfl (congrArg (Value.float .f64) (Eq.trans (by kernel_rfl) (sinW_t1 (by assumption) (by assumption)))) | exact jq_retE (.inl rfl) Try.results99 rfl (congrArg (Value.float .f64) (Eq.trans (by kernel_rfl) (sinW_t2 (by assumption) (by assumption)))) | exact jq_retE (.inl rfl) Try.results99 rfl (congrArg (Value.float .f64) (Eq.trans (by kernel_rfl) (sinW_t3 (by assumption) (by assumption)))) | exact jq_retE (.inl rfl) Try.results99 rfl (congrArg (Value.float .f64) (Eq.trans (by kernel_rfl) (sinW_t4 (by assumption) (by assumption))))
theorem c_SineTurns (x : Nat) : Con Try.prog 108 [F x] (fun _ => True) (F (sinN x)) := by
  refine con_intro (H := []) Try.func108 (by decide) rfl rfl (fun w _ => HInv.refl w) (fun w0 _ => ?_)
  (repeat' (first
    | refine j_condLt rfl (fun _ => ?_) (fun _ => ?_)
    | refine j_condLe rfl (fun _ => ?_) (fun _ => ?_)
    | refine j_condGt rfl (fun _ => ?_) (fun _ => ?_)
    | refine j_condGe rfl (fun _ => ?_) (fun _ => ?_)
    | refine j_condNe rfl (fun _ => ?_) (fun _ => ?_)
    | refine j_condEq rfl (fun _ => ?_) (fun _ => ?_)
    | refine j_condOrLt rfl (fun _ => ?_) (fun _ => ?_)
    | refine j_condAndLt rfl (fun _ => ?_) (fun _ => ?_)
    | refine j_condAndGe rfl (fun _ => ?_) (fun _ => ?_)
    | refine j_seq ?_
    | refine jq_then ?_
    | refine j_block ?_
    | refine j_ret ?_
    | refine jq_then_ret ?_
    | refine jq_block_ret ?_
    | refine jq_block_normal ?_
    | refine jq_then_exit ?_
    | refine jq_block_same rfl ?_
    | refine jq_block_other rfl ?_
    | refine j_skip ?_
    | refine j_exit ?_
    | refine j_label ?_
    | refine j_condCT ?_
    | refine j_condCF ?_
    | refine j_cond rfl (fun _ => ?_) (fun _ => ?_)
    | (refine j_region (id := 0) ?_
       refine jl_op rfl rfl (.none rfl) (v_assign rfl rfl tt) ?_
       refine jl_nil ?_)
    | (refine j_region (id := 1) ?_
       refine jl_op rfl rfl (.none rfl) (v_move rfl rfl tt) ?_
       refine jl_op rfl rfl (.none rfl) (v_call (f := 86) (xs := [_]) rfl (c_IsFinite ..) (ev_cons rfl tt ev_nil) (by intro w hc hI; first | trivial | (exfalso; simp_all; done) | (clear hc; repeat' (first | exact ros_nil | refine ros_cons ?_ ?_ | exact hI.roRo (by first | exact m0 | exact m1 | exact m2 | exact m3 | exact m4 | exact m5 | exact m6 | exact m7 | exact m8 | exact m9 | exact m10 | exact m11 | exact m12 | exact m13) | exact hI.boxRo (by first | exact m0 | exact m1 | exact m2 | exact m3 | exact m4 | exact m5 | exact m6 | exact m7 | exact m8 | exact m9 | exact m10 | exact m11 | exact m12 | exact m13) | exact HInv.vecRo hI (by first | exact m0 | exact m1 | exact m2 | exact m3 | exact m4 | exact m5 | exact m6 | exact m7 | exact m8 | exact m9 | exact m10 | exact m11 | exact m12 | exact m13))))) ?_
       refine jl_op rfl rfl (.none rfl) (v_not rfl rfl tt) ?_
       refine jl_op rfl rfl (.none rfl) (v_assign rfl rfl tt) ?_
       refine jl_nil ?_)
    | (refine j_region (id := 2) ?_
       refine jl_op rfl rfl (.none rfl) (v_call (f := 97) (xs := []) rfl (c_NaN ..) ev_nil (by intro w hc hI; first | trivial | (exfalso; simp_all; done) | (clear hc; repeat' (first | exact ros_nil | refine ros_cons ?_ ?_ | exact hI.roRo (by first | exact m0 | exact m1 | exact m2 | exact m3 | exact m4 | exact m5 | exact m6 | exact m7 | exact m8 | exact m9 | exact m10 | exact m11 | exact m12 | exact m13) | exact hI.boxRo (by first | exact m0 | exact m1 | exact m2 | exact m3 | exact m4 | exact m5 | exact m6 | exact m7 | exact m8 | exact m9 | exact m10 | exact m11 | exact m12 | exact m13) | exact HInv.vecRo hI (by first | exact m0 | exact m1 | exact m2 | exact m3 | exact m4 | exact m5 | exact m6 | exact m7 | exact m8 | exact m9 | exact m10 | exact m11 | exact m12 | exact m13))))) ?_
       refine jl_op rfl rfl (.none rfl) (v_f2f rfl rfl tt (by rfl) Try.underlying24 (by first | exact fun _ => fits_same | exact fun _ => fits_wide | exact fun _ => fits_nan (isN_qnan _) | exact fun _ => sinW_fits (sine_pre1 (by assumption)) (sine_pre2 (by assumption) (by assumption)) | exact fun _ => fits_sqrt _ | assumption | exact fun _ => by assumption)) ?_
       refine jl_op rfl rfl (.none rfl) (v_assign rfl rfl tt) ?_
       refine jl_nil ?_)
    | (refine j_region (id := 3) ?_
       refine jl_op rfl rfl (.none rfl) (v_move rfl rfl tt) ?_
       refine jl_op rfl rfl (.none rfl) (v_fcmp rfl rfl rfl rfl tt tt) ?_
       refine jl_op rfl rfl (.none rfl) (v_move rfl rfl tt) ?_
       refine jl_op rfl rfl (.some rfl rfl rfl) (v_move rfl rfl tt) ?_
       refine jl_op rfl rfl (.some rfl rfl rfl) (v_fcmp rfl rfl rfl rfl ii tt) ?_
       refine jl_op rfl rfl (.none rfl) (v_or rfl rfl tt rfl fi) ?_
       refine jl_op rfl rfl (.none rfl) (v_assign rfl rfl tt) ?_
       refine jl_nil ?_)
    | (refine j_region (id := 4) ?_
       refine jl_op rfl rfl (.none rfl) (v_assign rfl rfl tt) ?_
       refine jl_nil ?_)
    | (refine j_region (id := 5) ?_
       refine jl_op rfl rfl (.none rfl) (v_move rfl rfl tt) ?_
       refine jl_op rfl rfl (.none rfl) (v_f2f rfl rfl tt (by rfl) Try.underlying43 (by first | exact fun _ => fits_same | exact fun _ => fits_wide | exact fun _ => fits_nan (isN_qnan _) | exact fun _ => sinW_fits (sine_pre1 (by assumption)) (sine_pre2 (by assumption) (by assumption)) | exact fun _ => fits_sqrt _ | assumption | exact fun _ => by assumption)) ?_
       refine jl_op rfl rfl (.none rfl) (v_call (f := 99) (xs := [_]) rfl (c_sineOf _ (sine_pre1 (by assumption)) (sine_pre2 (by assumption) (by assumption))) (ev_cons rfl tt ev_nil) (by intro w hc hI; first | trivial | (exfalso; simp_all; done) | (clear hc; repeat' (first | exact ros_nil | refine ros_cons ?_ ?_ | exact hI.roRo (by first | exact m0 | exact m1 | exact m2 | exact m3 | exact m4 | exact m5 | exact m6 | exact m7 | exact m8 | exact m9 | exact m10 | exact m11 | exact m12 | exact m13) | exact hI.boxRo (by first | exact m0 | exact m1 | exact m2 | exact m3 | exact m4 | exact m5 | exact m6 | exact m7 | exact m8 | exact m9 | exact m10 | exact m11 | exact m12 | exact m13) | exact HInv.vecRo hI (by first | exact m0 | exact m1 | exact m2 | exact m3 | exact m4 | exact m5 | exact m6 | exact m7 | exact m8 | exact m9 | exact m10 | exact m11 | exact m12 | exact m13))))) ?_
       refine jl_op rfl rfl (.none rfl) (v_f2f rfl rfl tt (by rfl) Try.underlying24 (by first | exact fun _ => fits_same | exact fun _ => fits_wide | exact fun _ => fits_nan (isN_qnan _) | exact fun _ => sinW_fits (sine_pre1 (by assumption)) (sine_pre2 (by assumption) (by assumption)) | exact fun _ => fits_sqrt _ | assumption | exact fun _ => by assumption)) ?_
       refine jl_op rfl rfl (.none rfl) (v_assign rfl rfl tt) ?_
       refine jl_nil ?_)))
  all_goals (try simp only [show cn FloatKind.f32 0 = 0 from rfl, show cn FloatKind.f32 1501560832 = 1501560832 from rfl, show cn FloatKind.f32 3649044480 = 3649044480 from rfl] at *)
  all_goals first | exact jq_retE (.inl rfl) Try.results108 rfl (congrArg F (sinN_1 (by assumption))) | exact jq_retE (.inl rfl) Try.results108 rfl (congrArg F (sinN_2 (by assumption) (by assumption))) | exact jq_retE (.inl rfl) Try.results108 rfl (congrArg F (sinN_3 (by assumption) (by assumption)))
end Go.Vx
