/- Contracts of functions of the program and of the reference. -/
import Derived.Test.YteddfolpmmimiaaCoFour
import Derived.Test.YteddfolpmmimiaaCoLoudOf
import Derived.Test.YteddfolpmmimiaaCoMixLadders
import Derived.Test.YteddfolpmmimiaaCoSamePredictor
import Derived.Test.YteddfolpmmimiaaCoTube
import Derived.Test.YteddfolpmmimiaaCoValidPredictor
namespace Go.Vx
open Go.Proofs
set_option maxRecDepth 4000
set_option maxHeartbeats 4000000
attribute [local irreducible] J JL JQ JA VOp Con Ext XOp ConM
theorem c_l02New (A : Option Addr) (N cap : Nat) : Con Try.prog 88 [.slice A N cap] (fun _ => True) (.agg #[.slice A N cap, F 1065353216, F 1061158912, F 3210739712]) := by
  refine con_intro (H := []) Try.func88 (by decide) rfl rfl (fun w _ => HInv.refl w) (fun w0 _ => ?_)
  (repeat' (first
    | refine j_condLt rfl (fun _ => ?_) (fun _ => ?_)
    | refine j_condLe rfl (fun _ => ?_) (fun _ => ?_)
    | refine j_condGt rfl (fun _ => ?_) (fun _ => ?_)
    | refine j_condGe rfl (fun _ => ?_) (fun _ => ?_)
    | refine j_condNe rfl (fun _ => ?_) (fun _ => ?_)
    | refine j_condEq rfl (fun _ => ?_) (fun _ => ?_)
    | refine j_condOrLt rfl (fun _ => ?_) (fun _ => ?_)
    | refine j_condAndLt rfl (fun _ => ?_) (fun _ => ?_)
    | refine j_condAndGe rfl (fun _ => ?_) (fun _ => ?_)
    | refine j_seq ?_
    | refine jq_then ?_
    | refine j_block ?_
    | refine j_ret ?_
    | refine jq_then_ret ?_
    | refine jq_block_ret ?_
    | refine jq_block_normal ?_
    | refine jq_then_exit ?_
    | refine jq_block_same rfl ?_
    | refine jq_block_other rfl ?_
    | refine j_skip ?_
    | refine j_exit ?_
    | refine j_label ?_
    | refine j_condCT ?_
    | refine j_condCF ?_
    | refine j_cond rfl (fun _ => ?_) (fun _ => ?_)
    | (refine j_region (id := 0) ?_
       refine jl_alloc rfl rfl rfl rfl zero47 (by rfl) (fun b2 => ?_)
       refine jl_nil ?_)
    | (refine j_region (id := 1) ?_
       refine jl_op rfl rfl (.none rfl) (v_move rfl rfl tt) ?_
       refine jl_op rfl rfl (.none rfl) (v_buildW (Ws := [_, _, _, _]) rfl Try.underlying47 zero47 places47 (by rfl) (by rfl) (ev_cons rfl tt (ev_cons rfl tt (ev_cons rfl tt (ev_cons rfl tt ev_nil)))) (by rfl) (by rfl) rfl) ?_
       first | refine jl_storeS (i := 0) rfl rfl rfl (by kernel_rfl) rfl rfl rfl rfl ?_ | refine jl_storeS (i := 1) rfl rfl rfl (by kernel_rfl) rfl rfl rfl rfl ?_ | refine jl_storeS (i := 2) rfl rfl rfl (by kernel_rfl) rfl rfl rfl rfl ?_ | refine jl_storeS (i := 3) rfl rfl rfl (by kernel_rfl) rfl rfl rfl rfl ?_ | refine jl_storeS (i := 4) rfl rfl rfl (by kernel_rfl) rfl rfl rfl rfl ?_ | refine jl_storeS (i := 5) rfl rfl rfl (by kernel_rfl) rfl rfl rfl rfl ?_ | refine jl_storeS (i := 6) rfl rfl rfl (by kernel_rfl) rfl rfl rfl rfl ?_ | refine jl_storeS (i := 7) rfl rfl rfl (by kernel_rfl) rfl rfl rfl rfl ?_
       refine jl_nil ?_)))
  all_goals exact jq_retS (i := 0) (.inl rfl) Try.results88 rfl rfl Try.underlying47 rfl (by kernel_rfl) rfl
end Go.Vx
