/- Contracts of functions of the program and of the reference. -/
import Derived.Test.YteddfolpmmimiaaCoSource
import Derived.Test.YteddfolpmmimiaaSt
namespace Go.Vx
open Go.Proofs
set_option maxRecDepth 4000
set_option maxHeartbeats 4000000
attribute [local irreducible] J JL JQ JA VOp Con Ext XOp ConM ConW ConW2
theorem c_l03DrawOk (b : Nat) (A : Option Addr) (N cap : Nat) (g : Nat → Nat) (hg : ∀ j, j < N → g j < 256) : ConG Try.prog 77 [.pointer (some ⟨b, 0, none⟩)] [.ro A (tabY N g)] (srcB b 143 A N cap 0 0) (fun s : {c : ThC × Int // c.1.Ok} => srcB b 143 A N cap 5 s.1.2) (fun s : {c : ThC × Int // c.1.Ok} => s.1.1.V) (fun _ => []) := by
  refine conG_intro Try.func77 (by decide) rfl rfl (fun w0 => ?_)
  (repeat' (first
    | refine j_condLt rfl (fun _ => ?_) (fun _ => ?_)
    | refine j_condLe rfl (fun _ => ?_) (fun _ => ?_)
    | refine j_condGt rfl (fun _ => ?_) (fun _ => ?_)
    | refine j_condGe rfl (fun _ => ?_) (fun _ => ?_)
    | refine j_condNe rfl (fun _ => ?_) (fun _ => ?_)
    | refine j_condEq rfl (fun _ => ?_) (fun _ => ?_)
    | refine j_condOrLt rfl (fun _ => ?_) (fun _ => ?_)
    | refine j_condAndLt rfl (fun _ => ?_) (fun _ => ?_)
    | refine j_condAndGe rfl (fun _ => ?_) (fun _ => ?_)
    | refine j_seq ?_
    | refine jq_then ?_
    | refine j_block ?_
    | refine j_ret ?_
    | refine jq_then_ret ?_
    | refine jq_block_ret ?_
    | refine jq_block_normal ?_
    | refine jq_then_exit ?_
    | refine jq_block_same rfl ?_
    | refine jq_block_other rfl ?_
    | refine j_skip ?_
    | refine j_exit ?_
    | refine j_label ?_
    | refine j_condCT ?_
    | refine j_condCF ?_
    | refine j_cond rfl (fun _ => ?_) (fun _ => ?_)
    | (refine j_region (id := 0) ?_
       refine jl_alloc rfl rfl rfl rfl zero26 (by rfl) (fun b2 => ?_)
       refine jl_nil ?_)
    | (refine j_region (id := 1) ?_
       refine jl_op rfl rfl (.none rfl) (v_move rfl rfl tt) ?_
       first | refine jl_g (i := 1) (f := 79) (xs := [_, _]) rfl rfl rfl rfl (c_srcPick b A N cap g (0) 0 33 (by omega) (by omega) (by omega) hg) (ev_cons rfl tt (ev_cons rfl tt ev_nil)) rfl rfl (fun _ => rfl) (fun w hI => hI.rovRo 2 1 rfl rfl rfl rov_nil) (fun s5 => ?_) | refine jl_g (i := 0) (f := 79) (xs := [_, _]) rfl rfl rfl rfl (c_srcPick b A N cap g (0) 0 33 (by omega) (by omega) (by omega) hg) (ev_cons rfl tt (ev_cons rfl tt ev_nil)) rfl rfl (fun _ => rfl) (fun w hI => hI.rovRo 1 0 rfl rfl rfl rov_nil) (fun s5 => ?_)
       refine jl_op rfl rfl (.none rfl) (v_iarith' rfl rfl rfl rfl tt tt (by first | exact fun _ => iw_add (by omega) | exact fun _ => rfl)) ?_
       refine jl_op rfl rfl (.none rfl) (v_i2f rfl rfl tt (by rfl) Try.underlying24) ?_
       refine jl_op rfl rfl (.none rfl) (v_farith rfl rfl rfl rfl tt tt) ?_
       refine jl_op rfl rfl (.none rfl) (v_buildW (Ws := [_, _, _, _, _]) rfl Try.underlying26 zero26 places26 (by rfl) (by rfl) (ev_cons rfl tt ev_nil) (by rfl) (by rfl) rfl) ?_
       refine jl_alloc rfl rfl rfl rfl zero26 (by rfl) (fun b3 => ?_)
       first | refine jl_storeS (i := 0) rfl rfl rfl (by kernel_rfl) rfl rfl rfl rfl ?_ | refine jl_storeS (i := 1) rfl rfl rfl (by kernel_rfl) rfl rfl rfl rfl ?_ | refine jl_storeS (i := 2) rfl rfl rfl (by kernel_rfl) rfl rfl rfl rfl ?_ | refine jl_storeS (i := 3) rfl rfl rfl (by kernel_rfl) rfl rfl rfl rfl ?_ | refine jl_storeS (i := 4) rfl rfl rfl (by kernel_rfl) rfl rfl rfl rfl ?_ | refine jl_storeS (i := 5) rfl rfl rfl (by kernel_rfl) rfl rfl rfl rfl ?_ | refine jl_storeS (i := 6) rfl rfl rfl (by kernel_rfl) rfl rfl rfl rfl ?_ | refine jl_storeS (i := 7) rfl rfl rfl (by kernel_rfl) rfl rfl rfl rfl ?_
       refine jl_nil ?_)
    | (refine j_region (id := 2) ?_
       refine jl_op rfl rfl (.none rfl) (v_move rfl rfl tt) ?_
       first | refine jl_g (i := 2) (f := 79) (xs := [_, _]) rfl rfl rfl rfl (c_srcPick b A N cap g (1) _ 4 (by omega) (by omega) (by omega) hg) (ev_cons rfl tt (ev_cons rfl tt ev_nil)) rfl rfl (fun _ => rfl) (fun w hI => hI.rovRo 3 2 rfl rfl rfl rov_nil) (fun s11 => ?_) | refine jl_g (i := 1) (f := 79) (xs := [_, _]) rfl rfl rfl rfl (c_srcPick b A N cap g (1) _ 4 (by omega) (by omega) (by omega) hg) (ev_cons rfl tt (ev_cons rfl tt ev_nil)) rfl rfl (fun _ => rfl) (fun w hI => hI.rovRo 2 1 rfl rfl rfl rov_nil) (fun s11 => ?_) | refine jl_g (i := 0) (f := 79) (xs := [_, _]) rfl rfl rfl rfl (c_srcPick b A N cap g (1) _ 4 (by omega) (by omega) (by omega) hg) (ev_cons rfl tt (ev_cons rfl tt ev_nil)) rfl rfl (fun _ => rfl) (fun w hI => hI.rovRo 1 0 rfl rfl rfl rov_nil) (fun s11 => ?_)
       refine jl_op rfl rfl (.none rfl) (v_iarith' rfl rfl rfl rfl tt tt (by first | exact fun _ => iw_add (by omega) | exact fun _ => rfl)) ?_
       refine jl_op rfl rfl (.none rfl) (v_i2f rfl rfl tt (by rfl) Try.underlying24) ?_
       refine jl_op rfl rfl (.none rfl) (v_farith rfl rfl rfl rfl tt tt) ?_
       refine jl_op rfl rfl (.none rfl) (v_fieldAddr rfl Try.underlying26 (by rfl) (by kernel_rfl) rfl tt) ?_
       first | refine jl_storeBox (i := 0) rfl rfl rfl (by kernel_rfl) rfl rfl rfl rfl rfl ?_ | refine jl_storeBox (i := 1) rfl rfl rfl (by kernel_rfl) rfl rfl rfl rfl rfl ?_ | refine jl_storeBox (i := 2) rfl rfl rfl (by kernel_rfl) rfl rfl rfl rfl rfl ?_ | refine jl_storeBox (i := 3) rfl rfl rfl (by kernel_rfl) rfl rfl rfl rfl rfl ?_ | refine jl_storeBox (i := 4) rfl rfl rfl (by kernel_rfl) rfl rfl rfl rfl rfl ?_ | refine jl_storeBox (i := 5) rfl rfl rfl (by kernel_rfl) rfl rfl rfl rfl rfl ?_ | refine jl_storeBox (i := 6) rfl rfl rfl (by kernel_rfl) rfl rfl rfl rfl rfl ?_ | refine jl_storeBox (i := 7) rfl rfl rfl (by kernel_rfl) rfl rfl rfl rfl rfl ?_
       refine jl_nil ?_)
    | (refine j_region (id := 3) ?_
       refine jl_op rfl rfl (.none rfl) (v_move rfl rfl tt) ?_
       first | refine jl_g (i := 2) (f := 79) (xs := [_, _]) rfl rfl rfl rfl (c_srcPick b A N cap g (2) _ 4 (by omega) (by omega) (by omega) hg) (ev_cons rfl tt (ev_cons rfl tt ev_nil)) rfl rfl (fun _ => rfl) (fun w hI => hI.rovRo 3 2 rfl rfl rfl rov_nil) (fun s17 => ?_) | refine jl_g (i := 1) (f := 79) (xs := [_, _]) rfl rfl rfl rfl (c_srcPick b A N cap g (2) _ 4 (by omega) (by omega) (by omega) hg) (ev_cons rfl tt (ev_cons rfl tt ev_nil)) rfl rfl (fun _ => rfl) (fun w hI => hI.rovRo 2 1 rfl rfl rfl rov_nil) (fun s17 => ?_) | refine jl_g (i := 0) (f := 79) (xs := [_, _]) rfl rfl rfl rfl (c_srcPick b A N cap g (2) _ 4 (by omega) (by omega) (by omega) hg) (ev_cons rfl tt (ev_cons rfl tt ev_nil)) rfl rfl (fun _ => rfl) (fun w hI => hI.rovRo 1 0 rfl rfl rfl rov_nil) (fun s17 => ?_)
       refine jl_op rfl rfl (.none rfl) (v_iarith' rfl rfl rfl rfl tt tt (by first | exact fun _ => iw_add (by omega) | exact fun _ => rfl)) ?_
       refine jl_op rfl rfl (.none rfl) (v_i2f rfl rfl tt (by rfl) Try.underlying24) ?_
       refine jl_op rfl rfl (.none rfl) (v_farith rfl rfl rfl rfl tt tt) ?_
       refine jl_op rfl rfl (.none rfl) (v_fieldAddr rfl Try.underlying26 (by rfl) (by kernel_rfl) rfl tt) ?_
       first | refine jl_storeBox (i := 0) rfl rfl rfl (by kernel_rfl) rfl rfl rfl rfl rfl ?_ | refine jl_storeBox (i := 1) rfl rfl rfl (by kernel_rfl) rfl rfl rfl rfl rfl ?_ | refine jl_storeBox (i := 2) rfl rfl rfl (by kernel_rfl) rfl rfl rfl rfl rfl ?_ | refine jl_storeBox (i := 3) rfl rfl rfl (by kernel_rfl) rfl rfl rfl rfl rfl ?_ | refine jl_storeBox (i := 4) rfl rfl rfl (by kernel_rfl) rfl rfl rfl rfl rfl ?_ | refine jl_storeBox (i := 5) rfl rfl rfl (by kernel_rfl) rfl rfl rfl rfl rfl ?_ | refine jl_storeBox (i := 6) rfl rfl rfl (by kernel_rfl) rfl rfl rfl rfl rfl ?_ | refine jl_storeBox (i := 7) rfl rfl rfl (by kernel_rfl) rfl rfl rfl rfl rfl ?_
       refine jl_nil ?_)
    | (refine j_region (id := 4) ?_
       refine jl_op rfl rfl (.none rfl) (v_move rfl rfl tt) ?_
       first | refine jl_g (i := 2) (f := 79) (xs := [_, _]) rfl rfl rfl rfl (c_srcPick b A N cap g (3) _ 5 (by omega) (by omega) (by omega) hg) (ev_cons rfl tt (ev_cons rfl tt ev_nil)) rfl rfl (fun _ => rfl) (fun w hI => hI.rovRo 3 2 rfl rfl rfl rov_nil) (fun s23 => ?_) | refine jl_g (i := 1) (f := 79) (xs := [_, _]) rfl rfl rfl rfl (c_srcPick b A N cap g (3) _ 5 (by omega) (by omega) (by omega) hg) (ev_cons rfl tt (ev_cons rfl tt ev_nil)) rfl rfl (fun _ => rfl) (fun w hI => hI.rovRo 2 1 rfl rfl rfl rov_nil) (fun s23 => ?_) | refine jl_g (i := 0) (f := 79) (xs := [_, _]) rfl rfl rfl rfl (c_srcPick b A N cap g (3) _ 5 (by omega) (by omega) (by omega) hg) (ev_cons rfl tt (ev_cons rfl tt ev_nil)) rfl rfl (fun _ => rfl) (fun w hI => hI.rovRo 1 0 rfl rfl rfl rov_nil) (fun s23 => ?_)
       refine jl_op rfl rfl (.none rfl) (v_i2f rfl rfl tt (by rfl) Try.underlying24) ?_
       refine jl_op rfl rfl (.none rfl) (v_farith rfl rfl rfl rfl tt tt) ?_
       refine jl_op rfl rfl (.none rfl) (v_fieldAddr rfl Try.underlying26 (by rfl) (by kernel_rfl) rfl tt) ?_
       first | refine jl_storeBox (i := 0) rfl rfl rfl (by kernel_rfl) rfl rfl rfl rfl rfl ?_ | refine jl_storeBox (i := 1) rfl rfl rfl (by kernel_rfl) rfl rfl rfl rfl rfl ?_ | refine jl_storeBox (i := 2) rfl rfl rfl (by kernel_rfl) rfl rfl rfl rfl rfl ?_ | refine jl_storeBox (i := 3) rfl rfl rfl (by kernel_rfl) rfl rfl rfl rfl rfl ?_ | refine jl_storeBox (i := 4) rfl rfl rfl (by kernel_rfl) rfl rfl rfl rfl rfl ?_ | refine jl_storeBox (i := 5) rfl rfl rfl (by kernel_rfl) rfl rfl rfl rfl rfl ?_ | refine jl_storeBox (i := 6) rfl rfl rfl (by kernel_rfl) rfl rfl rfl rfl rfl ?_ | refine jl_storeBox (i := 7) rfl rfl rfl (by kernel_rfl) rfl rfl rfl rfl rfl ?_
       refine jl_nil ?_)
    | (refine j_region (id := 5) ?_
       refine jl_op rfl rfl (.none rfl) (v_move rfl rfl tt) ?_
       first | refine jl_g (i := 2) (f := 79) (xs := [_, _]) rfl rfl rfl rfl (c_srcPick b A N cap g (4) _ 5 (by omega) (by omega) (by omega) hg) (ev_cons rfl tt (ev_cons rfl tt ev_nil)) rfl rfl (fun _ => rfl) (fun w hI => hI.rovRo 3 2 rfl rfl rfl rov_nil) (fun s28 => ?_) | refine jl_g (i := 1) (f := 79) (xs := [_, _]) rfl rfl rfl rfl (c_srcPick b A N cap g (4) _ 5 (by omega) (by omega) (by omega) hg) (ev_cons rfl tt (ev_cons rfl tt ev_nil)) rfl rfl (fun _ => rfl) (fun w hI => hI.rovRo 2 1 rfl rfl rfl rov_nil) (fun s28 => ?_) | refine jl_g (i := 0) (f := 79) (xs := [_, _]) rfl rfl rfl rfl (c_srcPick b A N cap g (4) _ 5 (by omega) (by omega) (by omega) hg) (ev_cons rfl tt (ev_cons rfl tt ev_nil)) rfl rfl (fun _ => rfl) (fun w hI => hI.rovRo 1 0 rfl rfl rfl rov_nil) (fun s28 => ?_)
       refine jl_op rfl rfl (.none rfl) (v_i2f rfl rfl tt (by rfl) Try.underlying24) ?_
       refine jl_op rfl rfl (.none rfl) (v_farith rfl rfl rfl rfl tt tt) ?_
       refine jl_op rfl rfl (.none rfl) (v_fieldAddr rfl Try.underlying26 (by rfl) (by kernel_rfl) rfl tt) ?_
       first | refine jl_storeBox (i := 0) rfl rfl rfl (by kernel_rfl) rfl rfl rfl rfl rfl ?_ | refine jl_storeBox (i := 1) rfl rfl rfl (by kernel_rfl) rfl rfl rfl rfl rfl ?_ | refine jl_storeBox (i := 2) rfl rfl rfl (by kernel_rfl) rfl rfl rfl rfl rfl ?_ | refine jl_storeBox (i := 3) rfl rfl rfl (by kernel_rfl) rfl rfl rfl rfl rfl ?_ | refine jl_storeBox (i := 4) rfl rfl rfl (by kernel_rfl) rfl rfl rfl rfl rfl ?_ | refine jl_storeBox (i := 5) rfl rfl rfl (by kernel_rfl) rfl rfl rfl rfl rfl ?_ | refine jl_storeBox (i := 6) rfl rfl rfl (by kernel_rfl) rfl rfl rfl rfl rfl ?_ | refine jl_storeBox (i := 7) rfl rfl rfl (by kernel_rfl) rfl rfl rfl rfl rfl ?_
       refine jl_nil ?_)
    | (refine j_region (id := 6) ?_
       first | refine jl_op rfl rfl (.none rfl) (v_loadS rfl Try.underlying26 (by rfl) (by kernel_rfl) rfl tt (by first | exact m0 | exact m1 | exact m2 | exact m3 | exact m4 | exact m5 | exact m6 | exact m7 | exact m8 | exact m9 | exact m10 | exact m11 | exact m12 | exact m13)) ?_ | refine jl_op rfl rfl (.none rfl) (v_loadSRo rfl Try.underlying26 (by rfl) (by kernel_rfl) rfl tt (by first | exact m0 | exact m1 | exact m2 | exact m3 | exact m4 | exact m5 | exact m6 | exact m7 | exact m8 | exact m9 | exact m10 | exact m11 | exact m12 | exact m13)) ?_
       first | refine jl_storeS (i := 0) rfl rfl rfl (by kernel_rfl) rfl rfl rfl rfl ?_ | refine jl_storeS (i := 1) rfl rfl rfl (by kernel_rfl) rfl rfl rfl rfl ?_ | refine jl_storeS (i := 2) rfl rfl rfl (by kernel_rfl) rfl rfl rfl rfl ?_ | refine jl_storeS (i := 3) rfl rfl rfl (by kernel_rfl) rfl rfl rfl rfl ?_ | refine jl_storeS (i := 4) rfl rfl rfl (by kernel_rfl) rfl rfl rfl rfl ?_ | refine jl_storeS (i := 5) rfl rfl rfl (by kernel_rfl) rfl rfl rfl rfl ?_ | refine jl_storeS (i := 6) rfl rfl rfl (by kernel_rfl) rfl rfl rfl rfl ?_ | refine jl_storeS (i := 7) rfl rfl rfl (by kernel_rfl) rfl rfl rfl rfl ?_
       refine jl_nil ?_)))
  all_goals exact jq_retGS (i := 1) 2 (⟨(⟨s5.1.1.toNat, s11.1.1.toNat, s17.1.1.toNat, s23.1.1.toNat, s28.1.1.toNat⟩, s28.1.2), thc_ok s5.2 s11.2 s17.2 s23.2 s28.2⟩ : {c : ThC × Int // c.1.Ok}) (.inl rfl) Try.results77 rfl rfl Try.underlying26 rfl (by kernel_rfl) (thc_eq s5.2.1 s11.2.1 s17.2.1 s23.2.1 s28.2.1) rfl (fun _ _ => fresh_nil)
theorem c_B10Throat (A : Option Addr) (N cap : Nat) (g : Nat → Nat) (hg : ∀ j, j < N → g j < 256) : ConM Try.prog 12 [.slice A N cap] (RoS [.ro A (tabY N g)]) (fun s : {c : ThC // c.Ok} => s.1.V) (fun _ => []) := by
  refine conM_intro (H := [.ro A (tabY N g)]) Try.func12 (by decide) rfl rfl (fun w h => h.inv) (fun w0 _ => ?_)
  (repeat' (first
    | refine j_condLt rfl (fun _ => ?_) (fun _ => ?_)
    | refine j_condLe rfl (fun _ => ?_) (fun _ => ?_)
    | refine j_condGt rfl (fun _ => ?_) (fun _ => ?_)
    | refine j_condGe rfl (fun _ => ?_) (fun _ => ?_)
    | refine j_condNe rfl (fun _ => ?_) (fun _ => ?_)
    | refine j_condEq rfl (fun _ => ?_) (fun _ => ?_)
    | refine j_condOrLt rfl (fun _ => ?_) (fun _ => ?_)
    | refine j_condAndLt rfl (fun _ => ?_) (fun _ => ?_)
    | refine j_condAndGe rfl (fun _ => ?_) (fun _ => ?_)
    | refine j_seq ?_
    | refine jq_then ?_
    | refine j_block ?_
    | refine j_ret ?_
    | refine jq_then_ret ?_
    | refine jq_block_ret ?_
    | refine jq_block_normal ?_
    | refine jq_then_exit ?_
    | refine jq_block_same rfl ?_
    | refine jq_block_other rfl ?_
    | refine j_skip ?_
    | refine j_exit ?_
    | refine j_label ?_
    | refine j_condCT ?_
    | refine j_condCF ?_
    | refine j_cond rfl (fun _ => ?_) (fun _ => ?_)
    | (refine j_region (id := 0) ?_
       refine jl_alloc rfl rfl rfl rfl zero26 (by rfl) (fun b2 => ?_)
       refine jl_nil ?_)
    | (refine j_region (id := 1) ?_
       refine jl_op rfl rfl (.none rfl) (v_move rfl rfl tt) ?_
       refine jl_x1 rfl rfl rfl (x_call (f := 76) (xs := [_]) rfl (c_l00From ..) (ev_cons rfl tt ev_nil) (by intro w hI; first | trivial | (repeat' (first | exact ros_nil | refine ros_cons ?_ ?_ | exact hI.roRo (by first | exact m0 | exact m1 | exact m2 | exact m3 | exact m4 | exact m5 | exact m6 | exact m7 | exact m8 | exact m9 | exact m10 | exact m11 | exact m12 | exact m13) | exact hI.boxRo (by first | exact m0 | exact m1 | exact m2 | exact m3 | exact m4 | exact m5 | exact m6 | exact m7 | exact m8 | exact m9 | exact m10 | exact m11 | exact m12 | exact m13) | exact HInv.vecRo hI (by first | exact m0 | exact m1 | exact m2 | exact m3 | exact m4 | exact m5 | exact m6 | exact m7 | exact m8 | exact m9 | exact m10 | exact m11 | exact m12 | exact m13))))) (fun s5 => ?_)
       refine jl_op rfl rfl (.none rfl) (v_assign rfl rfl tt) ?_
       refine jl_nil ?_)
    | (refine j_region (id := 2) ?_
       refine jl_op rfl rfl (.none rfl) (v_move rfl rfl tt) ?_
       refine jl_g (i := 0) (f := 77) (xs := [_]) rfl rfl rfl rfl (c_l03DrawOk s5 A N cap g hg) (ev_cons rfl tt ev_nil) rfl rfl (fun _ => rfl) (fun w hI => hI.rovRo 2 0 rfl rfl rfl rov_nil) (fun s7 => ?_)
       first | refine jl_storeS (i := 0) rfl rfl rfl (by kernel_rfl) rfl rfl rfl rfl ?_ | refine jl_storeS (i := 1) rfl rfl rfl (by kernel_rfl) rfl rfl rfl rfl ?_ | refine jl_storeS (i := 2) rfl rfl rfl (by kernel_rfl) rfl rfl rfl rfl ?_ | refine jl_storeS (i := 3) rfl rfl rfl (by kernel_rfl) rfl rfl rfl rfl ?_ | refine jl_storeS (i := 4) rfl rfl rfl (by kernel_rfl) rfl rfl rfl rfl ?_ | refine jl_storeS (i := 5) rfl rfl rfl (by kernel_rfl) rfl rfl rfl rfl ?_ | refine jl_storeS (i := 6) rfl rfl rfl (by kernel_rfl) rfl rfl rfl rfl ?_ | refine jl_storeS (i := 7) rfl rfl rfl (by kernel_rfl) rfl rfl rfl rfl ?_
       refine jl_nil ?_)))
  all_goals exact jq_retMS (i := 1) (σ := {c : ThC // c.Ok}) ⟨s7.1.1, s7.2⟩ (.inl rfl) Try.results12 rfl rfl Try.underlying26 rfl (by kernel_rfl) rfl (fun w h => fresh_nil)
end Go.Vx
