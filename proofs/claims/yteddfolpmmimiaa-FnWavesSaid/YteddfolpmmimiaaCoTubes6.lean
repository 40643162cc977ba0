/- Contracts of functions of the program and of the reference. -/
import Derived.Test.YteddfolpmmimiaaCoScaleTube
import Derived.Test.YteddfolpmmimiaaCoMixTubes
import Derived.Test.YteddfolpmmimiaaCoPinchTube
import Derived.Test.YteddfolpmmimiaaCoJoinTubes
import Derived.Test.YteddfolpmmimiaaCoRefl
import Derived.Test.YteddfolpmmimiaaCoEvenTube
import Derived.Test.YteddfolpmmimiaaCoSource
import Derived.Test.YteddfolpmmimiaaSu
namespace Go.Vx
open Go.Proofs
set_option maxRecDepth 4000
set_option maxHeartbeats 4000000
attribute [local irreducible] J JL JQ JA VOp Con Ext XOp ConM
attribute [local irreducible] farith fcmp
theorem c_l02DrawAreas (b : Nat) (A : Option Addr) (N cap : Nat) (g : Nat → Nat) (a : Nat) (sd : Int) (m : Nat) (hm : m ≤ 300) (ha : a ≤ 1000) (hg : ∀ j, j < N → g j < 256) : ConG Try.prog 89 [.pointer (some ⟨b, 0, none⟩), .int .i64 (m : Int)] [.ro A (tabY N g)] (srcB b 143 A N cap a sd) (fun s : {s : (Option Addr × Nat) × (Nat → Nat) × Int // 0 < m → ∀ j, areaN (s.2.1 j)} => srcB b 143 A N cap (a + m) s.1.2.2) (fun s : {s : (Option Addr × Nat) × (Nat → Nat) × Int // 0 < m → ∀ j, areaN (s.2.1 j)} => .slice s.1.1.1 m s.1.1.2) (fun s : {s : (Option Addr × Nat) × (Nat → Nat) × Int // 0 < m → ∀ j, areaN (s.2.1 j)} => [.vec 24 s.1.1.1 s.1.1.2 (tab m s.1.2.1)]) := by
  refine conG_intro Try.func89 (by decide) rfl rfl (fun w0 => ?_)
  (repeat' (first
    | refine j_part (by omega) ?_
    | refine j_partI (by omega) ?_
    | (refine j_loop2 (σ := Nat × (Option Addr × Nat) × (Nat → Nat) × Int) (fun s => s.1 ≤ m ∧ (0 < s.1 → ∀ j, areaN (s.2.2.1 j))) (fun s => [(0, true, .pointer (some ⟨b, 0, none⟩)), (1, true, .int .i64 ((m : Int) - (s.1 : Int))), (5, true, .slice s.2.1.1 s.1 s.2.1.2)]) (fun s => [.vec 24 s.2.1.1 s.2.1.2 (tab s.1 s.2.2.1), srcB b 143 A N cap (a + s.1) s.2.2.2, .ro A (tabY N g)]) (fun s => m - s.1) (0, (_, _), (fun _ => 0), sd) (by exact ⟨Nat.zero_le _, fun hj => absurd hj (Nat.not_lt_zero _)⟩) (fs_cons rfl (fs_cons (by first | rfl | exact (congrArg some (congrArg (Prod.mk true) (congrArg (Value.int .i64) (by omega))))) (fs_cons rfl fs_nil))) (fun _ h => h) ?_; intro s hi; obtain ⟨i, ⟨Z, zc⟩, h, sd2⟩ := s; dsimp only at hi ⊢)
    | (exact jq_round (i + 1, (_, _), upd h i _, _) (by refine ⟨by omega, ?_⟩; exact all_updA hi.2 (area_of s13.2)) (by omega) (fs_cons rfl (fs_cons (by first | rfl | exact (congrArg some (congrArg (Prod.mk true) (congrArg (Value.int .i64) (by omega))))) (fs_cons rfl fs_nil))) (fun w h => by rw [← tab_upd]; exact h.sub (List.sublist_cons_self _ _)))
    | refine j_condLt rfl (fun _ => ?_) (fun _ => ?_)
    | refine j_condLe rfl (fun _ => ?_) (fun _ => ?_)
    | refine j_condGt rfl (fun _ => ?_) (fun _ => ?_)
    | refine j_condGe rfl (fun _ => ?_) (fun _ => ?_)
    | refine j_condNe rfl (fun _ => ?_) (fun _ => ?_)
    | refine j_condEq rfl (fun _ => ?_) (fun _ => ?_)
    | refine j_condOrLt rfl (fun _ => ?_) (fun _ => ?_)
    | refine j_condAndLt rfl (fun _ => ?_) (fun _ => ?_)
    | refine j_condAndGe rfl (fun _ => ?_) (fun _ => ?_)
    | refine j_seq ?_
    | refine jq_then ?_
    | refine j_block ?_
    | refine j_ret ?_
    | refine jq_then_ret ?_
    | refine jq_block_ret ?_
    | refine jq_block_normal ?_
    | refine jq_then_exit ?_
    | refine jq_block_same rfl ?_
    | refine jq_block_other rfl ?_
    | refine j_skip ?_
    | refine j_exit ?_
    | refine j_label ?_
    | refine j_condCT ?_
    | refine j_condCF ?_
    | refine j_cond rfl (fun _ => ?_) (fun _ => ?_)
    | (refine j_region (id := 0) ?_
       refine jl_op rfl rfl (.none rfl) (v_assign rfl rfl tt) ?_
       refine jl_nil ?_)
    | (refine j_region (id := 1) ?_
       refine jl_x1 rfl rfl rfl (x_lit (Ws := []) (Z := F 0) rfl Try.underlying34 (by kernel_rfl) zero24 rfl rfl ev_nil rfl rfl rfl rfl) (fun b6 => ?_)
       refine jl_op rfl rfl (.none rfl) (v_assign rfl rfl tt) ?_
       refine jl_nil ?_)
    | (refine j_region (id := 2) ?_
       refine jl_op rfl rfl (.none rfl) (v_move rfl rfl tt) ?_
       refine jl_op rfl rfl (.none rfl) (v_icmp rfl rfl rfl rfl tt tt) ?_
       refine jl_nil ?_)
    | (refine j_region (id := 3) ?_
       refine jl_op rfl rfl (.none rfl) (v_move rfl rfl tt) ?_
       refine jl_op rfl rfl (.none rfl) (v_iarith' rfl rfl rfl rfl tt tt (by first | exact fun _ => iw_sub (by omega) | exact fun _ => rfl)) ?_
       refine jl_op rfl rfl (.none rfl) (v_assign rfl rfl tt) ?_
       refine jl_nil ?_)
    | (refine j_region (id := 4) ?_
       refine jl_op rfl rfl (.none rfl) (v_move rfl rfl tt) ?_
       refine jl_op rfl rfl (.none rfl) (v_move rfl rfl tt) ?_
       refine jl_g (i := 1) (f := 79) (xs := [_, _]) rfl rfl rfl rfl (c_srcPick b A N cap g (a + i) sd2 24 (by omega) (by omega) (by omega) hg) (ev_cons rfl tt (ev_cons rfl tt ev_nil)) rfl rfl (fun _ => rfl) (fun w hI => hI.rovRo 2 1 rfl rfl rfl rov_nil) (fun s13 => ?_)
       refine jl_op rfl rfl (.none rfl) (v_iarith' rfl rfl rfl rfl tt tt (by first | exact fun _ => iw_add (by omega) | exact fun _ => rfl)) ?_
       refine jl_op rfl rfl (.none rfl) (v_i2f rfl rfl tt (by rfl) Try.underlying24) ?_
       refine jl_op rfl rfl (.none rfl) (v_farith rfl rfl rfl rfl tt tt) ?_
       refine jl_x1 rfl rfl rfl (x_lit (Ws := [_]) (Z := F 0) rfl Try.underlying34 (by kernel_rfl) zero24 rfl rfl (ev_cons rfl tt ev_nil) rfl rfl rfl rfl) (fun b17 => ?_)
       first | refine jl_append (i := 0) (by' := 4) (Z := F 0) rfl rfl rfl rfl Try.underlying34 (by kernel_rfl) zero24 rfl (by kernel_rfl) (by rfl) rfl rfl rfl (fun w hI => by first | exact hI.vecRo (by (repeat first | exact m0 | refine List.Mem.tail _ ?_); first | done | fail) | exact hI.roRo (by (repeat first | exact m0 | refine List.Mem.tail _ ?_); first | done | fail)) (by first | rfl | exact (tab_length ..).symm | exact (part_length ..).symm | exact (tabI_length ..).symm | exact (partI_length ..).symm | exact (List.length_replicate ..).symm | simp only [List.length_append, List.length_nil, tab_length]) (by first | rfl | exact (tab_length ..).symm | exact (part_length ..).symm | exact (tabI_length ..).symm | exact (partI_length ..).symm | exact (List.length_replicate ..).symm | simp only [List.length_append, List.length_nil, tab_length]) (by omega) (fun A18 c18 => ?_) | refine jl_append (i := 1) (by' := 4) (Z := F 0) rfl rfl rfl rfl Try.underlying34 (by kernel_rfl) zero24 rfl (by kernel_rfl) (by rfl) rfl rfl rfl (fun w hI => by first | exact hI.vecRo (by (repeat first | exact m0 | refine List.Mem.tail _ ?_); first | done | fail) | exact hI.roRo (by (repeat first | exact m0 | refine List.Mem.tail _ ?_); first | done | fail)) (by first | rfl | exact (tab_length ..).symm | exact (part_length ..).symm | exact (tabI_length ..).symm | exact (partI_length ..).symm | exact (List.length_replicate ..).symm | simp only [List.length_append, List.length_nil, tab_length]) (by first | rfl | exact (tab_length ..).symm | exact (part_length ..).symm | exact (tabI_length ..).symm | exact (partI_length ..).symm | exact (List.length_replicate ..).symm | simp only [List.length_append, List.length_nil, tab_length]) (by omega) (fun A18 c18 => ?_) | refine jl_append (i := 2) (by' := 4) (Z := F 0) rfl rfl rfl rfl Try.underlying34 (by kernel_rfl) zero24 rfl (by kernel_rfl) (by rfl) rfl rfl rfl (fun w hI => by first | exact hI.vecRo (by (repeat first | exact m0 | refine List.Mem.tail _ ?_); first | done | fail) | exact hI.roRo (by (repeat first | exact m0 | refine List.Mem.tail _ ?_); first | done | fail)) (by first | rfl | exact (tab_length ..).symm | exact (part_length ..).symm | exact (tabI_length ..).symm | exact (partI_length ..).symm | exact (List.length_replicate ..).symm | simp only [List.length_append, List.length_nil, tab_length]) (by first | rfl | exact (tab_length ..).symm | exact (part_length ..).symm | exact (tabI_length ..).symm | exact (partI_length ..).symm | exact (List.length_replicate ..).symm | simp only [List.length_append, List.length_nil, tab_length]) (by omega) (fun A18 c18 => ?_) | refine jl_append (i := 3) (by' := 4) (Z := F 0) rfl rfl rfl rfl Try.underlying34 (by kernel_rfl) zero24 rfl (by kernel_rfl) (by rfl) rfl rfl rfl (fun w hI => by first | exact hI.vecRo (by (repeat first | exact m0 | refine List.Mem.tail _ ?_); first | done | fail) | exact hI.roRo (by (repeat first | exact m0 | refine List.Mem.tail _ ?_); first | done | fail)) (by first | rfl | exact (tab_length ..).symm | exact (part_length ..).symm | exact (tabI_length ..).symm | exact (partI_length ..).symm | exact (List.length_replicate ..).symm | simp only [List.length_append, List.length_nil, tab_length]) (by first | rfl | exact (tab_length ..).symm | exact (part_length ..).symm | exact (tabI_length ..).symm | exact (partI_length ..).symm | exact (List.length_replicate ..).symm | simp only [List.length_append, List.length_nil, tab_length]) (by omega) (fun A18 c18 => ?_) | refine jl_append (i := 4) (by' := 4) (Z := F 0) rfl rfl rfl rfl Try.underlying34 (by kernel_rfl) zero24 rfl (by kernel_rfl) (by rfl) rfl rfl rfl (fun w hI => by first | exact hI.vecRo (by (repeat first | exact m0 | refine List.Mem.tail _ ?_); first | done | fail) | exact hI.roRo (by (repeat first | exact m0 | refine List.Mem.tail _ ?_); first | done | fail)) (by first | rfl | exact (tab_length ..).symm | exact (part_length ..).symm | exact (tabI_length ..).symm | exact (partI_length ..).symm | exact (List.length_replicate ..).symm | simp only [List.length_append, List.length_nil, tab_length]) (by first | rfl | exact (tab_length ..).symm | exact (part_length ..).symm | exact (tabI_length ..).symm | exact (partI_length ..).symm | exact (List.length_replicate ..).symm | simp only [List.length_append, List.length_nil, tab_length]) (by omega) (fun A18 c18 => ?_) | refine jl_append (i := 5) (by' := 4) (Z := F 0) rfl rfl rfl rfl Try.underlying34 (by kernel_rfl) zero24 rfl (by kernel_rfl) (by rfl) rfl rfl rfl (fun w hI => by first | exact hI.vecRo (by (repeat first | exact m0 | refine List.Mem.tail _ ?_); first | done | fail) | exact hI.roRo (by (repeat first | exact m0 | refine List.Mem.tail _ ?_); first | done | fail)) (by first | rfl | exact (tab_length ..).symm | exact (part_length ..).symm | exact (tabI_length ..).symm | exact (partI_length ..).symm | exact (List.length_replicate ..).symm | simp only [List.length_append, List.length_nil, tab_length]) (by first | rfl | exact (tab_length ..).symm | exact (part_length ..).symm | exact (tabI_length ..).symm | exact (partI_length ..).symm | exact (List.length_replicate ..).symm | simp only [List.length_append, List.length_nil, tab_length]) (by omega) (fun A18 c18 => ?_)
       refine jl_op rfl rfl (.none rfl) (v_assign rfl rfl tt) ?_
       refine jl_nil ?_)
    | (refine j_region (id := 5) ?_
       refine jl_op rfl rfl (.none rfl) (v_move rfl rfl tt) ?_
       refine jl_op rfl rfl (.none rfl) (v_assign rfl rfl tt) ?_
       refine jl_nil ?_)))
  all_goals (obtain rfl : i = m := (by omega))
  all_goals exact jq_retG (σ := {s : (Option Addr × Nat) × (Nat → Nat) × Int // 0 < i → ∀ j, areaN (s.2.1 j)}) 1 ⟨((_, _), h, sd2), hi.2⟩ (.inl rfl) Try.results89 rfl rfl rfl (fun w h => freshG_at 0 1 rfl rfl rfl (by rfl) (by decide) h)
theorem c_R8Tube (A : Option Addr) (N cap : Nat) (g : Nat → Nat) (hg : ∀ j, j < N → g j < 256) : ConM Try.prog 24 [.slice A N cap] (RoS [.ro A (tabY N g)]) (fun s : {s : (Option Addr × Nat) × (Nat × (Nat → Nat)) // TqA s.2.1 s.2.2} => .agg #[.slice s.1.1.1 s.1.2.1 s.1.1.2, F 1065353216, F 1061158912, F 3210739712]) (fun s : {s : (Option Addr × Nat) × (Nat × (Nat → Nat)) // TqA s.2.1 s.2.2} => [.vec 24 s.1.1.1 s.1.1.2 (tab s.1.2.1 s.1.2.2)]) := by
  refine conM_intro (H := [.ro A (tabY N g)]) Try.func24 (by decide) rfl rfl (fun w h => h.inv) (fun w0 _ => ?_)
  (repeat' (first
    | refine j_condLt rfl (fun _ => ?_) (fun _ => ?_)
    | refine j_condLe rfl (fun _ => ?_) (fun _ => ?_)
    | refine j_condGt rfl (fun _ => ?_) (fun _ => ?_)
    | refine j_condGe rfl (fun _ => ?_) (fun _ => ?_)
    | refine j_condNe rfl (fun _ => ?_) (fun _ => ?_)
    | refine j_condEq rfl (fun _ => ?_) (fun _ => ?_)
    | refine j_condOrLt rfl (fun _ => ?_) (fun _ => ?_)
    | refine j_condAndLt rfl (fun _ => ?_) (fun _ => ?_)
    | refine j_condAndGe rfl (fun _ => ?_) (fun _ => ?_)
    | refine j_seq ?_
    | refine jq_then ?_
    | refine j_block ?_
    | refine j_ret ?_
    | refine jq_then_ret ?_
    | refine jq_block_ret ?_
    | refine jq_block_normal ?_
    | refine jq_then_exit ?_
    | refine jq_block_same rfl ?_
    | refine jq_block_other rfl ?_
    | refine j_skip ?_
    | refine j_exit ?_
    | refine j_label ?_
    | refine j_condCT ?_
    | refine j_condCF ?_
    | refine j_cond rfl (fun _ => ?_) (fun _ => ?_)
    | (refine j_region (id := 0) ?_
       refine jl_alloc rfl rfl rfl rfl zero47 (by rfl) (fun b2 => ?_)
       refine jl_nil ?_)
    | (refine j_region (id := 1) ?_
       refine jl_op rfl rfl (.none rfl) (v_move rfl rfl tt) ?_
       refine jl_x1 rfl rfl rfl (x_call (f := 76) (xs := [_]) rfl (c_l00From ..) (ev_cons rfl tt ev_nil) (by intro w hI; first | trivial | (repeat' (first | exact ros_nil | refine ros_cons ?_ ?_ | exact hI.roRo (by (repeat first | exact m0 | refine List.Mem.tail _ ?_); first | done | fail) | exact hI.boxRo (by (repeat first | exact m0 | refine List.Mem.tail _ ?_); first | done | fail) | exact HInv.vecRo hI (by (repeat first | exact m0 | refine List.Mem.tail _ ?_); first | done | fail))))) (fun s6 => ?_)
       refine jl_op rfl rfl (.none rfl) (v_assign rfl rfl tt) ?_
       refine jl_nil ?_)
    | (refine j_region (id := 2) ?_
       refine jl_op rfl rfl (.none rfl) (v_move rfl rfl tt) ?_
       first | refine jl_g (i := 0) (f := 79) (xs := [_, _]) rfl rfl rfl rfl (c_srcPick s6 A N cap g 0 0 4 (by omega) (by omega) (by omega) hg) (ev_cons rfl tt (ev_cons rfl tt ev_nil)) rfl rfl (fun _ => rfl) (fun w hI => hI.rovRo 2 0 rfl rfl rfl rov_nil) (fun s8 => ?_) | refine jl_g (i := 0) (f := 79) (xs := [_, _]) rfl rfl rfl rfl (c_srcPick s6 A N cap g 0 0 4 (by omega) (by omega) (by omega) hg) (ev_cons rfl tt (ev_cons rfl tt ev_nil)) rfl rfl (fun _ => rfl) (fun w hI => hI.rovRo 1 0 rfl rfl rfl rov_nil) (fun s8 => ?_) | refine jl_g (i := 1) (f := 79) (xs := [_, _]) rfl rfl rfl rfl (c_srcPick s6 A N cap g 0 0 4 (by omega) (by omega) (by omega) hg) (ev_cons rfl tt (ev_cons rfl tt ev_nil)) rfl rfl (fun _ => rfl) (fun w hI => hI.rovRo 2 1 rfl rfl rfl rov_nil) (fun s8 => ?_)
       refine jl_op rfl rfl (.none rfl) (v_iarith' (Z := (((1 + s8.1.1).toNat : Nat) : Int)) rfl rfl rfl rfl tt tt (fun _ => (iw_add (by have := s8.2; omega)).trans (by have := s8.2; omega))) ?_
       refine jl_op rfl rfl (.none rfl) (v_assign rfl rfl tt) ?_
       refine jl_nil ?_)
    | (refine j_region (id := 3) ?_
       refine jl_op rfl rfl (.none rfl) (v_move rfl rfl tt) ?_
       refine jl_op rfl rfl (.none rfl) (v_move rfl rfl tt) ?_
       first | refine jl_g (i := 0) (f := 89) (xs := [_, _]) rfl rfl rfl rfl (c_l02DrawAreas s6 A N cap g 1 s8.1.2 (1 + s8.1.1).toNat (by have := s8.2; omega) (by omega) hg) (ev_cons rfl tt (ev_cons rfl tt ev_nil)) rfl rfl (fun _ => rfl) (fun w hI => hI.rovRo 2 0 rfl rfl rfl rov_nil) (fun s12 => ?_) | refine jl_g (i := 0) (f := 89) (xs := [_, _]) rfl rfl rfl rfl (c_l02DrawAreas s6 A N cap g 1 s8.1.2 (1 + s8.1.1).toNat (by have := s8.2; omega) (by omega) hg) (ev_cons rfl tt (ev_cons rfl tt ev_nil)) rfl rfl (fun _ => rfl) (fun w hI => hI.rovRo 1 0 rfl rfl rfl rov_nil) (fun s12 => ?_) | refine jl_g (i := 1) (f := 89) (xs := [_, _]) rfl rfl rfl rfl (c_l02DrawAreas s6 A N cap g 1 s8.1.2 (1 + s8.1.1).toNat (by have := s8.2; omega) (by omega) hg) (ev_cons rfl tt (ev_cons rfl tt ev_nil)) rfl rfl (fun _ => rfl) (fun w hI => hI.rovRo 2 1 rfl rfl rfl rov_nil) (fun s12 => ?_)
       refine jl_op rfl rfl (.none rfl) (v_call (f := 88) (xs := [_]) rfl (c_l02New ..) (ev_cons rfl tt ev_nil) (by intro w hc hI; first | trivial | (exfalso; simp_all; done) | (clear hc; repeat' (first | exact ros_nil | refine ros_cons ?_ ?_ | exact hI.roRo (by (repeat first | exact m0 | refine List.Mem.tail _ ?_); first | done | fail) | exact hI.boxRo (by (repeat first | exact m0 | refine List.Mem.tail _ ?_); first | done | fail) | exact HInv.vecRo hI (by (repeat first | exact m0 | refine List.Mem.tail _ ?_); first | done | fail))))) ?_
       first | refine jl_storeS (i := 0) rfl rfl rfl (by kernel_rfl) rfl rfl rfl rfl ?_ | refine jl_storeS (i := 1) rfl rfl rfl (by kernel_rfl) rfl rfl rfl rfl ?_ | refine jl_storeS (i := 2) rfl rfl rfl (by kernel_rfl) rfl rfl rfl rfl ?_ | refine jl_storeS (i := 3) rfl rfl rfl (by kernel_rfl) rfl rfl rfl rfl ?_ | refine jl_storeS (i := 4) rfl rfl rfl (by kernel_rfl) rfl rfl rfl rfl ?_ | refine jl_storeS (i := 5) rfl rfl rfl (by kernel_rfl) rfl rfl rfl rfl ?_ | refine jl_storeS (i := 6) rfl rfl rfl (by kernel_rfl) rfl rfl rfl rfl ?_ | refine jl_storeS (i := 7) rfl rfl rfl (by kernel_rfl) rfl rfl rfl rfl ?_
       refine jl_nil ?_)))
  all_goals (have e15 : 1 ≤ (1 + s8.1.1).toNat ∧ (1 + s8.1.1).toNat ≤ 4 := (by have := s8.2; omega))
  all_goals first | exact jq_retMS (i := 2) (σ := {s : (Option Addr × Nat) × (Nat × (Nat → Nat)) // TqA s.2.1 s.2.2}) ⟨((_, _), (_, s12.1.2.1)), tqA_of e15 s12.2⟩ (.inl rfl) Try.results24 rfl rfl Try.underlying47 rfl (by kernel_rfl) rfl (fun w h => fresh_at 0 rfl rfl h) | exact jq_retMS (i := 1) (σ := {s : (Option Addr × Nat) × (Nat × (Nat → Nat)) // TqA s.2.1 s.2.2}) ⟨((_, _), (_, s12.1.2.1)), tqA_of e15 s12.2⟩ (.inl rfl) Try.results24 rfl rfl Try.underlying47 rfl (by kernel_rfl) rfl (fun w h => fresh_at 0 rfl rfl h)
theorem c_validV (A : Option Addr) (N cap : Nat) (g : Nat → Nat) (l t p : Nat) (hN : N ≤ 4294967296) (hv : (tubeB N g l t p) = true) : Con Try.prog 90 [.agg #[.slice A N cap, F l, F t, F p]] (RoS [.ro A (tab N g)]) (.bool true) := by
  have h := c_validTI A N cap g l t p hN
  rw [hv] at h
  exact h
theorem c_validVz (z : Addr) (N cap : Nat) (g : Nat → Nat) (l t p : Nat) (hN : N ≤ 4294967296) (hv : (tubeB N g l t p) = true) : Con Try.prog 90 [.agg #[.slice (some z) N cap, F l, F t, F p]] (RoS [.ro (some z) (tab N g)]) (.bool true) := by
  have h := c_validTI (some z) N cap g l t p hN
  rw [hv] at h
  exact h
theorem c_r8Gap (x y : Nat) (hx : isN .f64 (farith .sub .f64 x y) = false) (hy : isN .f64 (farith .sub .f64 y x) = false) : Con Try.prog 29 [.float .f64 (x), .float .f64 (y)] (fun _ => True) (.float .f64 (gapM x y)) := by
  refine con_intro (H := []) Try.func29 (by decide) rfl rfl (fun w _ => HInv.refl w) (fun w0 _ => ?_)
  (repeat' (first
    | refine j_condLt rfl (fun _ => ?_) (fun _ => ?_)
    | refine j_condLe rfl (fun _ => ?_) (fun _ => ?_)
    | refine j_condGt rfl (fun _ => ?_) (fun _ => ?_)
    | refine j_condGe rfl (fun _ => ?_) (fun _ => ?_)
    | refine j_condNe rfl (fun _ => ?_) (fun _ => ?_)
    | refine j_condEq rfl (fun _ => ?_) (fun _ => ?_)
    | refine j_condOrLt rfl (fun _ => ?_) (fun _ => ?_)
    | refine j_condAndLt rfl (fun _ => ?_) (fun _ => ?_)
    | refine j_condAndGe rfl (fun _ => ?_) (fun _ => ?_)
    | refine j_seq ?_
    | refine jq_then ?_
    | refine j_block ?_
    | refine j_ret ?_
    | refine jq_then_ret ?_
    | refine jq_block_ret ?_
    | refine jq_block_normal ?_
    | refine jq_then_exit ?_
    | refine jq_block_same rfl ?_
    | refine jq_block_other rfl ?_
    | refine j_skip ?_
    | refine j_exit ?_
    | refine j_label ?_
    | refine j_condCT ?_
    | refine j_condCF ?_
    | refine j_cond rfl (fun _ => ?_) (fun _ => ?_)
    | (refine j_region (id := 0) ?_
       refine jl_op rfl rfl (.none rfl) (v_assign rfl rfl tt) ?_
       refine jl_nil ?_)
    | (refine j_region (id := 1) ?_
       refine jl_op rfl rfl (.none rfl) (v_move rfl rfl tt) ?_
       refine jl_op rfl rfl (.none rfl) (v_move rfl rfl tt) ?_
       refine jl_op rfl rfl (.none rfl) (v_farith rfl rfl rfl rfl tt tt) ?_
       refine jl_op rfl rfl (.none rfl) (v_move rfl rfl tt) ?_
       refine jl_op rfl rfl (.none rfl) (v_move rfl rfl tt) ?_
       refine jl_op rfl rfl (.none rfl) (v_farith rfl rfl rfl rfl tt tt) ?_
       refine jl_op rfl rfl (.none rfl) (v_maxF rfl rfl rfl rfl tt tt (fun _ => hx) (fun _ => hy)) ?_
       refine jl_op rfl rfl (.none rfl) (v_assign rfl rfl tt) ?_
       refine jl_nil ?_)))
  all_goals exact jq_ret1 (.inl rfl) Try.results29 rfl
theorem c_r8Long (A : Option Addr) (N cap : Nat) (B : Option Addr) (M bc : Nat) : Con Try.prog 23 [.slice A N cap, .slice B M bc] (fun _ => True) (.bool (icmp .gtr (N : Int) 48 || icmp .gtr (M : Int) 48)) := by
  refine con_intro (H := []) Try.func23 (by decide) rfl rfl (fun w _ => HInv.refl w) (fun w0 _ => ?_)
  (repeat' (first
    | refine j_condLt rfl (fun _ => ?_) (fun _ => ?_)
    | refine j_condLe rfl (fun _ => ?_) (fun _ => ?_)
    | refine j_condGt rfl (fun _ => ?_) (fun _ => ?_)
    | refine j_condGe rfl (fun _ => ?_) (fun _ => ?_)
    | refine j_condNe rfl (fun _ => ?_) (fun _ => ?_)
    | refine j_condEq rfl (fun _ => ?_) (fun _ => ?_)
    | refine j_condOrLt rfl (fun _ => ?_) (fun _ => ?_)
    | refine j_condAndLt rfl (fun _ => ?_) (fun _ => ?_)
    | refine j_condAndGe rfl (fun _ => ?_) (fun _ => ?_)
    | refine j_seq ?_
    | refine jq_then ?_
    | refine j_block ?_
    | refine j_ret ?_
    | refine jq_then_ret ?_
    | refine jq_block_ret ?_
    | refine jq_block_normal ?_
    | refine jq_then_exit ?_
    | refine jq_block_same rfl ?_
    | refine jq_block_other rfl ?_
    | refine j_skip ?_
    | refine j_exit ?_
    | refine j_label ?_
    | refine j_condCT ?_
    | refine j_condCF ?_
    | refine j_cond rfl (fun _ => ?_) (fun _ => ?_)
    | (refine j_region (id := 0) ?_
       refine jl_op rfl rfl (.none rfl) (v_assign rfl rfl tt) ?_
       refine jl_nil ?_)
    | (refine j_region (id := 1) ?_
       refine jl_op rfl rfl (.none rfl) (v_move rfl rfl tt) ?_
       refine jl_op rfl rfl (.none rfl) (v_len rfl rfl Try.underlying22 rfl tt) ?_
       refine jl_op rfl rfl (.none rfl) (v_icmp rfl rfl rfl rfl tt tt) ?_
       refine jl_op rfl rfl (.none rfl) (v_move rfl rfl tt) ?_
       refine jl_op rfl rfl (.some rfl rfl rfl) (v_move rfl rfl tt) ?_
       refine jl_op rfl rfl (.some rfl rfl rfl) (v_len rfl rfl Try.underlying22 rfl ii) ?_
       refine jl_op rfl rfl (.some rfl rfl rfl) (v_icmp rfl rfl rfl rfl ii tt) ?_
       refine jl_op rfl rfl (.none rfl) (v_or rfl rfl tt rfl fi) ?_
       refine jl_op rfl rfl (.none rfl) (v_assign rfl rfl tt) ?_
       refine jl_nil ?_)))
  all_goals exact jq_ret1 (.inl rfl) Try.results23 rfl
end Go.Vx
