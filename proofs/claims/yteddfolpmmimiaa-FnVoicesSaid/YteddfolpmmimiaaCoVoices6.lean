/- Contracts of functions of the program and of the reference. -/
import Derived.Test.YteddfolpmmimiaaCoPulseAt
import Derived.Test.YteddfolpmmimiaaCoStepVoice
import Derived.Test.YteddfolpmmimiaaCoRunVoice
import Derived.Test.YteddfolpmmimiaaCoSeed
import Derived.Test.YteddfolpmmimiaaCoB10Throat
import Derived.Test.YteddfolpmmimiaaCoMixed
namespace Go.Vx
open Go.Proofs
set_option maxRecDepth 4000
set_option maxHeartbeats 4000000
attribute [local irreducible] J JL JQ JA VOp Con Ext XOp ConM ConW ConW2
theorem c_SameNumberS (x y : Nat) : Con Try.prog 19 [.float .f32 x, .float .f32 y] (fun _ => True) (.bool (sameS x y)) := by
  refine con_intro (H := []) Try.func19 (by decide) rfl rfl (fun w _ => HInv.refl w) (fun w0 _ => ?_)
  (repeat' (first
    | refine j_condLt rfl (fun _ => ?_) (fun _ => ?_)
    | refine j_condLe rfl (fun _ => ?_) (fun _ => ?_)
    | refine j_condGt rfl (fun _ => ?_) (fun _ => ?_)
    | refine j_condGe rfl (fun _ => ?_) (fun _ => ?_)
    | refine j_condNe rfl (fun _ => ?_) (fun _ => ?_)
    | refine j_condEq rfl (fun _ => ?_) (fun _ => ?_)
    | refine j_condOrLt rfl (fun _ => ?_) (fun _ => ?_)
    | refine j_condAndLt rfl (fun _ => ?_) (fun _ => ?_)
    | refine j_condAndGe rfl (fun _ => ?_) (fun _ => ?_)
    | refine j_seq ?_
    | refine jq_then ?_
    | refine j_block ?_
    | refine j_ret ?_
    | refine jq_then_ret ?_
    | refine jq_block_ret ?_
    | refine jq_block_normal ?_
    | refine jq_then_exit ?_
    | refine jq_block_same rfl ?_
    | refine jq_block_other rfl ?_
    | refine j_skip ?_
    | refine j_exit ?_
    | refine j_label ?_
    | refine j_condCT ?_
    | refine j_condCF ?_
    | refine j_cond rfl (fun _ => ?_) (fun _ => ?_)
    | (refine j_region (id := 0) ?_
       refine jl_op rfl rfl (.none rfl) (v_assign rfl rfl tt) ?_
       refine jl_nil ?_)
    | (refine j_region (id := 1) ?_
       refine jl_op rfl rfl (.none rfl) (v_move rfl rfl tt) ?_
       refine jl_op rfl rfl (.none rfl) (v_move rfl rfl tt) ?_
       refine jl_op rfl rfl (.none rfl) (v_call (f := 85) (xs := [_, _]) rfl (c_l01Same ..) (ev_cons rfl tt (ev_cons rfl tt ev_nil)) (by intro w hc hI; first | trivial | (exfalso; simp_all; done) | (clear hc; repeat' (first | exact ros_nil | refine ros_cons ?_ ?_ | exact hI.roRo (by first | exact m0 | exact m1 | exact m2 | exact m3 | exact m4 | exact m5 | exact m6 | exact m7 | exact m8 | exact m9 | exact m10 | exact m11 | exact m12 | exact m13) | exact hI.boxRo (by first | exact m0 | exact m1 | exact m2 | exact m3 | exact m4 | exact m5 | exact m6 | exact m7 | exact m8 | exact m9 | exact m10 | exact m11 | exact m12 | exact m13) | exact HInv.vecRo hI (by first | exact m0 | exact m1 | exact m2 | exact m3 | exact m4 | exact m5 | exact m6 | exact m7 | exact m8 | exact m9 | exact m10 | exact m11 | exact m12 | exact m13))))) ?_
       refine jl_op rfl rfl (.none rfl) (v_assign rfl rfl tt) ?_
       refine jl_nil ?_)))
  all_goals exact jq_ret1 (.inl rfl) Try.results19 rfl
theorem c_newE (c : ThC) (hc : c.Ok) (s : Int) (hs : 0 ≤ s ∧ s ≤ 2147483647) : Con Try.prog 13 [.agg (throatC c.p c.o c.cl c.br c.sh).toArray, .int .i64 s] (fun _ => True) (.tuple #[.agg (voiceC 0 c.p s).toArray, .bool true]) := by
  have h := c_newVoiceI c.p c.o c.cl c.br c.sh s
  rw [new_ok hc hs] at h
  exact h
theorem c_pulseE (c : ThC) (hc : c.Ok) (ph : Nat) (hp : phase ph = true) : Con Try.prog 17 [.agg (throatC c.p c.o c.cl c.br c.sh).toArray, F ph] (fun _ => True) (.tuple #[F (pulse c.o c.cl ph), .bool true]) := by
  have h := c_PulseAtI c.p c.o c.cl c.br c.sh ph
  rw [pul_ok hc hp] at h
  exact h
theorem c_stepE (c : ThC) (hc : c.Ok) (q n : Nat) (s : Int) (hv : voiceV q n s = true) : Con Try.prog 18 [.agg (throatC c.p c.o c.cl c.br c.sh).toArray, .agg (voiceC q n s).toArray] (fun _ => True) (.tuple #[.agg (voiceC (stQ q n) (stN c.p c.sh q n s) (stS q n s)).toArray, F (outN c.o c.cl c.br q s), .bool true]) := by
  have h := c_StepVoiceI c.p c.o c.cl c.br c.sh q n s
  rw [stp_ok hc hv] at h
  exact h
theorem c_runE (c : ThC) (hc : c.Ok) (q n : Nat) (s : Int) (m : Nat) (hv : voiceV q n s = true) (hm : m ≤ 256) : ConM Try.prog 16 [.agg (throatC c.p c.o c.cl c.br c.sh).toArray, .agg (voiceC q n s).toArray, .int .i64 (m : Int)] (RoS []) (fun r : Option Addr × Nat => .tuple #[.agg (vstC (vst c.p c.sh q n s m)).toArray, .slice r.1 m r.2, .bool true]) (fun r => [.vec 24 r.1 r.2 (tab m (outsG c.p c.o c.cl c.br c.sh q n s))]) := by
  have h := c_runI c.p c.o c.cl c.br c.sh q n s (m : Int)
  rw [run_ok hc hv (by omega)] at h
  exact h
theorem c_B10SeedE (A : Option Addr) (N cap : Nat) (g : Nat → Nat) (hg : ∀ j, j < N → g j < 256) (z : Int) (hz : seedF N g = z) : Con Try.prog 14 [.slice A N cap] (RoS [.ro A (tabY N g)]) (.int .i64 z) := hz ▸ c_B10Seed A N cap g hg
theorem c_law_FnVoices (A : Option Addr) (N cap : Nat) (g1 : Nat → Nat) (B : Option Addr) (M bc : Nat) (g2 : Nat → Nat) (hg1 : ∀ j, j < N → g1 j < 256) (hg2 : ∀ j, j < M → g2 j < 256) : Con Try.prog 3 [.slice A N cap, .slice B M bc] (RoS [.ro A (tabY N g1), .ro B (tabY M g2)]) (.bool true) := by
  refine con_intro (H := [.ro A (tabY N g1), .ro B (tabY M g2)]) Try.func3 (by decide) rfl rfl (fun w h => h.inv) (fun w0 _ => ?_)
  obtain ⟨m, hm, hm29⟩ : ∃ m : Nat, atB M g2 4 30 = (m : Int) ∧ m < 30 := by
    have h := atB_in (N := M) (g := g2) (i := 4) (n := 30) (by decide) (by decide)
    exact ⟨(atB M g2 4 30).toNat, by omega, by omega⟩
  obtain ⟨s, hz, hs⟩ : ∃ s, seedF M g2 = s ∧ 0 ≤ s ∧ s ≤ 2147483647 := ⟨_, rfl, seedF_in hg2⟩
  (repeat' (first
    | refine j_part (by omega) ?_
    | refine j_partI (by omega) ?_
    | refine j_condF rfl voice_c0 ?_
    | refine j_condF rfl (voice_c1 (vst_valid (th_ok hc) (th_p hc hs) (k + 1))) ?_
    | refine j_condF rfl (voice_c2 hc hs k) ?_
    | (refine j_loop2 (σ := Nat) (fun k => k ≤ m) (fun k => [(5, true, .pointer (some ⟨b5, 0, none⟩)), (8, true, .int .i64 (m)), (9, true, .pointer (some ⟨b9, 0, none⟩)), (10, true, .slice s37.1 m s37.2), (12, true, .pointer (some ⟨b12, 0, none⟩)), (13, true, .int .i64 (k))]) (fun k => [.box b12 29 (vstC (vst c.p c.sh 0 c.p s k)), .box b9 29 (vstC (vst c.p c.sh 0 c.p s m)), .vec 24 s37.1 s37.2 (tab m (outsG c.p c.o c.cl c.br c.sh 0 c.p s)), .box b6 29 (voiceC 0 c.p s), .box b5 26 (throatC c.p c.o c.cl c.br c.sh), .ro A (tabY N g1), .ro B (tabY M g2)]) (fun k => m - k) 0 (by omega) (fs_cons rfl (fs_cons rfl (fs_cons rfl (fs_cons rfl (fs_cons rfl (fs_cons rfl fs_nil)))))) (fun _ h => h) ?_; intro k hk)
    | (exact jq_round (k + 1) (by omega) (by omega) (fs_cons rfl (fs_cons rfl (fs_cons rfl (fs_cons rfl (fs_cons rfl (fs_cons rfl fs_nil)))))) (fun w h => h.sub (List.sublist_cons_self _ _)))
    | refine j_condLt rfl (fun _ => ?_) (fun _ => ?_)
    | refine j_condLe rfl (fun _ => ?_) (fun _ => ?_)
    | refine j_condGt rfl (fun _ => ?_) (fun _ => ?_)
    | refine j_condGe rfl (fun _ => ?_) (fun _ => ?_)
    | refine j_condNe rfl (fun _ => ?_) (fun _ => ?_)
    | refine j_condEq rfl (fun _ => ?_) (fun _ => ?_)
    | refine j_condOrLt rfl (fun _ => ?_) (fun _ => ?_)
    | refine j_condAndLt rfl (fun _ => ?_) (fun _ => ?_)
    | refine j_condAndGe rfl (fun _ => ?_) (fun _ => ?_)
    | refine j_seq ?_
    | refine jq_then ?_
    | refine j_block ?_
    | refine j_ret ?_
    | refine jq_then_ret ?_
    | refine jq_block_ret ?_
    | refine jq_block_normal ?_
    | refine jq_then_exit ?_
    | refine jq_block_same rfl ?_
    | refine jq_block_other rfl ?_
    | refine j_skip ?_
    | refine j_exit ?_
    | refine j_label ?_
    | refine j_condCT ?_
    | refine j_condCF ?_
    | refine j_cond rfl (fun _ => ?_) (fun _ => ?_)
    | (refine j_region (id := 0) ?_
       refine jl_op rfl rfl (.none rfl) (v_assign rfl rfl tt) ?_
       refine jl_nil ?_)
    | (refine j_region (id := 1) ?_
       refine jl_op rfl rfl (.none rfl) (v_move rfl rfl tt) ?_
       refine jl_op rfl rfl (.none rfl) (v_move rfl rfl tt) ?_
       refine jl_op rfl rfl (.none rfl) (v_call (f := 11) (xs := [_, _]) rfl (c_b10Long ..) (ev_cons rfl tt (ev_cons rfl tt ev_nil)) (by intro w hc hI; first | trivial | (exfalso; simp_all; done) | (clear hc; repeat' (first | exact ros_nil | refine ros_cons ?_ ?_ | exact hI.roRo (by (repeat first | exact m0 | refine List.Mem.tail _ ?_); first | done | fail) | exact hI.boxRo (by (repeat first | exact m0 | refine List.Mem.tail _ ?_); first | done | fail) | exact HInv.vecRo hI (by (repeat first | exact m0 | refine List.Mem.tail _ ?_); first | done | fail))))) ?_
       refine jl_nil ?_)
    | (refine j_region (id := 2) ?_
       refine jl_op rfl rfl (.none rfl) (v_assign rfl rfl tt) ?_
       refine jl_nil ?_)
    | (refine j_region (id := 3) ?_
       refine jl_op rfl rfl (.none rfl) (v_move rfl rfl tt) ?_
       refine jl_x rfl rfl rfl (x_call (f := 12) (xs := [_]) rfl (c_B10Throat A N cap g1 hg1) (ev_cons rfl tt ev_nil) (fun w hI => ros_cons (hI.roRo m0) ros_nil)) (fun s23 => ?_); obtain ⟨c, hc⟩ := s23; dsimp only at hc ⊢
       refine jl_alloc rfl rfl rfl rfl zero26 (by rfl) (fun b5 => ?_)
       first | refine jl_storeS (i := 0) rfl rfl rfl (by kernel_rfl) rfl rfl rfl rfl ?_ | refine jl_storeS (i := 1) rfl rfl rfl (by kernel_rfl) rfl rfl rfl rfl ?_ | refine jl_storeS (i := 2) rfl rfl rfl (by kernel_rfl) rfl rfl rfl rfl ?_ | refine jl_storeS (i := 3) rfl rfl rfl (by kernel_rfl) rfl rfl rfl rfl ?_ | refine jl_storeS (i := 4) rfl rfl rfl (by kernel_rfl) rfl rfl rfl rfl ?_ | refine jl_storeS (i := 5) rfl rfl rfl (by kernel_rfl) rfl rfl rfl rfl ?_ | refine jl_storeS (i := 6) rfl rfl rfl (by kernel_rfl) rfl rfl rfl rfl ?_ | refine jl_storeS (i := 7) rfl rfl rfl (by kernel_rfl) rfl rfl rfl rfl ?_
       refine jl_nil ?_)
    | (refine j_drawZF (id := 4) (m := 8) [6] [(6, [7])] [none, none, none, none, none, none, none, some []] (by kernel_rfl) (by kernel_rfl) (by repeat' (first | exact panOK_body | refine panOK_then ?_ | refine panOK_in ?_)) (fun Bq hBq => ?_)
       first | refine jz_op rfl (.none rfl) (v_loadS rfl Try.underlying26 (by rfl) (by kernel_rfl) rfl tt (by (repeat first | exact m0 | refine List.Mem.tail _ ?_); first | done | fail)) ?_ | refine jz_op rfl (.none rfl) (v_loadSRo rfl Try.underlying26 (by rfl) (by kernel_rfl) rfl tt (by (repeat first | exact m0 | refine List.Mem.tail _ ?_); first | done | fail)) ?_
       refine jz_op rfl (.none rfl) (v_move rfl rfl tt) ?_
       refine jz_op rfl (.none rfl) (v_call (f := 14) (xs := [_]) rfl (c_B10SeedE (hg := hg2) (hz := hz) ..) (ev_cons rfl tt ev_nil) (by intro w hc hI; first | trivial | (exfalso; simp_all; done) | (clear hc; repeat' (first | exact ros_nil | refine ros_cons ?_ ?_ | exact hI.roRo (by (repeat first | exact m0 | refine List.Mem.tail _ ?_); first | done | fail) | exact hI.boxRo (by (repeat first | exact m0 | refine List.Mem.tail _ ?_); first | done | fail) | exact HInv.vecRo hI (by (repeat first | exact m0 | refine List.Mem.tail _ ?_); first | done | fail))))) ?_
       refine jz_op rfl (.none rfl) (v_call (f := 13) (xs := [_, _]) rfl (c_newE (hc := hc) (hs := hs) ..) (ev_cons rfl tt (ev_cons rfl tt ev_nil)) (by intro w hc hI; first | trivial | (exfalso; simp_all; done) | (clear hc; repeat' (first | exact ros_nil | refine ros_cons ?_ ?_ | exact hI.roRo (by (repeat first | exact m0 | refine List.Mem.tail _ ?_); first | done | fail) | exact hI.boxRo (by (repeat first | exact m0 | refine List.Mem.tail _ ?_); first | done | fail) | exact HInv.vecRo hI (by (repeat first | exact m0 | refine List.Mem.tail _ ?_); first | done | fail))))) ?_
       refine jz_op rfl (.none rfl) (v_move rfl rfl tt) ?_
       refine jz_op rfl (.none rfl) (v_extract rfl rfl tt rfl) ?_
       refine jz_op rfl (.none rfl) (v_extract rfl rfl tt rfl) ?_
       refine jz_x rfl rfl rfl (x_alloc rfl zero29 (by rfl)) (by first | exact runW_Vin | exact fun _ _ h => ⟨_, .head _, h⟩ | exact fun _ _ h => ⟨_, .head _, inV_tup2 rfl rfl h⟩ | exact fun _ _ h => ⟨_, .head _, inV_tup1 rfl h⟩ | exact fun _ _ h => ⟨_, .head _, inV_agg1 rfl (inV_tup1 rfl h)⟩ | exact fun _ _ h => ⟨_, .head _, inV_agg1 rfl h⟩ | exact fun _ _ h => (inV_agg2 h).elim (fun h => ⟨_, .head _, h⟩) (fun h => ⟨_, .tail _ (.head _), h⟩) | exact fun _ _ h => (inV_agg2 h).elim (fun h => ⟨_, .tail _ (.head _), h⟩) (fun h => ⟨_, .head _, h⟩) | exact fun _ _ h => (inV_agg2 (inV_tup1 rfl h)).elim (fun h => ⟨_, .head _, h⟩) (fun h => ⟨_, .tail _ (.head _), h⟩) | exact fun _ _ h => (inV_agg2 (inV_tup1 rfl h)).elim (fun h => ⟨_, .tail _ (.head _), h⟩) (fun h => ⟨_, .head _, h⟩)) ?_
       refine jz_nil1 (d := 6) rfl hBq rfl rfl (fun b6 => ?_)
       first | refine jl_storeS (i := 0) rfl rfl rfl (by kernel_rfl) rfl rfl rfl rfl ?_ | refine jl_storeS (i := 1) rfl rfl rfl (by kernel_rfl) rfl rfl rfl rfl ?_ | refine jl_storeS (i := 2) rfl rfl rfl (by kernel_rfl) rfl rfl rfl rfl ?_ | refine jl_storeS (i := 3) rfl rfl rfl (by kernel_rfl) rfl rfl rfl rfl ?_ | refine jl_storeS (i := 4) rfl rfl rfl (by kernel_rfl) rfl rfl rfl rfl ?_ | refine jl_storeS (i := 5) rfl rfl rfl (by kernel_rfl) rfl rfl rfl rfl ?_ | refine jl_storeS (i := 6) rfl rfl rfl (by kernel_rfl) rfl rfl rfl rfl ?_ | refine jl_storeS (i := 7) rfl rfl rfl (by kernel_rfl) rfl rfl rfl rfl ?_
       refine jl_op rfl rfl (.none rfl) (v_assign rfl rfl tt) ?_
       refine jl_nil ?_)
    | (refine j_region (id := 5) ?_
       refine jl_op rfl rfl (.none rfl) (v_move rfl rfl tt) ?_
       refine jl_op rfl rfl (.none rfl) (v_call (f := 15) (xs := [_, _, _]) rfl (c_b10At B M bc g2 4 30 ((m : Int)) (by omega) (by omega) hg2 hm) (ev_cons rfl tt (ev_cons rfl tt (ev_cons rfl tt ev_nil))) (fun w _ hI => ros_cons (hI.roRo (by (repeat first | exact m0 | refine List.Mem.tail _ ?_); first | done | fail)) ros_nil)) ?_
       refine jl_op rfl rfl (.none rfl) (v_assign rfl rfl tt) ?_
       refine jl_nil ?_)
    | (refine j_region (id := 6) ?_
       first | refine jl_op rfl rfl (.none rfl) (v_loadS rfl Try.underlying26 (by rfl) (by kernel_rfl) rfl tt (by (repeat first | exact m0 | refine List.Mem.tail _ ?_); first | done | fail)) ?_ | refine jl_op rfl rfl (.none rfl) (v_loadSRo rfl Try.underlying26 (by rfl) (by kernel_rfl) rfl tt (by (repeat first | exact m0 | refine List.Mem.tail _ ?_); first | done | fail)) ?_
       first | refine jl_op rfl rfl (.none rfl) (v_loadS rfl Try.underlying29 (by rfl) (by kernel_rfl) rfl tt (by (repeat first | exact m0 | refine List.Mem.tail _ ?_); first | done | fail)) ?_ | refine jl_op rfl rfl (.none rfl) (v_loadSRo rfl Try.underlying29 (by rfl) (by kernel_rfl) rfl tt (by (repeat first | exact m0 | refine List.Mem.tail _ ?_); first | done | fail)) ?_
       refine jl_op rfl rfl (.none rfl) (v_move rfl rfl tt) ?_
       refine jl_x rfl rfl rfl (x_call (f := 16) (xs := [_, _, _]) rfl (c_runE (hc := hc) (hv := th_p hc hs) (hm := (by omega)) ..) (ev_cons rfl tt (ev_cons rfl tt (ev_cons rfl tt ev_nil))) (by intro w hI; first | trivial | (repeat' (first | exact ros_nil | refine ros_cons ?_ ?_ | exact hI.roRo (by (repeat first | exact m0 | refine List.Mem.tail _ ?_); first | done | fail) | exact hI.boxRo (by (repeat first | exact m0 | refine List.Mem.tail _ ?_); first | done | fail) | exact HInv.vecRo hI (by (repeat first | exact m0 | refine List.Mem.tail _ ?_); first | done | fail))))) (fun s37 => ?_)
       refine jl_op rfl rfl (.none rfl) (v_move rfl rfl tt) ?_
       refine jl_op rfl rfl (.none rfl) (v_extract rfl rfl tt rfl) ?_
       refine jl_op rfl rfl (.none rfl) (v_extract rfl rfl tt rfl) ?_
       refine jl_op rfl rfl (.none rfl) (v_extract rfl rfl tt rfl) ?_
       refine jl_alloc rfl rfl rfl rfl zero29 (by rfl) (fun b9 => ?_)
       first | refine jl_storeS (i := 0) rfl rfl rfl (by kernel_rfl) rfl rfl rfl rfl ?_ | refine jl_storeS (i := 1) rfl rfl rfl (by kernel_rfl) rfl rfl rfl rfl ?_ | refine jl_storeS (i := 2) rfl rfl rfl (by kernel_rfl) rfl rfl rfl rfl ?_ | refine jl_storeS (i := 3) rfl rfl rfl (by kernel_rfl) rfl rfl rfl rfl ?_ | refine jl_storeS (i := 4) rfl rfl rfl (by kernel_rfl) rfl rfl rfl rfl ?_ | refine jl_storeS (i := 5) rfl rfl rfl (by kernel_rfl) rfl rfl rfl rfl ?_ | refine jl_storeS (i := 6) rfl rfl rfl (by kernel_rfl) rfl rfl rfl rfl ?_ | refine jl_storeS (i := 7) rfl rfl rfl (by kernel_rfl) rfl rfl rfl rfl ?_
       refine jl_op rfl rfl (.none rfl) (v_assign rfl rfl tt) ?_
       refine jl_op rfl rfl (.none rfl) (v_assign rfl rfl tt) ?_
       refine jl_nil ?_)
    | (refine j_region (id := 7) ?_
       refine jl_op rfl rfl (.none rfl) (v_move rfl rfl tt) ?_
       refine jl_op rfl rfl (.none rfl) (v_not rfl rfl tt) ?_
       refine jl_op rfl rfl (.none rfl) (v_move rfl rfl tt) ?_
       refine jl_op rfl rfl (.some rfl rfl rfl) (v_move rfl rfl tt) ?_
       refine jl_op rfl rfl (.some rfl rfl rfl) (v_not rfl rfl ii) ?_
       refine jl_op rfl rfl (.none rfl) (v_or rfl rfl tt rfl fi) ?_
       refine jl_op rfl rfl (.none rfl) (v_move rfl rfl tt) ?_
       refine jl_op rfl rfl (.some rfl rfl rfl) (v_move rfl rfl tt) ?_
       refine jl_op rfl rfl (.some rfl rfl rfl) (v_len rfl rfl Try.underlying34 rfl ii) ?_
       refine jl_op rfl rfl (.some rfl rfl rfl) (v_move rfl rfl tt) ?_
       refine jl_op rfl rfl (.some rfl rfl rfl) (v_icmp rfl rfl rfl rfl ii ii) ?_
       refine jl_op rfl rfl (.none rfl) (v_or rfl rfl tt rfl fi) ?_
       refine jl_nil ?_)
    | (refine j_region (id := 8) ?_
       refine jl_op rfl rfl (.none rfl) (v_assign rfl rfl tt) ?_
       refine jl_nil ?_)
    | (refine j_region (id := 9) ?_
       first | refine jl_op rfl rfl (.none rfl) (v_loadS rfl Try.underlying29 (by rfl) (by kernel_rfl) rfl tt (by (repeat first | exact m0 | refine List.Mem.tail _ ?_); first | done | fail)) ?_ | refine jl_op rfl rfl (.none rfl) (v_loadSRo rfl Try.underlying29 (by rfl) (by kernel_rfl) rfl tt (by (repeat first | exact m0 | refine List.Mem.tail _ ?_); first | done | fail)) ?_
       refine jl_alloc rfl rfl rfl rfl zero29 (by rfl) (fun b12 => ?_)
       first | refine jl_storeS (i := 0) rfl rfl rfl (by kernel_rfl) rfl rfl rfl rfl ?_ | refine jl_storeS (i := 1) rfl rfl rfl (by kernel_rfl) rfl rfl rfl rfl ?_ | refine jl_storeS (i := 2) rfl rfl rfl (by kernel_rfl) rfl rfl rfl rfl ?_ | refine jl_storeS (i := 3) rfl rfl rfl (by kernel_rfl) rfl rfl rfl rfl ?_ | refine jl_storeS (i := 4) rfl rfl rfl (by kernel_rfl) rfl rfl rfl rfl ?_ | refine jl_storeS (i := 5) rfl rfl rfl (by kernel_rfl) rfl rfl rfl rfl ?_ | refine jl_storeS (i := 6) rfl rfl rfl (by kernel_rfl) rfl rfl rfl rfl ?_ | refine jl_storeS (i := 7) rfl rfl rfl (by kernel_rfl) rfl rfl rfl rfl ?_
       refine jl_nil ?_)
    | (refine j_region (id := 10) ?_
       refine jl_op rfl rfl (.none rfl) (v_assign rfl rfl tt) ?_
       refine jl_nil ?_)
    | (refine j_region (id := 11) ?_
       refine jl_op rfl rfl (.none rfl) (v_move rfl rfl tt) ?_
       refine jl_op rfl rfl (.none rfl) (v_move rfl rfl tt) ?_
       refine jl_op rfl rfl (.none rfl) (v_icmp rfl rfl rfl rfl tt tt) ?_
       refine jl_nil ?_)
    | (refine j_region (id := 12) ?_
       refine jl_op rfl rfl (.none rfl) (v_move rfl rfl tt) ?_
       refine jl_op rfl rfl (.none rfl) (v_iarith' rfl rfl rfl rfl tt tt (by first | exact fun _ => iw_add (by omega) | exact fun _ => rfl)) ?_
       refine jl_op rfl rfl (.none rfl) (v_assign rfl rfl tt) ?_
       refine jl_nil ?_)
    | (refine j_region (id := 13) ?_
       first | refine jl_op rfl rfl (.none rfl) (v_loadS rfl Try.underlying26 (by rfl) (by kernel_rfl) rfl tt (by (repeat first | exact m0 | refine List.Mem.tail _ ?_); first | done | fail)) ?_ | refine jl_op rfl rfl (.none rfl) (v_loadSRo rfl Try.underlying26 (by rfl) (by kernel_rfl) rfl tt (by (repeat first | exact m0 | refine List.Mem.tail _ ?_); first | done | fail)) ?_
       refine jl_op rfl rfl (.none rfl) (v_fieldAddr rfl Try.underlying29 (by rfl) (by kernel_rfl) rfl tt) ?_
       first | refine jl_op rfl rfl (.none rfl) (v_loadBox rfl Try.underlying24 (by rfl) rfl tt (by (repeat first | exact m0 | refine List.Mem.tail _ ?_); first | done | fail) (by rfl)) ?_ | refine jl_op rfl rfl (.none rfl) (v_loadRoB rfl Try.underlying24 (by rfl) rfl tt (by (repeat first | exact m0 | refine List.Mem.tail _ ?_); first | done | fail) (by rfl)) ?_
       refine jl_op rfl rfl (.none rfl) (v_call (f := 17) (xs := [_, _]) rfl (c_pulseE (hc := hc) (hp := vol_phase (vst_valid (th_ok hc) (th_p hc hs) k)) ..) (ev_cons rfl tt (ev_cons rfl tt ev_nil)) (by intro w hc hI; first | trivial | (exfalso; simp_all; done) | (clear hc; repeat' (first | exact ros_nil | refine ros_cons ?_ ?_ | exact hI.roRo (by (repeat first | exact m0 | refine List.Mem.tail _ ?_); first | done | fail) | exact hI.boxRo (by (repeat first | exact m0 | refine List.Mem.tail _ ?_); first | done | fail) | exact HInv.vecRo hI (by (repeat first | exact m0 | refine List.Mem.tail _ ?_); first | done | fail))))) ?_
       refine jl_op rfl rfl (.none rfl) (v_move rfl rfl tt) ?_
       refine jl_op rfl rfl (.none rfl) (v_extract rfl rfl tt rfl) ?_
       refine jl_op rfl rfl (.none rfl) (v_extract rfl rfl tt rfl) ?_
       refine jl_op rfl rfl (.none rfl) (v_assign rfl rfl tt) ?_
       refine jl_op rfl rfl (.none rfl) (v_assign rfl rfl tt) ?_
       refine jl_nil ?_)
    | (refine j_region (id := 14) ?_
       first | refine jl_op rfl rfl (.none rfl) (v_loadS rfl Try.underlying26 (by rfl) (by kernel_rfl) rfl tt (by (repeat first | exact m0 | refine List.Mem.tail _ ?_); first | done | fail)) ?_ | refine jl_op rfl rfl (.none rfl) (v_loadSRo rfl Try.underlying26 (by rfl) (by kernel_rfl) rfl tt (by (repeat first | exact m0 | refine List.Mem.tail _ ?_); first | done | fail)) ?_
       first | refine jl_op rfl rfl (.none rfl) (v_loadS rfl Try.underlying29 (by rfl) (by kernel_rfl) rfl tt (by (repeat first | exact m0 | refine List.Mem.tail _ ?_); first | done | fail)) ?_ | refine jl_op rfl rfl (.none rfl) (v_loadSRo rfl Try.underlying29 (by rfl) (by kernel_rfl) rfl tt (by (repeat first | exact m0 | refine List.Mem.tail _ ?_); first | done | fail)) ?_
       refine jl_op rfl rfl (.none rfl) (v_call (f := 18) (xs := [_, _]) rfl (c_stepE (hc := hc) (hv := (vst_valid (th_ok hc) (th_p hc hs) k)) ..) (ev_cons rfl tt (ev_cons rfl tt ev_nil)) (by intro w hc hI; first | trivial | (exfalso; simp_all; done) | (clear hc; repeat' (first | exact ros_nil | refine ros_cons ?_ ?_ | exact hI.roRo (by (repeat first | exact m0 | refine List.Mem.tail _ ?_); first | done | fail) | exact hI.boxRo (by (repeat first | exact m0 | refine List.Mem.tail _ ?_); first | done | fail) | exact HInv.vecRo hI (by (repeat first | exact m0 | refine List.Mem.tail _ ?_); first | done | fail))))) ?_
       refine jl_op rfl rfl (.none rfl) (v_move rfl rfl tt) ?_
       refine jl_op rfl rfl (.none rfl) (v_extract rfl rfl tt rfl) ?_
       refine jl_op rfl rfl (.none rfl) (v_extract rfl rfl tt rfl) ?_
       refine jl_op rfl rfl (.none rfl) (v_extract rfl rfl tt rfl) ?_
       refine jl_alloc rfl rfl rfl rfl zero29 (by rfl) (fun b16 => ?_)
       first | refine jl_storeS (i := 0) rfl rfl rfl (by kernel_rfl) rfl rfl rfl rfl ?_ | refine jl_storeS (i := 1) rfl rfl rfl (by kernel_rfl) rfl rfl rfl rfl ?_ | refine jl_storeS (i := 2) rfl rfl rfl (by kernel_rfl) rfl rfl rfl rfl ?_ | refine jl_storeS (i := 3) rfl rfl rfl (by kernel_rfl) rfl rfl rfl rfl ?_ | refine jl_storeS (i := 4) rfl rfl rfl (by kernel_rfl) rfl rfl rfl rfl ?_ | refine jl_storeS (i := 5) rfl rfl rfl (by kernel_rfl) rfl rfl rfl rfl ?_ | refine jl_storeS (i := 6) rfl rfl rfl (by kernel_rfl) rfl rfl rfl rfl ?_ | refine jl_storeS (i := 7) rfl rfl rfl (by kernel_rfl) rfl rfl rfl rfl ?_
       refine jl_op rfl rfl (.none rfl) (v_assign rfl rfl tt) ?_
       refine jl_op rfl rfl (.none rfl) (v_assign rfl rfl tt) ?_
       refine jl_nil ?_)
    | (refine j_region (id := 15) ?_
       refine jl_op rfl rfl (.none rfl) (v_move rfl rfl tt) ?_
       refine jl_op rfl rfl (.none rfl) (v_not rfl rfl tt) ?_
       refine jl_op rfl rfl (.none rfl) (v_move rfl rfl tt) ?_
       refine jl_op rfl rfl (.some rfl rfl rfl) (v_move rfl rfl tt) ?_
       refine jl_op rfl rfl (.some rfl rfl rfl) (v_not rfl rfl ii) ?_
       refine jl_op rfl rfl (.none rfl) (v_or rfl rfl tt rfl fi) ?_
       refine jl_op rfl rfl (.none rfl) (v_move rfl rfl tt) ?_
       refine jl_op rfl rfl (.some rfl rfl rfl) (v_move rfl rfl tt) ?_
       refine jl_op rfl rfl (.some rfl rfl rfl) (v_move rfl rfl tt) ?_
       refine jl_op rfl rfl (.some rfl rfl rfl) (v_move rfl rfl tt) ?_
       refine jl_op rfl rfl (.some rfl rfl rfl) (v_indexAddr rfl Try.underlying34 (by kernel_rfl) rfl rfl ii ii (by first | exact hA_some | exact hA_roT (by (repeat first | exact m0 | refine List.Mem.tail _ ?_); first | done | fail) | exact hA_vecT (by (repeat first | exact m0 | refine List.Mem.tail _ ?_); first | done | fail) | exact hA_vecP (by (repeat first | exact m0 | refine List.Mem.tail _ ?_); first | done | fail) | exact hA_roI (by (repeat first | exact m0 | refine List.Mem.tail _ ?_); first | done | fail) | exact hA_vecI (by (repeat first | exact m0 | refine List.Mem.tail _ ?_); first | done | fail) | exact hA_vecPI (by (repeat first | exact m0 | refine List.Mem.tail _ ?_); first | done | fail) | exact hA_vecPS (by (repeat first | exact m0 | refine List.Mem.tail _ ?_); first | done | fail) | exact hA_ro (by (repeat first | exact m0 | refine List.Mem.tail _ ?_); first | done | fail) | exact hA_vec (by (repeat first | exact m0 | refine List.Mem.tail _ ?_); first | done | fail) | exact hA_roY (by (repeat first | exact m0 | refine List.Mem.tail _ ?_); first | done | fail)) (fun _hc => ⟨(by first | with_reducible rfl | exact (Int.toNat_of_nonneg (by omega)).symm | (have hc := g_gt _hc; exact (Int.toNat_of_nonneg (by omega)).symm)), (by first | omega | (rw [tabY_length]; omega) | (rw [tab_length]; omega) | (rw [part_length]; omega) | (rw [tabI_length]; omega) | (rw [partI_length]; omega) | (rw [List.length_set, part_length]; omega))⟩)) ?_
       first | refine jl_op rfl rfl (.some rfl rfl rfl) (v_loadVec rfl Try.underlying24 (by rfl) rfl ii (by (repeat first | exact m0 | refine List.Mem.tail _ ?_); first | done | fail) (fun _ => (by first | with_reducible exact part_get_ge (by omega) (by omega) | with_reducible exact tab_get (by omega) | with_reducible exact tabI_get (by omega) | with_reducible exact part_get (by omega) | exact part_get_ge (by omega) (by omega) | exact tab_get (by omega) | exact tabI_get (by omega) | exact part_get (by omega) | exact part_set_get (by omega) | exact partI_get (by omega) | exact tabY_get (by omega) | assumption | rfl))) ?_ | refine jl_op rfl rfl (.some rfl rfl rfl) (v_loadRo rfl Try.underlying24 (by rfl) rfl ii (by (repeat first | exact m0 | refine List.Mem.tail _ ?_); first | done | fail) (fun _ => (by first | with_reducible exact part_get_ge (by omega) (by omega) | with_reducible exact tab_get (by omega) | with_reducible exact tabI_get (by omega) | with_reducible exact part_get (by omega) | exact part_get_ge (by omega) (by omega) | exact tab_get (by omega) | exact tabI_get (by omega) | exact part_get (by omega) | exact part_set_get (by omega) | exact partI_get (by omega) | exact tabY_get (by omega) | assumption | rfl))) ?_
       refine jl_op rfl rfl (.some rfl rfl rfl) (v_call (f := 19) (xs := [_, _]) rfl (c_SameNumberS ..) (ev_cons rfl ii (ev_cons rfl ii ev_nil)) (by intro w hc hI; first | trivial | (exfalso; simp_all; done) | (clear hc; repeat' (first | exact ros_nil | refine ros_cons ?_ ?_ | exact hI.roRo (by (repeat first | exact m0 | refine List.Mem.tail _ ?_); first | done | fail) | exact hI.boxRo (by (repeat first | exact m0 | refine List.Mem.tail _ ?_); first | done | fail) | exact HInv.vecRo hI (by (repeat first | exact m0 | refine List.Mem.tail _ ?_); first | done | fail))))) ?_
       refine jl_op rfl rfl (.some rfl rfl rfl) (v_not rfl rfl ii) ?_
       refine jl_op rfl rfl (.none rfl) (v_or rfl rfl tt rfl fi) ?_
       refine jl_op rfl rfl (.none rfl) (v_move rfl rfl tt) ?_
       first | refine jl_op rfl rfl (.some rfl rfl rfl) (v_loadS rfl Try.underlying29 (by rfl) (by kernel_rfl) rfl tt (by (repeat first | exact m0 | refine List.Mem.tail _ ?_); first | done | fail)) ?_ | refine jl_op rfl rfl (.some rfl rfl rfl) (v_loadSRo rfl Try.underlying29 (by rfl) (by kernel_rfl) rfl tt (by (repeat first | exact m0 | refine List.Mem.tail _ ?_); first | done | fail)) ?_
       refine jl_op rfl rfl (.some rfl rfl rfl) (v_call (f := 20) (xs := [_]) rfl (c_validVoiceI ..) (ev_cons rfl ii ev_nil) (by intro w hc hI; first | trivial | (exfalso; simp_all; done) | (clear hc; repeat' (first | exact ros_nil | refine ros_cons ?_ ?_ | exact hI.roRo (by (repeat first | exact m0 | refine List.Mem.tail _ ?_); first | done | fail) | exact hI.boxRo (by (repeat first | exact m0 | refine List.Mem.tail _ ?_); first | done | fail) | exact HInv.vecRo hI (by (repeat first | exact m0 | refine List.Mem.tail _ ?_); first | done | fail))))) ?_
       refine jl_op rfl rfl (.some rfl rfl rfl) (v_not rfl rfl ii) ?_
       refine jl_op rfl rfl (.none rfl) (v_or rfl rfl tt rfl fi) ?_
       refine jl_nil ?_)
    | (refine j_region (id := 16) ?_
       refine jl_op rfl rfl (.none rfl) (v_assign rfl rfl tt) ?_
       refine jl_nil ?_)
    | (refine j_draw (id := 17) (by kernel_rfl) (by kernel_rfl) ?_
       refine ja_op rfl (.none rfl) (v_move rfl rfl tt) ?_
       refine ja_op rfl (.none rfl) (v_f2f rfl rfl tt (by rfl) Try.underlying43 (by first | exact fun _ => fits_same | exact fun _ => fits_wide | exact fun _ => fits_sqrt _ | assumption | exact fun _ => by assumption)) ?_
       refine ja_op rfl (.none rfl) (v_move rfl rfl tt) ?_
       refine ja_op rfl (.none rfl) (v_f2f rfl rfl tt (by rfl) Try.underlying43 (by first | exact fun _ => fits_same | exact fun _ => fits_wide | exact fun _ => fits_sqrt _ | assumption | exact fun _ => by assumption)) ?_
       refine ja_op rfl (.none rfl) (v_call (f := 21) (xs := [_, _]) rfl (c_b10Gap ..) (ev_cons rfl tt (ev_cons rfl tt ev_nil)) (by intro w hc hI; first | trivial | (exfalso; simp_all; done) | (clear hc; repeat' (first | exact ros_nil | refine ros_cons ?_ ?_ | exact hI.roRo (by (repeat first | exact m0 | refine List.Mem.tail _ ?_); first | done | fail) | exact hI.boxRo (by (repeat first | exact m0 | refine List.Mem.tail _ ?_); first | done | fail) | exact HInv.vecRo hI (by (repeat first | exact m0 | refine List.Mem.tail _ ?_); first | done | fail))))) ?_
       refine ja_op rfl (.none rfl) (v_fieldAddr rfl Try.underlying26 (by rfl) (by kernel_rfl) rfl tt) ?_
       first | refine ja_op rfl (.none rfl) (v_loadBox rfl Try.underlying24 (by rfl) rfl tt (by (repeat first | exact m0 | refine List.Mem.tail _ ?_); first | done | fail) (by rfl)) ?_ | refine ja_op rfl (.none rfl) (v_loadRoB rfl Try.underlying24 (by rfl) rfl tt (by (repeat first | exact m0 | refine List.Mem.tail _ ?_); first | done | fail) (by rfl)) ?_
       refine ja_op rfl (.none rfl) (v_f2f rfl rfl tt (by rfl) Try.underlying43 (by first | exact fun _ => fits_same | exact fun _ => fits_wide | exact fun _ => fits_sqrt _ | assumption | exact fun _ => by assumption)) ?_
       refine ja_op rfl (.none rfl) (v_move rfl rfl tt) ?_
       refine ja_op rfl (.none rfl) (v_f2f rfl rfl tt (by rfl) Try.underlying43 (by first | exact fun _ => fits_same | exact fun _ => fits_wide | exact fun _ => fits_sqrt _ | assumption | exact fun _ => by assumption)) ?_
       refine ja_op rfl (.none rfl) (v_farith rfl rfl rfl rfl tt tt) ?_
       refine ja_op rfl (.none rfl) (v_farith rfl rfl rfl rfl tt tt) ?_
       refine ja_op rfl (.none rfl) (v_fcmp rfl rfl rfl rfl tt tt) ?_
       refine ja_op rfl (.none rfl) (v_move rfl rfl tt) ?_
       refine ja_op rfl (.some rfl rfl rfl) (v_fieldAddr rfl Try.underlying29 (by rfl) (by kernel_rfl) rfl tt) ?_
       first | refine ja_op rfl (.some rfl rfl rfl) (v_loadBox rfl Try.underlying24 (by rfl) rfl ii (by (repeat first | exact m0 | refine List.Mem.tail _ ?_); first | done | fail) (by rfl)) ?_ | refine ja_op rfl (.some rfl rfl rfl) (v_loadRoB rfl Try.underlying24 (by rfl) rfl ii (by (repeat first | exact m0 | refine List.Mem.tail _ ?_); first | done | fail) (by rfl)) ?_
       refine ja_op rfl (.some rfl rfl rfl) (v_f2f rfl rfl ii (by rfl) Try.underlying43 (by first | exact fun _ => fits_same | exact fun _ => fits_wide | exact fun _ => fits_sqrt _ | assumption | exact fun _ => by assumption)) ?_
       refine ja_op rfl (.some rfl rfl rfl) (v_fieldAddr rfl Try.underlying26 (by rfl) (by kernel_rfl) rfl tt) ?_
       first | refine ja_op rfl (.some rfl rfl rfl) (v_loadBox rfl Try.underlying24 (by rfl) rfl ii (by (repeat first | exact m0 | refine List.Mem.tail _ ?_); first | done | fail) (by rfl)) ?_ | refine ja_op rfl (.some rfl rfl rfl) (v_loadRoB rfl Try.underlying24 (by rfl) rfl ii (by (repeat first | exact m0 | refine List.Mem.tail _ ?_); first | done | fail) (by rfl)) ?_
       refine ja_op rfl (.some rfl rfl rfl) (v_f2f rfl rfl ii (by rfl) Try.underlying43 (by first | exact fun _ => fits_same | exact fun _ => fits_wide | exact fun _ => fits_sqrt _ | assumption | exact fun _ => by assumption)) ?_
       refine ja_op rfl (.some rfl rfl rfl) (v_call (f := 21) (xs := [_, _]) rfl (c_b10Gap ..) (ev_cons rfl ii (ev_cons rfl ii ev_nil)) (by intro w hc hI; first | trivial | (exfalso; simp_all; done) | (clear hc; repeat' (first | exact ros_nil | refine ros_cons ?_ ?_ | exact hI.roRo (by (repeat first | exact m0 | refine List.Mem.tail _ ?_); first | done | fail) | exact hI.boxRo (by (repeat first | exact m0 | refine List.Mem.tail _ ?_); first | done | fail) | exact HInv.vecRo hI (by (repeat first | exact m0 | refine List.Mem.tail _ ?_); first | done | fail))))) ?_
       refine ja_op rfl (.some rfl rfl rfl) (v_fieldAddr rfl Try.underlying26 (by rfl) (by kernel_rfl) rfl tt) ?_
       first | refine ja_op rfl (.some rfl rfl rfl) (v_loadBox rfl Try.underlying24 (by rfl) rfl ii (by (repeat first | exact m0 | refine List.Mem.tail _ ?_); first | done | fail) (by rfl)) ?_ | refine ja_op rfl (.some rfl rfl rfl) (v_loadRoB rfl Try.underlying24 (by rfl) rfl ii (by (repeat first | exact m0 | refine List.Mem.tail _ ?_); first | done | fail) (by rfl)) ?_
       refine ja_op rfl (.some rfl rfl rfl) (v_f2f rfl rfl ii (by rfl) Try.underlying43 (by first | exact fun _ => fits_same | exact fun _ => fits_wide | exact fun _ => fits_sqrt _ | assumption | exact fun _ => by assumption)) ?_
       refine ja_op rfl (.some rfl rfl rfl) (v_fieldAddr rfl Try.underlying26 (by rfl) (by kernel_rfl) rfl tt) ?_
       first | refine ja_op rfl (.some rfl rfl rfl) (v_loadBox rfl Try.underlying24 (by rfl) rfl ii (by (repeat first | exact m0 | refine List.Mem.tail _ ?_); first | done | fail) (by rfl)) ?_ | refine ja_op rfl (.some rfl rfl rfl) (v_loadRoB rfl Try.underlying24 (by rfl) rfl ii (by (repeat first | exact m0 | refine List.Mem.tail _ ?_); first | done | fail) (by rfl)) ?_
       refine ja_op rfl (.some rfl rfl rfl) (v_f2f rfl rfl ii (by rfl) Try.underlying43 (by first | exact fun _ => fits_same | exact fun _ => fits_wide | exact fun _ => fits_sqrt _ | assumption | exact fun _ => by assumption)) ?_
       refine ja_op rfl (.some rfl rfl rfl) (v_farith rfl rfl rfl rfl ii ii) ?_
       refine ja_op rfl (.some rfl rfl rfl) (v_farith rfl rfl rfl rfl ii tt) ?_
       refine ja_op rfl (.some rfl rfl rfl) (v_fcmp rfl rfl rfl rfl ii ii) ?_
       refine ja_op rfl (.some rfl rfl rfl) (v_move rfl rfl ii) ?_
       refine ja_op rfl (.some rfl rfl rfl) (v_fieldAddr rfl Try.underlying29 (by rfl) (by kernel_rfl) rfl tt) ?_
       first | refine ja_op rfl (.some rfl rfl rfl) (v_loadBox rfl Try.underlying24 (by rfl) rfl ii (by (repeat first | exact m0 | refine List.Mem.tail _ ?_); first | done | fail) (by rfl)) ?_ | refine ja_op rfl (.some rfl rfl rfl) (v_loadRoB rfl Try.underlying24 (by rfl) rfl ii (by (repeat first | exact m0 | refine List.Mem.tail _ ?_); first | done | fail) (by rfl)) ?_
       refine ja_op rfl (.some rfl rfl rfl) (v_fcmp rfl rfl rfl rfl ii tt) ?_
       refine ja_op rfl (.some rfl rfl rfl) (v_and rfl rfl ii rfl (by first | exact fun _ _ => rfl | (intro _ h; rw [h]; rfl) | (intro h1 h2; rw [h1, h2]; rfl))) ?_
       refine ja_op rfl (.none rfl) (v_or rfl rfl tt rfl fi) ?_
       refine ja_nil rfl ?_)
    | (refine j_region (id := 18) ?_
       refine jl_op rfl rfl (.none rfl) (v_assign rfl rfl tt) ?_
       refine jl_nil ?_)
    | (refine j_region (id := 19) ?_
       first | refine jl_op rfl rfl (.none rfl) (v_loadS rfl Try.underlying29 (by rfl) (by kernel_rfl) rfl tt (by (repeat first | exact m0 | refine List.Mem.tail _ ?_); first | done | fail)) ?_ | refine jl_op rfl rfl (.none rfl) (v_loadSRo rfl Try.underlying29 (by rfl) (by kernel_rfl) rfl tt (by (repeat first | exact m0 | refine List.Mem.tail _ ?_); first | done | fail)) ?_
       first | refine jl_storeS (i := 0) rfl rfl rfl (by kernel_rfl) rfl rfl rfl rfl ?_ | refine jl_storeS (i := 1) rfl rfl rfl (by kernel_rfl) rfl rfl rfl rfl ?_ | refine jl_storeS (i := 2) rfl rfl rfl (by kernel_rfl) rfl rfl rfl rfl ?_ | refine jl_storeS (i := 3) rfl rfl rfl (by kernel_rfl) rfl rfl rfl rfl ?_ | refine jl_storeS (i := 4) rfl rfl rfl (by kernel_rfl) rfl rfl rfl rfl ?_ | refine jl_storeS (i := 5) rfl rfl rfl (by kernel_rfl) rfl rfl rfl rfl ?_ | refine jl_storeS (i := 6) rfl rfl rfl (by kernel_rfl) rfl rfl rfl rfl ?_ | refine jl_storeS (i := 7) rfl rfl rfl (by kernel_rfl) rfl rfl rfl rfl ?_
       refine jl_nil ?_)
    | (refine j_region (id := 20) ?_
       first | refine jl_op rfl rfl (.none rfl) (v_loadS rfl Try.underlying29 (by rfl) (by kernel_rfl) rfl tt (by (repeat first | exact m0 | refine List.Mem.tail _ ?_); first | done | fail)) ?_ | refine jl_op rfl rfl (.none rfl) (v_loadSRo rfl Try.underlying29 (by rfl) (by kernel_rfl) rfl tt (by (repeat first | exact m0 | refine List.Mem.tail _ ?_); first | done | fail)) ?_
       first | refine jl_op rfl rfl (.none rfl) (v_loadS rfl Try.underlying29 (by rfl) (by kernel_rfl) rfl tt (by (repeat first | exact m0 | refine List.Mem.tail _ ?_); first | done | fail)) ?_ | refine jl_op rfl rfl (.none rfl) (v_loadSRo rfl Try.underlying29 (by rfl) (by kernel_rfl) rfl tt (by (repeat first | exact m0 | refine List.Mem.tail _ ?_); first | done | fail)) ?_
       refine jl_op rfl rfl (.none rfl) (v_call (f := 22) (xs := [_, _]) rfl (c_sameVoiceI ..) (ev_cons rfl tt (ev_cons rfl tt ev_nil)) (by intro w hc hI; first | trivial | (exfalso; simp_all; done) | (clear hc; repeat' (first | exact ros_nil | refine ros_cons ?_ ?_ | exact hI.roRo (by (repeat first | exact m0 | refine List.Mem.tail _ ?_); first | done | fail) | exact hI.boxRo (by (repeat first | exact m0 | refine List.Mem.tail _ ?_); first | done | fail) | exact HInv.vecRo hI (by (repeat first | exact m0 | refine List.Mem.tail _ ?_); first | done | fail))))) ?_
       refine jl_op rfl rfl (.none rfl) (v_assign rfl rfl tt) ?_
       refine jl_nil ?_)))
  all_goals first | exact jq_ret1 (.inl rfl) Try.results3 rfl | (obtain rfl : k = m := (by omega); exact jq_retE (.inl rfl) Try.results3 rfl (congrArg Value.bool (voice_same (vst_valid (th_ok hc) (th_p hc hs) k))))
end Go.Vx
