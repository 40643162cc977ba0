/- Contracts of functions of the program and of the reference. -/
import Derived.Test.YteddfolpmmimiaaCoRates6
namespace Go.Vx
open Go.Proofs
set_option maxRecDepth 4000
set_option maxHeartbeats 4000000
attribute [local irreducible] J JL JQ JA VOp Con Ext XOp ConM ConW ConW2
attribute [local irreducible] farith fcmp ofInt truncZ conv sinN
theorem c_noteH (h : Nat) (hh : h < 97) : Con Try.prog 45 [F (farith .quo .f32 (ofInt .f32 ((h : Int) - 48)) 1073741824)] (fun _ => True) (.tuple #[F (noteN (halfH h)), .bool true]) := by
  have e := c_noteI (halfH h)
  unfold numV at e
  rw [(note_all hh).1.1] at e
  exact e
theorem c_noteH2 (h : Nat) (hh : h < 97) : Con Try.prog 45 [F (farith .add .f32 (farith .quo .f32 (ofInt .f32 ((h : Int) - 48)) 1073741824) 1094713344)] (fun _ => True) (.tuple #[F (noteN (farith .add .f32 (halfH h) 1094713344)), .bool true]) := by
  have e := c_noteI (farith .add .f32 (halfH h) 1094713344)
  unfold numV at e
  rw [(note_all hh).1.2] at e
  exact e
theorem c_tremH (q z i d : Nat) (hq : 1 ≤ q ∧ q < 9) (hz : z < 5) (hi : i < 17) (hd : 1 ≤ d ∧ d < 11) : ConM Try.prog 47 [F (ofInt .f32 (q : Int)), F (farith .quo .f32 (ofInt .f32 (z : Int)) 1090519040), F (farith .quo .f32 (ofInt .f32 (i : Int)) 1115684864), .int .i64 ((d + 1 : Nat) : Int)] (RoS []) (fun r : Option Addr × Nat => .tuple #[.slice r.1 (d + 1) r.2, .bool true]) (fun r => [.vec 24 r.1 r.2 (tab (d + 1) (trembG (baN q) (dzN z) (tuN i)))]) := by
  have h := c_trembI (baN q) (dzN z) (tuN i) ((d + 1 : Nat) : Int)
  rw [tr_ok hq hz hi (by omega)] at h
  exact h
theorem c_glideR (a b d l : Nat) (ha : 1 ≤ a ∧ a < 17) (hb : 1 ≤ b ∧ b < 17) (hd : 1 ≤ d ∧ d < 11) (hl : Xb l) (hG : ∃ K L : Nat, ((hvOk (conv .f32 .f64 (farith .quo .f32 (halfN b) (halfN a))) K = true ∧ dbOk (hvS (conv .f32 .f64 (farith .quo .f32 (halfN b) (halfN a))) K) L = true) ∧ fits .f64 .f32 (lgW (farith .quo .f32 (halfN b) (halfN a)) K L) = true ∧ lgN (farith .quo .f32 (halfN b) (halfN a)) K L = l)) : ConM Try.prog 46 [F (farith .quo .f32 (ofInt .f32 (a : Int)) 1073741824), F (farith .quo .f32 (ofInt .f32 (b : Int)) 1073741824), .int .i64 ((d + 1 : Nat) : Int)] (RoS []) (fun r : Option Addr × Nat => .tuple #[.slice r.1 (d + 1) r.2, .bool true]) (fun r => [.vec 24 r.1 r.2 (tab (d + 1) (glV a l d))]) := by
  obtain ⟨K, L, ⟨hK, hL⟩, hf, he⟩ := hG
  exact c_glideH a b d K L l ha hb hd hK hL hf he hl
theorem c_law_FnRates (A : Option Addr) (N cap : Nat) (g1 : Nat → Nat) (B : Option Addr) (M bc : Nat) (g2 : Nat → Nat) (hg1 : ∀ j, j < N → g1 j < 256) (hg2 : ∀ j, j < M → g2 j < 256) : Con Try.prog 6 [.slice A N cap, .slice B M bc] (RoS [.ro A (tabY N g1), .ro B (tabY M g2)]) (.bool true) := by
  refine con_intro (H := [.ro A (tabY N g1), .ro B (tabY M g2)]) Try.func6 (by decide) rfl rfl (fun w h => h.inv) (fun w0 _ => ?_)
  obtain ⟨h, hh, hh2⟩ : ∃ h : Nat, atB N g1 0 97 = (h : Int) ∧ 0 ≤ h ∧ h < 97 := by
    have h := atB_in (N := N) (g := g1) (i := 0) (n := 97) (by decide) (by decide)
    exact ⟨(atB N g1 0 97 + 0).toNat, by omega, by omega, by omega⟩
  obtain ⟨a, ha, ha2⟩ : ∃ a : Nat, atB N g1 1 16 = (a : Int) - 1 ∧ 1 ≤ a ∧ a < 17 := by
    have h := atB_in (N := N) (g := g1) (i := 1) (n := 16) (by decide) (by decide)
    exact ⟨(atB N g1 1 16 + 1).toNat, by omega, by omega, by omega⟩
  obtain ⟨b, hb, hb2⟩ : ∃ b : Nat, atB M g2 0 16 = (b : Int) - 1 ∧ 1 ≤ b ∧ b < 17 := by
    have h := atB_in (N := M) (g := g2) (i := 0) (n := 16) (by decide) (by decide)
    exact ⟨(atB M g2 0 16 + 1).toNat, by omega, by omega, by omega⟩
  obtain ⟨d, hd, hd2⟩ : ∃ d : Nat, atB M g2 1 10 = (d : Int) - 1 ∧ 1 ≤ d ∧ d < 11 := by
    have h := atB_in (N := M) (g := g2) (i := 1) (n := 10) (by decide) (by decide)
    exact ⟨(atB M g2 1 10 + 1).toNat, by omega, by omega, by omega⟩
  obtain ⟨q, hq, hq2⟩ : ∃ q : Nat, atB M g2 2 8 = (q : Int) - 1 ∧ 1 ≤ q ∧ q < 9 := by
    have h := atB_in (N := M) (g := g2) (i := 2) (n := 8) (by decide) (by decide)
    exact ⟨(atB M g2 2 8 + 1).toNat, by omega, by omega, by omega⟩
  obtain ⟨z, hz, hz2⟩ : ∃ z : Nat, atB M g2 3 5 = (z : Int) ∧ 0 ≤ z ∧ z < 5 := by
    have h := atB_in (N := M) (g := g2) (i := 3) (n := 5) (by decide) (by decide)
    exact ⟨(atB M g2 3 5 + 0).toNat, by omega, by omega, by omega⟩
  obtain ⟨i, hi, hi2⟩ : ∃ i : Nat, atB M g2 4 17 = (i : Int) ∧ 0 ≤ i ∧ i < 17 := by
    have h := atB_in (N := M) (g := g2) (i := 4) (n := 17) (by decide) (by decide)
    exact ⟨(atB M g2 4 17 + 0).toNat, by omega, by omega, by omega⟩
  obtain ⟨K, L, l, hG0, ⟨hl, o1, o2⟩, ⟨k1, k0⟩, k2⟩ := gl_of rows_all (a := a) (b := b) (by omega) (by omega)
  have hG : ∃ K L : Nat, ((hvOk (conv .f32 .f64 (farith .quo .f32 (halfN b) (halfN a))) K = true ∧ dbOk (hvS (conv .f32 .f64 (farith .quo .f32 (halfN b) (halfN a))) K) L = true) ∧ fits .f64 .f32 (lgW (farith .quo .f32 (halfN b) (halfN a)) K L) = true ∧ lgN (farith .quo .f32 (halfN b) (halfN a)) K L = l) := ⟨K, L, hG0⟩
  (repeat' (first
    | refine j_part (by omega) ?_
    | refine j_partI (by omega) ?_
    | refine j_condF rfl (rates_c1 hh2.2) ?_
    | refine j_condF rfl (rates_c2 ha2 hd2 k0 k1 k2 hq2 hz2.2 hi2.2) ?_
    | refine j_condF rfl (tr_gap hq2 hz2.2 hi2.2 (by omega)) ?_
    | refine j_condF rfl (gl_mono ha2 hb2 hl o1 o2 hd2 (by omega)) ?_
    | (refine j_loop2 (σ := Nat) (fun k => k ≤ d + 1) (fun k => [(10, true, F (farith .quo .f32 (ofInt .f32 (a : Int)) 1073741824)), (11, true, F (farith .quo .f32 (ofInt .f32 (b : Int)) 1073741824)), (13, true, .slice s56.1 (d + 1) s56.2), (15, true, F (ofInt .f32 (q : Int))), (16, true, F (farith .quo .f32 (ofInt .f32 (z : Int)) 1090519040)), (17, true, .slice s75.1 (d + 1) s75.2), (144, true, .int .i64 ((d + 1 : Nat))), (145, true, .int .i64 (k))]) (fun k => [.vec 24 s75.1 s75.2 (tab (d + 1) (trembG (baN q) (dzN z) (tuN i))), .vec 24 s56.1 s56.2 (tab (d + 1) (glV a l d)), .ro A (tabY N g1), .ro B (tabY M g2)]) (fun k => d + 1 - k) 0 (by omega) (fs_cons rfl (fs_cons rfl (fs_cons rfl (fs_cons rfl (fs_cons rfl (fs_cons rfl (fs_cons rfl (fs_cons rfl fs_nil)))))))) (fun _ h => h) ?_; intro k hk)
    | (exact jq_round (k + 1) (by omega) (by omega) (fs_cons rfl (fs_cons rfl (fs_cons rfl (fs_cons rfl (fs_cons rfl (fs_cons rfl (fs_cons rfl (fs_cons rfl fs_nil)))))))) (fun _ h => h))
    | refine j_condLt rfl (fun _ => ?_) (fun _ => ?_)
    | refine j_condLe rfl (fun _ => ?_) (fun _ => ?_)
    | refine j_condGt rfl (fun _ => ?_) (fun _ => ?_)
    | refine j_condGe rfl (fun _ => ?_) (fun _ => ?_)
    | refine j_condNe rfl (fun _ => ?_) (fun _ => ?_)
    | refine j_condEq rfl (fun _ => ?_) (fun _ => ?_)
    | refine j_condOrLt rfl (fun _ => ?_) (fun _ => ?_)
    | refine j_condAndLt rfl (fun _ => ?_) (fun _ => ?_)
    | refine j_condAndGe rfl (fun _ => ?_) (fun _ => ?_)
    | refine j_seq ?_
    | refine jq_then ?_
    | refine j_block ?_
    | refine j_ret ?_
    | refine jq_then_ret ?_
    | refine jq_block_ret ?_
    | refine jq_block_normal ?_
    | refine jq_then_exit ?_
    | refine jq_block_same rfl ?_
    | refine jq_block_other rfl ?_
    | refine j_skip ?_
    | refine j_exit ?_
    | refine j_label ?_
    | refine j_condCT ?_
    | refine j_condCF ?_
    | refine j_cond rfl (fun _ => ?_) (fun _ => ?_)
    | (refine j_region (id := 0) ?_
       refine jl_op rfl rfl (.none rfl) (v_assign rfl rfl tt) ?_
       refine jl_nil ?_)
    | (refine j_region (id := 1) ?_
       refine jl_op rfl rfl (.none rfl) (v_move rfl rfl tt) ?_
       refine jl_op rfl rfl (.none rfl) (v_move rfl rfl tt) ?_
       refine jl_op rfl rfl (.none rfl) (v_call (f := 11) (xs := [_, _]) rfl (c_b10Long ..) (ev_cons rfl tt (ev_cons rfl tt ev_nil)) (by intro w hc hI; first | trivial | (exfalso; simp_all; done) | (clear hc; repeat' (first | exact ros_nil | refine ros_cons ?_ ?_ | exact hI.roRo (by (repeat first | exact m0 | refine List.Mem.tail _ ?_); first | done | fail) | exact hI.boxRo (by (repeat first | exact m0 | refine List.Mem.tail _ ?_); first | done | fail) | exact HInv.vecRo hI (by (repeat first | exact m0 | refine List.Mem.tail _ ?_); first | done | fail))))) ?_
       refine jl_nil ?_)
    | (refine j_region (id := 2) ?_
       refine jl_op rfl rfl (.none rfl) (v_assign rfl rfl tt) ?_
       refine jl_nil ?_)
    | (refine j_region (id := 3) ?_
       refine jl_op rfl rfl (.none rfl) (v_move rfl rfl tt) ?_
       refine jl_op rfl rfl (.none rfl) (v_call (f := 15) (xs := [_, _, _]) rfl (c_b10At A N cap g1 0 97 ((h : Int)) (by omega) (by omega) hg1 hh) (ev_cons rfl tt (ev_cons rfl tt (ev_cons rfl tt ev_nil))) (fun w _ hI => ros_cons (hI.roRo (by (repeat first | exact m0 | refine List.Mem.tail _ ?_); first | done | fail)) ros_nil)) ?_
       refine jl_op rfl rfl (.none rfl) (v_iarith' rfl rfl rfl rfl tt tt (by first | exact fun _ => iw_sub (by omega) | exact fun _ => rfl)) ?_
       refine jl_op rfl rfl (.none rfl) (v_i2f rfl rfl tt (by rfl) Try.underlying24) ?_
       refine jl_op rfl rfl (.none rfl) (v_farith rfl rfl rfl rfl tt tt) ?_
       refine jl_op rfl rfl (.none rfl) (v_assign rfl rfl tt) ?_
       refine jl_nil ?_)
    | (refine j_region (id := 4) ?_
       refine jl_op rfl rfl (.none rfl) (v_move rfl rfl tt) ?_
       first | refine jl_op rfl rfl (.none rfl) (v_call (f := 45) (xs := [_]) rfl (c_noteH (hh := hh2.2) ..) (ev_cons rfl tt ev_nil) (by intro w hc hI; first | trivial | (exfalso; simp_all; done) | (clear hc; repeat' (first | exact ros_nil | refine ros_cons ?_ ?_ | exact hI.roRo (by (repeat first | exact m0 | refine List.Mem.tail _ ?_); first | done | fail) | exact hI.boxRo (by (repeat first | exact m0 | refine List.Mem.tail _ ?_); first | done | fail) | exact HInv.vecRo hI (by (repeat first | exact m0 | refine List.Mem.tail _ ?_); first | done | fail))))) ?_ | refine jl_op rfl rfl (.none rfl) (v_call (f := 45) (xs := [_]) rfl (c_noteH2 (hh := hh2.2) ..) (ev_cons rfl tt ev_nil) (by intro w hc hI; first | trivial | (exfalso; simp_all; done) | (clear hc; repeat' (first | exact ros_nil | refine ros_cons ?_ ?_ | exact hI.roRo (by (repeat first | exact m0 | refine List.Mem.tail _ ?_); first | done | fail) | exact hI.boxRo (by (repeat first | exact m0 | refine List.Mem.tail _ ?_); first | done | fail) | exact HInv.vecRo hI (by (repeat first | exact m0 | refine List.Mem.tail _ ?_); first | done | fail))))) ?_
       refine jl_op rfl rfl (.none rfl) (v_move rfl rfl tt) ?_
       refine jl_op rfl rfl (.none rfl) (v_extract rfl rfl tt rfl) ?_
       refine jl_op rfl rfl (.none rfl) (v_extract rfl rfl tt rfl) ?_
       refine jl_op rfl rfl (.none rfl) (v_assign rfl rfl tt) ?_
       refine jl_op rfl rfl (.none rfl) (v_assign rfl rfl tt) ?_
       refine jl_nil ?_)
    | (refine j_region (id := 5) ?_
       refine jl_op rfl rfl (.none rfl) (v_move rfl rfl tt) ?_
       refine jl_op rfl rfl (.none rfl) (v_farith rfl rfl rfl rfl tt tt) ?_
       first | refine jl_op rfl rfl (.none rfl) (v_call (f := 45) (xs := [_]) rfl (c_noteH (hh := hh2.2) ..) (ev_cons rfl tt ev_nil) (by intro w hc hI; first | trivial | (exfalso; simp_all; done) | (clear hc; repeat' (first | exact ros_nil | refine ros_cons ?_ ?_ | exact hI.roRo (by (repeat first | exact m0 | refine List.Mem.tail _ ?_); first | done | fail) | exact hI.boxRo (by (repeat first | exact m0 | refine List.Mem.tail _ ?_); first | done | fail) | exact HInv.vecRo hI (by (repeat first | exact m0 | refine List.Mem.tail _ ?_); first | done | fail))))) ?_ | refine jl_op rfl rfl (.none rfl) (v_call (f := 45) (xs := [_]) rfl (c_noteH2 (hh := hh2.2) ..) (ev_cons rfl tt ev_nil) (by intro w hc hI; first | trivial | (exfalso; simp_all; done) | (clear hc; repeat' (first | exact ros_nil | refine ros_cons ?_ ?_ | exact hI.roRo (by (repeat first | exact m0 | refine List.Mem.tail _ ?_); first | done | fail) | exact hI.boxRo (by (repeat first | exact m0 | refine List.Mem.tail _ ?_); first | done | fail) | exact HInv.vecRo hI (by (repeat first | exact m0 | refine List.Mem.tail _ ?_); first | done | fail))))) ?_
       refine jl_op rfl rfl (.none rfl) (v_move rfl rfl tt) ?_
       refine jl_op rfl rfl (.none rfl) (v_extract rfl rfl tt rfl) ?_
       refine jl_op rfl rfl (.none rfl) (v_extract rfl rfl tt rfl) ?_
       refine jl_op rfl rfl (.none rfl) (v_assign rfl rfl tt) ?_
       refine jl_op rfl rfl (.none rfl) (v_assign rfl rfl tt) ?_
       refine jl_nil ?_)
    | (refine j_region (id := 6) ?_
       refine jl_op rfl rfl (.none rfl) (v_move rfl rfl tt) ?_
       refine jl_op rfl rfl (.none rfl) (v_call (f := 15) (xs := [_, _, _]) rfl (c_b10At A N cap g1 1 16 ((a : Int) - 1) (by omega) (by omega) hg1 ha) (ev_cons rfl tt (ev_cons rfl tt (ev_cons rfl tt ev_nil))) (fun w _ hI => ros_cons (hI.roRo (by (repeat first | exact m0 | refine List.Mem.tail _ ?_); first | done | fail)) ros_nil)) ?_
       refine jl_op rfl rfl (.none rfl) (v_iarith' (Z := (a : Int)) rfl rfl rfl rfl tt tt (fun _ => (iw_add (by omega)).trans (by omega))) ?_
       refine jl_op rfl rfl (.none rfl) (v_i2f rfl rfl tt (by rfl) Try.underlying24) ?_
       refine jl_op rfl rfl (.none rfl) (v_farith rfl rfl rfl rfl tt tt) ?_
       refine jl_op rfl rfl (.none rfl) (v_assign rfl rfl tt) ?_
       refine jl_nil ?_)
    | (refine j_region (id := 7) ?_
       refine jl_op rfl rfl (.none rfl) (v_move rfl rfl tt) ?_
       refine jl_op rfl rfl (.none rfl) (v_call (f := 15) (xs := [_, _, _]) rfl (c_b10At B M bc g2 0 16 ((b : Int) - 1) (by omega) (by omega) hg2 hb) (ev_cons rfl tt (ev_cons rfl tt (ev_cons rfl tt ev_nil))) (fun w _ hI => ros_cons (hI.roRo (by (repeat first | exact m0 | refine List.Mem.tail _ ?_); first | done | fail)) ros_nil)) ?_
       refine jl_op rfl rfl (.none rfl) (v_iarith' (Z := (b : Int)) rfl rfl rfl rfl tt tt (fun _ => (iw_add (by omega)).trans (by omega))) ?_
       refine jl_op rfl rfl (.none rfl) (v_i2f rfl rfl tt (by rfl) Try.underlying24) ?_
       refine jl_op rfl rfl (.none rfl) (v_farith rfl rfl rfl rfl tt tt) ?_
       refine jl_op rfl rfl (.none rfl) (v_assign rfl rfl tt) ?_
       refine jl_nil ?_)
    | (refine j_region (id := 8) ?_
       refine jl_op rfl rfl (.none rfl) (v_move rfl rfl tt) ?_
       refine jl_op rfl rfl (.none rfl) (v_call (f := 15) (xs := [_, _, _]) rfl (c_b10At B M bc g2 1 10 ((d : Int) - 1) (by omega) (by omega) hg2 hd) (ev_cons rfl tt (ev_cons rfl tt (ev_cons rfl tt ev_nil))) (fun w _ hI => ros_cons (hI.roRo (by (repeat first | exact m0 | refine List.Mem.tail _ ?_); first | done | fail)) ros_nil)) ?_
       refine jl_op rfl rfl (.none rfl) (v_iarith' (Z := ((d + 1 : Nat) : Int)) rfl rfl rfl rfl tt tt (fun _ => (iw_add (by omega)).trans (by omega))) ?_
       refine jl_op rfl rfl (.none rfl) (v_assign rfl rfl tt) ?_
       refine jl_nil ?_)
    | (refine j_region (id := 9) ?_
       refine jl_op rfl rfl (.none rfl) (v_move rfl rfl tt) ?_
       refine jl_op rfl rfl (.none rfl) (v_move rfl rfl tt) ?_
       refine jl_op rfl rfl (.none rfl) (v_move rfl rfl tt) ?_
       refine jl_x1 rfl rfl rfl (x_call (f := 46) (xs := [_, _, _]) rfl (c_glideR (ha := ha2) (hb := hb2) (hd := hd2) (hl := hl) (hG := hG) ..) (ev_cons rfl tt (ev_cons rfl tt (ev_cons rfl tt ev_nil))) (by intro w hI; first | trivial | (repeat' (first | exact ros_nil | refine ros_cons ?_ ?_ | exact hI.roRo (by (repeat first | exact m0 | refine List.Mem.tail _ ?_); first | done | fail) | exact hI.boxRo (by (repeat first | exact m0 | refine List.Mem.tail _ ?_); first | done | fail) | exact HInv.vecRo hI (by (repeat first | exact m0 | refine List.Mem.tail _ ?_); first | done | fail))))) (fun s56 => ?_)
       refine jl_op rfl rfl (.none rfl) (v_move rfl rfl tt) ?_
       refine jl_op rfl rfl (.none rfl) (v_extract rfl rfl tt rfl) ?_
       refine jl_op rfl rfl (.none rfl) (v_extract rfl rfl tt rfl) ?_
       refine jl_op rfl rfl (.none rfl) (v_assign rfl rfl tt) ?_
       refine jl_op rfl rfl (.none rfl) (v_assign rfl rfl tt) ?_
       refine jl_nil ?_)
    | (refine j_region (id := 10) ?_
       refine jl_op rfl rfl (.none rfl) (v_move rfl rfl tt) ?_
       refine jl_op rfl rfl (.none rfl) (v_call (f := 15) (xs := [_, _, _]) rfl (c_b10At B M bc g2 2 8 ((q : Int) - 1) (by omega) (by omega) hg2 hq) (ev_cons rfl tt (ev_cons rfl tt (ev_cons rfl tt ev_nil))) (fun w _ hI => ros_cons (hI.roRo (by (repeat first | exact m0 | refine List.Mem.tail _ ?_); first | done | fail)) ros_nil)) ?_
       refine jl_op rfl rfl (.none rfl) (v_iarith' (Z := (q : Int)) rfl rfl rfl rfl tt tt (fun _ => (iw_add (by omega)).trans (by omega))) ?_
       refine jl_op rfl rfl (.none rfl) (v_i2f rfl rfl tt (by rfl) Try.underlying24) ?_
       refine jl_op rfl rfl (.none rfl) (v_assign rfl rfl tt) ?_
       refine jl_nil ?_)
    | (refine j_region (id := 11) ?_
       refine jl_op rfl rfl (.none rfl) (v_move rfl rfl tt) ?_
       refine jl_op rfl rfl (.none rfl) (v_call (f := 15) (xs := [_, _, _]) rfl (c_b10At B M bc g2 3 5 ((z : Int)) (by omega) (by omega) hg2 hz) (ev_cons rfl tt (ev_cons rfl tt (ev_cons rfl tt ev_nil))) (fun w _ hI => ros_cons (hI.roRo (by (repeat first | exact m0 | refine List.Mem.tail _ ?_); first | done | fail)) ros_nil)) ?_
       refine jl_op rfl rfl (.none rfl) (v_i2f rfl rfl tt (by rfl) Try.underlying24) ?_
       refine jl_op rfl rfl (.none rfl) (v_farith rfl rfl rfl rfl tt tt) ?_
       refine jl_op rfl rfl (.none rfl) (v_assign rfl rfl tt) ?_
       refine jl_nil ?_)
    | (refine j_region (id := 12) ?_
       refine jl_op rfl rfl (.none rfl) (v_move rfl rfl tt) ?_
       refine jl_op rfl rfl (.none rfl) (v_move rfl rfl tt) ?_
       refine jl_op rfl rfl (.none rfl) (v_move rfl rfl tt) ?_
       refine jl_op rfl rfl (.none rfl) (v_call (f := 15) (xs := [_, _, _]) rfl (c_b10At B M bc g2 4 17 ((i : Int)) (by omega) (by omega) hg2 hi) (ev_cons rfl tt (ev_cons rfl tt (ev_cons rfl tt ev_nil))) (fun w _ hI => ros_cons (hI.roRo (by (repeat first | exact m0 | refine List.Mem.tail _ ?_); first | done | fail)) ros_nil)) ?_
       refine jl_op rfl rfl (.none rfl) (v_i2f rfl rfl tt (by rfl) Try.underlying24) ?_
       refine jl_op rfl rfl (.none rfl) (v_farith rfl rfl rfl rfl tt tt) ?_
       refine jl_op rfl rfl (.none rfl) (v_move rfl rfl tt) ?_
       refine jl_x1 rfl rfl rfl (x_call (f := 47) (xs := [_, _, _, _]) rfl (c_tremH (hq := hq2) (hz := hz2.2) (hi := hi2.2) (hd := hd2) ..) (ev_cons rfl tt (ev_cons rfl tt (ev_cons rfl tt (ev_cons rfl tt ev_nil)))) (by intro w hI; first | trivial | (repeat' (first | exact ros_nil | refine ros_cons ?_ ?_ | exact hI.roRo (by (repeat first | exact m0 | refine List.Mem.tail _ ?_); first | done | fail) | exact hI.boxRo (by (repeat first | exact m0 | refine List.Mem.tail _ ?_); first | done | fail) | exact HInv.vecRo hI (by (repeat first | exact m0 | refine List.Mem.tail _ ?_); first | done | fail))))) (fun s75 => ?_)
       refine jl_op rfl rfl (.none rfl) (v_move rfl rfl tt) ?_
       refine jl_op rfl rfl (.none rfl) (v_extract rfl rfl tt rfl) ?_
       refine jl_op rfl rfl (.none rfl) (v_extract rfl rfl tt rfl) ?_
       refine jl_op rfl rfl (.none rfl) (v_assign rfl rfl tt) ?_
       refine jl_op rfl rfl (.none rfl) (v_assign rfl rfl tt) ?_
       refine jl_nil ?_)
    | (refine j_region (id := 13) ?_
       refine jl_op rfl rfl (.none rfl) (v_move rfl rfl tt) ?_
       refine jl_op rfl rfl (.none rfl) (v_not rfl rfl tt) ?_
       refine jl_op rfl rfl (.none rfl) (v_move rfl rfl tt) ?_
       refine jl_op rfl rfl (.some rfl rfl rfl) (v_move rfl rfl tt) ?_
       refine jl_op rfl rfl (.some rfl rfl rfl) (v_not rfl rfl ii) ?_
       refine jl_op rfl rfl (.none rfl) (v_or rfl rfl tt rfl fi) ?_
       refine jl_op rfl rfl (.none rfl) (v_move rfl rfl tt) ?_
       refine jl_op rfl rfl (.some rfl rfl rfl) (v_move rfl rfl tt) ?_
       refine jl_op rfl rfl (.some rfl rfl rfl) (v_not rfl rfl ii) ?_
       refine jl_op rfl rfl (.none rfl) (v_or rfl rfl tt rfl fi) ?_
       refine jl_op rfl rfl (.none rfl) (v_move rfl rfl tt) ?_
       refine jl_op rfl rfl (.some rfl rfl rfl) (v_move rfl rfl tt) ?_
       refine jl_op rfl rfl (.some rfl rfl rfl) (v_not rfl rfl ii) ?_
       refine jl_op rfl rfl (.none rfl) (v_or rfl rfl tt rfl fi) ?_
       refine jl_op rfl rfl (.none rfl) (v_move rfl rfl tt) ?_
       refine jl_op rfl rfl (.some rfl rfl rfl) (v_move rfl rfl tt) ?_
       refine jl_op rfl rfl (.some rfl rfl rfl) (v_f2f rfl rfl ii (by rfl) Try.underlying43 (by first | exact fun _ => fits_same | exact fun _ => fits_wide | exact fun _ => fits_sqrt _ | assumption | exact fun _ => by assumption)) ?_
       refine jl_op rfl rfl (.some rfl rfl rfl) (v_move rfl rfl tt) ?_
       refine jl_op rfl rfl (.some rfl rfl rfl) (v_f2f rfl rfl ii (by rfl) Try.underlying43 (by first | exact fun _ => fits_same | exact fun _ => fits_wide | exact fun _ => fits_sqrt _ | assumption | exact fun _ => by assumption)) ?_
       refine jl_op rfl rfl (.some rfl rfl rfl) (v_farith rfl rfl rfl rfl tt ii) ?_
       refine jl_op rfl rfl (.some rfl rfl rfl) (v_call (f := 21) (xs := [_, _]) rfl (c_b10Gap ..) (ev_cons rfl ii (ev_cons rfl ii ev_nil)) (by intro w hc hI; first | trivial | (exfalso; simp_all; done) | (clear hc; repeat' (first | exact ros_nil | refine ros_cons ?_ ?_ | exact hI.roRo (by (repeat first | exact m0 | refine List.Mem.tail _ ?_); first | done | fail) | exact hI.boxRo (by (repeat first | exact m0 | refine List.Mem.tail _ ?_); first | done | fail) | exact HInv.vecRo hI (by (repeat first | exact m0 | refine List.Mem.tail _ ?_); first | done | fail))))) ?_
       refine jl_op rfl rfl (.some rfl rfl rfl) (v_move rfl rfl tt) ?_
       refine jl_op rfl rfl (.some rfl rfl rfl) (v_f2f rfl rfl ii (by rfl) Try.underlying43 (by first | exact fun _ => fits_same | exact fun _ => fits_wide | exact fun _ => fits_sqrt _ | assumption | exact fun _ => by assumption)) ?_
       refine jl_op rfl rfl (.some rfl rfl rfl) (v_farith rfl rfl rfl rfl tt ii) ?_
       refine jl_op rfl rfl (.some rfl rfl rfl) (v_fcmp rfl rfl rfl rfl ii ii) ?_
       refine jl_op rfl rfl (.none rfl) (v_or rfl rfl tt rfl fi) ?_
       refine jl_op rfl rfl (.none rfl) (v_move rfl rfl tt) ?_
       refine jl_op rfl rfl (.some rfl rfl rfl) (v_move rfl rfl tt) ?_
       refine jl_op rfl rfl (.some rfl rfl rfl) (v_len rfl rfl Try.underlying34 rfl ii) ?_
       refine jl_op rfl rfl (.some rfl rfl rfl) (v_move rfl rfl tt) ?_
       refine jl_op rfl rfl (.some rfl rfl rfl) (v_icmp rfl rfl rfl rfl ii ii) ?_
       refine jl_op rfl rfl (.none rfl) (v_or rfl rfl tt rfl fi) ?_
       refine jl_op rfl rfl (.none rfl) (v_move rfl rfl tt) ?_
       refine jl_op rfl rfl (.some rfl rfl rfl) (v_move rfl rfl tt) ?_
       refine jl_op rfl rfl (.some rfl rfl rfl) (v_len rfl rfl Try.underlying34 rfl ii) ?_
       refine jl_op rfl rfl (.some rfl rfl rfl) (v_move rfl rfl tt) ?_
       refine jl_op rfl rfl (.some rfl rfl rfl) (v_icmp rfl rfl rfl rfl ii ii) ?_
       refine jl_op rfl rfl (.none rfl) (v_or rfl rfl tt rfl fi) ?_
       refine jl_nil ?_)
    | (refine j_region (id := 14) ?_
       refine jl_op rfl rfl (.none rfl) (v_assign rfl rfl tt) ?_
       refine jl_nil ?_)
    | (refine j_region (id := 15) ?_
       refine jl_op rfl rfl (.none rfl) (v_move rfl rfl tt) ?_
       refine jl_op rfl rfl (.none rfl) (v_indexAddr rfl Try.underlying34 (by kernel_rfl) rfl rfl tt tt (by first | exact hA_some | exact hA_roT (by (repeat first | exact m0 | refine List.Mem.tail _ ?_); first | done | fail) | exact hA_vecT (by (repeat first | exact m0 | refine List.Mem.tail _ ?_); first | done | fail) | exact hA_vecP (by (repeat first | exact m0 | refine List.Mem.tail _ ?_); first | done | fail) | exact hA_roI (by (repeat first | exact m0 | refine List.Mem.tail _ ?_); first | done | fail) | exact hA_vecI (by (repeat first | exact m0 | refine List.Mem.tail _ ?_); first | done | fail) | exact hA_vecPI (by (repeat first | exact m0 | refine List.Mem.tail _ ?_); first | done | fail) | exact hA_vecPS (by (repeat first | exact m0 | refine List.Mem.tail _ ?_); first | done | fail) | exact hA_ro (by (repeat first | exact m0 | refine List.Mem.tail _ ?_); first | done | fail) | exact hA_vec (by (repeat first | exact m0 | refine List.Mem.tail _ ?_); first | done | fail) | exact hA_roY (by (repeat first | exact m0 | refine List.Mem.tail _ ?_); first | done | fail)) (fun _hc => ⟨(by first | with_reducible rfl | exact (Int.toNat_of_nonneg (by omega)).symm | (have hc := g_gt _hc; exact (Int.toNat_of_nonneg (by omega)).symm) | (have hg := guard_gt (by assumption); exact (Int.toNat_of_nonneg (by omega)).symm) | (have hg := guard_gt1 (by assumption); exact (Int.toNat_of_nonneg (by omega)).symm) | (have hg := guard_gt2 (by assumption); exact (Int.toNat_of_nonneg (by omega)).symm)), (by first | omega | (have hg := guard_gt (by assumption); omega) | (have hg := guard_gt1 (by assumption); omega) | (have hg := guard_gt2 (by assumption); omega) | (rw [tabY_length]; omega) | (rw [tab_length]; omega) | (rw [part_length]; omega) | (rw [tabI_length]; omega) | (rw [partI_length]; omega) | (rw [List.length_set, part_length]; omega) | (have hg := guard_gt (by assumption); rw [tab_length]; omega) | (have hg := guard_gt1 (by assumption); rw [tab_length]; omega) | (have hg := guard_gt2 (by assumption); rw [tab_length]; omega))⟩)) ?_
       first | refine jl_op rfl rfl (.none rfl) (v_loadVec rfl Try.underlying24 (by rfl) rfl tt (by (repeat first | exact m0 | refine List.Mem.tail _ ?_); first | done | fail) (fun _ => (by first | with_reducible exact part_get_ge (by omega) (by omega) | with_reducible exact tab_get (by omega) | with_reducible exact tabI_get (by omega) | with_reducible exact part_get (by omega) | exact part_get_ge (by omega) (by omega) | exact tab_get (by omega) | exact tabI_get (by omega) | exact part_get (by omega) | exact part_set_get (by omega) | exact partI_get (by omega) | exact tabY_get (by omega) | exact tab_get (by have hg := guard_gt (by assumption); omega) | exact tab_get (by have hg := guard_gt1 (by assumption); omega) | exact tab_get (by have hg := guard_gt2 (by assumption); omega) | assumption | rfl))) ?_ | refine jl_op rfl rfl (.none rfl) (v_loadRo rfl Try.underlying24 (by rfl) rfl tt (by (repeat first | exact m0 | refine List.Mem.tail _ ?_); first | done | fail) (fun _ => (by first | with_reducible exact part_get_ge (by omega) (by omega) | with_reducible exact tab_get (by omega) | with_reducible exact tabI_get (by omega) | with_reducible exact part_get (by omega) | exact part_get_ge (by omega) (by omega) | exact tab_get (by omega) | exact tabI_get (by omega) | exact part_get (by omega) | exact part_set_get (by omega) | exact partI_get (by omega) | exact tabY_get (by omega) | exact tab_get (by have hg := guard_gt (by assumption); omega) | exact tab_get (by have hg := guard_gt1 (by assumption); omega) | exact tab_get (by have hg := guard_gt2 (by assumption); omega) | assumption | rfl))) ?_
       refine jl_op rfl rfl (.none rfl) (v_f2f rfl rfl tt (by rfl) Try.underlying43 (by first | exact fun _ => fits_same | exact fun _ => fits_wide | exact fun _ => fits_sqrt _ | assumption | exact fun _ => by assumption)) ?_
       refine jl_op rfl rfl (.none rfl) (v_move rfl rfl tt) ?_
       refine jl_op rfl rfl (.none rfl) (v_f2f rfl rfl tt (by rfl) Try.underlying43 (by first | exact fun _ => fits_same | exact fun _ => fits_wide | exact fun _ => fits_sqrt _ | assumption | exact fun _ => by assumption)) ?_
       refine jl_op rfl rfl (.none rfl) (v_call (f := 21) (xs := [_, _]) rfl (c_b10Gap ..) (ev_cons rfl tt (ev_cons rfl tt ev_nil)) (by intro w hc hI; first | trivial | (exfalso; simp_all; done) | (clear hc; repeat' (first | exact ros_nil | refine ros_cons ?_ ?_ | exact hI.roRo (by (repeat first | exact m0 | refine List.Mem.tail _ ?_); first | done | fail) | exact hI.boxRo (by (repeat first | exact m0 | refine List.Mem.tail _ ?_); first | done | fail) | exact HInv.vecRo hI (by (repeat first | exact m0 | refine List.Mem.tail _ ?_); first | done | fail))))) ?_
       refine jl_op rfl rfl (.none rfl) (v_fcmp rfl rfl rfl rfl tt tt) ?_
       refine jl_op rfl rfl (.none rfl) (v_move rfl rfl tt) ?_
       refine jl_op rfl rfl (.some rfl rfl rfl) (v_move rfl rfl tt) ?_
       refine jl_op rfl rfl (.some rfl rfl rfl) (v_move rfl rfl tt) ?_
       refine jl_op rfl rfl (.some rfl rfl rfl) (v_iarith' rfl rfl rfl rfl ii tt (by first | exact fun _ => iw_sub (by omega) | exact fun _ => rfl)) ?_
       refine jl_op rfl rfl (.some rfl rfl rfl) (v_indexAddr rfl Try.underlying34 (by kernel_rfl) rfl rfl ii ii (by first | exact hA_some | exact hA_roT (by (repeat first | exact m0 | refine List.Mem.tail _ ?_); first | done | fail) | exact hA_vecT (by (repeat first | exact m0 | refine List.Mem.tail _ ?_); first | done | fail) | exact hA_vecP (by (repeat first | exact m0 | refine List.Mem.tail _ ?_); first | done | fail) | exact hA_roI (by (repeat first | exact m0 | refine List.Mem.tail _ ?_); first | done | fail) | exact hA_vecI (by (repeat first | exact m0 | refine List.Mem.tail _ ?_); first | done | fail) | exact hA_vecPI (by (repeat first | exact m0 | refine List.Mem.tail _ ?_); first | done | fail) | exact hA_vecPS (by (repeat first | exact m0 | refine List.Mem.tail _ ?_); first | done | fail) | exact hA_ro (by (repeat first | exact m0 | refine List.Mem.tail _ ?_); first | done | fail) | exact hA_vec (by (repeat first | exact m0 | refine List.Mem.tail _ ?_); first | done | fail) | exact hA_roY (by (repeat first | exact m0 | refine List.Mem.tail _ ?_); first | done | fail)) (fun _hc => ⟨(by first | with_reducible rfl | exact (Int.toNat_of_nonneg (by omega)).symm | (have hc := g_gt _hc; exact (Int.toNat_of_nonneg (by omega)).symm) | (have hg := guard_gt (by assumption); exact (Int.toNat_of_nonneg (by omega)).symm) | (have hg := guard_gt1 (by assumption); exact (Int.toNat_of_nonneg (by omega)).symm) | (have hg := guard_gt2 (by assumption); exact (Int.toNat_of_nonneg (by omega)).symm)), (by first | omega | (have hg := guard_gt (by assumption); omega) | (have hg := guard_gt1 (by assumption); omega) | (have hg := guard_gt2 (by assumption); omega) | (rw [tabY_length]; omega) | (rw [tab_length]; omega) | (rw [part_length]; omega) | (rw [tabI_length]; omega) | (rw [partI_length]; omega) | (rw [List.length_set, part_length]; omega) | (have hg := guard_gt (by assumption); rw [tab_length]; omega) | (have hg := guard_gt1 (by assumption); rw [tab_length]; omega) | (have hg := guard_gt2 (by assumption); rw [tab_length]; omega))⟩)) ?_
       first | refine jl_op rfl rfl (.some rfl rfl rfl) (v_loadVec rfl Try.underlying24 (by rfl) rfl ii (by (repeat first | exact m0 | refine List.Mem.tail _ ?_); first | done | fail) (fun _ => (by first | with_reducible exact part_get_ge (by omega) (by omega) | with_reducible exact tab_get (by omega) | with_reducible exact tabI_get (by omega) | with_reducible exact part_get (by omega) | exact part_get_ge (by omega) (by omega) | exact tab_get (by omega) | exact tabI_get (by omega) | exact part_get (by omega) | exact part_set_get (by omega) | exact partI_get (by omega) | exact tabY_get (by omega) | exact tab_get (by have hg := guard_gt (by assumption); omega) | exact tab_get (by have hg := guard_gt1 (by assumption); omega) | exact tab_get (by have hg := guard_gt2 (by assumption); omega) | assumption | rfl))) ?_ | refine jl_op rfl rfl (.some rfl rfl rfl) (v_loadRo rfl Try.underlying24 (by rfl) rfl ii (by (repeat first | exact m0 | refine List.Mem.tail _ ?_); first | done | fail) (fun _ => (by first | with_reducible exact part_get_ge (by omega) (by omega) | with_reducible exact tab_get (by omega) | with_reducible exact tabI_get (by omega) | with_reducible exact part_get (by omega) | exact part_get_ge (by omega) (by omega) | exact tab_get (by omega) | exact tabI_get (by omega) | exact part_get (by omega) | exact part_set_get (by omega) | exact partI_get (by omega) | exact tabY_get (by omega) | exact tab_get (by have hg := guard_gt (by assumption); omega) | exact tab_get (by have hg := guard_gt1 (by assumption); omega) | exact tab_get (by have hg := guard_gt2 (by assumption); omega) | assumption | rfl))) ?_
       refine jl_op rfl rfl (.some rfl rfl rfl) (v_f2f rfl rfl ii (by rfl) Try.underlying43 (by first | exact fun _ => fits_same | exact fun _ => fits_wide | exact fun _ => fits_sqrt _ | assumption | exact fun _ => by assumption)) ?_
       refine jl_op rfl rfl (.some rfl rfl rfl) (v_move rfl rfl tt) ?_
       refine jl_op rfl rfl (.some rfl rfl rfl) (v_f2f rfl rfl ii (by rfl) Try.underlying43 (by first | exact fun _ => fits_same | exact fun _ => fits_wide | exact fun _ => fits_sqrt _ | assumption | exact fun _ => by assumption)) ?_
       refine jl_op rfl rfl (.some rfl rfl rfl) (v_call (f := 21) (xs := [_, _]) rfl (c_b10Gap ..) (ev_cons rfl ii (ev_cons rfl ii ev_nil)) (by intro w hc hI; first | trivial | (exfalso; simp_all; done) | (clear hc; repeat' (first | exact ros_nil | refine ros_cons ?_ ?_ | exact hI.roRo (by (repeat first | exact m0 | refine List.Mem.tail _ ?_); first | done | fail) | exact hI.boxRo (by (repeat first | exact m0 | refine List.Mem.tail _ ?_); first | done | fail) | exact HInv.vecRo hI (by (repeat first | exact m0 | refine List.Mem.tail _ ?_); first | done | fail))))) ?_
       refine jl_op rfl rfl (.some rfl rfl rfl) (v_fcmp rfl rfl rfl rfl ii tt) ?_
       refine jl_op rfl rfl (.none rfl) (v_or rfl rfl tt rfl fi) ?_
       refine jl_op rfl rfl (.none rfl) (v_move rfl rfl tt) ?_
       refine jl_op rfl rfl (.some rfl rfl rfl) (v_move rfl rfl tt) ?_
       refine jl_op rfl rfl (.some rfl rfl rfl) (v_indexAddr rfl Try.underlying34 (by kernel_rfl) rfl rfl ii tt (by first | exact hA_some | exact hA_roT (by (repeat first | exact m0 | refine List.Mem.tail _ ?_); first | done | fail) | exact hA_vecT (by (repeat first | exact m0 | refine List.Mem.tail _ ?_); first | done | fail) | exact hA_vecP (by (repeat first | exact m0 | refine List.Mem.tail _ ?_); first | done | fail) | exact hA_roI (by (repeat first | exact m0 | refine List.Mem.tail _ ?_); first | done | fail) | exact hA_vecI (by (repeat first | exact m0 | refine List.Mem.tail _ ?_); first | done | fail) | exact hA_vecPI (by (repeat first | exact m0 | refine List.Mem.tail _ ?_); first | done | fail) | exact hA_vecPS (by (repeat first | exact m0 | refine List.Mem.tail _ ?_); first | done | fail) | exact hA_ro (by (repeat first | exact m0 | refine List.Mem.tail _ ?_); first | done | fail) | exact hA_vec (by (repeat first | exact m0 | refine List.Mem.tail _ ?_); first | done | fail) | exact hA_roY (by (repeat first | exact m0 | refine List.Mem.tail _ ?_); first | done | fail)) (fun _hc => ⟨(by first | with_reducible rfl | exact (Int.toNat_of_nonneg (by omega)).symm | (have hc := g_gt _hc; exact (Int.toNat_of_nonneg (by omega)).symm) | (have hg := guard_gt (by assumption); exact (Int.toNat_of_nonneg (by omega)).symm) | (have hg := guard_gt1 (by assumption); exact (Int.toNat_of_nonneg (by omega)).symm) | (have hg := guard_gt2 (by assumption); exact (Int.toNat_of_nonneg (by omega)).symm)), (by first | omega | (have hg := guard_gt (by assumption); omega) | (have hg := guard_gt1 (by assumption); omega) | (have hg := guard_gt2 (by assumption); omega) | (rw [tabY_length]; omega) | (rw [tab_length]; omega) | (rw [part_length]; omega) | (rw [tabI_length]; omega) | (rw [partI_length]; omega) | (rw [List.length_set, part_length]; omega) | (have hg := guard_gt (by assumption); rw [tab_length]; omega) | (have hg := guard_gt1 (by assumption); rw [tab_length]; omega) | (have hg := guard_gt2 (by assumption); rw [tab_length]; omega))⟩)) ?_
       first | refine jl_op rfl rfl (.some rfl rfl rfl) (v_loadVec rfl Try.underlying24 (by rfl) rfl ii (by (repeat first | exact m0 | refine List.Mem.tail _ ?_); first | done | fail) (fun _ => (by first | with_reducible exact part_get_ge (by omega) (by omega) | with_reducible exact tab_get (by omega) | with_reducible exact tabI_get (by omega) | with_reducible exact part_get (by omega) | exact part_get_ge (by omega) (by omega) | exact tab_get (by omega) | exact tabI_get (by omega) | exact part_get (by omega) | exact part_set_get (by omega) | exact partI_get (by omega) | exact tabY_get (by omega) | exact tab_get (by have hg := guard_gt (by assumption); omega) | exact tab_get (by have hg := guard_gt1 (by assumption); omega) | exact tab_get (by have hg := guard_gt2 (by assumption); omega) | assumption | rfl))) ?_ | refine jl_op rfl rfl (.some rfl rfl rfl) (v_loadRo rfl Try.underlying24 (by rfl) rfl ii (by (repeat first | exact m0 | refine List.Mem.tail _ ?_); first | done | fail) (fun _ => (by first | with_reducible exact part_get_ge (by omega) (by omega) | with_reducible exact tab_get (by omega) | with_reducible exact tabI_get (by omega) | with_reducible exact part_get (by omega) | exact part_get_ge (by omega) (by omega) | exact tab_get (by omega) | exact tabI_get (by omega) | exact part_get (by omega) | exact part_set_get (by omega) | exact partI_get (by omega) | exact tabY_get (by omega) | exact tab_get (by have hg := guard_gt (by assumption); omega) | exact tab_get (by have hg := guard_gt1 (by assumption); omega) | exact tab_get (by have hg := guard_gt2 (by assumption); omega) | assumption | rfl))) ?_
       refine jl_op rfl rfl (.some rfl rfl rfl) (v_move rfl rfl tt) ?_
       refine jl_op rfl rfl (.some rfl rfl rfl) (v_fcmp rfl rfl rfl rfl ii ii) ?_
       refine jl_op rfl rfl (.none rfl) (v_or rfl rfl tt rfl fi) ?_
       refine jl_nil ?_)
    | (refine j_region (id := 16) ?_
       refine jl_op rfl rfl (.none rfl) (v_assign rfl rfl tt) ?_
       refine jl_nil ?_)
    | (refine j_region (id := 17) ?_
       refine jl_op rfl rfl (.none rfl) (v_move rfl rfl tt) ?_
       refine jl_op rfl rfl (.none rfl) (v_len rfl rfl Try.underlying34 rfl tt) ?_
       refine jl_op rfl rfl (.none rfl) (v_move rfl rfl tt) ?_
       refine jl_nil ?_)
    | (refine j_region (id := 18) ?_
       refine jl_op rfl rfl (.none rfl) (v_icmp rfl rfl rfl rfl tt tt) ?_
       refine jl_nil ?_)
    | (refine j_region (id := 19) ?_
       refine jl_op rfl rfl (.none rfl) (v_move rfl rfl tt) ?_
       refine jl_op rfl rfl (.none rfl) (v_assign rfl rfl tt) ?_
       refine jl_nil ?_)
    | (refine j_region (id := 20) ?_
       refine jl_op rfl rfl (.none rfl) (v_move rfl rfl tt) ?_
       refine jl_op rfl rfl (.none rfl) (v_move rfl rfl tt) ?_
       refine jl_op rfl rfl (.none rfl) (v_indexAddr rfl Try.underlying34 (by kernel_rfl) rfl rfl tt tt (by first | exact hA_some | exact hA_roT (by (repeat first | exact m0 | refine List.Mem.tail _ ?_); first | done | fail) | exact hA_vecT (by (repeat first | exact m0 | refine List.Mem.tail _ ?_); first | done | fail) | exact hA_vecP (by (repeat first | exact m0 | refine List.Mem.tail _ ?_); first | done | fail) | exact hA_roI (by (repeat first | exact m0 | refine List.Mem.tail _ ?_); first | done | fail) | exact hA_vecI (by (repeat first | exact m0 | refine List.Mem.tail _ ?_); first | done | fail) | exact hA_vecPI (by (repeat first | exact m0 | refine List.Mem.tail _ ?_); first | done | fail) | exact hA_vecPS (by (repeat first | exact m0 | refine List.Mem.tail _ ?_); first | done | fail) | exact hA_ro (by (repeat first | exact m0 | refine List.Mem.tail _ ?_); first | done | fail) | exact hA_vec (by (repeat first | exact m0 | refine List.Mem.tail _ ?_); first | done | fail) | exact hA_roY (by (repeat first | exact m0 | refine List.Mem.tail _ ?_); first | done | fail)) (fun _hc => ⟨(by first | with_reducible rfl | exact (Int.toNat_of_nonneg (by omega)).symm | (have hc := g_gt _hc; exact (Int.toNat_of_nonneg (by omega)).symm) | (have hg := guard_gt (by assumption); exact (Int.toNat_of_nonneg (by omega)).symm) | (have hg := guard_gt1 (by assumption); exact (Int.toNat_of_nonneg (by omega)).symm) | (have hg := guard_gt2 (by assumption); exact (Int.toNat_of_nonneg (by omega)).symm)), (by first | omega | (have hg := guard_gt (by assumption); omega) | (have hg := guard_gt1 (by assumption); omega) | (have hg := guard_gt2 (by assumption); omega) | (rw [tabY_length]; omega) | (rw [tab_length]; omega) | (rw [part_length]; omega) | (rw [tabI_length]; omega) | (rw [partI_length]; omega) | (rw [List.length_set, part_length]; omega) | (have hg := guard_gt (by assumption); rw [tab_length]; omega) | (have hg := guard_gt1 (by assumption); rw [tab_length]; omega) | (have hg := guard_gt2 (by assumption); rw [tab_length]; omega))⟩)) ?_
       first | refine jl_op rfl rfl (.none rfl) (v_loadVec rfl Try.underlying24 (by rfl) rfl tt (by (repeat first | exact m0 | refine List.Mem.tail _ ?_); first | done | fail) (fun _ => (by first | with_reducible exact part_get_ge (by omega) (by omega) | with_reducible exact tab_get (by omega) | with_reducible exact tabI_get (by omega) | with_reducible exact part_get (by omega) | exact part_get_ge (by omega) (by omega) | exact tab_get (by omega) | exact tabI_get (by omega) | exact part_get (by omega) | exact part_set_get (by omega) | exact partI_get (by omega) | exact tabY_get (by omega) | exact tab_get (by have hg := guard_gt (by assumption); omega) | exact tab_get (by have hg := guard_gt1 (by assumption); omega) | exact tab_get (by have hg := guard_gt2 (by assumption); omega) | assumption | rfl))) ?_ | refine jl_op rfl rfl (.none rfl) (v_loadRo rfl Try.underlying24 (by rfl) rfl tt (by (repeat first | exact m0 | refine List.Mem.tail _ ?_); first | done | fail) (fun _ => (by first | with_reducible exact part_get_ge (by omega) (by omega) | with_reducible exact tab_get (by omega) | with_reducible exact tabI_get (by omega) | with_reducible exact part_get (by omega) | exact part_get_ge (by omega) (by omega) | exact tab_get (by omega) | exact tabI_get (by omega) | exact part_get (by omega) | exact part_set_get (by omega) | exact partI_get (by omega) | exact tabY_get (by omega) | exact tab_get (by have hg := guard_gt (by assumption); omega) | exact tab_get (by have hg := guard_gt1 (by assumption); omega) | exact tab_get (by have hg := guard_gt2 (by assumption); omega) | assumption | rfl))) ?_
       refine jl_op rfl rfl (.none rfl) (v_f2f rfl rfl tt (by rfl) Try.underlying43 (by first | exact fun _ => fits_same | exact fun _ => fits_wide | exact fun _ => fits_sqrt _ | assumption | exact fun _ => by assumption)) ?_
       refine jl_op rfl rfl (.none rfl) (v_move rfl rfl tt) ?_
       refine jl_op rfl rfl (.none rfl) (v_f2f rfl rfl tt (by rfl) Try.underlying43 (by first | exact fun _ => fits_same | exact fun _ => fits_wide | exact fun _ => fits_sqrt _ | assumption | exact fun _ => by assumption)) ?_
       refine jl_op rfl rfl (.none rfl) (v_call (f := 21) (xs := [_, _]) rfl (c_b10Gap ..) (ev_cons rfl tt (ev_cons rfl tt ev_nil)) (by intro w hc hI; first | trivial | (exfalso; simp_all; done) | (clear hc; repeat' (first | exact ros_nil | refine ros_cons ?_ ?_ | exact hI.roRo (by (repeat first | exact m0 | refine List.Mem.tail _ ?_); first | done | fail) | exact hI.boxRo (by (repeat first | exact m0 | refine List.Mem.tail _ ?_); first | done | fail) | exact HInv.vecRo hI (by (repeat first | exact m0 | refine List.Mem.tail _ ?_); first | done | fail))))) ?_
       refine jl_op rfl rfl (.none rfl) (v_move rfl rfl tt) ?_
       refine jl_op rfl rfl (.none rfl) (v_f2f rfl rfl tt (by rfl) Try.underlying43 (by first | exact fun _ => fits_same | exact fun _ => fits_wide | exact fun _ => fits_sqrt _ | assumption | exact fun _ => by assumption)) ?_
       refine jl_op rfl rfl (.none rfl) (v_move rfl rfl tt) ?_
       refine jl_op rfl rfl (.none rfl) (v_f2f rfl rfl tt (by rfl) Try.underlying43 (by first | exact fun _ => fits_same | exact fun _ => fits_wide | exact fun _ => fits_sqrt _ | assumption | exact fun _ => by assumption)) ?_
       refine jl_op rfl rfl (.none rfl) (v_farith rfl rfl rfl rfl tt tt) ?_
       refine jl_op rfl rfl (.none rfl) (v_farith rfl rfl rfl rfl tt tt) ?_
       refine jl_op rfl rfl (.none rfl) (v_fcmp rfl rfl rfl rfl tt tt) ?_
       refine jl_nil ?_)
    | (refine j_region (id := 21) ?_
       refine jl_op rfl rfl (.none rfl) (v_assign rfl rfl tt) ?_
       refine jl_nil ?_)
    | (refine j_draw (id := 22) (by kernel_rfl) (by kernel_rfl) ?_
       refine ja_op rfl (.none rfl) (v_move rfl rfl tt) ?_
       refine ja_op rfl (.none rfl) (v_icmp rfl rfl rfl rfl tt tt) ?_
       refine ja_op rfl (.none rfl) (v_move rfl rfl tt) ?_
       refine ja_op rfl (.some rfl rfl rfl) (v_move rfl rfl tt) ?_
       refine ja_op rfl (.some rfl rfl rfl) (v_move rfl rfl tt) ?_
       refine ja_op rfl (.some rfl rfl rfl) (v_fcmp rfl rfl rfl rfl ii ii) ?_
       refine ja_op rfl (.some rfl rfl rfl) (v_move rfl rfl ii) ?_
       refine ja_op rfl (.some rfl rfl rfl) (v_move rfl rfl tt) ?_
       refine ja_op rfl (.some rfl rfl rfl) (v_move rfl rfl tt) ?_
       refine ja_op rfl (.some rfl rfl rfl) (v_indexAddr rfl Try.underlying34 (by kernel_rfl) rfl rfl ii ii (by first | exact hA_some | exact hA_roT (by (repeat first | exact m0 | refine List.Mem.tail _ ?_); first | done | fail) | exact hA_vecT (by (repeat first | exact m0 | refine List.Mem.tail _ ?_); first | done | fail) | exact hA_vecP (by (repeat first | exact m0 | refine List.Mem.tail _ ?_); first | done | fail) | exact hA_roI (by (repeat first | exact m0 | refine List.Mem.tail _ ?_); first | done | fail) | exact hA_vecI (by (repeat first | exact m0 | refine List.Mem.tail _ ?_); first | done | fail) | exact hA_vecPI (by (repeat first | exact m0 | refine List.Mem.tail _ ?_); first | done | fail) | exact hA_vecPS (by (repeat first | exact m0 | refine List.Mem.tail _ ?_); first | done | fail) | exact hA_ro (by (repeat first | exact m0 | refine List.Mem.tail _ ?_); first | done | fail) | exact hA_vec (by (repeat first | exact m0 | refine List.Mem.tail _ ?_); first | done | fail) | exact hA_roY (by (repeat first | exact m0 | refine List.Mem.tail _ ?_); first | done | fail)) (fun _hc => ⟨(by first | with_reducible rfl | exact (Int.toNat_of_nonneg (by omega)).symm | (have hc := g_gt _hc; exact (Int.toNat_of_nonneg (by omega)).symm) | (have hg := guard_gt (by assumption); exact (Int.toNat_of_nonneg (by omega)).symm) | (have hg := guard_gt1 (by assumption); exact (Int.toNat_of_nonneg (by omega)).symm) | (have hg := guard_gt2 (by assumption); exact (Int.toNat_of_nonneg (by omega)).symm)), (by first | omega | (have hg := guard_gt (by assumption); omega) | (have hg := guard_gt1 (by assumption); omega) | (have hg := guard_gt2 (by assumption); omega) | (rw [tabY_length]; omega) | (rw [tab_length]; omega) | (rw [part_length]; omega) | (rw [tabI_length]; omega) | (rw [partI_length]; omega) | (rw [List.length_set, part_length]; omega) | (have hg := guard_gt (by assumption); rw [tab_length]; omega) | (have hg := guard_gt1 (by assumption); rw [tab_length]; omega) | (have hg := guard_gt2 (by assumption); rw [tab_length]; omega))⟩)) ?_
       first | refine ja_op rfl (.some rfl rfl rfl) (v_loadVec rfl Try.underlying24 (by rfl) rfl ii (by (repeat first | exact m0 | refine List.Mem.tail _ ?_); first | done | fail) (fun _ => (by first | with_reducible exact part_get_ge (by omega) (by omega) | with_reducible exact tab_get (by omega) | with_reducible exact tabI_get (by omega) | with_reducible exact part_get (by omega) | exact part_get_ge (by omega) (by omega) | exact tab_get (by omega) | exact tabI_get (by omega) | exact part_get (by omega) | exact part_set_get (by omega) | exact partI_get (by omega) | exact tabY_get (by omega) | exact tab_get (by have hg := guard_gt (by assumption); omega) | exact tab_get (by have hg := guard_gt1 (by assumption); omega) | exact tab_get (by have hg := guard_gt2 (by assumption); omega) | assumption | rfl))) ?_ | refine ja_op rfl (.some rfl rfl rfl) (v_loadRo rfl Try.underlying24 (by rfl) rfl ii (by (repeat first | exact m0 | refine List.Mem.tail _ ?_); first | done | fail) (fun _ => (by first | with_reducible exact part_get_ge (by omega) (by omega) | with_reducible exact tab_get (by omega) | with_reducible exact tabI_get (by omega) | with_reducible exact part_get (by omega) | exact part_get_ge (by omega) (by omega) | exact tab_get (by omega) | exact tabI_get (by omega) | exact part_get (by omega) | exact part_set_get (by omega) | exact partI_get (by omega) | exact tabY_get (by omega) | exact tab_get (by have hg := guard_gt (by assumption); omega) | exact tab_get (by have hg := guard_gt1 (by assumption); omega) | exact tab_get (by have hg := guard_gt2 (by assumption); omega) | assumption | rfl))) ?_
       refine ja_op rfl (.some rfl rfl rfl) (v_f2f rfl rfl ii (by rfl) Try.underlying43 (by first | exact fun _ => fits_same | exact fun _ => fits_wide | exact fun _ => fits_sqrt _ | assumption | exact fun _ => by assumption)) ?_
       refine ja_op rfl (.some rfl rfl rfl) (v_move rfl rfl tt) ?_
       refine ja_op rfl (.some rfl rfl rfl) (v_move rfl rfl tt) ?_
       refine ja_op rfl (.some rfl rfl rfl) (v_iarith' rfl rfl rfl rfl ii tt (by first | exact fun _ => iw_sub (by omega) | exact fun _ => rfl)) ?_
       refine ja_op rfl (.some rfl rfl rfl) (v_indexAddr rfl Try.underlying34 (by kernel_rfl) rfl rfl ii ii (by first | exact hA_some | exact hA_roT (by (repeat first | exact m0 | refine List.Mem.tail _ ?_); first | done | fail) | exact hA_vecT (by (repeat first | exact m0 | refine List.Mem.tail _ ?_); first | done | fail) | exact hA_vecP (by (repeat first | exact m0 | refine List.Mem.tail _ ?_); first | done | fail) | exact hA_roI (by (repeat first | exact m0 | refine List.Mem.tail _ ?_); first | done | fail) | exact hA_vecI (by (repeat first | exact m0 | refine List.Mem.tail _ ?_); first | done | fail) | exact hA_vecPI (by (repeat first | exact m0 | refine List.Mem.tail _ ?_); first | done | fail) | exact hA_vecPS (by (repeat first | exact m0 | refine List.Mem.tail _ ?_); first | done | fail) | exact hA_ro (by (repeat first | exact m0 | refine List.Mem.tail _ ?_); first | done | fail) | exact hA_vec (by (repeat first | exact m0 | refine List.Mem.tail _ ?_); first | done | fail) | exact hA_roY (by (repeat first | exact m0 | refine List.Mem.tail _ ?_); first | done | fail)) (fun _hc => ⟨(by first | with_reducible rfl | exact (Int.toNat_of_nonneg (by omega)).symm | (have hc := g_gt _hc; exact (Int.toNat_of_nonneg (by omega)).symm) | (have hg := guard_gt (by assumption); exact (Int.toNat_of_nonneg (by omega)).symm) | (have hg := guard_gt1 (by assumption); exact (Int.toNat_of_nonneg (by omega)).symm) | (have hg := guard_gt2 (by assumption); exact (Int.toNat_of_nonneg (by omega)).symm)), (by first | omega | (have hg := guard_gt (by assumption); omega) | (have hg := guard_gt1 (by assumption); omega) | (have hg := guard_gt2 (by assumption); omega) | (rw [tabY_length]; omega) | (rw [tab_length]; omega) | (rw [part_length]; omega) | (rw [tabI_length]; omega) | (rw [partI_length]; omega) | (rw [List.length_set, part_length]; omega) | (have hg := guard_gt (by assumption); rw [tab_length]; omega) | (have hg := guard_gt1 (by assumption); rw [tab_length]; omega) | (have hg := guard_gt2 (by assumption); rw [tab_length]; omega))⟩)) ?_
       first | refine ja_op rfl (.some rfl rfl rfl) (v_loadVec rfl Try.underlying24 (by rfl) rfl ii (by (repeat first | exact m0 | refine List.Mem.tail _ ?_); first | done | fail) (fun _ => (by first | with_reducible exact part_get_ge (by omega) (by omega) | with_reducible exact tab_get (by omega) | with_reducible exact tabI_get (by omega) | with_reducible exact part_get (by omega) | exact part_get_ge (by omega) (by omega) | exact tab_get (by omega) | exact tabI_get (by omega) | exact part_get (by omega) | exact part_set_get (by omega) | exact partI_get (by omega) | exact tabY_get (by omega) | exact tab_get (by have hg := guard_gt (by assumption); omega) | exact tab_get (by have hg := guard_gt1 (by assumption); omega) | exact tab_get (by have hg := guard_gt2 (by assumption); omega) | assumption | rfl))) ?_ | refine ja_op rfl (.some rfl rfl rfl) (v_loadRo rfl Try.underlying24 (by rfl) rfl ii (by (repeat first | exact m0 | refine List.Mem.tail _ ?_); first | done | fail) (fun _ => (by first | with_reducible exact part_get_ge (by omega) (by omega) | with_reducible exact tab_get (by omega) | with_reducible exact tabI_get (by omega) | with_reducible exact part_get (by omega) | exact part_get_ge (by omega) (by omega) | exact tab_get (by omega) | exact tabI_get (by omega) | exact part_get (by omega) | exact part_set_get (by omega) | exact partI_get (by omega) | exact tabY_get (by omega) | exact tab_get (by have hg := guard_gt (by assumption); omega) | exact tab_get (by have hg := guard_gt1 (by assumption); omega) | exact tab_get (by have hg := guard_gt2 (by assumption); omega) | assumption | rfl))) ?_
       refine ja_op rfl (.some rfl rfl rfl) (v_f2f rfl rfl ii (by rfl) Try.underlying43 (by first | exact fun _ => fits_same | exact fun _ => fits_wide | exact fun _ => fits_sqrt _ | assumption | exact fun _ => by assumption)) ?_
       refine ja_op rfl (.some rfl rfl rfl) (v_farith rfl rfl rfl rfl ii tt) ?_
       refine ja_op rfl (.some rfl rfl rfl) (v_fcmp rfl rfl rfl rfl ii ii) ?_
       refine ja_op rfl (.some rfl rfl rfl) (v_and rfl rfl ii rfl (by first | exact fun _ _ => rfl | (intro _ h; rw [h]; rfl) | (intro h1 h2; rw [h1, h2]; rfl))) ?_
       refine ja_op rfl (.some rfl rfl rfl) (v_move rfl rfl ii) ?_
       refine ja_op rfl (.some rfl rfl rfl) (v_move rfl rfl tt) ?_
       refine ja_op rfl (.some rfl rfl rfl) (v_move rfl rfl tt) ?_
       refine ja_op rfl (.some rfl rfl rfl) (v_fcmp rfl rfl rfl rfl ii ii) ?_
       refine ja_op rfl (.some rfl rfl rfl) (v_move rfl rfl ii) ?_
       refine ja_op rfl (.some rfl rfl rfl) (v_move rfl rfl tt) ?_
       refine ja_op rfl (.some rfl rfl rfl) (v_move rfl rfl tt) ?_
       refine ja_op rfl (.some rfl rfl rfl) (v_indexAddr rfl Try.underlying34 (by kernel_rfl) rfl rfl ii ii (by first | exact hA_some | exact hA_roT (by (repeat first | exact m0 | refine List.Mem.tail _ ?_); first | done | fail) | exact hA_vecT (by (repeat first | exact m0 | refine List.Mem.tail _ ?_); first | done | fail) | exact hA_vecP (by (repeat first | exact m0 | refine List.Mem.tail _ ?_); first | done | fail) | exact hA_roI (by (repeat first | exact m0 | refine List.Mem.tail _ ?_); first | done | fail) | exact hA_vecI (by (repeat first | exact m0 | refine List.Mem.tail _ ?_); first | done | fail) | exact hA_vecPI (by (repeat first | exact m0 | refine List.Mem.tail _ ?_); first | done | fail) | exact hA_vecPS (by (repeat first | exact m0 | refine List.Mem.tail _ ?_); first | done | fail) | exact hA_ro (by (repeat first | exact m0 | refine List.Mem.tail _ ?_); first | done | fail) | exact hA_vec (by (repeat first | exact m0 | refine List.Mem.tail _ ?_); first | done | fail) | exact hA_roY (by (repeat first | exact m0 | refine List.Mem.tail _ ?_); first | done | fail)) (fun _hc => ⟨(by first | with_reducible rfl | exact (Int.toNat_of_nonneg (by omega)).symm | (have hc := g_gt _hc; exact (Int.toNat_of_nonneg (by omega)).symm) | (have hg := guard_gt (by assumption); exact (Int.toNat_of_nonneg (by omega)).symm) | (have hg := guard_gt1 (by assumption); exact (Int.toNat_of_nonneg (by omega)).symm) | (have hg := guard_gt2 (by assumption); exact (Int.toNat_of_nonneg (by omega)).symm)), (by first | omega | (have hg := guard_gt (by assumption); omega) | (have hg := guard_gt1 (by assumption); omega) | (have hg := guard_gt2 (by assumption); omega) | (rw [tabY_length]; omega) | (rw [tab_length]; omega) | (rw [part_length]; omega) | (rw [tabI_length]; omega) | (rw [partI_length]; omega) | (rw [List.length_set, part_length]; omega) | (have hg := guard_gt (by assumption); rw [tab_length]; omega) | (have hg := guard_gt1 (by assumption); rw [tab_length]; omega) | (have hg := guard_gt2 (by assumption); rw [tab_length]; omega))⟩)) ?_
       first | refine ja_op rfl (.some rfl rfl rfl) (v_loadVec rfl Try.underlying24 (by rfl) rfl ii (by (repeat first | exact m0 | refine List.Mem.tail _ ?_); first | done | fail) (fun _ => (by first | with_reducible exact part_get_ge (by omega) (by omega) | with_reducible exact tab_get (by omega) | with_reducible exact tabI_get (by omega) | with_reducible exact part_get (by omega) | exact part_get_ge (by omega) (by omega) | exact tab_get (by omega) | exact tabI_get (by omega) | exact part_get (by omega) | exact part_set_get (by omega) | exact partI_get (by omega) | exact tabY_get (by omega) | exact tab_get (by have hg := guard_gt (by assumption); omega) | exact tab_get (by have hg := guard_gt1 (by assumption); omega) | exact tab_get (by have hg := guard_gt2 (by assumption); omega) | assumption | rfl))) ?_ | refine ja_op rfl (.some rfl rfl rfl) (v_loadRo rfl Try.underlying24 (by rfl) rfl ii (by (repeat first | exact m0 | refine List.Mem.tail _ ?_); first | done | fail) (fun _ => (by first | with_reducible exact part_get_ge (by omega) (by omega) | with_reducible exact tab_get (by omega) | with_reducible exact tabI_get (by omega) | with_reducible exact part_get (by omega) | exact part_get_ge (by omega) (by omega) | exact tab_get (by omega) | exact tabI_get (by omega) | exact part_get (by omega) | exact part_set_get (by omega) | exact partI_get (by omega) | exact tabY_get (by omega) | exact tab_get (by have hg := guard_gt (by assumption); omega) | exact tab_get (by have hg := guard_gt1 (by assumption); omega) | exact tab_get (by have hg := guard_gt2 (by assumption); omega) | assumption | rfl))) ?_
       refine ja_op rfl (.some rfl rfl rfl) (v_f2f rfl rfl ii (by rfl) Try.underlying43 (by first | exact fun _ => fits_same | exact fun _ => fits_wide | exact fun _ => fits_sqrt _ | assumption | exact fun _ => by assumption)) ?_
       refine ja_op rfl (.some rfl rfl rfl) (v_move rfl rfl tt) ?_
       refine ja_op rfl (.some rfl rfl rfl) (v_move rfl rfl tt) ?_
       refine ja_op rfl (.some rfl rfl rfl) (v_iarith' rfl rfl rfl rfl ii tt (by first | exact fun _ => iw_sub (by omega) | exact fun _ => rfl)) ?_
       refine ja_op rfl (.some rfl rfl rfl) (v_indexAddr rfl Try.underlying34 (by kernel_rfl) rfl rfl ii ii (by first | exact hA_some | exact hA_roT (by (repeat first | exact m0 | refine List.Mem.tail _ ?_); first | done | fail) | exact hA_vecT (by (repeat first | exact m0 | refine List.Mem.tail _ ?_); first | done | fail) | exact hA_vecP (by (repeat first | exact m0 | refine List.Mem.tail _ ?_); first | done | fail) | exact hA_roI (by (repeat first | exact m0 | refine List.Mem.tail _ ?_); first | done | fail) | exact hA_vecI (by (repeat first | exact m0 | refine List.Mem.tail _ ?_); first | done | fail) | exact hA_vecPI (by (repeat first | exact m0 | refine List.Mem.tail _ ?_); first | done | fail) | exact hA_vecPS (by (repeat first | exact m0 | refine List.Mem.tail _ ?_); first | done | fail) | exact hA_ro (by (repeat first | exact m0 | refine List.Mem.tail _ ?_); first | done | fail) | exact hA_vec (by (repeat first | exact m0 | refine List.Mem.tail _ ?_); first | done | fail) | exact hA_roY (by (repeat first | exact m0 | refine List.Mem.tail _ ?_); first | done | fail)) (fun _hc => ⟨(by first | with_reducible rfl | exact (Int.toNat_of_nonneg (by omega)).symm | (have hc := g_gt _hc; exact (Int.toNat_of_nonneg (by omega)).symm) | (have hg := guard_gt (by assumption); exact (Int.toNat_of_nonneg (by omega)).symm) | (have hg := guard_gt1 (by assumption); exact (Int.toNat_of_nonneg (by omega)).symm) | (have hg := guard_gt2 (by assumption); exact (Int.toNat_of_nonneg (by omega)).symm)), (by first | omega | (have hg := guard_gt (by assumption); omega) | (have hg := guard_gt1 (by assumption); omega) | (have hg := guard_gt2 (by assumption); omega) | (rw [tabY_length]; omega) | (rw [tab_length]; omega) | (rw [part_length]; omega) | (rw [tabI_length]; omega) | (rw [partI_length]; omega) | (rw [List.length_set, part_length]; omega) | (have hg := guard_gt (by assumption); rw [tab_length]; omega) | (have hg := guard_gt1 (by assumption); rw [tab_length]; omega) | (have hg := guard_gt2 (by assumption); rw [tab_length]; omega))⟩)) ?_
       first | refine ja_op rfl (.some rfl rfl rfl) (v_loadVec rfl Try.underlying24 (by rfl) rfl ii (by (repeat first | exact m0 | refine List.Mem.tail _ ?_); first | done | fail) (fun _ => (by first | with_reducible exact part_get_ge (by omega) (by omega) | with_reducible exact tab_get (by omega) | with_reducible exact tabI_get (by omega) | with_reducible exact part_get (by omega) | exact part_get_ge (by omega) (by omega) | exact tab_get (by omega) | exact tabI_get (by omega) | exact part_get (by omega) | exact part_set_get (by omega) | exact partI_get (by omega) | exact tabY_get (by omega) | exact tab_get (by have hg := guard_gt (by assumption); omega) | exact tab_get (by have hg := guard_gt1 (by assumption); omega) | exact tab_get (by have hg := guard_gt2 (by assumption); omega) | assumption | rfl))) ?_ | refine ja_op rfl (.some rfl rfl rfl) (v_loadRo rfl Try.underlying24 (by rfl) rfl ii (by (repeat first | exact m0 | refine List.Mem.tail _ ?_); first | done | fail) (fun _ => (by first | with_reducible exact part_get_ge (by omega) (by omega) | with_reducible exact tab_get (by omega) | with_reducible exact tabI_get (by omega) | with_reducible exact part_get (by omega) | exact part_get_ge (by omega) (by omega) | exact tab_get (by omega) | exact tabI_get (by omega) | exact part_get (by omega) | exact part_set_get (by omega) | exact partI_get (by omega) | exact tabY_get (by omega) | exact tab_get (by have hg := guard_gt (by assumption); omega) | exact tab_get (by have hg := guard_gt1 (by assumption); omega) | exact tab_get (by have hg := guard_gt2 (by assumption); omega) | assumption | rfl))) ?_
       refine ja_op rfl (.some rfl rfl rfl) (v_f2f rfl rfl ii (by rfl) Try.underlying43 (by first | exact fun _ => fits_same | exact fun _ => fits_wide | exact fun _ => fits_sqrt _ | assumption | exact fun _ => by assumption)) ?_
       refine ja_op rfl (.some rfl rfl rfl) (v_farith rfl rfl rfl rfl ii tt) ?_
       refine ja_op rfl (.some rfl rfl rfl) (v_fcmp rfl rfl rfl rfl ii ii) ?_
       refine ja_op rfl (.some rfl rfl rfl) (v_and rfl rfl ii rfl (by first | exact fun _ _ => rfl | (intro _ h; rw [h]; rfl) | (intro h1 h2; rw [h1, h2]; rfl))) ?_
       refine ja_op rfl (.some rfl rfl rfl) (v_or rfl rfl ii rfl (by first | exact fun _ _ => rfl | (intro _ h; rw [h]; rfl) | (intro h1 h2; rw [h1, h2]; rfl))) ?_
       refine ja_op rfl (.none rfl) (v_and rfl rfl tt rfl ti) ?_
       refine ja_nil rfl ?_)
    | (refine j_region (id := 23) ?_
       refine jl_op rfl rfl (.none rfl) (v_assign rfl rfl tt) ?_
       refine jl_nil ?_)
    | (refine j_region (id := 24) ?_
       refine jl_op rfl rfl (.none rfl) (v_iarith' rfl rfl rfl rfl tt tt (by first | exact fun _ => iw_add (by omega) | exact fun _ => rfl)) ?_
       refine jl_op rfl rfl (.none rfl) (v_move rfl rfl tt) ?_
       refine jl_nil ?_)
    | (refine j_region (id := 25) ?_
       refine jl_op rfl rfl (.none rfl) (v_assign rfl rfl tt) ?_
       refine jl_nil ?_)))
  all_goals exact jq_ret1 (.inl rfl) Try.results6 rfl
end Go.Vx
