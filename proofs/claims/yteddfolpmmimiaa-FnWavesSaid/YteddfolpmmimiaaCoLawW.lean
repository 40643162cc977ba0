/- Contracts of functions of the program and of the reference. -/
import Derived.Test.YteddfolpmmimiaaCoWaves6
import Derived.Test.YteddfolpmmimiaaCoStepWaves
namespace Go.Vx
open Go.Proofs
set_option maxRecDepth 4000
set_option maxHeartbeats 4000000
attribute [local irreducible] J JL JQ JA VOp Con Ext XOp ConM
attribute [local irreducible] farith fcmp
attribute [local irreducible] Zk Ck yK wys enS outR outL outS lossG reflG gapM runWB wavesB
theorem c_lawW4 {w0 : World} (A : Option Addr) (N : Nat) (g1 : Nat → Nat) (B : Option Addr) (M : Nat) (g2 : Nat → Nat) (z : Addr) (zc m : Nat) (g κ r q f : Nat → Nat) (hW : Wd m g κ r q) (hf : ∀ k, k < 8 → waveN (f k)) (hcap : m + 1 ≤ zc) (b5 b25 b28 b36 : Nat) (s144 : ((Option Addr × Nat) × (Option Addr × Nat)) × (Option Addr × Nat)) (s184 : Nat × Nat) (s207 : (Option Addr × Nat) × (Option Addr × Nat)) : J Try.prog Try.f4.ntmps w0 (fun _ => False) (sndS (sndS (sndS (sndS (sndS (sndS (sndS (sndS (sndS (sndS (sndS (sndS (sndS (sndS (sndS (sndS (sndS (sndS (sndS (sndS (sndS (sndS (Try.f4.body.getD .skip))))))))))))))))))))))) [(5, true, .pointer (some ⟨b5, 0, none⟩)), (25, true, .pointer (some ⟨b25, 0, none⟩)), (28, true, .pointer (some ⟨b28, 0, none⟩)), (36, true, .pointer (some ⟨b36, 0, none⟩))] [.box b36 50 [.slice s207.1.1 (m + 1) s207.1.2, .slice s207.2.1 (m + 1) s207.2.2], .vec 24 s207.1.1 s207.1.2 (tab (m + 1) (fun j => farith .add .f32 ((Zk m g zF zF f 8).1 j) ((Zk m g r q zF 8).1 j))), .vec 24 s207.2.1 s207.2.2 (tab (m + 1) (fun j => farith .add .f32 ((Zk m g zF zF f 8).2 j) ((Zk m g r q zF 8).2 j))), .box b28 50 [.slice (some ⟨s184.1, 0, none⟩) (m + 1) (m + 1), .slice (some ⟨s184.2, 0, none⟩) (m + 1) (m + 1)], .vec 24 (some ⟨s184.1, 0, none⟩) (m + 1) (tab (m + 1) zF), .vec 24 (some ⟨s184.2, 0, none⟩) (m + 1) (tab (m + 1) zF), .box b25 50 [.slice s144.1.1.1 (m + 1) s144.1.1.2, .slice s144.1.2.1 (m + 1) s144.1.2.2], .vec 24 s144.1.1.1 s144.1.1.2 (tab (m + 1) (Zk m g r q f 8).1), .vec 24 s144.1.2.1 s144.1.2.2 (tab (m + 1) (Zk m g r q f 8).2), .box b5 47 [.slice (some z) (m + 1) zc, F 1065353216, F 1061158912, F 3210739712], .vec 24 (some z) zc (tab (m + 1) g), .ro A (tabY N g1), .ro B (tabY M g2)] (bodyPost Try.prog Try.f4 (Ends (.bool true) w0)) := by
  have h4 := hW.four
  (repeat' (first
    | refine j_part (by omega) ?_
    | refine j_partI (by omega) ?_
    | refine j_condF rfl (w_c1 hW (by first | rfl | decide | omega)) ?_
    | refine j_condF rfl (c_out hW (by omega)) ?_
    | refine j_condF rfl (w_c2 (by first | rfl | omega) (by first | rfl | omega) (by first | rfl | omega)) ?_
    | refine j_condF rfl (w_c3 (by first | rfl | omega)) ?_
    | refine j_condF rfl (q_out hW hf (by omega)).2 ?_
    | refine j_condF rfl (w_c4 hW hf (by omega)) ?_
    | (refine j_loop2 (σ := Nat) (fun k => k ≤ m + 1) (fun k => [(5, true, .pointer (some ⟨b5, 0, none⟩)), (25, true, .pointer (some ⟨b25, 0, none⟩)), (28, true, .pointer (some ⟨b28, 0, none⟩)), (36, true, .pointer (some ⟨b36, 0, none⟩)), (39, true, .int .i64 (k))]) (fun k => [.box b36 50 [.slice s207.1.1 (m + 1) s207.1.2, .slice s207.2.1 (m + 1) s207.2.2], .vec 24 s207.1.1 s207.1.2 (tab (m + 1) (fun j => farith .add .f32 ((Zk m g zF zF f 8).1 j) ((Zk m g r q zF 8).1 j))), .vec 24 s207.2.1 s207.2.2 (tab (m + 1) (fun j => farith .add .f32 ((Zk m g zF zF f 8).2 j) ((Zk m g r q zF 8).2 j))), .box b28 50 [.slice (some ⟨s184.1, 0, none⟩) (m + 1) (m + 1), .slice (some ⟨s184.2, 0, none⟩) (m + 1) (m + 1)], .vec 24 (some ⟨s184.1, 0, none⟩) (m + 1) (tab (m + 1) zF), .vec 24 (some ⟨s184.2, 0, none⟩) (m + 1) (tab (m + 1) zF), .box b25 50 [.slice s144.1.1.1 (m + 1) s144.1.1.2, .slice s144.1.2.1 (m + 1) s144.1.2.2], .vec 24 s144.1.1.1 s144.1.1.2 (tab (m + 1) (Zk m g r q f 8).1), .vec 24 s144.1.2.1 s144.1.2.2 (tab (m + 1) (Zk m g r q f 8).2), .box b5 47 [.slice (some z) (m + 1) zc, F 1065353216, F 1061158912, F 3210739712], .vec 24 (some z) zc (tab (m + 1) g), .ro A (tabY N g1), .ro B (tabY M g2)]) (fun k => m + 1 - k) 0 (by omega) (fs_cons rfl (fs_cons rfl (fs_cons rfl (fs_cons rfl (fs_cons rfl fs_nil))))) (fun w h => h.sub (by repeat' (first | exact List.Sublist.refl _ | refine List.Sublist.cons_cons _ ?_ | refine List.Sublist.cons _ ?_))) ?_; intro k hk)
    | (exact jq_round (k + 1) (by omega) (by omega) (fs_cons rfl (fs_cons rfl (fs_cons rfl (fs_cons rfl (fs_cons rfl fs_nil))))) (fun _ h => h))
    | refine j_condLt rfl (fun _ => ?_) (fun _ => ?_)
    | refine j_condLe rfl (fun _ => ?_) (fun _ => ?_)
    | refine j_condGt rfl (fun _ => ?_) (fun _ => ?_)
    | refine j_condGe rfl (fun _ => ?_) (fun _ => ?_)
    | refine j_condNe rfl (fun _ => ?_) (fun _ => ?_)
    | refine j_condEq rfl (fun _ => ?_) (fun _ => ?_)
    | refine j_condOrLt rfl (fun _ => ?_) (fun _ => ?_)
    | refine j_condAndLt rfl (fun _ => ?_) (fun _ => ?_)
    | refine j_condAndGe rfl (fun _ => ?_) (fun _ => ?_)
    | refine j_seq ?_
    | refine jq_then ?_
    | refine j_block ?_
    | refine j_ret ?_
    | refine jq_then_ret ?_
    | refine jq_block_ret ?_
    | refine jq_block_normal ?_
    | refine jq_then_exit ?_
    | refine jq_block_same rfl ?_
    | refine jq_block_other rfl ?_
    | refine j_skip ?_
    | refine j_exit ?_
    | refine j_label ?_
    | refine j_condCT ?_
    | refine j_condCF ?_
    | refine j_cond rfl (fun _ => ?_) (fun _ => ?_)
    | (refine j_region (id := 34) ?_
       refine jl_op rfl rfl (.none rfl) (v_assign rfl rfl tt) ?_
       refine jl_nil ?_)
    | (refine j_region (id := 35) ?_
       refine jl_op rfl rfl (.none rfl) (v_move rfl rfl tt) ?_
       refine jl_op rfl rfl (.none rfl) (v_fieldAddr rfl Try.underlying50 (by rfl) (by kernel_rfl) rfl tt) ?_
       first | refine jl_op rfl rfl (.none rfl) (v_loadBox rfl Try.underlying34 (by rfl) rfl tt (by (repeat first | exact m0 | refine List.Mem.tail _ ?_); first | done | fail) (by rfl)) ?_ | refine jl_op rfl rfl (.none rfl) (v_loadRoB rfl Try.underlying34 (by rfl) rfl tt (by (repeat first | exact m0 | refine List.Mem.tail _ ?_); first | done | fail) (by rfl)) ?_
       refine jl_op rfl rfl (.none rfl) (v_len rfl rfl Try.underlying34 rfl tt) ?_
       refine jl_op rfl rfl (.none rfl) (v_icmp rfl rfl rfl rfl tt tt) ?_
       refine jl_nil ?_)
    | (refine j_region (id := 36) ?_
       refine jl_op rfl rfl (.none rfl) (v_move rfl rfl tt) ?_
       refine jl_op rfl rfl (.none rfl) (v_iarith' rfl rfl rfl rfl tt tt (by first | exact fun _ => iw_add (by omega) | exact fun _ => rfl)) ?_
       refine jl_op rfl rfl (.none rfl) (v_assign rfl rfl tt) ?_
       refine jl_nil ?_)
    | (refine j_draw (id := 37) (by kernel_rfl) (by kernel_rfl) ?_
       refine ja_op rfl (.none rfl) (v_fieldAddr rfl Try.underlying50 (by rfl) (by kernel_rfl) rfl tt) ?_
       first | refine ja_op rfl (.none rfl) (v_loadBox rfl Try.underlying34 (by rfl) rfl tt (by (repeat first | exact m0 | refine List.Mem.tail _ ?_); first | done | fail) (by rfl)) ?_ | refine ja_op rfl (.none rfl) (v_loadRoB rfl Try.underlying34 (by rfl) rfl tt (by (repeat first | exact m0 | refine List.Mem.tail _ ?_); first | done | fail) (by rfl)) ?_
       refine ja_op rfl (.none rfl) (v_move rfl rfl tt) ?_
       refine ja_op rfl (.none rfl) (v_indexAddr rfl Try.underlying34 (by kernel_rfl) rfl rfl tt tt (by first | exact hA_some | exact hA_roT (by (repeat first | exact m0 | refine List.Mem.tail _ ?_); first | done | fail) | exact hA_vecT (by (repeat first | exact m0 | refine List.Mem.tail _ ?_); first | done | fail) | exact hA_vecP (by (repeat first | exact m0 | refine List.Mem.tail _ ?_); first | done | fail) | exact hA_roI (by (repeat first | exact m0 | refine List.Mem.tail _ ?_); first | done | fail) | exact hA_vecI (by (repeat first | exact m0 | refine List.Mem.tail _ ?_); first | done | fail) | exact hA_vecPI (by (repeat first | exact m0 | refine List.Mem.tail _ ?_); first | done | fail) | exact hA_vecPS (by (repeat first | exact m0 | refine List.Mem.tail _ ?_); first | done | fail) | exact hA_ro (by (repeat first | exact m0 | refine List.Mem.tail _ ?_); first | done | fail) | exact hA_vec (by (repeat first | exact m0 | refine List.Mem.tail _ ?_); first | done | fail) | exact hA_roY (by (repeat first | exact m0 | refine List.Mem.tail _ ?_); first | done | fail)) (fun _hc => ⟨(by first | with_reducible rfl | exact (Int.toNat_of_nonneg (by omega)).symm | (have hc := g_gt _hc; exact (Int.toNat_of_nonneg (by omega)).symm)), (by first | omega | (rw [tabY_length]; omega) | (rw [tab_length]; omega) | (rw [part_length]; omega) | (rw [tabI_length]; omega) | (rw [partI_length]; omega) | (rw [List.length_set, part_length]; omega))⟩)) ?_
       first | refine ja_op rfl (.none rfl) (v_loadVec rfl Try.underlying24 (by rfl) rfl tt (by (repeat first | exact m0 | refine List.Mem.tail _ ?_); first | done | fail) (fun _ => (by first | with_reducible exact part_get_ge (by omega) (by omega) | with_reducible exact tab_get (by omega) | with_reducible exact tabI_get (by omega) | with_reducible exact part_get (by omega) | exact part_get_ge (by omega) (by omega) | exact tab_get (by omega) | exact tabI_get (by omega) | exact part_get (by omega) | exact part_set_get (by omega) | exact partI_get (by omega) | exact tabY_get (by omega) | assumption | rfl))) ?_ | refine ja_op rfl (.none rfl) (v_loadRo rfl Try.underlying24 (by rfl) rfl tt (by (repeat first | exact m0 | refine List.Mem.tail _ ?_); first | done | fail) (fun _ => (by first | with_reducible exact part_get_ge (by omega) (by omega) | with_reducible exact tab_get (by omega) | with_reducible exact tabI_get (by omega) | with_reducible exact part_get (by omega) | exact part_get_ge (by omega) (by omega) | exact tab_get (by omega) | exact tabI_get (by omega) | exact part_get (by omega) | exact part_set_get (by omega) | exact partI_get (by omega) | exact tabY_get (by omega) | assumption | rfl))) ?_
       refine ja_op rfl (.none rfl) (v_f2f rfl rfl tt (by rfl) Try.underlying43 (by first | exact fun _ => fits_same | exact fun _ => fits_wide | exact fun _ => fits_sqrt _ | assumption | exact fun _ => by assumption)) ?_
       refine ja_op rfl (.none rfl) (v_fieldAddr rfl Try.underlying50 (by rfl) (by kernel_rfl) rfl tt) ?_
       first | refine ja_op rfl (.none rfl) (v_loadBox rfl Try.underlying34 (by rfl) rfl tt (by (repeat first | exact m0 | refine List.Mem.tail _ ?_); first | done | fail) (by rfl)) ?_ | refine ja_op rfl (.none rfl) (v_loadRoB rfl Try.underlying34 (by rfl) rfl tt (by (repeat first | exact m0 | refine List.Mem.tail _ ?_); first | done | fail) (by rfl)) ?_
       refine ja_op rfl (.none rfl) (v_move rfl rfl tt) ?_
       refine ja_op rfl (.none rfl) (v_indexAddr rfl Try.underlying34 (by kernel_rfl) rfl rfl tt tt (by first | exact hA_some | exact hA_roT (by (repeat first | exact m0 | refine List.Mem.tail _ ?_); first | done | fail) | exact hA_vecT (by (repeat first | exact m0 | refine List.Mem.tail _ ?_); first | done | fail) | exact hA_vecP (by (repeat first | exact m0 | refine List.Mem.tail _ ?_); first | done | fail) | exact hA_roI (by (repeat first | exact m0 | refine List.Mem.tail _ ?_); first | done | fail) | exact hA_vecI (by (repeat first | exact m0 | refine List.Mem.tail _ ?_); first | done | fail) | exact hA_vecPI (by (repeat first | exact m0 | refine List.Mem.tail _ ?_); first | done | fail) | exact hA_vecPS (by (repeat first | exact m0 | refine List.Mem.tail _ ?_); first | done | fail) | exact hA_ro (by (repeat first | exact m0 | refine List.Mem.tail _ ?_); first | done | fail) | exact hA_vec (by (repeat first | exact m0 | refine List.Mem.tail _ ?_); first | done | fail) | exact hA_roY (by (repeat first | exact m0 | refine List.Mem.tail _ ?_); first | done | fail)) (fun _hc => ⟨(by first | with_reducible rfl | exact (Int.toNat_of_nonneg (by omega)).symm | (have hc := g_gt _hc; exact (Int.toNat_of_nonneg (by omega)).symm)), (by first | omega | (rw [tabY_length]; omega) | (rw [tab_length]; omega) | (rw [part_length]; omega) | (rw [tabI_length]; omega) | (rw [partI_length]; omega) | (rw [List.length_set, part_length]; omega))⟩)) ?_
       first | refine ja_op rfl (.none rfl) (v_loadVec rfl Try.underlying24 (by rfl) rfl tt (by (repeat first | exact m0 | refine List.Mem.tail _ ?_); first | done | fail) (fun _ => (by first | with_reducible exact part_get_ge (by omega) (by omega) | with_reducible exact tab_get (by omega) | with_reducible exact tabI_get (by omega) | with_reducible exact part_get (by omega) | exact part_get_ge (by omega) (by omega) | exact tab_get (by omega) | exact tabI_get (by omega) | exact part_get (by omega) | exact part_set_get (by omega) | exact partI_get (by omega) | exact tabY_get (by omega) | assumption | rfl))) ?_ | refine ja_op rfl (.none rfl) (v_loadRo rfl Try.underlying24 (by rfl) rfl tt (by (repeat first | exact m0 | refine List.Mem.tail _ ?_); first | done | fail) (fun _ => (by first | with_reducible exact part_get_ge (by omega) (by omega) | with_reducible exact tab_get (by omega) | with_reducible exact tabI_get (by omega) | with_reducible exact part_get (by omega) | exact part_get_ge (by omega) (by omega) | exact tab_get (by omega) | exact tabI_get (by omega) | exact part_get (by omega) | exact part_set_get (by omega) | exact partI_get (by omega) | exact tabY_get (by omega) | assumption | rfl))) ?_
       refine ja_op rfl (.none rfl) (v_f2f rfl rfl tt (by rfl) Try.underlying43 (by first | exact fun _ => fits_same | exact fun _ => fits_wide | exact fun _ => fits_sqrt _ | assumption | exact fun _ => by assumption)) ?_
       first | refine ja_op rfl (.none rfl) (v_call (f := 29) (xs := [_, _]) rfl (c_gapP (hW := hW) (hf := hf) (hi := (by omega)) ..) (ev_cons rfl tt (ev_cons rfl tt ev_nil)) (by intro w hc hI; first | trivial | (exfalso; simp_all; done) | (clear hc; repeat' (first | exact ros_nil | refine ros_cons ?_ ?_ | exact hI.roRo (by (repeat first | exact m0 | refine List.Mem.tail _ ?_); first | done | fail) | exact hI.boxRo (by (repeat first | exact m0 | refine List.Mem.tail _ ?_); first | done | fail) | exact HInv.vecRo hI (by (repeat first | exact m0 | refine List.Mem.tail _ ?_); first | done | fail))))) ?_ | refine ja_op rfl (.none rfl) (v_call (f := 29) (xs := [_, _]) rfl (c_gapQ (hW := hW) (hf := hf) (hi := (by omega)) ..) (ev_cons rfl tt (ev_cons rfl tt ev_nil)) (by intro w hc hI; first | trivial | (exfalso; simp_all; done) | (clear hc; repeat' (first | exact ros_nil | refine ros_cons ?_ ?_ | exact hI.roRo (by (repeat first | exact m0 | refine List.Mem.tail _ ?_); first | done | fail) | exact hI.boxRo (by (repeat first | exact m0 | refine List.Mem.tail _ ?_); first | done | fail) | exact HInv.vecRo hI (by (repeat first | exact m0 | refine List.Mem.tail _ ?_); first | done | fail))))) ?_
       refine ja_op rfl (.none rfl) (v_fcmp rfl rfl rfl rfl tt tt) ?_
       refine ja_op rfl (.none rfl) (v_move rfl rfl tt) ?_
       refine ja_op rfl (.some rfl rfl rfl) (v_fieldAddr rfl Try.underlying50 (by rfl) (by kernel_rfl) rfl tt) ?_
       first | refine ja_op rfl (.some rfl rfl rfl) (v_loadBox rfl Try.underlying34 (by rfl) rfl ii (by (repeat first | exact m0 | refine List.Mem.tail _ ?_); first | done | fail) (by rfl)) ?_ | refine ja_op rfl (.some rfl rfl rfl) (v_loadRoB rfl Try.underlying34 (by rfl) rfl ii (by (repeat first | exact m0 | refine List.Mem.tail _ ?_); first | done | fail) (by rfl)) ?_
       refine ja_op rfl (.some rfl rfl rfl) (v_move rfl rfl tt) ?_
       refine ja_op rfl (.some rfl rfl rfl) (v_indexAddr rfl Try.underlying34 (by kernel_rfl) rfl rfl ii ii (by first | exact hA_some | exact hA_roT (by (repeat first | exact m0 | refine List.Mem.tail _ ?_); first | done | fail) | exact hA_vecT (by (repeat first | exact m0 | refine List.Mem.tail _ ?_); first | done | fail) | exact hA_vecP (by (repeat first | exact m0 | refine List.Mem.tail _ ?_); first | done | fail) | exact hA_roI (by (repeat first | exact m0 | refine List.Mem.tail _ ?_); first | done | fail) | exact hA_vecI (by (repeat first | exact m0 | refine List.Mem.tail _ ?_); first | done | fail) | exact hA_vecPI (by (repeat first | exact m0 | refine List.Mem.tail _ ?_); first | done | fail) | exact hA_vecPS (by (repeat first | exact m0 | refine List.Mem.tail _ ?_); first | done | fail) | exact hA_ro (by (repeat first | exact m0 | refine List.Mem.tail _ ?_); first | done | fail) | exact hA_vec (by (repeat first | exact m0 | refine List.Mem.tail _ ?_); first | done | fail) | exact hA_roY (by (repeat first | exact m0 | refine List.Mem.tail _ ?_); first | done | fail)) (fun _hc => ⟨(by first | with_reducible rfl | exact (Int.toNat_of_nonneg (by omega)).symm | (have hc := g_gt _hc; exact (Int.toNat_of_nonneg (by omega)).symm)), (by first | omega | (rw [tabY_length]; omega) | (rw [tab_length]; omega) | (rw [part_length]; omega) | (rw [tabI_length]; omega) | (rw [partI_length]; omega) | (rw [List.length_set, part_length]; omega))⟩)) ?_
       first | refine ja_op rfl (.some rfl rfl rfl) (v_loadVec rfl Try.underlying24 (by rfl) rfl ii (by (repeat first | exact m0 | refine List.Mem.tail _ ?_); first | done | fail) (fun _ => (by first | with_reducible exact part_get_ge (by omega) (by omega) | with_reducible exact tab_get (by omega) | with_reducible exact tabI_get (by omega) | with_reducible exact part_get (by omega) | exact part_get_ge (by omega) (by omega) | exact tab_get (by omega) | exact tabI_get (by omega) | exact part_get (by omega) | exact part_set_get (by omega) | exact partI_get (by omega) | exact tabY_get (by omega) | assumption | rfl))) ?_ | refine ja_op rfl (.some rfl rfl rfl) (v_loadRo rfl Try.underlying24 (by rfl) rfl ii (by (repeat first | exact m0 | refine List.Mem.tail _ ?_); first | done | fail) (fun _ => (by first | with_reducible exact part_get_ge (by omega) (by omega) | with_reducible exact tab_get (by omega) | with_reducible exact tabI_get (by omega) | with_reducible exact part_get (by omega) | exact part_get_ge (by omega) (by omega) | exact tab_get (by omega) | exact tabI_get (by omega) | exact part_get (by omega) | exact part_set_get (by omega) | exact partI_get (by omega) | exact tabY_get (by omega) | assumption | rfl))) ?_
       refine ja_op rfl (.some rfl rfl rfl) (v_f2f rfl rfl ii (by rfl) Try.underlying43 (by first | exact fun _ => fits_same | exact fun _ => fits_wide | exact fun _ => fits_sqrt _ | assumption | exact fun _ => by assumption)) ?_
       refine ja_op rfl (.some rfl rfl rfl) (v_fieldAddr rfl Try.underlying50 (by rfl) (by kernel_rfl) rfl tt) ?_
       first | refine ja_op rfl (.some rfl rfl rfl) (v_loadBox rfl Try.underlying34 (by rfl) rfl ii (by (repeat first | exact m0 | refine List.Mem.tail _ ?_); first | done | fail) (by rfl)) ?_ | refine ja_op rfl (.some rfl rfl rfl) (v_loadRoB rfl Try.underlying34 (by rfl) rfl ii (by (repeat first | exact m0 | refine List.Mem.tail _ ?_); first | done | fail) (by rfl)) ?_
       refine ja_op rfl (.some rfl rfl rfl) (v_move rfl rfl tt) ?_
       refine ja_op rfl (.some rfl rfl rfl) (v_indexAddr rfl Try.underlying34 (by kernel_rfl) rfl rfl ii ii (by first | exact hA_some | exact hA_roT (by (repeat first | exact m0 | refine List.Mem.tail _ ?_); first | done | fail) | exact hA_vecT (by (repeat first | exact m0 | refine List.Mem.tail _ ?_); first | done | fail) | exact hA_vecP (by (repeat first | exact m0 | refine List.Mem.tail _ ?_); first | done | fail) | exact hA_roI (by (repeat first | exact m0 | refine List.Mem.tail _ ?_); first | done | fail) | exact hA_vecI (by (repeat first | exact m0 | refine List.Mem.tail _ ?_); first | done | fail) | exact hA_vecPI (by (repeat first | exact m0 | refine List.Mem.tail _ ?_); first | done | fail) | exact hA_vecPS (by (repeat first | exact m0 | refine List.Mem.tail _ ?_); first | done | fail) | exact hA_ro (by (repeat first | exact m0 | refine List.Mem.tail _ ?_); first | done | fail) | exact hA_vec (by (repeat first | exact m0 | refine List.Mem.tail _ ?_); first | done | fail) | exact hA_roY (by (repeat first | exact m0 | refine List.Mem.tail _ ?_); first | done | fail)) (fun _hc => ⟨(by first | with_reducible rfl | exact (Int.toNat_of_nonneg (by omega)).symm | (have hc := g_gt _hc; exact (Int.toNat_of_nonneg (by omega)).symm)), (by first | omega | (rw [tabY_length]; omega) | (rw [tab_length]; omega) | (rw [part_length]; omega) | (rw [tabI_length]; omega) | (rw [partI_length]; omega) | (rw [List.length_set, part_length]; omega))⟩)) ?_
       first | refine ja_op rfl (.some rfl rfl rfl) (v_loadVec rfl Try.underlying24 (by rfl) rfl ii (by (repeat first | exact m0 | refine List.Mem.tail _ ?_); first | done | fail) (fun _ => (by first | with_reducible exact part_get_ge (by omega) (by omega) | with_reducible exact tab_get (by omega) | with_reducible exact tabI_get (by omega) | with_reducible exact part_get (by omega) | exact part_get_ge (by omega) (by omega) | exact tab_get (by omega) | exact tabI_get (by omega) | exact part_get (by omega) | exact part_set_get (by omega) | exact partI_get (by omega) | exact tabY_get (by omega) | assumption | rfl))) ?_ | refine ja_op rfl (.some rfl rfl rfl) (v_loadRo rfl Try.underlying24 (by rfl) rfl ii (by (repeat first | exact m0 | refine List.Mem.tail _ ?_); first | done | fail) (fun _ => (by first | with_reducible exact part_get_ge (by omega) (by omega) | with_reducible exact tab_get (by omega) | with_reducible exact tabI_get (by omega) | with_reducible exact part_get (by omega) | exact part_get_ge (by omega) (by omega) | exact tab_get (by omega) | exact tabI_get (by omega) | exact part_get (by omega) | exact part_set_get (by omega) | exact partI_get (by omega) | exact tabY_get (by omega) | assumption | rfl))) ?_
       refine ja_op rfl (.some rfl rfl rfl) (v_f2f rfl rfl ii (by rfl) Try.underlying43 (by first | exact fun _ => fits_same | exact fun _ => fits_wide | exact fun _ => fits_sqrt _ | assumption | exact fun _ => by assumption)) ?_
       first | refine ja_op rfl (.some rfl rfl rfl) (v_call (f := 29) (xs := [_, _]) rfl (c_gapP (hW := hW) (hf := hf) (hi := (by omega)) ..) (ev_cons rfl ii (ev_cons rfl ii ev_nil)) (by intro w hc hI; first | trivial | (exfalso; simp_all; done) | (clear hc; repeat' (first | exact ros_nil | refine ros_cons ?_ ?_ | exact hI.roRo (by (repeat first | exact m0 | refine List.Mem.tail _ ?_); first | done | fail) | exact hI.boxRo (by (repeat first | exact m0 | refine List.Mem.tail _ ?_); first | done | fail) | exact HInv.vecRo hI (by (repeat first | exact m0 | refine List.Mem.tail _ ?_); first | done | fail))))) ?_ | refine ja_op rfl (.some rfl rfl rfl) (v_call (f := 29) (xs := [_, _]) rfl (c_gapQ (hW := hW) (hf := hf) (hi := (by omega)) ..) (ev_cons rfl ii (ev_cons rfl ii ev_nil)) (by intro w hc hI; first | trivial | (exfalso; simp_all; done) | (clear hc; repeat' (first | exact ros_nil | refine ros_cons ?_ ?_ | exact hI.roRo (by (repeat first | exact m0 | refine List.Mem.tail _ ?_); first | done | fail) | exact hI.boxRo (by (repeat first | exact m0 | refine List.Mem.tail _ ?_); first | done | fail) | exact HInv.vecRo hI (by (repeat first | exact m0 | refine List.Mem.tail _ ?_); first | done | fail))))) ?_
       refine ja_op rfl (.some rfl rfl rfl) (v_fcmp rfl rfl rfl rfl ii tt) ?_
       refine ja_op rfl (.none rfl) (v_or rfl rfl tt rfl fi) ?_
       refine ja_nil rfl ?_)
    | (refine j_region (id := 38) ?_
       refine jl_op rfl rfl (.none rfl) (v_assign rfl rfl tt) ?_
       refine jl_nil ?_)
    | (refine j_region (id := 39) ?_
       first | refine jl_op rfl rfl (.none rfl) (v_loadS rfl Try.underlying47 (by rfl) (by kernel_rfl) rfl tt (by (repeat first | exact m0 | refine List.Mem.tail _ ?_); first | done | fail)) ?_ | refine jl_op rfl rfl (.none rfl) (v_loadSRo rfl Try.underlying47 (by rfl) (by kernel_rfl) rfl tt (by (repeat first | exact m0 | refine List.Mem.tail _ ?_); first | done | fail)) ?_
       first | refine jl_op rfl rfl (.none rfl) (v_loadS rfl Try.underlying50 (by rfl) (by kernel_rfl) rfl tt (by (repeat first | exact m0 | refine List.Mem.tail _ ?_); first | done | fail)) ?_ | refine jl_op rfl rfl (.none rfl) (v_loadSRo rfl Try.underlying50 (by rfl) (by kernel_rfl) rfl tt (by (repeat first | exact m0 | refine List.Mem.tail _ ?_); first | done | fail)) ?_
       refine jl_x rfl rfl rfl (x_call (f := 36) (xs := [_, _, _]) rfl (c_stepQ (hW := hW) (hcap := hcap) ..) (ev_cons rfl tt (ev_cons rfl tt (ev_cons rfl tt ev_nil))) (by intro w hI; repeat' (first | exact ros_nil | refine ros_cons ?_ ?_ | exact hI.roRo (by (repeat first | exact m0 | refine List.Mem.tail _ ?_); first | done | fail) | exact HInv.vecRo hI (by (repeat first | exact m0 | refine List.Mem.tail _ ?_); first | done | fail) | exact ro_zero (HInv.vecRo hI (by (repeat first | exact m0 | refine List.Mem.tail _ ?_); first | done | fail)) | exact ro_head (HInv.vecRo hI (by (repeat first | exact m0 | refine List.Mem.tail _ ?_); first | done | fail)) (by omega) | exact sub_tab (HInv.vecRo hI (by (repeat first | exact m0 | refine List.Mem.tail _ ?_); first | done | fail)) hxc (by omega)))) (fun s301 => ?_)
       refine jl_op rfl rfl (.none rfl) (v_move rfl rfl tt) ?_
       refine jl_op rfl rfl (.none rfl) (v_extract rfl rfl tt rfl) ?_
       refine jl_op rfl rfl (.none rfl) (v_extract rfl rfl tt rfl) ?_
       refine jl_op rfl rfl (.none rfl) (v_extract rfl rfl tt rfl) ?_
       refine jl_alloc rfl rfl rfl rfl zero50 (by rfl) (fun b40 => ?_)
       first | refine jl_storeS (i := 0) rfl rfl rfl (by kernel_rfl) rfl rfl rfl rfl ?_ | refine jl_storeS (i := 1) rfl rfl rfl (by kernel_rfl) rfl rfl rfl rfl ?_ | refine jl_storeS (i := 2) rfl rfl rfl (by kernel_rfl) rfl rfl rfl rfl ?_ | refine jl_storeS (i := 3) rfl rfl rfl (by kernel_rfl) rfl rfl rfl rfl ?_ | refine jl_storeS (i := 4) rfl rfl rfl (by kernel_rfl) rfl rfl rfl rfl ?_ | refine jl_storeS (i := 5) rfl rfl rfl (by kernel_rfl) rfl rfl rfl rfl ?_ | refine jl_storeS (i := 6) rfl rfl rfl (by kernel_rfl) rfl rfl rfl rfl ?_ | refine jl_storeS (i := 7) rfl rfl rfl (by kernel_rfl) rfl rfl rfl rfl ?_
       refine jl_op rfl rfl (.none rfl) (v_assign rfl rfl tt) ?_
       refine jl_op rfl rfl (.none rfl) (v_assign rfl rfl tt) ?_
       refine jl_nil ?_)
    | (refine j_region (id := 40) ?_
       refine jl_op rfl rfl (.none rfl) (v_move rfl rfl tt) ?_
       refine jl_op rfl rfl (.none rfl) (v_move rfl rfl tt) ?_
       refine jl_op rfl rfl (.some rfl rfl rfl) (v_move rfl rfl tt) ?_
       refine jl_op rfl rfl (.some rfl rfl rfl) (v_fcmp rfl rfl rfl rfl ii tt) ?_
       refine jl_op rfl rfl (.none rfl) (v_and rfl rfl tt rfl ti) ?_
       refine jl_op rfl rfl (.none rfl) (v_move rfl rfl tt) ?_
       refine jl_op rfl rfl (.some rfl rfl rfl) (v_fieldAddr rfl Try.underlying50 (by rfl) (by kernel_rfl) rfl tt) ?_
       first | refine jl_op rfl rfl (.some rfl rfl rfl) (v_loadBox rfl Try.underlying34 (by rfl) rfl ii (by (repeat first | exact m0 | refine List.Mem.tail _ ?_); first | done | fail) (by rfl)) ?_ | refine jl_op rfl rfl (.some rfl rfl rfl) (v_loadRoB rfl Try.underlying34 (by rfl) rfl ii (by (repeat first | exact m0 | refine List.Mem.tail _ ?_); first | done | fail) (by rfl)) ?_
       refine jl_op rfl rfl (.some rfl rfl rfl) (v_len rfl rfl Try.underlying34 rfl ii) ?_
       refine jl_op rfl rfl (.some rfl rfl rfl) (v_fieldAddr rfl Try.underlying47 (by rfl) (by kernel_rfl) rfl tt) ?_
       first | refine jl_op rfl rfl (.some rfl rfl rfl) (v_loadBox rfl Try.underlying34 (by rfl) rfl ii (by (repeat first | exact m0 | refine List.Mem.tail _ ?_); first | done | fail) (by rfl)) ?_ | refine jl_op rfl rfl (.some rfl rfl rfl) (v_loadRoB rfl Try.underlying34 (by rfl) rfl ii (by (repeat first | exact m0 | refine List.Mem.tail _ ?_); first | done | fail) (by rfl)) ?_
       refine jl_op rfl rfl (.some rfl rfl rfl) (v_len rfl rfl Try.underlying34 rfl ii) ?_
       refine jl_op rfl rfl (.some rfl rfl rfl) (v_icmp rfl rfl rfl rfl ii ii) ?_
       refine jl_op rfl rfl (.none rfl) (v_and rfl rfl tt rfl ti) ?_
       refine jl_op rfl rfl (.none rfl) (v_move rfl rfl tt) ?_
       refine jl_op rfl rfl (.some rfl rfl rfl) (v_fieldAddr rfl Try.underlying50 (by rfl) (by kernel_rfl) rfl tt) ?_
       first | refine jl_op rfl rfl (.some rfl rfl rfl) (v_loadBox rfl Try.underlying34 (by rfl) rfl ii (by (repeat first | exact m0 | refine List.Mem.tail _ ?_); first | done | fail) (by rfl)) ?_ | refine jl_op rfl rfl (.some rfl rfl rfl) (v_loadRoB rfl Try.underlying34 (by rfl) rfl ii (by (repeat first | exact m0 | refine List.Mem.tail _ ?_); first | done | fail) (by rfl)) ?_
       refine jl_op rfl rfl (.some rfl rfl rfl) (v_indexAddr rfl Try.underlying34 (by kernel_rfl) rfl rfl ii tt (by first | exact hA_some | exact hA_roT (by (repeat first | exact m0 | refine List.Mem.tail _ ?_); first | done | fail) | exact hA_vecT (by (repeat first | exact m0 | refine List.Mem.tail _ ?_); first | done | fail) | exact hA_vecP (by (repeat first | exact m0 | refine List.Mem.tail _ ?_); first | done | fail) | exact hA_roI (by (repeat first | exact m0 | refine List.Mem.tail _ ?_); first | done | fail) | exact hA_vecI (by (repeat first | exact m0 | refine List.Mem.tail _ ?_); first | done | fail) | exact hA_vecPI (by (repeat first | exact m0 | refine List.Mem.tail _ ?_); first | done | fail) | exact hA_vecPS (by (repeat first | exact m0 | refine List.Mem.tail _ ?_); first | done | fail) | exact hA_ro (by (repeat first | exact m0 | refine List.Mem.tail _ ?_); first | done | fail) | exact hA_vec (by (repeat first | exact m0 | refine List.Mem.tail _ ?_); first | done | fail) | exact hA_roY (by (repeat first | exact m0 | refine List.Mem.tail _ ?_); first | done | fail)) (fun _hc => ⟨(by first | with_reducible rfl | exact (Int.toNat_of_nonneg (by omega)).symm | (have hc := g_gt _hc; exact (Int.toNat_of_nonneg (by omega)).symm)), (by first | omega | (rw [tabY_length]; omega) | (rw [tab_length]; omega) | (rw [part_length]; omega) | (rw [tabI_length]; omega) | (rw [partI_length]; omega) | (rw [List.length_set, part_length]; omega))⟩)) ?_
       first | refine jl_op rfl rfl (.some rfl rfl rfl) (v_loadVec rfl Try.underlying24 (by rfl) rfl ii (by (repeat first | exact m0 | refine List.Mem.tail _ ?_); first | done | fail) (fun _ => (by first | with_reducible exact part_get_ge (by omega) (by omega) | with_reducible exact tab_get (by omega) | with_reducible exact tabI_get (by omega) | with_reducible exact part_get (by omega) | exact part_get_ge (by omega) (by omega) | exact tab_get (by omega) | exact tabI_get (by omega) | exact part_get (by omega) | exact part_set_get (by omega) | exact partI_get (by omega) | exact tabY_get (by omega) | assumption | rfl))) ?_ | refine jl_op rfl rfl (.some rfl rfl rfl) (v_loadRo rfl Try.underlying24 (by rfl) rfl ii (by (repeat first | exact m0 | refine List.Mem.tail _ ?_); first | done | fail) (fun _ => (by first | with_reducible exact part_get_ge (by omega) (by omega) | with_reducible exact tab_get (by omega) | with_reducible exact tabI_get (by omega) | with_reducible exact part_get (by omega) | exact part_get_ge (by omega) (by omega) | exact tab_get (by omega) | exact tabI_get (by omega) | exact part_get (by omega) | exact part_set_get (by omega) | exact partI_get (by omega) | exact tabY_get (by omega) | assumption | rfl))) ?_
       refine jl_op rfl rfl (.some rfl rfl rfl) (v_fcmp rfl rfl rfl rfl ii tt) ?_
       refine jl_op rfl rfl (.none rfl) (v_and rfl rfl tt rfl ti) ?_
       refine jl_op rfl rfl (.none rfl) (v_assign rfl rfl tt) ?_
       refine jl_nil ?_)))
  all_goals first | exact jq_ret1 (.inl rfl) Try.results4 rfl | exact jq_retE (.inl rfl) Try.results4 rfl (congrArg Value.bool (w_end (by first | rfl | omega)))
theorem c_lawW3 {w0 : World} (A : Option Addr) (N : Nat) (g1 : Nat → Nat) (B : Option Addr) (M : Nat) (g2 : Nat → Nat) (z : Addr) (zc m : Nat) (g κ r q f : Nat → Nat) (hW : Wd m g κ r q) (hf : ∀ k, k < 8 → waveN (f k)) (hcap : m + 1 ≤ zc) (b5 b25 b28 b36 : Nat) (s144 : ((Option Addr × Nat) × (Option Addr × Nat)) × (Option Addr × Nat)) (s184 : Nat × Nat) (s207 : (Option Addr × Nat) × (Option Addr × Nat)) (X3 : Option Addr) (x3c : Nat) (b195 : ((Option Addr × Nat) × (Option Addr × Nat)) × (Option Addr × Nat)) : J Try.prog Try.f4.ntmps w0 (fun _ => False) (sndS (sndS (sndS (sndS (sndS (sndS (sndS (sndS (sndS (sndS (sndS (sndS (sndS (sndS (sndS (sndS (sndS (sndS (sndS (sndS (sndS (Try.f4.body.getD .skip)))))))))))))))))))))) [(5, true, .pointer (some ⟨b5, 0, none⟩)), (25, true, .pointer (some ⟨b25, 0, none⟩)), (26, true, .slice s144.2.1 8 s144.2.2), (28, true, .pointer (some ⟨b28, 0, none⟩)), (31, true, .slice X3 8 x3c), (34, true, .slice b195.2.1 8 b195.2.2), (36, true, .pointer (some ⟨b36, 0, none⟩))] [.box b36 50 [.slice s207.1.1 (m + 1) s207.1.2, .slice s207.2.1 (m + 1) s207.2.2], .vec 24 s207.1.1 s207.1.2 (tab (m + 1) (fun j => farith .add .f32 ((Zk m g zF zF f 8).1 j) ((Zk m g r q zF 8).1 j))), .vec 24 s207.2.1 s207.2.2 (tab (m + 1) (fun j => farith .add .f32 ((Zk m g zF zF f 8).2 j) ((Zk m g r q zF 8).2 j))), .vec 24 b195.2.1 b195.2.2 (tab 8 (yK m g r q zF)), .vec 24 X3 x3c (tab 8 (yK m g zF zF f)), .box b28 50 [.slice (some ⟨s184.1, 0, none⟩) (m + 1) (m + 1), .slice (some ⟨s184.2, 0, none⟩) (m + 1) (m + 1)], .vec 24 (some ⟨s184.1, 0, none⟩) (m + 1) (tab (m + 1) zF), .vec 24 (some ⟨s184.2, 0, none⟩) (m + 1) (tab (m + 1) zF), .box b25 50 [.slice s144.1.1.1 (m + 1) s144.1.1.2, .slice s144.1.2.1 (m + 1) s144.1.2.2], .vec 24 s144.1.1.1 s144.1.1.2 (tab (m + 1) (Zk m g r q f 8).1), .vec 24 s144.1.2.1 s144.1.2.2 (tab (m + 1) (Zk m g r q f 8).2), .vec 24 s144.2.1 s144.2.2 (tab 8 (yK m g r q f)), .box b5 47 [.slice (some z) (m + 1) zc, F 1065353216, F 1061158912, F 3210739712], .vec 24 (some z) zc (tab (m + 1) g), .ro A (tabY N g1), .ro B (tabY M g2)] (bodyPost Try.prog Try.f4 (Ends (.bool true) w0)) := by
  have h4 := hW.four
  (repeat' (first
    | refine j_part (by omega) ?_
    | refine j_partI (by omega) ?_
    | (refine jq_then (y := .seq (.seq (.region 34 _ _) _) _) ?_; refine j_cut (G := [(5, true, .pointer (some ⟨b5, 0, none⟩)), (25, true, .pointer (some ⟨b25, 0, none⟩)), (28, true, .pointer (some ⟨b28, 0, none⟩)), (36, true, .pointer (some ⟨b36, 0, none⟩))]) (H' := [.box b36 50 [.slice s207.1.1 (m + 1) s207.1.2, .slice s207.2.1 (m + 1) s207.2.2], .vec 24 s207.1.1 s207.1.2 (tab (m + 1) (fun j => farith .add .f32 ((Zk m g zF zF f 8).1 j) ((Zk m g r q zF 8).1 j))), .vec 24 s207.2.1 s207.2.2 (tab (m + 1) (fun j => farith .add .f32 ((Zk m g zF zF f 8).2 j) ((Zk m g r q zF 8).2 j))), .box b28 50 [.slice (some ⟨s184.1, 0, none⟩) (m + 1) (m + 1), .slice (some ⟨s184.2, 0, none⟩) (m + 1) (m + 1)], .vec 24 (some ⟨s184.1, 0, none⟩) (m + 1) (tab (m + 1) zF), .vec 24 (some ⟨s184.2, 0, none⟩) (m + 1) (tab (m + 1) zF), .box b25 50 [.slice s144.1.1.1 (m + 1) s144.1.1.2, .slice s144.1.2.1 (m + 1) s144.1.2.2], .vec 24 s144.1.1.1 s144.1.1.2 (tab (m + 1) (Zk m g r q f 8).1), .vec 24 s144.1.2.1 s144.1.2.2 (tab (m + 1) (Zk m g r q f 8).2), .box b5 47 [.slice (some z) (m + 1) zc, F 1065353216, F 1061158912, F 3210739712], .vec 24 (some z) zc (tab (m + 1) g), .ro A (tabY N g1), .ro B (tabY M g2)]) (fs_cons rfl (fs_cons rfl (fs_cons rfl (fs_cons rfl fs_nil)))) (fun w h => h.sub (by repeat' (first | exact List.Sublist.refl _ | refine List.Sublist.cons_cons _ ?_ | refine List.Sublist.cons _ ?_))) ?_; exact c_lawW4 A N g1 B M g2 z zc m g κ r q f hW hf hcap b5 b25 b28 b36 s144 s184 s207)
    | refine j_condF rfl (w_c1 hW (by first | rfl | decide | omega)) ?_
    | refine j_condF rfl (c_out hW (by omega)) ?_
    | refine j_condF rfl (w_c2 (by first | rfl | omega) (by first | rfl | omega) (by first | rfl | omega)) ?_
    | refine j_condF rfl (w_c3 (by first | rfl | omega)) ?_
    | refine j_condF rfl (q_out hW hf (by omega)).2 ?_
    | refine j_condF rfl (w_c4 hW hf (by omega)) ?_
    | (refine j_loop2 (σ := Nat) (fun k => k ≤ 8) (fun k => [(5, true, .pointer (some ⟨b5, 0, none⟩)), (25, true, .pointer (some ⟨b25, 0, none⟩)), (26, true, .slice s144.2.1 8 s144.2.2), (28, true, .pointer (some ⟨b28, 0, none⟩)), (31, true, .slice X3 8 x3c), (34, true, .slice b195.2.1 8 b195.2.2), (36, true, .pointer (some ⟨b36, 0, none⟩)), (38, true, .int .i64 (k))]) (fun k => [.box b36 50 [.slice s207.1.1 (m + 1) s207.1.2, .slice s207.2.1 (m + 1) s207.2.2], .vec 24 s207.1.1 s207.1.2 (tab (m + 1) (fun j => farith .add .f32 ((Zk m g zF zF f 8).1 j) ((Zk m g r q zF 8).1 j))), .vec 24 s207.2.1 s207.2.2 (tab (m + 1) (fun j => farith .add .f32 ((Zk m g zF zF f 8).2 j) ((Zk m g r q zF 8).2 j))), .vec 24 b195.2.1 b195.2.2 (tab 8 (yK m g r q zF)), .vec 24 X3 x3c (tab 8 (yK m g zF zF f)), .box b28 50 [.slice (some ⟨s184.1, 0, none⟩) (m + 1) (m + 1), .slice (some ⟨s184.2, 0, none⟩) (m + 1) (m + 1)], .vec 24 (some ⟨s184.1, 0, none⟩) (m + 1) (tab (m + 1) zF), .vec 24 (some ⟨s184.2, 0, none⟩) (m + 1) (tab (m + 1) zF), .box b25 50 [.slice s144.1.1.1 (m + 1) s144.1.1.2, .slice s144.1.2.1 (m + 1) s144.1.2.2], .vec 24 s144.1.1.1 s144.1.1.2 (tab (m + 1) (Zk m g r q f 8).1), .vec 24 s144.1.2.1 s144.1.2.2 (tab (m + 1) (Zk m g r q f 8).2), .vec 24 s144.2.1 s144.2.2 (tab 8 (yK m g r q f)), .box b5 47 [.slice (some z) (m + 1) zc, F 1065353216, F 1061158912, F 3210739712], .vec 24 (some z) zc (tab (m + 1) g), .ro A (tabY N g1), .ro B (tabY M g2)]) (fun k => 8 - k) 0 (by omega) (fs_cons rfl (fs_cons rfl (fs_cons rfl (fs_cons rfl (fs_cons rfl (fs_cons rfl (fs_cons rfl (fs_cons rfl fs_nil)))))))) (fun w h => h.sub (by repeat' (first | exact List.Sublist.refl _ | refine List.Sublist.cons_cons _ ?_ | refine List.Sublist.cons _ ?_))) ?_; intro k hk)
    | (exact jq_round (k + 1) (by omega) (by omega) (fs_cons rfl (fs_cons rfl (fs_cons rfl (fs_cons rfl (fs_cons rfl (fs_cons rfl (fs_cons rfl (fs_cons rfl fs_nil)))))))) (fun _ h => h))
    | refine j_condLt rfl (fun _ => ?_) (fun _ => ?_)
    | refine j_condLe rfl (fun _ => ?_) (fun _ => ?_)
    | refine j_condGt rfl (fun _ => ?_) (fun _ => ?_)
    | refine j_condGe rfl (fun _ => ?_) (fun _ => ?_)
    | refine j_condNe rfl (fun _ => ?_) (fun _ => ?_)
    | refine j_condEq rfl (fun _ => ?_) (fun _ => ?_)
    | refine j_condOrLt rfl (fun _ => ?_) (fun _ => ?_)
    | refine j_condAndLt rfl (fun _ => ?_) (fun _ => ?_)
    | refine j_condAndGe rfl (fun _ => ?_) (fun _ => ?_)
    | refine j_seq ?_
    | refine jq_then ?_
    | refine j_block ?_
    | refine j_ret ?_
    | refine jq_then_ret ?_
    | refine jq_block_ret ?_
    | refine jq_block_normal ?_
    | refine jq_then_exit ?_
    | refine jq_block_same rfl ?_
    | refine jq_block_other rfl ?_
    | refine j_skip ?_
    | refine j_exit ?_
    | refine j_label ?_
    | refine j_condCT ?_
    | refine j_condCF ?_
    | refine j_cond rfl (fun _ => ?_) (fun _ => ?_)
    | (refine j_region (id := 29) ?_
       refine jl_op rfl rfl (.none rfl) (v_assign rfl rfl tt) ?_
       refine jl_nil ?_)
    | (refine j_region (id := 30) ?_
       refine jl_op rfl rfl (.none rfl) (v_move rfl rfl tt) ?_
       refine jl_op rfl rfl (.none rfl) (v_icmp rfl rfl rfl rfl tt tt) ?_
       refine jl_nil ?_)
    | (refine j_region (id := 31) ?_
       refine jl_op rfl rfl (.none rfl) (v_move rfl rfl tt) ?_
       refine jl_op rfl rfl (.none rfl) (v_iarith' rfl rfl rfl rfl tt tt (by first | exact fun _ => iw_add (by omega) | exact fun _ => rfl)) ?_
       refine jl_op rfl rfl (.none rfl) (v_assign rfl rfl tt) ?_
       refine jl_nil ?_)
    | (refine j_draw (id := 32) (by kernel_rfl) (by kernel_rfl) ?_
       refine ja_op rfl (.none rfl) (v_move rfl rfl tt) ?_
       refine ja_op rfl (.none rfl) (v_move rfl rfl tt) ?_
       refine ja_op rfl (.none rfl) (v_indexAddr rfl Try.underlying34 (by kernel_rfl) rfl rfl tt tt (by first | exact hA_some | exact hA_roT (by (repeat first | exact m0 | refine List.Mem.tail _ ?_); first | done | fail) | exact hA_vecT (by (repeat first | exact m0 | refine List.Mem.tail _ ?_); first | done | fail) | exact hA_vecP (by (repeat first | exact m0 | refine List.Mem.tail _ ?_); first | done | fail) | exact hA_roI (by (repeat first | exact m0 | refine List.Mem.tail _ ?_); first | done | fail) | exact hA_vecI (by (repeat first | exact m0 | refine List.Mem.tail _ ?_); first | done | fail) | exact hA_vecPI (by (repeat first | exact m0 | refine List.Mem.tail _ ?_); first | done | fail) | exact hA_vecPS (by (repeat first | exact m0 | refine List.Mem.tail _ ?_); first | done | fail) | exact hA_ro (by (repeat first | exact m0 | refine List.Mem.tail _ ?_); first | done | fail) | exact hA_vec (by (repeat first | exact m0 | refine List.Mem.tail _ ?_); first | done | fail) | exact hA_roY (by (repeat first | exact m0 | refine List.Mem.tail _ ?_); first | done | fail)) (fun _hc => ⟨(by first | with_reducible rfl | exact (Int.toNat_of_nonneg (by omega)).symm | (have hc := g_gt _hc; exact (Int.toNat_of_nonneg (by omega)).symm)), (by first | omega | (rw [tabY_length]; omega) | (rw [tab_length]; omega) | (rw [part_length]; omega) | (rw [tabI_length]; omega) | (rw [partI_length]; omega) | (rw [List.length_set, part_length]; omega))⟩)) ?_
       first | refine ja_op rfl (.none rfl) (v_loadVec rfl Try.underlying24 (by rfl) rfl tt (by (repeat first | exact m0 | refine List.Mem.tail _ ?_); first | done | fail) (fun _ => (by first | with_reducible exact part_get_ge (by omega) (by omega) | with_reducible exact tab_get (by omega) | with_reducible exact tabI_get (by omega) | with_reducible exact part_get (by omega) | exact part_get_ge (by omega) (by omega) | exact tab_get (by omega) | exact tabI_get (by omega) | exact part_get (by omega) | exact part_set_get (by omega) | exact partI_get (by omega) | exact tabY_get (by omega) | assumption | rfl))) ?_ | refine ja_op rfl (.none rfl) (v_loadRo rfl Try.underlying24 (by rfl) rfl tt (by (repeat first | exact m0 | refine List.Mem.tail _ ?_); first | done | fail) (fun _ => (by first | with_reducible exact part_get_ge (by omega) (by omega) | with_reducible exact tab_get (by omega) | with_reducible exact tabI_get (by omega) | with_reducible exact part_get (by omega) | exact part_get_ge (by omega) (by omega) | exact tab_get (by omega) | exact tabI_get (by omega) | exact part_get (by omega) | exact part_set_get (by omega) | exact partI_get (by omega) | exact tabY_get (by omega) | assumption | rfl))) ?_
       refine ja_op rfl (.none rfl) (v_f2f rfl rfl tt (by rfl) Try.underlying43 (by first | exact fun _ => fits_same | exact fun _ => fits_wide | exact fun _ => fits_sqrt _ | assumption | exact fun _ => by assumption)) ?_
       refine ja_op rfl (.none rfl) (v_move rfl rfl tt) ?_
       refine ja_op rfl (.none rfl) (v_move rfl rfl tt) ?_
       refine ja_op rfl (.none rfl) (v_indexAddr rfl Try.underlying34 (by kernel_rfl) rfl rfl tt tt (by first | exact hA_some | exact hA_roT (by (repeat first | exact m0 | refine List.Mem.tail _ ?_); first | done | fail) | exact hA_vecT (by (repeat first | exact m0 | refine List.Mem.tail _ ?_); first | done | fail) | exact hA_vecP (by (repeat first | exact m0 | refine List.Mem.tail _ ?_); first | done | fail) | exact hA_roI (by (repeat first | exact m0 | refine List.Mem.tail _ ?_); first | done | fail) | exact hA_vecI (by (repeat first | exact m0 | refine List.Mem.tail _ ?_); first | done | fail) | exact hA_vecPI (by (repeat first | exact m0 | refine List.Mem.tail _ ?_); first | done | fail) | exact hA_vecPS (by (repeat first | exact m0 | refine List.Mem.tail _ ?_); first | done | fail) | exact hA_ro (by (repeat first | exact m0 | refine List.Mem.tail _ ?_); first | done | fail) | exact hA_vec (by (repeat first | exact m0 | refine List.Mem.tail _ ?_); first | done | fail) | exact hA_roY (by (repeat first | exact m0 | refine List.Mem.tail _ ?_); first | done | fail)) (fun _hc => ⟨(by first | with_reducible rfl | exact (Int.toNat_of_nonneg (by omega)).symm | (have hc := g_gt _hc; exact (Int.toNat_of_nonneg (by omega)).symm)), (by first | omega | (rw [tabY_length]; omega) | (rw [tab_length]; omega) | (rw [part_length]; omega) | (rw [tabI_length]; omega) | (rw [partI_length]; omega) | (rw [List.length_set, part_length]; omega))⟩)) ?_
       first | refine ja_op rfl (.none rfl) (v_loadVec rfl Try.underlying24 (by rfl) rfl tt (by (repeat first | exact m0 | refine List.Mem.tail _ ?_); first | done | fail) (fun _ => (by first | with_reducible exact part_get_ge (by omega) (by omega) | with_reducible exact tab_get (by omega) | with_reducible exact tabI_get (by omega) | with_reducible exact part_get (by omega) | exact part_get_ge (by omega) (by omega) | exact tab_get (by omega) | exact tabI_get (by omega) | exact part_get (by omega) | exact part_set_get (by omega) | exact partI_get (by omega) | exact tabY_get (by omega) | assumption | rfl))) ?_ | refine ja_op rfl (.none rfl) (v_loadRo rfl Try.underlying24 (by rfl) rfl tt (by (repeat first | exact m0 | refine List.Mem.tail _ ?_); first | done | fail) (fun _ => (by first | with_reducible exact part_get_ge (by omega) (by omega) | with_reducible exact tab_get (by omega) | with_reducible exact tabI_get (by omega) | with_reducible exact part_get (by omega) | exact part_get_ge (by omega) (by omega) | exact tab_get (by omega) | exact tabI_get (by omega) | exact part_get (by omega) | exact part_set_get (by omega) | exact partI_get (by omega) | exact tabY_get (by omega) | assumption | rfl))) ?_
       refine ja_op rfl (.none rfl) (v_f2f rfl rfl tt (by rfl) Try.underlying43 (by first | exact fun _ => fits_same | exact fun _ => fits_wide | exact fun _ => fits_sqrt _ | assumption | exact fun _ => by assumption)) ?_
       refine ja_op rfl (.none rfl) (v_move rfl rfl tt) ?_
       refine ja_op rfl (.none rfl) (v_move rfl rfl tt) ?_
       refine ja_op rfl (.none rfl) (v_indexAddr rfl Try.underlying34 (by kernel_rfl) rfl rfl tt tt (by first | exact hA_some | exact hA_roT (by (repeat first | exact m0 | refine List.Mem.tail _ ?_); first | done | fail) | exact hA_vecT (by (repeat first | exact m0 | refine List.Mem.tail _ ?_); first | done | fail) | exact hA_vecP (by (repeat first | exact m0 | refine List.Mem.tail _ ?_); first | done | fail) | exact hA_roI (by (repeat first | exact m0 | refine List.Mem.tail _ ?_); first | done | fail) | exact hA_vecI (by (repeat first | exact m0 | refine List.Mem.tail _ ?_); first | done | fail) | exact hA_vecPI (by (repeat first | exact m0 | refine List.Mem.tail _ ?_); first | done | fail) | exact hA_vecPS (by (repeat first | exact m0 | refine List.Mem.tail _ ?_); first | done | fail) | exact hA_ro (by (repeat first | exact m0 | refine List.Mem.tail _ ?_); first | done | fail) | exact hA_vec (by (repeat first | exact m0 | refine List.Mem.tail _ ?_); first | done | fail) | exact hA_roY (by (repeat first | exact m0 | refine List.Mem.tail _ ?_); first | done | fail)) (fun _hc => ⟨(by first | with_reducible rfl | exact (Int.toNat_of_nonneg (by omega)).symm | (have hc := g_gt _hc; exact (Int.toNat_of_nonneg (by omega)).symm)), (by first | omega | (rw [tabY_length]; omega) | (rw [tab_length]; omega) | (rw [part_length]; omega) | (rw [tabI_length]; omega) | (rw [partI_length]; omega) | (rw [List.length_set, part_length]; omega))⟩)) ?_
       first | refine ja_op rfl (.none rfl) (v_loadVec rfl Try.underlying24 (by rfl) rfl tt (by (repeat first | exact m0 | refine List.Mem.tail _ ?_); first | done | fail) (fun _ => (by first | with_reducible exact part_get_ge (by omega) (by omega) | with_reducible exact tab_get (by omega) | with_reducible exact tabI_get (by omega) | with_reducible exact part_get (by omega) | exact part_get_ge (by omega) (by omega) | exact tab_get (by omega) | exact tabI_get (by omega) | exact part_get (by omega) | exact part_set_get (by omega) | exact partI_get (by omega) | exact tabY_get (by omega) | assumption | rfl))) ?_ | refine ja_op rfl (.none rfl) (v_loadRo rfl Try.underlying24 (by rfl) rfl tt (by (repeat first | exact m0 | refine List.Mem.tail _ ?_); first | done | fail) (fun _ => (by first | with_reducible exact part_get_ge (by omega) (by omega) | with_reducible exact tab_get (by omega) | with_reducible exact tabI_get (by omega) | with_reducible exact part_get (by omega) | exact part_get_ge (by omega) (by omega) | exact tab_get (by omega) | exact tabI_get (by omega) | exact part_get (by omega) | exact part_set_get (by omega) | exact partI_get (by omega) | exact tabY_get (by omega) | assumption | rfl))) ?_
       refine ja_op rfl (.none rfl) (v_f2f rfl rfl tt (by rfl) Try.underlying43 (by first | exact fun _ => fits_same | exact fun _ => fits_wide | exact fun _ => fits_sqrt _ | assumption | exact fun _ => by assumption)) ?_
       refine ja_op rfl (.none rfl) (v_farith rfl rfl rfl rfl tt tt) ?_
       refine ja_op rfl (.none rfl) (v_call (f := 29) (xs := [_, _]) rfl (c_gapO (hW := hW) (hf := hf) (hk := (by omega)) ..) (ev_cons rfl tt (ev_cons rfl tt ev_nil)) (by intro w hc hI; first | trivial | (exfalso; simp_all; done) | (clear hc; repeat' (first | exact ros_nil | refine ros_cons ?_ ?_ | exact hI.roRo (by (repeat first | exact m0 | refine List.Mem.tail _ ?_); first | done | fail) | exact hI.boxRo (by (repeat first | exact m0 | refine List.Mem.tail _ ?_); first | done | fail) | exact HInv.vecRo hI (by (repeat first | exact m0 | refine List.Mem.tail _ ?_); first | done | fail))))) ?_
       refine ja_op rfl (.none rfl) (v_fcmp rfl rfl rfl rfl tt tt) ?_
       refine ja_nil rfl ?_)
    | (refine j_region (id := 33) ?_
       refine jl_op rfl rfl (.none rfl) (v_assign rfl rfl tt) ?_
       refine jl_nil ?_)))
  all_goals first | exact jq_ret1 (.inl rfl) Try.results4 rfl | exact jq_retE (.inl rfl) Try.results4 rfl (congrArg Value.bool (w_end (by first | rfl | omega)))
theorem c_lawW2 {w0 : World} (A : Option Addr) (N : Nat) (g1 : Nat → Nat) (B : Option Addr) (M : Nat) (g2 : Nat → Nat) (z : Addr) (zc m : Nat) (g κ r q f : Nat → Nat) (hW : Wd m g κ r q) (hf : ∀ k, k < 8 → waveN (f k)) (hcap : m + 1 ≤ zc) (c d : Addr) (rc mc : Nat) (X : Option Addr) (xc : Nat) (b5 b6 b25 : Nat) (s144 : ((Option Addr × Nat) × (Option Addr × Nat)) × (Option Addr × Nat)) : J Try.prog Try.f4.ntmps w0 (fun _ => False) (sndS (sndS (sndS (sndS (sndS (sndS (sndS (sndS (sndS (sndS (sndS (sndS (sndS (sndS (sndS (sndS (Try.f4.body.getD .skip))))))))))))))))) [(5, true, .pointer (some ⟨b5, 0, none⟩)), (6, true, .pointer (some ⟨b6, 0, none⟩)), (17, true, .slice X 8 xc), (25, true, .pointer (some ⟨b25, 0, none⟩)), (26, true, .slice s144.2.1 8 s144.2.2)] [.box b25 50 [.slice s144.1.1.1 (m + 1) s144.1.1.2, .slice s144.1.2.1 (m + 1) s144.1.2.2], .vec 24 s144.1.1.1 s144.1.1.2 (tab (m + 1) (Zk m g r q f 8).1), .vec 24 s144.1.2.1 s144.1.2.2 (tab (m + 1) (Zk m g r q f 8).2), .vec 24 s144.2.1 s144.2.2 (tab 8 (yK m g r q f)), .vec 24 X xc (tab 8 f), .box b6 50 [.slice (some c) (m + 1) rc, .slice (some d) (m + 1) mc], .vec 24 (some c) rc (tab (m + 1) r), .vec 24 (some d) mc (tab (m + 1) q), .box b5 47 [.slice (some z) (m + 1) zc, F 1065353216, F 1061158912, F 3210739712], .vec 24 (some z) zc (tab (m + 1) g), .ro A (tabY N g1), .ro B (tabY M g2)] (bodyPost Try.prog Try.f4 (Ends (.bool true) w0)) := by
  have h4 := hW.four
  (repeat' (first
    | (refine jq_then (y := .seq (.seq (.region 29 _ _) _) _) ?_; refine j_cut (G := [(5, true, .pointer (some ⟨b5, 0, none⟩)), (25, true, .pointer (some ⟨b25, 0, none⟩)), (26, true, .slice s144.2.1 8 s144.2.2), (28, true, .pointer (some ⟨b28, 0, none⟩)), (31, true, .slice X3 8 x3c), (34, true, .slice b195.2.1 8 b195.2.2), (36, true, .pointer (some ⟨b36, 0, none⟩))]) (H' := [.box b36 50 [.slice s207.1.1 (m + 1) s207.1.2, .slice s207.2.1 (m + 1) s207.2.2], .vec 24 s207.1.1 s207.1.2 (tab (m + 1) (fun j => farith .add .f32 ((Zk m g zF zF f 8).1 j) ((Zk m g r q zF 8).1 j))), .vec 24 s207.2.1 s207.2.2 (tab (m + 1) (fun j => farith .add .f32 ((Zk m g zF zF f 8).2 j) ((Zk m g r q zF 8).2 j))), .vec 24 b195.2.1 b195.2.2 (tab 8 (yK m g r q zF)), .vec 24 X3 x3c (tab 8 (yK m g zF zF f)), .box b28 50 [.slice (some ⟨s184.1, 0, none⟩) (m + 1) (m + 1), .slice (some ⟨s184.2, 0, none⟩) (m + 1) (m + 1)], .vec 24 (some ⟨s184.1, 0, none⟩) (m + 1) (tab (m + 1) zF), .vec 24 (some ⟨s184.2, 0, none⟩) (m + 1) (tab (m + 1) zF), .box b25 50 [.slice s144.1.1.1 (m + 1) s144.1.1.2, .slice s144.1.2.1 (m + 1) s144.1.2.2], .vec 24 s144.1.1.1 s144.1.1.2 (tab (m + 1) (Zk m g r q f 8).1), .vec 24 s144.1.2.1 s144.1.2.2 (tab (m + 1) (Zk m g r q f 8).2), .vec 24 s144.2.1 s144.2.2 (tab 8 (yK m g r q f)), .box b5 47 [.slice (some z) (m + 1) zc, F 1065353216, F 1061158912, F 3210739712], .vec 24 (some z) zc (tab (m + 1) g), .ro A (tabY N g1), .ro B (tabY M g2)]) (fs_cons rfl (fs_cons rfl (fs_cons rfl (fs_cons rfl (fs_cons rfl (fs_cons rfl (fs_cons rfl fs_nil))))))) (fun w h => h.sub (by repeat' (first | exact List.Sublist.refl _ | refine List.Sublist.cons_cons _ ?_ | refine List.Sublist.cons _ ?_))) ?_; exact c_lawW3 A N g1 B M g2 z zc m g κ r q f hW hf hcap b5 b25 b28 b36 s144 s184 s207 X3 x3c b195)
    | refine j_condF rfl (w_c1 hW (by first | rfl | decide | omega)) ?_
    | refine j_condF rfl (c_out hW (by omega)) ?_
    | refine j_condF rfl (w_c2 (by first | rfl | omega) (by first | rfl | omega) (by first | rfl | omega)) ?_
    | refine j_condF rfl (w_c3 (by first | rfl | omega)) ?_
    | refine j_condF rfl (q_out hW hf (by omega)).2 ?_
    | refine j_condF rfl (w_c4 hW hf (by omega)) ?_
    | refine j_condLt rfl (fun _ => ?_) (fun _ => ?_)
    | refine j_condLe rfl (fun _ => ?_) (fun _ => ?_)
    | refine j_condGt rfl (fun _ => ?_) (fun _ => ?_)
    | refine j_condGe rfl (fun _ => ?_) (fun _ => ?_)
    | refine j_condNe rfl (fun _ => ?_) (fun _ => ?_)
    | refine j_condEq rfl (fun _ => ?_) (fun _ => ?_)
    | refine j_condOrLt rfl (fun _ => ?_) (fun _ => ?_)
    | refine j_condAndLt rfl (fun _ => ?_) (fun _ => ?_)
    | refine j_condAndGe rfl (fun _ => ?_) (fun _ => ?_)
    | refine j_seq ?_
    | refine jq_then ?_
    | refine j_block ?_
    | refine j_ret ?_
    | refine jq_then_ret ?_
    | refine jq_block_ret ?_
    | refine jq_block_normal ?_
    | refine jq_then_exit ?_
    | refine jq_block_same rfl ?_
    | refine jq_block_other rfl ?_
    | refine j_skip ?_
    | refine j_exit ?_
    | refine j_label ?_
    | refine j_condCT ?_
    | refine j_condCF ?_
    | refine j_cond rfl (fun _ => ?_) (fun _ => ?_)
    | (refine j_region (id := 23) ?_
       first | refine jl_op rfl rfl (.none rfl) (v_loadS rfl Try.underlying47 (by rfl) (by kernel_rfl) rfl tt (by (repeat first | exact m0 | refine List.Mem.tail _ ?_); first | done | fail)) ?_ | refine jl_op rfl rfl (.none rfl) (v_loadSRo rfl Try.underlying47 (by rfl) (by kernel_rfl) rfl tt (by (repeat first | exact m0 | refine List.Mem.tail _ ?_); first | done | fail)) ?_
       refine jl_x rfl rfl rfl (x_call (f := 33) (xs := [_]) rfl (c_stillQ (hW := hW) ..) (ev_cons rfl tt ev_nil) (by intro w hI; repeat' (first | exact ros_nil | refine ros_cons ?_ ?_ | exact hI.roRo (by (repeat first | exact m0 | refine List.Mem.tail _ ?_); first | done | fail) | exact HInv.vecRo hI (by (repeat first | exact m0 | refine List.Mem.tail _ ?_); first | done | fail) | exact ro_zero (HInv.vecRo hI (by (repeat first | exact m0 | refine List.Mem.tail _ ?_); first | done | fail)) | exact ro_head (HInv.vecRo hI (by (repeat first | exact m0 | refine List.Mem.tail _ ?_); first | done | fail)) (by omega) | exact sub_tab (HInv.vecRo hI (by (repeat first | exact m0 | refine List.Mem.tail _ ?_); first | done | fail)) hxc (by omega)))) (fun s184 => ?_)
       refine jl_op rfl rfl (.none rfl) (v_move rfl rfl tt) ?_
       refine jl_op rfl rfl (.none rfl) (v_extract rfl rfl tt rfl) ?_
       refine jl_op rfl rfl (.none rfl) (v_extract rfl rfl tt rfl) ?_
       refine jl_alloc rfl rfl rfl rfl zero50 (by rfl) (fun b28 => ?_)
       first | refine jl_storeS (i := 0) rfl rfl rfl (by kernel_rfl) rfl rfl rfl rfl ?_ | refine jl_storeS (i := 1) rfl rfl rfl (by kernel_rfl) rfl rfl rfl rfl ?_ | refine jl_storeS (i := 2) rfl rfl rfl (by kernel_rfl) rfl rfl rfl rfl ?_ | refine jl_storeS (i := 3) rfl rfl rfl (by kernel_rfl) rfl rfl rfl rfl ?_ | refine jl_storeS (i := 4) rfl rfl rfl (by kernel_rfl) rfl rfl rfl rfl ?_ | refine jl_storeS (i := 5) rfl rfl rfl (by kernel_rfl) rfl rfl rfl rfl ?_ | refine jl_storeS (i := 6) rfl rfl rfl (by kernel_rfl) rfl rfl rfl rfl ?_ | refine jl_storeS (i := 7) rfl rfl rfl (by kernel_rfl) rfl rfl rfl rfl ?_
       refine jl_op rfl rfl (.none rfl) (v_assign rfl rfl tt) ?_
       refine jl_nil ?_)
    | (refine j_region (id := 24) ?_
       first | refine jl_op rfl rfl (.none rfl) (v_loadS rfl Try.underlying47 (by rfl) (by kernel_rfl) rfl tt (by (repeat first | exact m0 | refine List.Mem.tail _ ?_); first | done | fail)) ?_ | refine jl_op rfl rfl (.none rfl) (v_loadSRo rfl Try.underlying47 (by rfl) (by kernel_rfl) rfl tt (by (repeat first | exact m0 | refine List.Mem.tail _ ?_); first | done | fail)) ?_
       first | refine jl_op rfl rfl (.none rfl) (v_loadS rfl Try.underlying50 (by rfl) (by kernel_rfl) rfl tt (by (repeat first | exact m0 | refine List.Mem.tail _ ?_); first | done | fail)) ?_ | refine jl_op rfl rfl (.none rfl) (v_loadSRo rfl Try.underlying50 (by rfl) (by kernel_rfl) rfl tt (by (repeat first | exact m0 | refine List.Mem.tail _ ?_); first | done | fail)) ?_
       refine jl_op rfl rfl (.none rfl) (v_move rfl rfl tt) ?_
       refine jl_x rfl rfl rfl (x_call (f := 27) (xs := [_, _, _]) rfl (c_runU (hW := hW) (hf := hf) (hcap := hcap) ..) (ev_cons rfl tt (ev_cons rfl tt (ev_cons rfl tt ev_nil))) (by intro w hI; repeat' (first | exact ros_nil | refine ros_cons ?_ ?_ | exact hI.roRo (by (repeat first | exact m0 | refine List.Mem.tail _ ?_); first | done | fail) | exact HInv.vecRo hI (by (repeat first | exact m0 | refine List.Mem.tail _ ?_); first | done | fail) | exact ro_zero (HInv.vecRo hI (by (repeat first | exact m0 | refine List.Mem.tail _ ?_); first | done | fail)) | exact ro_head (HInv.vecRo hI (by (repeat first | exact m0 | refine List.Mem.tail _ ?_); first | done | fail)) (by omega) | exact sub_tab (HInv.vecRo hI (by (repeat first | exact m0 | refine List.Mem.tail _ ?_); first | done | fail)) hxc (by omega)))) (fun s191 => ?_); obtain ⟨⟨⟨R3, r3c⟩, ⟨L3, l3c⟩⟩, ⟨X3, x3c⟩⟩ := s191; dsimp only; rcases R3 with _ | c3; (first | exact jl_none 0 rfl (by omega)); rcases L3 with _ | d3; (first | exact jl_none 1 rfl (by omega))
       refine jl_op rfl rfl (.none rfl) (v_move rfl rfl tt) ?_
       refine jl_op rfl rfl (.none rfl) (v_extract rfl rfl tt rfl) ?_
       refine jl_op rfl rfl (.none rfl) (v_extract rfl rfl tt rfl) ?_
       refine jl_op rfl rfl (.none rfl) (v_extract rfl rfl tt rfl) ?_
       refine jl_alloc rfl rfl rfl rfl zero50 (by rfl) (fun b30 => ?_)
       first | refine jl_storeS (i := 0) rfl rfl rfl (by kernel_rfl) rfl rfl rfl rfl ?_ | refine jl_storeS (i := 1) rfl rfl rfl (by kernel_rfl) rfl rfl rfl rfl ?_ | refine jl_storeS (i := 2) rfl rfl rfl (by kernel_rfl) rfl rfl rfl rfl ?_ | refine jl_storeS (i := 3) rfl rfl rfl (by kernel_rfl) rfl rfl rfl rfl ?_ | refine jl_storeS (i := 4) rfl rfl rfl (by kernel_rfl) rfl rfl rfl rfl ?_ | refine jl_storeS (i := 5) rfl rfl rfl (by kernel_rfl) rfl rfl rfl rfl ?_ | refine jl_storeS (i := 6) rfl rfl rfl (by kernel_rfl) rfl rfl rfl rfl ?_ | refine jl_storeS (i := 7) rfl rfl rfl (by kernel_rfl) rfl rfl rfl rfl ?_
       refine jl_op rfl rfl (.none rfl) (v_assign rfl rfl tt) ?_
       refine jl_op rfl rfl (.none rfl) (v_assign rfl rfl tt) ?_
       refine jl_nil ?_)
    | (refine j_drawZP (id := 25) (m := 9) [6, 7] [(198, [2]), (199, [3, 2]), (195, [4, 3, 2]), (200, [5, 4, 3, 2]), (201, [6, 4, 3, 2]), (33, [8])] [none, none, some [], some [], some [199], some [195], some [195], none, some []] (by kernel_rfl) (by kernel_rfl) (by repeat' (first | exact panOK_body | refine panOK_then ?_ | refine panOK_in ?_)) (fun Bq hBq => ?_)
       first | refine jz_op rfl (.none rfl) (v_loadS rfl Try.underlying47 (by rfl) (by kernel_rfl) rfl tt (by (repeat first | exact m0 | refine List.Mem.tail _ ?_); first | done | fail)) ?_ | refine jz_op rfl (.none rfl) (v_loadSRo rfl Try.underlying47 (by rfl) (by kernel_rfl) rfl tt (by (repeat first | exact m0 | refine List.Mem.tail _ ?_); first | done | fail)) ?_
       first | refine jz_op rfl (.none rfl) (v_loadS rfl Try.underlying50 (by rfl) (by kernel_rfl) rfl tt (by (repeat first | exact m0 | refine List.Mem.tail _ ?_); first | done | fail)) ?_ | refine jz_op rfl (.none rfl) (v_loadSRo rfl Try.underlying50 (by rfl) (by kernel_rfl) rfl tt (by (repeat first | exact m0 | refine List.Mem.tail _ ?_); first | done | fail)) ?_
       refine jz_x rfl rfl rfl (x_make (by' := 4) (Z := F 0) rfl Try.underlying34 (by kernel_rfl) zero24 rfl (by kernel_rfl) (by rfl) rfl rfl (by first | omega | decide)) (by first | exact runQ_Vin | exact runW_Vin | exact fun _ _ h => ⟨_, .head _, h⟩ | exact fun _ _ h => ⟨_, .head _, inV_tup2 rfl rfl h⟩ | exact fun _ _ h => ⟨_, .head _, inV_tup1 rfl h⟩ | exact fun _ _ h => ⟨_, .head _, inV_agg1 rfl (inV_tup1 rfl h)⟩ | exact fun _ _ h => ⟨_, .head _, inV_agg1 rfl h⟩ | exact fun _ _ h => (inV_agg2 h).elim (fun h => ⟨_, .head _, h⟩) (fun h => ⟨_, .tail _ (.head _), h⟩) | exact fun _ _ h => (inV_agg2 h).elim (fun h => ⟨_, .tail _ (.head _), h⟩) (fun h => ⟨_, .head _, h⟩) | exact fun _ _ h => (inV_agg2 (inV_tup1 rfl h)).elim (fun h => ⟨_, .head _, h⟩) (fun h => ⟨_, .tail _ (.head _), h⟩) | exact fun _ _ h => (inV_agg2 (inV_tup1 rfl h)).elim (fun h => ⟨_, .tail _ (.head _), h⟩) (fun h => ⟨_, .head _, h⟩)) ?_
       refine jz_px rfl rfl rfl (pz_open 198 rfl rfl (by kernel_rfl) (fun s198 => pz_x (x_call (f := 27) (xs := [_, _, _]) rfl (c_runV (hW := hW) (hcap := hcap) ..) (ev_cons rfl tt (ev_cons rfl tt (ev_cons rfl tt ev_nil))) (by intro w hI; repeat' (first | exact ros_nil | refine ros_cons ?_ ?_ | exact hI.roRo (by (repeat first | exact m0 | refine List.Mem.tail _ ?_); first | done | fail) | exact HInv.vecRo hI (by (repeat first | exact m0 | refine List.Mem.tail _ ?_); first | done | fail) | exact ro_zero (HInv.vecRo hI (by (repeat first | exact m0 | refine List.Mem.tail _ ?_); first | done | fail)) | exact ro_head (HInv.vecRo hI (by (repeat first | exact m0 | refine List.Mem.tail _ ?_); first | done | fail)) (by omega) | exact sub_tab (HInv.vecRo hI (by (repeat first | exact m0 | refine List.Mem.tail _ ?_); first | done | fail)) hxc (by omega)))))) (by first | exact runQ_Vin | exact runW_Vin | exact fun _ _ h => ⟨_, .head _, h⟩ | exact fun _ _ h => ⟨_, .head _, inV_tup2 rfl rfl h⟩ | exact fun _ _ h => ⟨_, .head _, inV_tup1 rfl h⟩ | exact fun _ _ h => ⟨_, .head _, inV_agg1 rfl (inV_tup1 rfl h)⟩ | exact fun _ _ h => ⟨_, .head _, inV_agg1 rfl h⟩ | exact fun _ _ h => (inV_agg2 h).elim (fun h => ⟨_, .head _, h⟩) (fun h => ⟨_, .tail _ (.head _), h⟩) | exact fun _ _ h => (inV_agg2 h).elim (fun h => ⟨_, .tail _ (.head _), h⟩) (fun h => ⟨_, .head _, h⟩) | exact fun _ _ h => (inV_agg2 (inV_tup1 rfl h)).elim (fun h => ⟨_, .head _, h⟩) (fun h => ⟨_, .tail _ (.head _), h⟩) | exact fun _ _ h => (inV_agg2 (inV_tup1 rfl h)).elim (fun h => ⟨_, .tail _ (.head _), h⟩) (fun h => ⟨_, .head _, h⟩)) ?_
       refine jz_xv (t := 199) rfl rfl rfl hBq rfl rfl (by kernel_rfl) (fun s199 => v_move rfl rfl tt) (by first | exact fun _ _ h => h | exact fun _ _ h => inV_tup1' h | exact fun _ _ h => inV_agg1 rfl h | exact fun _ _ h => inV_agg1' (inV_agg1 rfl h) | exact fun _ _ h => inV_tup2' h) ?_
       refine jz_xv (t := 195) rfl rfl rfl hBq rfl rfl (by kernel_rfl) (fun s195 => v_extract rfl rfl tt rfl) (by first | exact fun _ _ h => h | exact fun _ _ h => inV_tup1' h | exact fun _ _ h => inV_agg1 rfl h | exact fun _ _ h => inV_agg1' (inV_agg1 rfl h) | exact fun _ _ h => inV_tup2' h) ?_
       refine jz_xv (t := 195) rfl rfl rfl hBq rfl rfl (by kernel_rfl) (fun s195 => v_extract rfl rfl tt rfl) (by first | exact fun _ _ h => h | exact fun _ _ h => inV_tup1' h | exact fun _ _ h => inV_agg1 rfl h | exact fun _ _ h => inV_agg1' (inV_agg1 rfl h) | exact fun _ _ h => inV_tup2' h) ?_
       refine jz_v1 (t := 195) rfl rfl hBq rfl rfl (by kernel_rfl) (fun s195 => v_extract rfl rfl tt rfl) ?_
       refine jz_x rfl rfl rfl (x_alloc rfl zero50 (by rfl)) (by first | exact runQ_Vin | exact runW_Vin | exact fun _ _ h => ⟨_, .head _, h⟩ | exact fun _ _ h => ⟨_, .head _, inV_tup2 rfl rfl h⟩ | exact fun _ _ h => ⟨_, .head _, inV_tup1 rfl h⟩ | exact fun _ _ h => ⟨_, .head _, inV_agg1 rfl (inV_tup1 rfl h)⟩ | exact fun _ _ h => ⟨_, .head _, inV_agg1 rfl h⟩ | exact fun _ _ h => (inV_agg2 h).elim (fun h => ⟨_, .head _, h⟩) (fun h => ⟨_, .tail _ (.head _), h⟩) | exact fun _ _ h => (inV_agg2 h).elim (fun h => ⟨_, .tail _ (.head _), h⟩) (fun h => ⟨_, .head _, h⟩) | exact fun _ _ h => (inV_agg2 (inV_tup1 rfl h)).elim (fun h => ⟨_, .head _, h⟩) (fun h => ⟨_, .tail _ (.head _), h⟩) | exact fun _ _ h => (inV_agg2 (inV_tup1 rfl h)).elim (fun h => ⟨_, .tail _ (.head _), h⟩) (fun h => ⟨_, .head _, h⟩)) ?_
       refine jz_nil2P (d1 := 195) (d2 := 33) rfl hBq rfl rfl rfl rfl (by kernel_rfl) (fun s f hf k hk => by first | exact runQ_inV s f hf k hk | exact runW_inV s f hf k hk | (obtain rfl := mem1 hf; first | exact hk | exact inV_agg1' hk) | (rcases mem2 hf with rfl | rfl; exact inV_agg2l hk; exact inV_agg2r hk)) (fun s f hf k hk => by first | exact runQ_inV s f hf k hk | exact runW_inV s f hf k hk | (obtain rfl := mem1 hf; first | exact hk | exact inV_agg1' hk) | (rcases mem2 hf with rfl | rfl; exact inV_agg2l hk; exact inV_agg2r hk)) (fun b195 b33 => ?_)
       refine jlp_ext 5 rfl rfl rfl rfl rfl rfl rfl ?_
       refine jlp_ext 6 rfl rfl rfl rfl rfl rfl rfl ?_
       refine jlp_done ?_
       first | refine jl_storeS (i := 0) rfl rfl rfl (by kernel_rfl) rfl rfl rfl rfl ?_ | refine jl_storeS (i := 1) rfl rfl rfl (by kernel_rfl) rfl rfl rfl rfl ?_ | refine jl_storeS (i := 2) rfl rfl rfl (by kernel_rfl) rfl rfl rfl rfl ?_ | refine jl_storeS (i := 3) rfl rfl rfl (by kernel_rfl) rfl rfl rfl rfl ?_ | refine jl_storeS (i := 4) rfl rfl rfl (by kernel_rfl) rfl rfl rfl rfl ?_ | refine jl_storeS (i := 5) rfl rfl rfl (by kernel_rfl) rfl rfl rfl rfl ?_ | refine jl_storeS (i := 6) rfl rfl rfl (by kernel_rfl) rfl rfl rfl rfl ?_ | refine jl_storeS (i := 7) rfl rfl rfl (by kernel_rfl) rfl rfl rfl rfl ?_
       refine jl_op rfl rfl (.none rfl) (v_assign rfl rfl tt) ?_
       refine jl_op rfl rfl (.none rfl) (v_assign rfl rfl tt) ?_
       refine jl_nil ?_)
    | (refine j_region (id := 26) ?_
       first | refine jl_op rfl rfl (.none rfl) (v_loadS rfl Try.underlying47 (by rfl) (by kernel_rfl) rfl tt (by (repeat first | exact m0 | refine List.Mem.tail _ ?_); first | done | fail)) ?_ | refine jl_op rfl rfl (.none rfl) (v_loadSRo rfl Try.underlying47 (by rfl) (by kernel_rfl) rfl tt (by (repeat first | exact m0 | refine List.Mem.tail _ ?_); first | done | fail)) ?_
       first | refine jl_op rfl rfl (.none rfl) (v_loadS rfl Try.underlying50 (by rfl) (by kernel_rfl) rfl tt (by (repeat first | exact m0 | refine List.Mem.tail _ ?_); first | done | fail)) ?_ | refine jl_op rfl rfl (.none rfl) (v_loadSRo rfl Try.underlying50 (by rfl) (by kernel_rfl) rfl tt (by (repeat first | exact m0 | refine List.Mem.tail _ ?_); first | done | fail)) ?_
       first | refine jl_op rfl rfl (.none rfl) (v_loadS rfl Try.underlying50 (by rfl) (by kernel_rfl) rfl tt (by (repeat first | exact m0 | refine List.Mem.tail _ ?_); first | done | fail)) ?_ | refine jl_op rfl rfl (.none rfl) (v_loadSRo rfl Try.underlying50 (by rfl) (by kernel_rfl) rfl tt (by (repeat first | exact m0 | refine List.Mem.tail _ ?_); first | done | fail)) ?_
       refine jl_x rfl rfl rfl (x_call (f := 34) (xs := [_, _, _]) rfl (c_addQ (hW := hW) (hf := hf) ..) (ev_cons rfl tt (ev_cons rfl tt (ev_cons rfl tt ev_nil))) (by intro w hI; repeat' (first | exact ros_nil | refine ros_cons ?_ ?_ | exact hI.roRo (by (repeat first | exact m0 | refine List.Mem.tail _ ?_); first | done | fail) | exact HInv.vecRo hI (by (repeat first | exact m0 | refine List.Mem.tail _ ?_); first | done | fail) | exact ro_zero (HInv.vecRo hI (by (repeat first | exact m0 | refine List.Mem.tail _ ?_); first | done | fail)) | exact ro_head (HInv.vecRo hI (by (repeat first | exact m0 | refine List.Mem.tail _ ?_); first | done | fail)) (by omega) | exact sub_tab (HInv.vecRo hI (by (repeat first | exact m0 | refine List.Mem.tail _ ?_); first | done | fail)) hxc (by omega)))) (fun s207 => ?_)
       refine jl_op rfl rfl (.none rfl) (v_move rfl rfl tt) ?_
       refine jl_op rfl rfl (.none rfl) (v_extract rfl rfl tt rfl) ?_
       refine jl_op rfl rfl (.none rfl) (v_extract rfl rfl tt rfl) ?_
       refine jl_alloc rfl rfl rfl rfl zero50 (by rfl) (fun b36 => ?_)
       first | refine jl_storeS (i := 0) rfl rfl rfl (by kernel_rfl) rfl rfl rfl rfl ?_ | refine jl_storeS (i := 1) rfl rfl rfl (by kernel_rfl) rfl rfl rfl rfl ?_ | refine jl_storeS (i := 2) rfl rfl rfl (by kernel_rfl) rfl rfl rfl rfl ?_ | refine jl_storeS (i := 3) rfl rfl rfl (by kernel_rfl) rfl rfl rfl rfl ?_ | refine jl_storeS (i := 4) rfl rfl rfl (by kernel_rfl) rfl rfl rfl rfl ?_ | refine jl_storeS (i := 5) rfl rfl rfl (by kernel_rfl) rfl rfl rfl rfl ?_ | refine jl_storeS (i := 6) rfl rfl rfl (by kernel_rfl) rfl rfl rfl rfl ?_ | refine jl_storeS (i := 7) rfl rfl rfl (by kernel_rfl) rfl rfl rfl rfl ?_
       refine jl_op rfl rfl (.none rfl) (v_assign rfl rfl tt) ?_
       refine jl_nil ?_)
    | (refine j_region (id := 27) ?_
       refine jl_op rfl rfl (.none rfl) (v_move rfl rfl tt) ?_
       refine jl_op rfl rfl (.none rfl) (v_not rfl rfl tt) ?_
       refine jl_op rfl rfl (.none rfl) (v_move rfl rfl tt) ?_
       refine jl_op rfl rfl (.some rfl rfl rfl) (v_move rfl rfl tt) ?_
       refine jl_op rfl rfl (.some rfl rfl rfl) (v_not rfl rfl ii) ?_
       refine jl_op rfl rfl (.none rfl) (v_or rfl rfl tt rfl fi) ?_
       refine jl_op rfl rfl (.none rfl) (v_move rfl rfl tt) ?_
       refine jl_op rfl rfl (.some rfl rfl rfl) (v_move rfl rfl tt) ?_
       refine jl_op rfl rfl (.some rfl rfl rfl) (v_not rfl rfl ii) ?_
       refine jl_op rfl rfl (.none rfl) (v_or rfl rfl tt rfl fi) ?_
       refine jl_op rfl rfl (.none rfl) (v_move rfl rfl tt) ?_
       refine jl_op rfl rfl (.some rfl rfl rfl) (v_move rfl rfl tt) ?_
       refine jl_op rfl rfl (.some rfl rfl rfl) (v_not rfl rfl ii) ?_
       refine jl_op rfl rfl (.none rfl) (v_or rfl rfl tt rfl fi) ?_
       refine jl_op rfl rfl (.none rfl) (v_move rfl rfl tt) ?_
       first | refine jl_op rfl rfl (.some rfl rfl rfl) (v_loadS rfl Try.underlying47 (by rfl) (by kernel_rfl) rfl tt (by (repeat first | exact m0 | refine List.Mem.tail _ ?_); first | done | fail)) ?_ | refine jl_op rfl rfl (.some rfl rfl rfl) (v_loadSRo rfl Try.underlying47 (by rfl) (by kernel_rfl) rfl tt (by (repeat first | exact m0 | refine List.Mem.tail _ ?_); first | done | fail)) ?_
       first | refine jl_op rfl rfl (.some rfl rfl rfl) (v_loadS rfl Try.underlying50 (by rfl) (by kernel_rfl) rfl tt (by (repeat first | exact m0 | refine List.Mem.tail _ ?_); first | done | fail)) ?_ | refine jl_op rfl rfl (.some rfl rfl rfl) (v_loadSRo rfl Try.underlying50 (by rfl) (by kernel_rfl) rfl tt (by (repeat first | exact m0 | refine List.Mem.tail _ ?_); first | done | fail)) ?_
       refine jl_op rfl rfl (.some rfl rfl rfl) (v_call (f := 35) (xs := [_, _]) rfl (c_areQ (hW := hW) ..) (ev_cons rfl ii (ev_cons rfl ii ev_nil)) (by intro w hc hI; first | trivial | (exfalso; simp_all; done) | (clear hc; repeat' (first | exact ros_nil | refine ros_cons ?_ ?_ | exact hI.roRo (by (repeat first | exact m0 | refine List.Mem.tail _ ?_); first | done | fail) | exact hI.boxRo (by (repeat first | exact m0 | refine List.Mem.tail _ ?_); first | done | fail) | exact HInv.vecRo hI (by (repeat first | exact m0 | refine List.Mem.tail _ ?_); first | done | fail))))) ?_
       refine jl_op rfl rfl (.some rfl rfl rfl) (v_not rfl rfl ii) ?_
       refine jl_op rfl rfl (.none rfl) (v_or rfl rfl tt rfl fi) ?_
       refine jl_op rfl rfl (.none rfl) (v_move rfl rfl tt) ?_
       refine jl_op rfl rfl (.some rfl rfl rfl) (v_fieldAddr rfl Try.underlying50 (by rfl) (by kernel_rfl) rfl tt) ?_
       first | refine jl_op rfl rfl (.some rfl rfl rfl) (v_loadBox rfl Try.underlying34 (by rfl) rfl ii (by (repeat first | exact m0 | refine List.Mem.tail _ ?_); first | done | fail) (by rfl)) ?_ | refine jl_op rfl rfl (.some rfl rfl rfl) (v_loadRoB rfl Try.underlying34 (by rfl) rfl ii (by (repeat first | exact m0 | refine List.Mem.tail _ ?_); first | done | fail) (by rfl)) ?_
       refine jl_op rfl rfl (.some rfl rfl rfl) (v_len rfl rfl Try.underlying34 rfl ii) ?_
       refine jl_op rfl rfl (.some rfl rfl rfl) (v_fieldAddr rfl Try.underlying50 (by rfl) (by kernel_rfl) rfl tt) ?_
       first | refine jl_op rfl rfl (.some rfl rfl rfl) (v_loadBox rfl Try.underlying34 (by rfl) rfl ii (by (repeat first | exact m0 | refine List.Mem.tail _ ?_); first | done | fail) (by rfl)) ?_ | refine jl_op rfl rfl (.some rfl rfl rfl) (v_loadRoB rfl Try.underlying34 (by rfl) rfl ii (by (repeat first | exact m0 | refine List.Mem.tail _ ?_); first | done | fail) (by rfl)) ?_
       refine jl_op rfl rfl (.some rfl rfl rfl) (v_len rfl rfl Try.underlying34 rfl ii) ?_
       refine jl_op rfl rfl (.some rfl rfl rfl) (v_icmp rfl rfl rfl rfl ii ii) ?_
       refine jl_op rfl rfl (.none rfl) (v_or rfl rfl tt rfl fi) ?_
       refine jl_nil ?_)
    | (refine j_region (id := 28) ?_
       refine jl_op rfl rfl (.none rfl) (v_assign rfl rfl tt) ?_
       refine jl_nil ?_)))
  all_goals first | exact jq_ret1 (.inl rfl) Try.results4 rfl | exact jq_retE (.inl rfl) Try.results4 rfl (congrArg Value.bool (w_end (by first | rfl | omega)))
theorem c_law_FnWaves (A : Option Addr) (N cap : Nat) (g1 : Nat → Nat) (B : Option Addr) (M bc : Nat) (g2 : Nat → Nat) (hg1 : ∀ j, j < N → g1 j < 256) (hg2 : ∀ j, j < M → g2 j < 256) : Con Try.prog 4 [.slice A N cap, .slice B M bc] (RoS [.ro A (tabY N g1), .ro B (tabY M g2)]) (.bool true) := by
  refine con_intro (H := [.ro A (tabY N g1), .ro B (tabY M g2)]) Try.func4 (by decide) rfl rfl (fun w h => h.inv) (fun w0 _ => ?_)
  obtain ⟨c8, hc8, hc9⟩ : ∃ c8 : Nat, at8 M g2 40 9 = (c8 : Int) ∧ c8 < 9 := by
    have h := at8_in (N := M) (g := g2) (i := 40) (n := 9) (by decide)
    exact ⟨(at8 M g2 40 9).toNat, by omega, by omega⟩
  (repeat' (first
    | refine j_part (by omega) ?_
    | refine j_partI (by omega) ?_
    | (refine jq_then (y := .seq (.region 23 _ _) _) ?_; refine j_cut (G := [(5, true, .pointer (some ⟨b5, 0, none⟩)), (6, true, .pointer (some ⟨b6, 0, none⟩)), (17, true, .slice X 8 xc), (25, true, .pointer (some ⟨b25, 0, none⟩)), (26, true, .slice s144.2.1 8 s144.2.2)]) (H' := [.box b25 50 [.slice s144.1.1.1 (m + 1) s144.1.1.2, .slice s144.1.2.1 (m + 1) s144.1.2.2], .vec 24 s144.1.1.1 s144.1.1.2 (tab (m + 1) (Zk m g r q f 8).1), .vec 24 s144.1.2.1 s144.1.2.2 (tab (m + 1) (Zk m g r q f 8).2), .vec 24 s144.2.1 s144.2.2 (tab 8 (yK m g r q f)), .vec 24 X xc (tab 8 f), .box b6 50 [.slice (some c) (m + 1) rc, .slice (some d) (m + 1) mc], .vec 24 (some c) rc (tab (m + 1) r), .vec 24 (some d) mc (tab (m + 1) q), .box b5 47 [.slice (some z) (m + 1) zc, F 1065353216, F 1061158912, F 3210739712], .vec 24 (some z) zc (tab (m + 1) g), .ro A (tabY N g1), .ro B (tabY M g2)]) (fs_cons rfl (fs_cons rfl (fs_cons rfl (fs_cons rfl (fs_cons rfl fs_nil))))) (fun w h => h.sub (by repeat' (first | exact List.Sublist.refl _ | refine List.Sublist.cons_cons _ ?_ | refine List.Sublist.cons _ ?_))) ?_; exact c_lawW2 A N g1 B M g2 z zc m g κ r q f hW hf hcap c d rc mc X xc b5 b6 b25 s144)
    | refine j_condF rfl (w_c1 hW (by first | rfl | decide | omega)) ?_
    | refine j_condF rfl (c_out hW (by omega)) ?_
    | refine j_condF rfl (w_c2 (by first | rfl | omega) (by first | rfl | omega) (by first | rfl | omega)) ?_
    | refine j_condF rfl (w_c3 (by first | rfl | omega)) ?_
    | refine j_condF rfl (q_out hW hf (by omega)).2 ?_
    | refine j_condF rfl (w_c4 hW hf (by omega)) ?_
    | (refine j_loop2 (σ := Nat) (fun k => k ≤ 6) (fun k => [(0, true, .slice A N cap), (1, true, .slice B M bc), (5, true, .pointer (some ⟨b5, 0, none⟩)), (6, true, .pointer (some ⟨b6, 0, none⟩)), (10, true, .slice b56.2.1 6 b56.2.2), (16, true, .int .i64 (k))]) (fun k => [.vec 24 b56.2.1 b56.2.2 (tab 6 (wys (m + 1) g 1065353216 1065353216 3212836864 r q zF)), .box b6 50 [.slice (some c) (m + 1) rc, .slice (some d) (m + 1) mc], .vec 24 (some c) rc (tab (m + 1) r), .vec 24 (some d) mc (tab (m + 1) q), .box b5 47 [.slice (some z) (m + 1) zc, F 1065353216, F 1061158912, F 3210739712], .vec 24 (some z) zc (tab (m + 1) g), .ro A (tabY N g1), .ro B (tabY M g2)]) (fun k => 6 - k) 0 (by omega) (fs_cons rfl (fs_cons rfl (fs_cons rfl (fs_cons rfl (fs_cons rfl (fs_cons rfl fs_nil)))))) (fun w h => h.sub (by repeat' (first | exact List.Sublist.refl _ | refine List.Sublist.cons_cons _ ?_ | refine List.Sublist.cons _ ?_))) ?_; intro k hk)
    | (exact jq_round (k + 1) (by omega) (by omega) (fs_cons rfl (fs_cons rfl (fs_cons rfl (fs_cons rfl (fs_cons rfl (fs_cons rfl fs_nil)))))) (fun _ h => h))
    | refine j_condLt rfl (fun _ => ?_) (fun _ => ?_)
    | refine j_condLe rfl (fun _ => ?_) (fun _ => ?_)
    | refine j_condGt rfl (fun _ => ?_) (fun _ => ?_)
    | refine j_condGe rfl (fun _ => ?_) (fun _ => ?_)
    | refine j_condNe rfl (fun _ => ?_) (fun _ => ?_)
    | refine j_condEq rfl (fun _ => ?_) (fun _ => ?_)
    | refine j_condOrLt rfl (fun _ => ?_) (fun _ => ?_)
    | refine j_condAndLt rfl (fun _ => ?_) (fun _ => ?_)
    | refine j_condAndGe rfl (fun _ => ?_) (fun _ => ?_)
    | refine j_seq ?_
    | refine jq_then ?_
    | refine j_block ?_
    | refine j_ret ?_
    | refine jq_then_ret ?_
    | refine jq_block_ret ?_
    | refine jq_block_normal ?_
    | refine jq_then_exit ?_
    | refine jq_block_same rfl ?_
    | refine jq_block_other rfl ?_
    | refine j_skip ?_
    | refine j_exit ?_
    | refine j_label ?_
    | refine j_condCT ?_
    | refine j_condCF ?_
    | refine j_cond rfl (fun _ => ?_) (fun _ => ?_)
    | (refine j_region (id := 0) ?_
       refine jl_op rfl rfl (.none rfl) (v_assign rfl rfl tt) ?_
       refine jl_nil ?_)
    | (refine j_region (id := 1) ?_
       refine jl_op rfl rfl (.none rfl) (v_move rfl rfl tt) ?_
       refine jl_op rfl rfl (.none rfl) (v_move rfl rfl tt) ?_
       refine jl_op rfl rfl (.none rfl) (v_call (f := 23) (xs := [_, _]) rfl (c_r8Long ..) (ev_cons rfl tt (ev_cons rfl tt ev_nil)) (by intro w hc hI; first | trivial | (exfalso; simp_all; done) | (clear hc; repeat' (first | exact ros_nil | refine ros_cons ?_ ?_ | exact hI.roRo (by (repeat first | exact m0 | refine List.Mem.tail _ ?_); first | done | fail) | exact hI.boxRo (by (repeat first | exact m0 | refine List.Mem.tail _ ?_); first | done | fail) | exact HInv.vecRo hI (by (repeat first | exact m0 | refine List.Mem.tail _ ?_); first | done | fail))))) ?_
       refine jl_nil ?_)
    | (refine j_region (id := 2) ?_
       refine jl_op rfl rfl (.none rfl) (v_assign rfl rfl tt) ?_
       refine jl_nil ?_)
    | (refine j_region (id := 3) ?_
       refine jl_op rfl rfl (.none rfl) (v_move rfl rfl tt) ?_
       refine jl_x1 rfl rfl rfl (x_call (f := 24) (xs := [_]) rfl (c_R8Tube A N cap g1 hg1) (ev_cons rfl tt ev_nil) (fun w hI => ros_cons (hI.roRo m0) ros_nil)) (fun s47 => ?_); obtain ⟨⟨⟨C, zc⟩, ⟨n, g⟩⟩, hT⟩ := s47; dsimp only at hT ⊢; obtain ⟨hT, _⟩ := hT; rcases C with _ | z; exact jl_none 0 rfl (by have := hT.1; omega); refine jl_cap 0 rfl (by have := hT.1; omega) (fun hcap => ?_)
       refine jl_alloc rfl rfl rfl rfl zero47 (by rfl) (fun b5 => ?_)
       first | refine jl_storeS (i := 0) rfl rfl rfl (by kernel_rfl) rfl rfl rfl rfl ?_ | refine jl_storeS (i := 1) rfl rfl rfl (by kernel_rfl) rfl rfl rfl rfl ?_ | refine jl_storeS (i := 2) rfl rfl rfl (by kernel_rfl) rfl rfl rfl rfl ?_ | refine jl_storeS (i := 3) rfl rfl rfl (by kernel_rfl) rfl rfl rfl rfl ?_ | refine jl_storeS (i := 4) rfl rfl rfl (by kernel_rfl) rfl rfl rfl rfl ?_ | refine jl_storeS (i := 5) rfl rfl rfl (by kernel_rfl) rfl rfl rfl rfl ?_ | refine jl_storeS (i := 6) rfl rfl rfl (by kernel_rfl) rfl rfl rfl rfl ?_ | refine jl_storeS (i := 7) rfl rfl rfl (by kernel_rfl) rfl rfl rfl rfl ?_
       refine jl_nil ?_)
    | (refine j_region (id := 4) ?_
       refine jl_op rfl rfl (.none rfl) (v_move rfl rfl tt) ?_
       first | refine jl_op rfl rfl (.none rfl) (v_loadS rfl Try.underlying47 (by rfl) (by kernel_rfl) rfl tt (by (repeat first | exact m0 | refine List.Mem.tail _ ?_); first | done | fail)) ?_ | refine jl_op rfl rfl (.none rfl) (v_loadSRo rfl Try.underlying47 (by rfl) (by kernel_rfl) rfl tt (by (repeat first | exact m0 | refine List.Mem.tail _ ?_); first | done | fail)) ?_
       refine jl_x rfl rfl rfl (x_call (f := 25) (xs := [_, _]) rfl (c_R8Waves B M bc g2 (some z) n zc hg2 (by have := hT.1; omega)) (ev_cons rfl tt (ev_cons rfl tt ev_nil)) (fun w hI => ros_cons (hI.roRo (by (repeat first | exact m0 | refine List.Mem.tail _ ?_); first | done | fail)) ros_nil)) (fun s50 => ?_); obtain ⟨⟨⟨⟨C', rc⟩, ⟨D', mc⟩⟩, ⟨r, q⟩⟩, hw⟩ := s50; dsimp only at hw ⊢; obtain ⟨m, κ, rfl, hW⟩ := wd_mk hT hw; have h4 := hW.four; rcases C' with _ | c; exact jl_none 0 rfl (by omega); rcases D' with _ | d; exact jl_none 1 rfl (by omega)
       refine jl_alloc rfl rfl rfl rfl zero50 (by rfl) (fun b6 => ?_)
       first | refine jl_storeS (i := 0) rfl rfl rfl (by kernel_rfl) rfl rfl rfl rfl ?_ | refine jl_storeS (i := 1) rfl rfl rfl (by kernel_rfl) rfl rfl rfl rfl ?_ | refine jl_storeS (i := 2) rfl rfl rfl (by kernel_rfl) rfl rfl rfl rfl ?_ | refine jl_storeS (i := 3) rfl rfl rfl (by kernel_rfl) rfl rfl rfl rfl ?_ | refine jl_storeS (i := 4) rfl rfl rfl (by kernel_rfl) rfl rfl rfl rfl ?_ | refine jl_storeS (i := 5) rfl rfl rfl (by kernel_rfl) rfl rfl rfl rfl ?_ | refine jl_storeS (i := 6) rfl rfl rfl (by kernel_rfl) rfl rfl rfl rfl ?_ | refine jl_storeS (i := 7) rfl rfl rfl (by kernel_rfl) rfl rfl rfl rfl ?_
       refine jl_nil ?_)
    | (refine j_region (id := 5) ?_
       first | refine jl_op rfl rfl (.none rfl) (v_loadS rfl Try.underlying47 (by rfl) (by kernel_rfl) rfl tt (by (repeat first | exact m0 | refine List.Mem.tail _ ?_); first | done | fail)) ?_ | refine jl_op rfl rfl (.none rfl) (v_loadSRo rfl Try.underlying47 (by rfl) (by kernel_rfl) rfl tt (by (repeat first | exact m0 | refine List.Mem.tail _ ?_); first | done | fail)) ?_
       refine jl_x1 rfl rfl rfl (x_call (f := 26) (xs := [_, _, _, _]) rfl (c_endsW (hW := hW) ..) (ev_cons rfl tt (ev_cons rfl tt (ev_cons rfl tt (ev_cons rfl tt ev_nil)))) (by intro w hI; repeat' (first | exact ros_nil | refine ros_cons ?_ ?_ | exact hI.roRo (by (repeat first | exact m0 | refine List.Mem.tail _ ?_); first | done | fail) | exact HInv.vecRo hI (by (repeat first | exact m0 | refine List.Mem.tail _ ?_); first | done | fail) | exact ro_zero (HInv.vecRo hI (by (repeat first | exact m0 | refine List.Mem.tail _ ?_); first | done | fail)) | exact ro_head (HInv.vecRo hI (by (repeat first | exact m0 | refine List.Mem.tail _ ?_); first | done | fail)) (by omega) | exact sub_tab (HInv.vecRo hI (by (repeat first | exact m0 | refine List.Mem.tail _ ?_); first | done | fail)) hxc (by omega)))) (fun s53 => ?_); refine jl_cap 0 rfl (by omega) (fun hcc => ?_)
       refine jl_op rfl rfl (.none rfl) (v_move rfl rfl tt) ?_
       refine jl_op rfl rfl (.none rfl) (v_extract rfl rfl tt rfl) ?_
       refine jl_op rfl rfl (.none rfl) (v_extract rfl rfl tt rfl) ?_
       refine jl_alloc rfl rfl rfl rfl zero47 (by rfl) (fun b7 => ?_)
       first | refine jl_storeS (i := 0) rfl rfl rfl (by kernel_rfl) rfl rfl rfl rfl ?_ | refine jl_storeS (i := 1) rfl rfl rfl (by kernel_rfl) rfl rfl rfl rfl ?_ | refine jl_storeS (i := 2) rfl rfl rfl (by kernel_rfl) rfl rfl rfl rfl ?_ | refine jl_storeS (i := 3) rfl rfl rfl (by kernel_rfl) rfl rfl rfl rfl ?_ | refine jl_storeS (i := 4) rfl rfl rfl (by kernel_rfl) rfl rfl rfl rfl ?_ | refine jl_storeS (i := 5) rfl rfl rfl (by kernel_rfl) rfl rfl rfl rfl ?_ | refine jl_storeS (i := 6) rfl rfl rfl (by kernel_rfl) rfl rfl rfl rfl ?_ | refine jl_storeS (i := 7) rfl rfl rfl (by kernel_rfl) rfl rfl rfl rfl ?_
       refine jl_op rfl rfl (.none rfl) (v_assign rfl rfl tt) ?_
       refine jl_nil ?_)
    | (refine j_drawZP (id := 6) (m := 9) [6, 7] [(59, [2]), (60, [3, 2]), (56, [4, 3, 2]), (61, [5, 4, 3, 2]), (62, [6, 4, 3, 2]), (9, [8])] [none, none, some [], some [], some [60], some [56], some [56], none, some []] (by kernel_rfl) (by kernel_rfl) (by repeat' (first | exact panOK_body | refine panOK_then ?_ | refine panOK_in ?_)) (fun Bq hBq => ?_)
       first | refine jz_op rfl (.none rfl) (v_loadS rfl Try.underlying47 (by rfl) (by kernel_rfl) rfl tt (by (repeat first | exact m0 | refine List.Mem.tail _ ?_); first | done | fail)) ?_ | refine jz_op rfl (.none rfl) (v_loadSRo rfl Try.underlying47 (by rfl) (by kernel_rfl) rfl tt (by (repeat first | exact m0 | refine List.Mem.tail _ ?_); first | done | fail)) ?_
       first | refine jz_op rfl (.none rfl) (v_loadS rfl Try.underlying50 (by rfl) (by kernel_rfl) rfl tt (by (repeat first | exact m0 | refine List.Mem.tail _ ?_); first | done | fail)) ?_ | refine jz_op rfl (.none rfl) (v_loadSRo rfl Try.underlying50 (by rfl) (by kernel_rfl) rfl tt (by (repeat first | exact m0 | refine List.Mem.tail _ ?_); first | done | fail)) ?_
       refine jz_x rfl rfl rfl (x_make (by' := 4) (Z := F 0) rfl Try.underlying34 (by kernel_rfl) zero24 rfl (by kernel_rfl) (by rfl) rfl rfl (by first | omega | decide)) (by first | exact runQ_Vin | exact runW_Vin | exact fun _ _ h => ⟨_, .head _, h⟩ | exact fun _ _ h => ⟨_, .head _, inV_tup2 rfl rfl h⟩ | exact fun _ _ h => ⟨_, .head _, inV_tup1 rfl h⟩ | exact fun _ _ h => ⟨_, .head _, inV_agg1 rfl (inV_tup1 rfl h)⟩ | exact fun _ _ h => ⟨_, .head _, inV_agg1 rfl h⟩ | exact fun _ _ h => (inV_agg2 h).elim (fun h => ⟨_, .head _, h⟩) (fun h => ⟨_, .tail _ (.head _), h⟩) | exact fun _ _ h => (inV_agg2 h).elim (fun h => ⟨_, .tail _ (.head _), h⟩) (fun h => ⟨_, .head _, h⟩) | exact fun _ _ h => (inV_agg2 (inV_tup1 rfl h)).elim (fun h => ⟨_, .head _, h⟩) (fun h => ⟨_, .tail _ (.head _), h⟩) | exact fun _ _ h => (inV_agg2 (inV_tup1 rfl h)).elim (fun h => ⟨_, .tail _ (.head _), h⟩) (fun h => ⟨_, .head _, h⟩)) ?_
       refine jz_px rfl rfl rfl (pz_open 59 rfl rfl (by kernel_rfl) (fun s59 => pz_x (x_call (f := 27) (xs := [_, _, _]) rfl (c_runC (hW := hW) (hcap := hcc) ..) (ev_cons rfl tt (ev_cons rfl tt (ev_cons rfl tt ev_nil))) (by intro w hI; repeat' (first | exact ros_nil | refine ros_cons ?_ ?_ | exact hI.roRo (by (repeat first | exact m0 | refine List.Mem.tail _ ?_); first | done | fail) | exact HInv.vecRo hI (by (repeat first | exact m0 | refine List.Mem.tail _ ?_); first | done | fail) | exact ro_zero (HInv.vecRo hI (by (repeat first | exact m0 | refine List.Mem.tail _ ?_); first | done | fail)) | exact ro_head (HInv.vecRo hI (by (repeat first | exact m0 | refine List.Mem.tail _ ?_); first | done | fail)) (by omega) | exact sub_tab (HInv.vecRo hI (by (repeat first | exact m0 | refine List.Mem.tail _ ?_); first | done | fail)) hxc (by omega)))))) (by first | exact runQ_Vin | exact runW_Vin | exact fun _ _ h => ⟨_, .head _, h⟩ | exact fun _ _ h => ⟨_, .head _, inV_tup2 rfl rfl h⟩ | exact fun _ _ h => ⟨_, .head _, inV_tup1 rfl h⟩ | exact fun _ _ h => ⟨_, .head _, inV_agg1 rfl (inV_tup1 rfl h)⟩ | exact fun _ _ h => ⟨_, .head _, inV_agg1 rfl h⟩ | exact fun _ _ h => (inV_agg2 h).elim (fun h => ⟨_, .head _, h⟩) (fun h => ⟨_, .tail _ (.head _), h⟩) | exact fun _ _ h => (inV_agg2 h).elim (fun h => ⟨_, .tail _ (.head _), h⟩) (fun h => ⟨_, .head _, h⟩) | exact fun _ _ h => (inV_agg2 (inV_tup1 rfl h)).elim (fun h => ⟨_, .head _, h⟩) (fun h => ⟨_, .tail _ (.head _), h⟩) | exact fun _ _ h => (inV_agg2 (inV_tup1 rfl h)).elim (fun h => ⟨_, .tail _ (.head _), h⟩) (fun h => ⟨_, .head _, h⟩)) ?_
       refine jz_xv (t := 60) rfl rfl rfl hBq rfl rfl (by kernel_rfl) (fun s60 => v_move rfl rfl tt) (by first | exact fun _ _ h => h | exact fun _ _ h => inV_tup1' h | exact fun _ _ h => inV_agg1 rfl h | exact fun _ _ h => inV_agg1' (inV_agg1 rfl h) | exact fun _ _ h => inV_tup2' h) ?_
       refine jz_xv (t := 56) rfl rfl rfl hBq rfl rfl (by kernel_rfl) (fun s56 => v_extract rfl rfl tt rfl) (by first | exact fun _ _ h => h | exact fun _ _ h => inV_tup1' h | exact fun _ _ h => inV_agg1 rfl h | exact fun _ _ h => inV_agg1' (inV_agg1 rfl h) | exact fun _ _ h => inV_tup2' h) ?_
       refine jz_xv (t := 56) rfl rfl rfl hBq rfl rfl (by kernel_rfl) (fun s56 => v_extract rfl rfl tt rfl) (by first | exact fun _ _ h => h | exact fun _ _ h => inV_tup1' h | exact fun _ _ h => inV_agg1 rfl h | exact fun _ _ h => inV_agg1' (inV_agg1 rfl h) | exact fun _ _ h => inV_tup2' h) ?_
       refine jz_v1 (t := 56) rfl rfl hBq rfl rfl (by kernel_rfl) (fun s56 => v_extract rfl rfl tt rfl) ?_
       refine jz_x rfl rfl rfl (x_alloc rfl zero50 (by rfl)) (by first | exact runQ_Vin | exact runW_Vin | exact fun _ _ h => ⟨_, .head _, h⟩ | exact fun _ _ h => ⟨_, .head _, inV_tup2 rfl rfl h⟩ | exact fun _ _ h => ⟨_, .head _, inV_tup1 rfl h⟩ | exact fun _ _ h => ⟨_, .head _, inV_agg1 rfl (inV_tup1 rfl h)⟩ | exact fun _ _ h => ⟨_, .head _, inV_agg1 rfl h⟩ | exact fun _ _ h => (inV_agg2 h).elim (fun h => ⟨_, .head _, h⟩) (fun h => ⟨_, .tail _ (.head _), h⟩) | exact fun _ _ h => (inV_agg2 h).elim (fun h => ⟨_, .tail _ (.head _), h⟩) (fun h => ⟨_, .head _, h⟩) | exact fun _ _ h => (inV_agg2 (inV_tup1 rfl h)).elim (fun h => ⟨_, .head _, h⟩) (fun h => ⟨_, .tail _ (.head _), h⟩) | exact fun _ _ h => (inV_agg2 (inV_tup1 rfl h)).elim (fun h => ⟨_, .tail _ (.head _), h⟩) (fun h => ⟨_, .head _, h⟩)) ?_
       refine jz_nil2P (d1 := 56) (d2 := 9) rfl hBq rfl rfl rfl rfl (by kernel_rfl) (fun s f hf k hk => by first | exact runQ_inV s f hf k hk | exact runW_inV s f hf k hk | (obtain rfl := mem1 hf; first | exact hk | exact inV_agg1' hk) | (rcases mem2 hf with rfl | rfl; exact inV_agg2l hk; exact inV_agg2r hk)) (fun s f hf k hk => by first | exact runQ_inV s f hf k hk | exact runW_inV s f hf k hk | (obtain rfl := mem1 hf; first | exact hk | exact inV_agg1' hk) | (rcases mem2 hf with rfl | rfl; exact inV_agg2l hk; exact inV_agg2r hk)) (fun b56 b9 => ?_)
       refine jlp_ext 5 rfl rfl rfl rfl rfl rfl rfl ?_
       refine jlp_ext 6 rfl rfl rfl rfl rfl rfl rfl ?_
       refine jlp_done ?_
       first | refine jl_storeS (i := 0) rfl rfl rfl (by kernel_rfl) rfl rfl rfl rfl ?_ | refine jl_storeS (i := 1) rfl rfl rfl (by kernel_rfl) rfl rfl rfl rfl ?_ | refine jl_storeS (i := 2) rfl rfl rfl (by kernel_rfl) rfl rfl rfl rfl ?_ | refine jl_storeS (i := 3) rfl rfl rfl (by kernel_rfl) rfl rfl rfl rfl ?_ | refine jl_storeS (i := 4) rfl rfl rfl (by kernel_rfl) rfl rfl rfl rfl ?_ | refine jl_storeS (i := 5) rfl rfl rfl (by kernel_rfl) rfl rfl rfl rfl ?_ | refine jl_storeS (i := 6) rfl rfl rfl (by kernel_rfl) rfl rfl rfl rfl ?_ | refine jl_storeS (i := 7) rfl rfl rfl (by kernel_rfl) rfl rfl rfl rfl ?_
       refine jl_op rfl rfl (.none rfl) (v_assign rfl rfl tt) ?_
       refine jl_op rfl rfl (.none rfl) (v_assign rfl rfl tt) ?_
       refine jl_nil ?_)
    | (refine j_region (id := 7) ?_
       first | refine jl_op rfl rfl (.none rfl) (v_loadS rfl Try.underlying47 (by rfl) (by kernel_rfl) rfl tt (by (repeat first | exact m0 | refine List.Mem.tail _ ?_); first | done | fail)) ?_ | refine jl_op rfl rfl (.none rfl) (v_loadSRo rfl Try.underlying47 (by rfl) (by kernel_rfl) rfl tt (by (repeat first | exact m0 | refine List.Mem.tail _ ?_); first | done | fail)) ?_
       first | refine jl_op rfl rfl (.none rfl) (v_loadS rfl Try.underlying50 (by rfl) (by kernel_rfl) rfl tt (by (repeat first | exact m0 | refine List.Mem.tail _ ?_); first | done | fail)) ?_ | refine jl_op rfl rfl (.none rfl) (v_loadSRo rfl Try.underlying50 (by rfl) (by kernel_rfl) rfl tt (by (repeat first | exact m0 | refine List.Mem.tail _ ?_); first | done | fail)) ?_
       refine jl_op rfl rfl (.none rfl) (v_call (f := 28) (xs := [_, _]) rfl (c_en0 (hW := hW) ..) (ev_cons rfl tt (ev_cons rfl tt ev_nil)) (by intro w hc hI; first | trivial | (exfalso; simp_all; done) | (clear hc; repeat' (first | exact ros_nil | refine ros_cons ?_ ?_ | exact hI.roRo (by (repeat first | exact m0 | refine List.Mem.tail _ ?_); first | done | fail) | exact hI.boxRo (by (repeat first | exact m0 | refine List.Mem.tail _ ?_); first | done | fail) | exact HInv.vecRo hI (by (repeat first | exact m0 | refine List.Mem.tail _ ?_); first | done | fail))))) ?_
       refine jl_op rfl rfl (.none rfl) (v_move rfl rfl tt) ?_
       refine jl_op rfl rfl (.none rfl) (v_extract rfl rfl tt rfl) ?_
       refine jl_op rfl rfl (.none rfl) (v_extract rfl rfl tt rfl) ?_
       refine jl_op rfl rfl (.none rfl) (v_assign rfl rfl tt) ?_
       refine jl_op rfl rfl (.none rfl) (v_assign rfl rfl tt) ?_
       refine jl_nil ?_)
    | (refine j_region (id := 8) ?_
       first | refine jl_op rfl rfl (.none rfl) (v_loadS rfl Try.underlying47 (by rfl) (by kernel_rfl) rfl tt (by (repeat first | exact m0 | refine List.Mem.tail _ ?_); first | done | fail)) ?_ | refine jl_op rfl rfl (.none rfl) (v_loadSRo rfl Try.underlying47 (by rfl) (by kernel_rfl) rfl tt (by (repeat first | exact m0 | refine List.Mem.tail _ ?_); first | done | fail)) ?_
       first | refine jl_op rfl rfl (.none rfl) (v_loadS rfl Try.underlying50 (by rfl) (by kernel_rfl) rfl tt (by (repeat first | exact m0 | refine List.Mem.tail _ ?_); first | done | fail)) ?_ | refine jl_op rfl rfl (.none rfl) (v_loadSRo rfl Try.underlying50 (by rfl) (by kernel_rfl) rfl tt (by (repeat first | exact m0 | refine List.Mem.tail _ ?_); first | done | fail)) ?_
       refine jl_op rfl rfl (.none rfl) (v_call (f := 28) (xs := [_, _]) rfl (c_en6 (hW := hW) ..) (ev_cons rfl tt (ev_cons rfl tt ev_nil)) (by intro w hc hI; first | trivial | (exfalso; simp_all; done) | (clear hc; repeat' (first | exact ros_nil | refine ros_cons ?_ ?_ | exact hI.roRo (by (repeat first | exact m0 | refine List.Mem.tail _ ?_); first | done | fail) | exact hI.boxRo (by (repeat first | exact m0 | refine List.Mem.tail _ ?_); first | done | fail) | exact HInv.vecRo hI (by (repeat first | exact m0 | refine List.Mem.tail _ ?_); first | done | fail))))) ?_
       refine jl_op rfl rfl (.none rfl) (v_move rfl rfl tt) ?_
       refine jl_op rfl rfl (.none rfl) (v_extract rfl rfl tt rfl) ?_
       refine jl_op rfl rfl (.none rfl) (v_extract rfl rfl tt rfl) ?_
       refine jl_op rfl rfl (.none rfl) (v_assign rfl rfl tt) ?_
       refine jl_op rfl rfl (.none rfl) (v_assign rfl rfl tt) ?_
       refine jl_nil ?_)
    | (refine j_region (id := 9) ?_
       refine jl_op rfl rfl (.none rfl) (v_move rfl rfl tt) ?_
       refine jl_op rfl rfl (.none rfl) (v_not rfl rfl tt) ?_
       refine jl_op rfl rfl (.none rfl) (v_move rfl rfl tt) ?_
       refine jl_op rfl rfl (.some rfl rfl rfl) (v_move rfl rfl tt) ?_
       refine jl_op rfl rfl (.some rfl rfl rfl) (v_not rfl rfl ii) ?_
       refine jl_op rfl rfl (.none rfl) (v_or rfl rfl tt rfl fi) ?_
       refine jl_op rfl rfl (.none rfl) (v_move rfl rfl tt) ?_
       refine jl_op rfl rfl (.some rfl rfl rfl) (v_move rfl rfl tt) ?_
       refine jl_op rfl rfl (.some rfl rfl rfl) (v_not rfl rfl ii) ?_
       refine jl_op rfl rfl (.none rfl) (v_or rfl rfl tt rfl fi) ?_
       refine jl_op rfl rfl (.none rfl) (v_move rfl rfl tt) ?_
       refine jl_op rfl rfl (.some rfl rfl rfl) (v_move rfl rfl tt) ?_
       refine jl_op rfl rfl (.some rfl rfl rfl) (v_not rfl rfl ii) ?_
       refine jl_op rfl rfl (.none rfl) (v_or rfl rfl tt rfl fi) ?_
       refine jl_op rfl rfl (.none rfl) (v_move rfl rfl tt) ?_
       refine jl_op rfl rfl (.some rfl rfl rfl) (v_move rfl rfl tt) ?_
       refine jl_op rfl rfl (.some rfl rfl rfl) (v_len rfl rfl Try.underlying34 rfl ii) ?_
       refine jl_op rfl rfl (.some rfl rfl rfl) (v_icmp rfl rfl rfl rfl ii tt) ?_
       refine jl_op rfl rfl (.none rfl) (v_or rfl rfl tt rfl fi) ?_
       refine jl_op rfl rfl (.none rfl) (v_move rfl rfl tt) ?_
       refine jl_op rfl rfl (.some rfl rfl rfl) (v_move rfl rfl tt) ?_
       refine jl_op rfl rfl (.some rfl rfl rfl) (v_f2f rfl rfl ii (by rfl) Try.underlying43 (by first | exact fun _ => fits_same | exact fun _ => fits_wide | exact fun _ => fits_sqrt _ | assumption | exact fun _ => by assumption)) ?_
       refine jl_op rfl rfl (.some rfl rfl rfl) (v_move rfl rfl tt) ?_
       refine jl_op rfl rfl (.some rfl rfl rfl) (v_f2f rfl rfl ii (by rfl) Try.underlying43 (by first | exact fun _ => fits_same | exact fun _ => fits_wide | exact fun _ => fits_sqrt _ | assumption | exact fun _ => by assumption)) ?_
       refine jl_op rfl rfl (.some rfl rfl rfl) (v_call (f := 29) (xs := [_, _]) rfl (c_gapE (hW := hW) ..) (ev_cons rfl ii (ev_cons rfl ii ev_nil)) (by intro w hc hI; first | trivial | (exfalso; simp_all; done) | (clear hc; repeat' (first | exact ros_nil | refine ros_cons ?_ ?_ | exact hI.roRo (by (repeat first | exact m0 | refine List.Mem.tail _ ?_); first | done | fail) | exact hI.boxRo (by (repeat first | exact m0 | refine List.Mem.tail _ ?_); first | done | fail) | exact HInv.vecRo hI (by (repeat first | exact m0 | refine List.Mem.tail _ ?_); first | done | fail))))) ?_
       refine jl_op rfl rfl (.some rfl rfl rfl) (v_move rfl rfl tt) ?_
       refine jl_op rfl rfl (.some rfl rfl rfl) (v_f2f rfl rfl ii (by rfl) Try.underlying43 (by first | exact fun _ => fits_same | exact fun _ => fits_wide | exact fun _ => fits_sqrt _ | assumption | exact fun _ => by assumption)) ?_
       refine jl_op rfl rfl (.some rfl rfl rfl) (v_farith rfl rfl rfl rfl tt ii) ?_
       refine jl_op rfl rfl (.some rfl rfl rfl) (v_farith rfl rfl rfl rfl tt ii) ?_
       refine jl_op rfl rfl (.some rfl rfl rfl) (v_fcmp rfl rfl rfl rfl ii ii) ?_
       refine jl_op rfl rfl (.none rfl) (v_or rfl rfl tt rfl fi) ?_
       refine jl_nil ?_)
    | (refine j_region (id := 10) ?_
       refine jl_op rfl rfl (.none rfl) (v_assign rfl rfl tt) ?_
       refine jl_nil ?_)
    | (refine j_region (id := 11) ?_
       refine jl_op rfl rfl (.none rfl) (v_assign rfl rfl tt) ?_
       refine jl_nil ?_)
    | (refine j_region (id := 12) ?_
       refine jl_op rfl rfl (.none rfl) (v_move rfl rfl tt) ?_
       refine jl_op rfl rfl (.none rfl) (v_icmp rfl rfl rfl rfl tt tt) ?_
       refine jl_nil ?_)
    | (refine j_region (id := 13) ?_
       refine jl_op rfl rfl (.none rfl) (v_move rfl rfl tt) ?_
       refine jl_op rfl rfl (.none rfl) (v_iarith' rfl rfl rfl rfl tt tt (by first | exact fun _ => iw_add (by omega) | exact fun _ => rfl)) ?_
       refine jl_op rfl rfl (.none rfl) (v_assign rfl rfl tt) ?_
       refine jl_nil ?_)
    | (refine j_region (id := 14) ?_
       refine jl_op rfl rfl (.none rfl) (v_move rfl rfl tt) ?_
       refine jl_op rfl rfl (.none rfl) (v_move rfl rfl tt) ?_
       refine jl_op rfl rfl (.none rfl) (v_indexAddr rfl Try.underlying34 (by kernel_rfl) rfl rfl tt tt (by first | exact hA_some | exact hA_roT (by (repeat first | exact m0 | refine List.Mem.tail _ ?_); first | done | fail) | exact hA_vecT (by (repeat first | exact m0 | refine List.Mem.tail _ ?_); first | done | fail) | exact hA_vecP (by (repeat first | exact m0 | refine List.Mem.tail _ ?_); first | done | fail) | exact hA_roI (by (repeat first | exact m0 | refine List.Mem.tail _ ?_); first | done | fail) | exact hA_vecI (by (repeat first | exact m0 | refine List.Mem.tail _ ?_); first | done | fail) | exact hA_vecPI (by (repeat first | exact m0 | refine List.Mem.tail _ ?_); first | done | fail) | exact hA_vecPS (by (repeat first | exact m0 | refine List.Mem.tail _ ?_); first | done | fail) | exact hA_ro (by (repeat first | exact m0 | refine List.Mem.tail _ ?_); first | done | fail) | exact hA_vec (by (repeat first | exact m0 | refine List.Mem.tail _ ?_); first | done | fail) | exact hA_roY (by (repeat first | exact m0 | refine List.Mem.tail _ ?_); first | done | fail)) (fun _hc => ⟨(by first | with_reducible rfl | exact (Int.toNat_of_nonneg (by omega)).symm | (have hc := g_gt _hc; exact (Int.toNat_of_nonneg (by omega)).symm)), (by first | omega | (rw [tabY_length]; omega) | (rw [tab_length]; omega) | (rw [part_length]; omega) | (rw [tabI_length]; omega) | (rw [partI_length]; omega) | (rw [List.length_set, part_length]; omega))⟩)) ?_
       first | refine jl_op rfl rfl (.none rfl) (v_loadVec rfl Try.underlying24 (by rfl) rfl tt (by (repeat first | exact m0 | refine List.Mem.tail _ ?_); first | done | fail) (fun _ => (by first | with_reducible exact part_get_ge (by omega) (by omega) | with_reducible exact tab_get (by omega) | with_reducible exact tabI_get (by omega) | with_reducible exact part_get (by omega) | exact part_get_ge (by omega) (by omega) | exact tab_get (by omega) | exact tabI_get (by omega) | exact part_get (by omega) | exact part_set_get (by omega) | exact partI_get (by omega) | exact tabY_get (by omega) | assumption | rfl))) ?_ | refine jl_op rfl rfl (.none rfl) (v_loadRo rfl Try.underlying24 (by rfl) rfl tt (by (repeat first | exact m0 | refine List.Mem.tail _ ?_); first | done | fail) (fun _ => (by first | with_reducible exact part_get_ge (by omega) (by omega) | with_reducible exact tab_get (by omega) | with_reducible exact tabI_get (by omega) | with_reducible exact part_get (by omega) | exact part_get_ge (by omega) (by omega) | exact tab_get (by omega) | exact tabI_get (by omega) | exact part_get (by omega) | exact part_set_get (by omega) | exact partI_get (by omega) | exact tabY_get (by omega) | assumption | rfl))) ?_
       refine jl_op rfl rfl (.none rfl) (v_fcmp rfl rfl rfl rfl tt tt) ?_
       refine jl_nil ?_)
    | (refine j_region (id := 15) ?_
       refine jl_op rfl rfl (.none rfl) (v_assign rfl rfl tt) ?_
       refine jl_nil ?_)
    | (refine j_region (id := 16) ?_
       refine jl_op rfl rfl (.none rfl) (v_move rfl rfl tt) ?_
       refine jl_x1 rfl rfl rfl (x_call (f := 30) (xs := [_, _]) rfl (c_R8Sound A N cap g1 8 (by omega) hg1) (ev_cons rfl tt (ev_cons rfl tt ev_nil)) (fun w hI => ros_cons (hI.roRo (by (repeat first | exact m0 | refine List.Mem.tail _ ?_); first | done | fail)) ros_nil)) (fun s117 => ?_); obtain ⟨⟨⟨X, xc⟩, f⟩, hf⟩ := s117; dsimp only at hf ⊢; refine jl_cap 0 rfl (by omega) (fun hxc => ?_)
       refine jl_op rfl rfl (.none rfl) (v_assign rfl rfl tt) ?_
       refine jl_nil ?_)
    | (refine j_region (id := 17) ?_
       refine jl_op rfl rfl (.none rfl) (v_move rfl rfl tt) ?_
       refine jl_op rfl rfl (.none rfl) (v_call (f := 31) (xs := [_, _, _]) rfl (c_r8At B M bc g2 40 9 (c8 : Int) (by omega) (by omega) hg2 hc8) (ev_cons rfl tt (ev_cons rfl tt (ev_cons rfl tt ev_nil))) (fun w _ hI => ros_cons (hI.roRo (by (repeat first | exact m0 | refine List.Mem.tail _ ?_); first | done | fail)) ros_nil)) ?_
       refine jl_op rfl rfl (.none rfl) (v_assign rfl rfl tt) ?_
       refine jl_nil ?_)
    | (refine j_drawZP (id := 18) (m := 11) [8, 9] [(126, [5]), (120, [6, 5]), (127, [7, 6, 5]), (128, [8, 6, 5]), (19, [10])] [none, none, none, none, none, some [], some [126], some [120], some [120], none, some []] (by kernel_rfl) (by kernel_rfl) (by repeat' (first | exact panOK_body | refine panOK_then ?_ | refine panOK_in ?_)) (fun Bq hBq => ?_)
       first | refine jz_op rfl (.none rfl) (v_loadS rfl Try.underlying47 (by rfl) (by kernel_rfl) rfl tt (by (repeat first | exact m0 | refine List.Mem.tail _ ?_); first | done | fail)) ?_ | refine jz_op rfl (.none rfl) (v_loadSRo rfl Try.underlying47 (by rfl) (by kernel_rfl) rfl tt (by (repeat first | exact m0 | refine List.Mem.tail _ ?_); first | done | fail)) ?_
       first | refine jz_op rfl (.none rfl) (v_loadS rfl Try.underlying50 (by rfl) (by kernel_rfl) rfl tt (by (repeat first | exact m0 | refine List.Mem.tail _ ?_); first | done | fail)) ?_ | refine jz_op rfl (.none rfl) (v_loadSRo rfl Try.underlying50 (by rfl) (by kernel_rfl) rfl tt (by (repeat first | exact m0 | refine List.Mem.tail _ ?_); first | done | fail)) ?_
       refine jz_op rfl (.none rfl) (v_move rfl rfl tt) ?_
       refine jz_op rfl (.none rfl) (v_move rfl rfl tt) ?_
       refine jz_op rfl (.none rfl) (v_sliceHi0 rfl Try.underlying34 (by kernel_rfl) rfl rfl ⟨(by first | with_reducible rfl | exact (Int.toNat_of_nonneg (by omega)).symm | (have hc := g_gt _hc; exact (Int.toNat_of_nonneg (by omega)).symm)), by omega⟩) ?_
       refine jz_x rfl rfl rfl (x_call (f := 27) (xs := [_, _, _]) rfl (c_run1 (hW := hW) (hf := hf) (hcap := hcap) (hc8 := (by omega)) ..) (ev_cons rfl tt (ev_cons rfl tt (ev_cons rfl tt ev_nil))) (by intro w hI; repeat' (first | exact ros_nil | refine ros_cons ?_ ?_ | exact hI.roRo (by (repeat first | exact m0 | refine List.Mem.tail _ ?_); first | done | fail) | exact HInv.vecRo hI (by (repeat first | exact m0 | refine List.Mem.tail _ ?_); first | done | fail) | exact ro_zero (HInv.vecRo hI (by (repeat first | exact m0 | refine List.Mem.tail _ ?_); first | done | fail)) | exact ro_head (HInv.vecRo hI (by (repeat first | exact m0 | refine List.Mem.tail _ ?_); first | done | fail)) (by omega) | exact sub_tab (HInv.vecRo hI (by (repeat first | exact m0 | refine List.Mem.tail _ ?_); first | done | fail)) hxc (by omega)))) (by first | exact runQ_Vin | exact runW_Vin | exact fun _ _ h => ⟨_, .head _, h⟩ | exact fun _ _ h => ⟨_, .head _, inV_tup2 rfl rfl h⟩ | exact fun _ _ h => ⟨_, .head _, inV_tup1 rfl h⟩ | exact fun _ _ h => ⟨_, .head _, inV_agg1 rfl (inV_tup1 rfl h)⟩ | exact fun _ _ h => ⟨_, .head _, inV_agg1 rfl h⟩ | exact fun _ _ h => (inV_agg2 h).elim (fun h => ⟨_, .head _, h⟩) (fun h => ⟨_, .tail _ (.head _), h⟩) | exact fun _ _ h => (inV_agg2 h).elim (fun h => ⟨_, .tail _ (.head _), h⟩) (fun h => ⟨_, .head _, h⟩) | exact fun _ _ h => (inV_agg2 (inV_tup1 rfl h)).elim (fun h => ⟨_, .head _, h⟩) (fun h => ⟨_, .tail _ (.head _), h⟩) | exact fun _ _ h => (inV_agg2 (inV_tup1 rfl h)).elim (fun h => ⟨_, .tail _ (.head _), h⟩) (fun h => ⟨_, .head _, h⟩)) ?_
       refine jz_xv (t := 126) rfl rfl rfl hBq rfl rfl (by kernel_rfl) (fun s126 => v_move rfl rfl tt) (by first | exact fun _ _ h => h | exact fun _ _ h => inV_tup1' h | exact fun _ _ h => inV_agg1 rfl h | exact fun _ _ h => inV_agg1' (inV_agg1 rfl h) | exact fun _ _ h => inV_tup2' h) ?_
       refine jz_xv (t := 120) rfl rfl rfl hBq rfl rfl (by kernel_rfl) (fun s120 => v_extract rfl rfl tt rfl) (by first | exact fun _ _ h => h | exact fun _ _ h => inV_tup1' h | exact fun _ _ h => inV_agg1 rfl h | exact fun _ _ h => inV_agg1' (inV_agg1 rfl h) | exact fun _ _ h => inV_tup2' h) ?_
       refine jz_xv (t := 120) rfl rfl rfl hBq rfl rfl (by kernel_rfl) (fun s120 => v_extract rfl rfl tt rfl) (by first | exact fun _ _ h => h | exact fun _ _ h => inV_tup1' h | exact fun _ _ h => inV_agg1 rfl h | exact fun _ _ h => inV_agg1' (inV_agg1 rfl h) | exact fun _ _ h => inV_tup2' h) ?_
       refine jz_v1 (t := 120) rfl rfl hBq rfl rfl (by kernel_rfl) (fun s120 => v_extract rfl rfl tt rfl) ?_
       refine jz_x rfl rfl rfl (x_alloc rfl zero50 (by rfl)) (by first | exact runQ_Vin | exact runW_Vin | exact fun _ _ h => ⟨_, .head _, h⟩ | exact fun _ _ h => ⟨_, .head _, inV_tup2 rfl rfl h⟩ | exact fun _ _ h => ⟨_, .head _, inV_tup1 rfl h⟩ | exact fun _ _ h => ⟨_, .head _, inV_agg1 rfl (inV_tup1 rfl h)⟩ | exact fun _ _ h => ⟨_, .head _, inV_agg1 rfl h⟩ | exact fun _ _ h => (inV_agg2 h).elim (fun h => ⟨_, .head _, h⟩) (fun h => ⟨_, .tail _ (.head _), h⟩) | exact fun _ _ h => (inV_agg2 h).elim (fun h => ⟨_, .tail _ (.head _), h⟩) (fun h => ⟨_, .head _, h⟩) | exact fun _ _ h => (inV_agg2 (inV_tup1 rfl h)).elim (fun h => ⟨_, .head _, h⟩) (fun h => ⟨_, .tail _ (.head _), h⟩) | exact fun _ _ h => (inV_agg2 (inV_tup1 rfl h)).elim (fun h => ⟨_, .tail _ (.head _), h⟩) (fun h => ⟨_, .head _, h⟩)) ?_
       refine jz_nil2P (d1 := 120) (d2 := 19) rfl hBq rfl rfl rfl rfl (by kernel_rfl) (fun s f hf k hk => by first | exact runQ_inV s f hf k hk | exact runW_inV s f hf k hk | (obtain rfl := mem1 hf; first | exact hk | exact inV_agg1' hk) | (rcases mem2 hf with rfl | rfl; exact inV_agg2l hk; exact inV_agg2r hk)) (fun s f hf k hk => by first | exact runQ_inV s f hf k hk | exact runW_inV s f hf k hk | (obtain rfl := mem1 hf; first | exact hk | exact inV_agg1' hk) | (rcases mem2 hf with rfl | rfl; exact inV_agg2l hk; exact inV_agg2r hk)) (fun b120 b19 => ?_)
       refine jlp_ext 7 rfl rfl rfl rfl rfl rfl rfl ?_
       refine jlp_ext 8 rfl rfl rfl rfl rfl rfl rfl ?_
       refine jlp_done ?_
       first | refine jl_storeS (i := 0) rfl rfl rfl (by kernel_rfl) rfl rfl rfl rfl ?_ | refine jl_storeS (i := 1) rfl rfl rfl (by kernel_rfl) rfl rfl rfl rfl ?_ | refine jl_storeS (i := 2) rfl rfl rfl (by kernel_rfl) rfl rfl rfl rfl ?_ | refine jl_storeS (i := 3) rfl rfl rfl (by kernel_rfl) rfl rfl rfl rfl ?_ | refine jl_storeS (i := 4) rfl rfl rfl (by kernel_rfl) rfl rfl rfl rfl ?_ | refine jl_storeS (i := 5) rfl rfl rfl (by kernel_rfl) rfl rfl rfl rfl ?_ | refine jl_storeS (i := 6) rfl rfl rfl (by kernel_rfl) rfl rfl rfl rfl ?_ | refine jl_storeS (i := 7) rfl rfl rfl (by kernel_rfl) rfl rfl rfl rfl ?_
       refine jl_op rfl rfl (.none rfl) (v_assign rfl rfl tt) ?_
       obtain ⟨⟨⟨R1, r1c⟩, ⟨L1, l1c⟩⟩, ⟨X1, x1c⟩⟩ := b120; dsimp only; rcases R1 with _ | c1; (first | exact jl_none 0 rfl (by omega) | exact jl_none 1 rfl (by omega) | exact jl_none 2 rfl (by omega) | exact jl_none 3 rfl (by omega)); rcases L1 with _ | d1; (first | exact jl_none 0 rfl (by omega) | exact jl_none 1 rfl (by omega) | exact jl_none 2 rfl (by omega) | exact jl_none 3 rfl (by omega)); refine jl_op rfl rfl (.none rfl) (v_assign rfl rfl tt) ?_
       refine jl_nil ?_)
    | (refine j_drawZP (id := 19) (m := 11) [8, 9] [(136, [5]), (130, [6, 5]), (137, [7, 6, 5]), (138, [8, 6, 5]), (22, [10])] [none, none, none, none, none, some [], some [136], some [130], some [130], none, some []] (by kernel_rfl) (by kernel_rfl) (by repeat' (first | exact panOK_body | refine panOK_then ?_ | refine panOK_in ?_)) (fun Bq hBq => ?_)
       first | refine jz_op rfl (.none rfl) (v_loadS rfl Try.underlying47 (by rfl) (by kernel_rfl) rfl tt (by (repeat first | exact m0 | refine List.Mem.tail _ ?_); first | done | fail)) ?_ | refine jz_op rfl (.none rfl) (v_loadSRo rfl Try.underlying47 (by rfl) (by kernel_rfl) rfl tt (by (repeat first | exact m0 | refine List.Mem.tail _ ?_); first | done | fail)) ?_
       first | refine jz_op rfl (.none rfl) (v_loadS rfl Try.underlying50 (by rfl) (by kernel_rfl) rfl tt (by (repeat first | exact m0 | refine List.Mem.tail _ ?_); first | done | fail)) ?_ | refine jz_op rfl (.none rfl) (v_loadSRo rfl Try.underlying50 (by rfl) (by kernel_rfl) rfl tt (by (repeat first | exact m0 | refine List.Mem.tail _ ?_); first | done | fail)) ?_
       refine jz_op rfl (.none rfl) (v_move rfl rfl tt) ?_
       refine jz_op rfl (.none rfl) (v_move rfl rfl tt) ?_
       refine jz_op rfl (.none rfl) (v_sliceLo rfl Try.underlying34 (by kernel_rfl) rfl rfl ⟨(by first | with_reducible rfl | exact (Int.toNat_of_nonneg (by omega)).symm | (have hc := g_gt _hc; exact (Int.toNat_of_nonneg (by omega)).symm)), by omega⟩) ?_
       refine jz_x rfl rfl rfl (x_call (f := 27) (xs := [_, _, _]) rfl (c_run2 (hW := hW) (hf := hf) (hcap := hcap) (hc8 := (by omega)) ..) (ev_cons rfl tt (ev_cons rfl tt (ev_cons rfl tt ev_nil))) (by intro w hI; repeat' (first | exact ros_nil | refine ros_cons ?_ ?_ | exact hI.roRo (by (repeat first | exact m0 | refine List.Mem.tail _ ?_); first | done | fail) | exact HInv.vecRo hI (by (repeat first | exact m0 | refine List.Mem.tail _ ?_); first | done | fail) | exact ro_zero (HInv.vecRo hI (by (repeat first | exact m0 | refine List.Mem.tail _ ?_); first | done | fail)) | exact ro_head (HInv.vecRo hI (by (repeat first | exact m0 | refine List.Mem.tail _ ?_); first | done | fail)) (by omega) | exact sub_tab (HInv.vecRo hI (by (repeat first | exact m0 | refine List.Mem.tail _ ?_); first | done | fail)) hxc (by omega)))) (by first | exact runQ_Vin | exact runW_Vin | exact fun _ _ h => ⟨_, .head _, h⟩ | exact fun _ _ h => ⟨_, .head _, inV_tup2 rfl rfl h⟩ | exact fun _ _ h => ⟨_, .head _, inV_tup1 rfl h⟩ | exact fun _ _ h => ⟨_, .head _, inV_agg1 rfl (inV_tup1 rfl h)⟩ | exact fun _ _ h => ⟨_, .head _, inV_agg1 rfl h⟩ | exact fun _ _ h => (inV_agg2 h).elim (fun h => ⟨_, .head _, h⟩) (fun h => ⟨_, .tail _ (.head _), h⟩) | exact fun _ _ h => (inV_agg2 h).elim (fun h => ⟨_, .tail _ (.head _), h⟩) (fun h => ⟨_, .head _, h⟩) | exact fun _ _ h => (inV_agg2 (inV_tup1 rfl h)).elim (fun h => ⟨_, .head _, h⟩) (fun h => ⟨_, .tail _ (.head _), h⟩) | exact fun _ _ h => (inV_agg2 (inV_tup1 rfl h)).elim (fun h => ⟨_, .tail _ (.head _), h⟩) (fun h => ⟨_, .head _, h⟩)) ?_
       refine jz_xv (t := 136) rfl rfl rfl hBq rfl rfl (by kernel_rfl) (fun s136 => v_move rfl rfl tt) (by first | exact fun _ _ h => h | exact fun _ _ h => inV_tup1' h | exact fun _ _ h => inV_agg1 rfl h | exact fun _ _ h => inV_agg1' (inV_agg1 rfl h) | exact fun _ _ h => inV_tup2' h) ?_
       refine jz_xv (t := 130) rfl rfl rfl hBq rfl rfl (by kernel_rfl) (fun s130 => v_extract rfl rfl tt rfl) (by first | exact fun _ _ h => h | exact fun _ _ h => inV_tup1' h | exact fun _ _ h => inV_agg1 rfl h | exact fun _ _ h => inV_agg1' (inV_agg1 rfl h) | exact fun _ _ h => inV_tup2' h) ?_
       refine jz_xv (t := 130) rfl rfl rfl hBq rfl rfl (by kernel_rfl) (fun s130 => v_extract rfl rfl tt rfl) (by first | exact fun _ _ h => h | exact fun _ _ h => inV_tup1' h | exact fun _ _ h => inV_agg1 rfl h | exact fun _ _ h => inV_agg1' (inV_agg1 rfl h) | exact fun _ _ h => inV_tup2' h) ?_
       refine jz_v1 (t := 130) rfl rfl hBq rfl rfl (by kernel_rfl) (fun s130 => v_extract rfl rfl tt rfl) ?_
       refine jz_x rfl rfl rfl (x_alloc rfl zero50 (by rfl)) (by first | exact runQ_Vin | exact runW_Vin | exact fun _ _ h => ⟨_, .head _, h⟩ | exact fun _ _ h => ⟨_, .head _, inV_tup2 rfl rfl h⟩ | exact fun _ _ h => ⟨_, .head _, inV_tup1 rfl h⟩ | exact fun _ _ h => ⟨_, .head _, inV_agg1 rfl (inV_tup1 rfl h)⟩ | exact fun _ _ h => ⟨_, .head _, inV_agg1 rfl h⟩ | exact fun _ _ h => (inV_agg2 h).elim (fun h => ⟨_, .head _, h⟩) (fun h => ⟨_, .tail _ (.head _), h⟩) | exact fun _ _ h => (inV_agg2 h).elim (fun h => ⟨_, .tail _ (.head _), h⟩) (fun h => ⟨_, .head _, h⟩) | exact fun _ _ h => (inV_agg2 (inV_tup1 rfl h)).elim (fun h => ⟨_, .head _, h⟩) (fun h => ⟨_, .tail _ (.head _), h⟩) | exact fun _ _ h => (inV_agg2 (inV_tup1 rfl h)).elim (fun h => ⟨_, .tail _ (.head _), h⟩) (fun h => ⟨_, .head _, h⟩)) ?_
       refine jz_nil2P (d1 := 130) (d2 := 22) rfl hBq rfl rfl rfl rfl (by kernel_rfl) (fun s f hf k hk => by first | exact runQ_inV s f hf k hk | exact runW_inV s f hf k hk | (obtain rfl := mem1 hf; first | exact hk | exact inV_agg1' hk) | (rcases mem2 hf with rfl | rfl; exact inV_agg2l hk; exact inV_agg2r hk)) (fun s f hf k hk => by first | exact runQ_inV s f hf k hk | exact runW_inV s f hf k hk | (obtain rfl := mem1 hf; first | exact hk | exact inV_agg1' hk) | (rcases mem2 hf with rfl | rfl; exact inV_agg2l hk; exact inV_agg2r hk)) (fun b130 b22 => ?_)
       refine jlp_ext 7 rfl rfl rfl rfl rfl rfl rfl ?_
       refine jlp_ext 8 rfl rfl rfl rfl rfl rfl rfl ?_
       refine jlp_done ?_
       first | refine jl_storeS (i := 0) rfl rfl rfl (by kernel_rfl) rfl rfl rfl rfl ?_ | refine jl_storeS (i := 1) rfl rfl rfl (by kernel_rfl) rfl rfl rfl rfl ?_ | refine jl_storeS (i := 2) rfl rfl rfl (by kernel_rfl) rfl rfl rfl rfl ?_ | refine jl_storeS (i := 3) rfl rfl rfl (by kernel_rfl) rfl rfl rfl rfl ?_ | refine jl_storeS (i := 4) rfl rfl rfl (by kernel_rfl) rfl rfl rfl rfl ?_ | refine jl_storeS (i := 5) rfl rfl rfl (by kernel_rfl) rfl rfl rfl rfl ?_ | refine jl_storeS (i := 6) rfl rfl rfl (by kernel_rfl) rfl rfl rfl rfl ?_ | refine jl_storeS (i := 7) rfl rfl rfl (by kernel_rfl) rfl rfl rfl rfl ?_
       refine jl_op rfl rfl (.none rfl) (v_assign rfl rfl tt) ?_
       refine jl_op rfl rfl (.none rfl) (v_assign rfl rfl tt) ?_
       refine jl_nil ?_)
    | (refine j_region (id := 20) ?_
       first | refine jl_op rfl rfl (.none rfl) (v_loadS rfl Try.underlying47 (by rfl) (by kernel_rfl) rfl tt (by (repeat first | exact m0 | refine List.Mem.tail _ ?_); first | done | fail)) ?_ | refine jl_op rfl rfl (.none rfl) (v_loadSRo rfl Try.underlying47 (by rfl) (by kernel_rfl) rfl tt (by (repeat first | exact m0 | refine List.Mem.tail _ ?_); first | done | fail)) ?_
       first | refine jl_op rfl rfl (.none rfl) (v_loadS rfl Try.underlying50 (by rfl) (by kernel_rfl) rfl tt (by (repeat first | exact m0 | refine List.Mem.tail _ ?_); first | done | fail)) ?_ | refine jl_op rfl rfl (.none rfl) (v_loadSRo rfl Try.underlying50 (by rfl) (by kernel_rfl) rfl tt (by (repeat first | exact m0 | refine List.Mem.tail _ ?_); first | done | fail)) ?_
       refine jl_op rfl rfl (.none rfl) (v_move rfl rfl tt) ?_
       refine jl_x rfl rfl rfl (x_call (f := 27) (xs := [_, _, _]) rfl (c_run1 (hW := hW) (hf := hf) (hcap := hcap) (hc8 := (by omega)) ..) (ev_cons rfl tt (ev_cons rfl tt (ev_cons rfl tt ev_nil))) (by intro w hI; repeat' (first | exact ros_nil | refine ros_cons ?_ ?_ | exact hI.roRo (by (repeat first | exact m0 | refine List.Mem.tail _ ?_); first | done | fail) | exact HInv.vecRo hI (by (repeat first | exact m0 | refine List.Mem.tail _ ?_); first | done | fail) | exact ro_zero (HInv.vecRo hI (by (repeat first | exact m0 | refine List.Mem.tail _ ?_); first | done | fail)) | exact ro_head (HInv.vecRo hI (by (repeat first | exact m0 | refine List.Mem.tail _ ?_); first | done | fail)) (by omega) | exact sub_tab (HInv.vecRo hI (by (repeat first | exact m0 | refine List.Mem.tail _ ?_); first | done | fail)) hxc (by omega)))) (fun s144 => ?_)
       refine jl_op rfl rfl (.none rfl) (v_move rfl rfl tt) ?_
       refine jl_op rfl rfl (.none rfl) (v_extract rfl rfl tt rfl) ?_
       refine jl_op rfl rfl (.none rfl) (v_extract rfl rfl tt rfl) ?_
       refine jl_op rfl rfl (.none rfl) (v_extract rfl rfl tt rfl) ?_
       refine jl_alloc rfl rfl rfl rfl zero50 (by rfl) (fun b25 => ?_)
       first | refine jl_storeS (i := 0) rfl rfl rfl (by kernel_rfl) rfl rfl rfl rfl ?_ | refine jl_storeS (i := 1) rfl rfl rfl (by kernel_rfl) rfl rfl rfl rfl ?_ | refine jl_storeS (i := 2) rfl rfl rfl (by kernel_rfl) rfl rfl rfl rfl ?_ | refine jl_storeS (i := 3) rfl rfl rfl (by kernel_rfl) rfl rfl rfl rfl ?_ | refine jl_storeS (i := 4) rfl rfl rfl (by kernel_rfl) rfl rfl rfl rfl ?_ | refine jl_storeS (i := 5) rfl rfl rfl (by kernel_rfl) rfl rfl rfl rfl ?_ | refine jl_storeS (i := 6) rfl rfl rfl (by kernel_rfl) rfl rfl rfl rfl ?_ | refine jl_storeS (i := 7) rfl rfl rfl (by kernel_rfl) rfl rfl rfl rfl ?_
       refine jl_op rfl rfl (.none rfl) (v_assign rfl rfl tt) ?_
       refine jl_op rfl rfl (.none rfl) (v_assign rfl rfl tt) ?_
       refine jl_nil ?_)
    | (refine j_region (id := 21) ?_
       refine jl_op rfl rfl (.none rfl) (v_move rfl rfl tt) ?_
       refine jl_op rfl rfl (.none rfl) (v_not rfl rfl tt) ?_
       refine jl_op rfl rfl (.none rfl) (v_move rfl rfl tt) ?_
       refine jl_op rfl rfl (.some rfl rfl rfl) (v_move rfl rfl tt) ?_
       refine jl_op rfl rfl (.some rfl rfl rfl) (v_not rfl rfl ii) ?_
       refine jl_op rfl rfl (.none rfl) (v_or rfl rfl tt rfl fi) ?_
       refine jl_op rfl rfl (.none rfl) (v_move rfl rfl tt) ?_
       refine jl_op rfl rfl (.some rfl rfl rfl) (v_move rfl rfl tt) ?_
       refine jl_op rfl rfl (.some rfl rfl rfl) (v_not rfl rfl ii) ?_
       refine jl_op rfl rfl (.none rfl) (v_or rfl rfl tt rfl fi) ?_
       refine jl_op rfl rfl (.none rfl) (v_move rfl rfl tt) ?_
       first | refine jl_op rfl rfl (.some rfl rfl rfl) (v_loadS rfl Try.underlying50 (by rfl) (by kernel_rfl) rfl tt (by (repeat first | exact m0 | refine List.Mem.tail _ ?_); first | done | fail)) ?_ | refine jl_op rfl rfl (.some rfl rfl rfl) (v_loadSRo rfl Try.underlying50 (by rfl) (by kernel_rfl) rfl tt (by (repeat first | exact m0 | refine List.Mem.tail _ ?_); first | done | fail)) ?_
       first | refine jl_op rfl rfl (.some rfl rfl rfl) (v_loadS rfl Try.underlying50 (by rfl) (by kernel_rfl) rfl tt (by (repeat first | exact m0 | refine List.Mem.tail _ ?_); first | done | fail)) ?_ | refine jl_op rfl rfl (.some rfl rfl rfl) (v_loadSRo rfl Try.underlying50 (by rfl) (by kernel_rfl) rfl tt (by (repeat first | exact m0 | refine List.Mem.tail _ ?_); first | done | fail)) ?_
       refine jl_op rfl rfl (.some rfl rfl rfl) (v_call (f := 32) (xs := [_, _]) rfl (c_sameQ (hW := hW) (hf := hf) ..) (ev_cons rfl ii (ev_cons rfl ii ev_nil)) (by intro w hc hI; first | trivial | (exfalso; simp_all; done) | (clear hc; repeat' (first | exact ros_nil | refine ros_cons ?_ ?_ | exact hI.roRo (by (repeat first | exact m0 | refine List.Mem.tail _ ?_); first | done | fail) | exact hI.boxRo (by (repeat first | exact m0 | refine List.Mem.tail _ ?_); first | done | fail) | exact HInv.vecRo hI (by (repeat first | exact m0 | refine List.Mem.tail _ ?_); first | done | fail))))) ?_
       refine jl_op rfl rfl (.some rfl rfl rfl) (v_not rfl rfl ii) ?_
       refine jl_op rfl rfl (.none rfl) (v_or rfl rfl tt rfl fi) ?_
       refine jl_op rfl rfl (.none rfl) (v_move rfl rfl tt) ?_
       refine jl_op rfl rfl (.some rfl rfl rfl) (v_move rfl rfl tt) ?_
       refine jl_op rfl rfl (.some rfl rfl rfl) (v_len rfl rfl Try.underlying34 rfl ii) ?_
       refine jl_op rfl rfl (.some rfl rfl rfl) (v_move rfl rfl tt) ?_
       refine jl_op rfl rfl (.some rfl rfl rfl) (v_icmp rfl rfl rfl rfl ii ii) ?_
       refine jl_op rfl rfl (.none rfl) (v_or rfl rfl tt rfl fi) ?_
       refine jl_op rfl rfl (.none rfl) (v_move rfl rfl tt) ?_
       refine jl_op rfl rfl (.some rfl rfl rfl) (v_move rfl rfl tt) ?_
       refine jl_op rfl rfl (.some rfl rfl rfl) (v_len rfl rfl Try.underlying34 rfl ii) ?_
       refine jl_op rfl rfl (.some rfl rfl rfl) (v_move rfl rfl tt) ?_
       refine jl_op rfl rfl (.some rfl rfl rfl) (v_iarith' rfl rfl rfl rfl tt ii (by first | exact fun _ => iw_sub (by omega) | exact fun _ => rfl)) ?_
       refine jl_op rfl rfl (.some rfl rfl rfl) (v_icmp rfl rfl rfl rfl ii ii) ?_
       refine jl_op rfl rfl (.none rfl) (v_or rfl rfl tt rfl fi) ?_
       refine jl_op rfl rfl (.none rfl) (v_move rfl rfl tt) ?_
       refine jl_op rfl rfl (.some rfl rfl rfl) (v_move rfl rfl tt) ?_
       refine jl_op rfl rfl (.some rfl rfl rfl) (v_len rfl rfl Try.underlying34 rfl ii) ?_
       refine jl_op rfl rfl (.some rfl rfl rfl) (v_icmp rfl rfl rfl rfl ii tt) ?_
       refine jl_op rfl rfl (.none rfl) (v_or rfl rfl tt rfl fi) ?_
       refine jl_nil ?_)
    | (refine j_region (id := 22) ?_
       refine jl_op rfl rfl (.none rfl) (v_assign rfl rfl tt) ?_
       refine jl_nil ?_)))
  all_goals exact jq_ret1 (.inl rfl) Try.results4 rfl
end Go.Vx
