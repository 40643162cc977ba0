/- Contracts of functions of the program and of the reference. -/
import Derived.Test.YteddfolpmmimiaaCon
namespace Go.Vx
open Go.Proofs
set_option maxRecDepth 4000
set_option maxHeartbeats 4000000
attribute [local irreducible] J JL JQ JA VOp Con Ext XOp ConM
theorem c_srcNext (b : Nat) (A : Option Addr) (N cap : Nat) (g : Nat → Nat) (a : Nat) (sd : Int) (ha : a ≤ 1000000) (hg : ∀ j, j < N → g j < 256) : ConG Try.prog 131 [.pointer (some ⟨b, 0, none⟩)] [.ro A (tabY N g)] (srcB b 143 A N cap a sd) (fun s : Pk 256 => srcB b 143 A N cap (a + 1) s.1.2) (fun s : Pk 256 => .int .i64 s.1.1) (fun _ => []) := by
  refine conG_intro Try.func131 (by decide) rfl rfl (fun w0 => ?_)
  (repeat' (first
    | refine j_condLt rfl (fun _ => ?_) (fun _ => ?_)
    | refine j_condLe rfl (fun _ => ?_) (fun _ => ?_)
    | refine j_condGt rfl (fun _ => ?_) (fun _ => ?_)
    | refine j_condGe rfl (fun _ => ?_) (fun _ => ?_)
    | refine j_condNe rfl (fun _ => ?_) (fun _ => ?_)
    | refine j_condEq rfl (fun _ => ?_) (fun _ => ?_)
    | refine j_condOrLt rfl (fun _ => ?_) (fun _ => ?_)
    | refine j_condAndLt rfl (fun _ => ?_) (fun _ => ?_)
    | refine j_condAndGe rfl (fun _ => ?_) (fun _ => ?_)
    | refine j_seq ?_
    | refine jq_then ?_
    | refine j_block ?_
    | refine j_ret ?_
    | refine jq_then_ret ?_
    | refine jq_block_ret ?_
    | refine jq_block_normal ?_
    | refine jq_then_exit ?_
    | refine jq_block_same rfl ?_
    | refine jq_block_other rfl ?_
    | refine j_skip ?_
    | refine j_exit ?_
    | refine j_label ?_
    | refine j_condCT ?_
    | refine j_condCF ?_
    | refine j_cond rfl (fun _ => ?_) (fun _ => ?_)
    | (refine j_region (id := 0) ?_
       refine jl_op rfl rfl (.none rfl) (v_assign rfl rfl tt) ?_
       refine jl_nil ?_)
    | (refine j_region (id := 1) ?_
       refine jl_op rfl rfl (.none rfl) (v_assign rfl rfl tt) ?_
       refine jl_nil ?_)
    | (refine j_draw (id := 2) (by kernel_rfl) (by kernel_rfl) ?_
       refine ja_op rfl (.none rfl) (v_move rfl rfl tt) ?_
       first | refine ja_op rfl (.none rfl) (v_nilCheck rfl rfl tt) ?_ | refine ja_op rfl (.none rfl) (v_nilCheckF rfl rfl tt) ?_
       refine ja_op rfl (.none rfl) (v_fieldAddr rfl Try.underlying143 (by rfl) (by kernel_rfl) rfl tt) ?_
       first | refine ja_op rfl (.none rfl) (v_loadBox rfl Try.underlying3 (by rfl) rfl tt (by first | exact m0 | exact m1 | exact m2 | exact m3 | exact m4 | exact m5 | exact m6 | exact m7 | exact m8 | exact m9 | exact m10 | exact m11 | exact m12 | exact m13) (by rfl)) ?_ | refine ja_op rfl (.none rfl) (v_loadRoB rfl Try.underlying3 (by rfl) rfl tt (by first | exact m0 | exact m1 | exact m2 | exact m3 | exact m4 | exact m5 | exact m6 | exact m7 | exact m8 | exact m9 | exact m10 | exact m11 | exact m12 | exact m13) (by rfl)) ?_
       refine ja_op rfl (.none rfl) (v_move rfl rfl tt) ?_
       first | refine ja_op rfl (.none rfl) (v_nilCheck rfl rfl tt) ?_ | refine ja_op rfl (.none rfl) (v_nilCheckF rfl rfl tt) ?_
       refine ja_op rfl (.none rfl) (v_fieldAddr rfl Try.underlying143 (by rfl) (by kernel_rfl) rfl tt) ?_
       first | refine ja_op rfl (.none rfl) (v_loadBox rfl Try.underlying22 (by rfl) rfl tt (by first | exact m0 | exact m1 | exact m2 | exact m3 | exact m4 | exact m5 | exact m6 | exact m7 | exact m8 | exact m9 | exact m10 | exact m11 | exact m12 | exact m13) (by rfl)) ?_ | refine ja_op rfl (.none rfl) (v_loadRoB rfl Try.underlying22 (by rfl) rfl tt (by first | exact m0 | exact m1 | exact m2 | exact m3 | exact m4 | exact m5 | exact m6 | exact m7 | exact m8 | exact m9 | exact m10 | exact m11 | exact m12 | exact m13) (by rfl)) ?_
       refine ja_op rfl (.none rfl) (v_len rfl rfl Try.underlying22 rfl tt) ?_
       refine ja_op rfl (.none rfl) (v_icmp rfl rfl rfl rfl tt tt) ?_
       refine ja_nil rfl ?_)
    | (refine j_draw (id := 3) (by kernel_rfl) (by kernel_rfl) ?_
       refine ja_op rfl (.none rfl) (v_move rfl rfl tt) ?_
       first | refine ja_op rfl (.none rfl) (v_nilCheck rfl rfl tt) ?_ | refine ja_op rfl (.none rfl) (v_nilCheckF rfl rfl tt) ?_
       refine ja_op rfl (.none rfl) (v_fieldAddr rfl Try.underlying143 (by rfl) (by kernel_rfl) rfl tt) ?_
       first | refine ja_op rfl (.none rfl) (v_loadBox rfl Try.underlying22 (by rfl) rfl tt (by first | exact m0 | exact m1 | exact m2 | exact m3 | exact m4 | exact m5 | exact m6 | exact m7 | exact m8 | exact m9 | exact m10 | exact m11 | exact m12 | exact m13) (by rfl)) ?_ | refine ja_op rfl (.none rfl) (v_loadRoB rfl Try.underlying22 (by rfl) rfl tt (by first | exact m0 | exact m1 | exact m2 | exact m3 | exact m4 | exact m5 | exact m6 | exact m7 | exact m8 | exact m9 | exact m10 | exact m11 | exact m12 | exact m13) (by rfl)) ?_
       refine ja_op rfl (.none rfl) (v_move rfl rfl tt) ?_
       first | refine ja_op rfl (.none rfl) (v_nilCheck rfl rfl tt) ?_ | refine ja_op rfl (.none rfl) (v_nilCheckF rfl rfl tt) ?_
       refine ja_op rfl (.none rfl) (v_fieldAddr rfl Try.underlying143 (by rfl) (by kernel_rfl) rfl tt) ?_
       first | refine ja_op rfl (.none rfl) (v_loadBox rfl Try.underlying3 (by rfl) rfl tt (by first | exact m0 | exact m1 | exact m2 | exact m3 | exact m4 | exact m5 | exact m6 | exact m7 | exact m8 | exact m9 | exact m10 | exact m11 | exact m12 | exact m13) (by rfl)) ?_ | refine ja_op rfl (.none rfl) (v_loadRoB rfl Try.underlying3 (by rfl) rfl tt (by first | exact m0 | exact m1 | exact m2 | exact m3 | exact m4 | exact m5 | exact m6 | exact m7 | exact m8 | exact m9 | exact m10 | exact m11 | exact m12 | exact m13) (by rfl)) ?_
       refine ja_op rfl (.none rfl) (v_indexAddr rfl Try.underlying22 (by kernel_rfl) rfl rfl tt tt (by first | exact hA_some | exact hA_roT (by first | exact m0 | exact m1 | exact m2 | exact m3 | exact m4 | exact m5 | exact m6 | exact m7 | exact m8 | exact m9 | exact m10 | exact m11 | exact m12 | exact m13) | exact hA_vecT (by first | exact m0 | exact m1 | exact m2 | exact m3 | exact m4 | exact m5 | exact m6 | exact m7 | exact m8 | exact m9 | exact m10 | exact m11 | exact m12 | exact m13) | exact hA_vecP (by first | exact m0 | exact m1 | exact m2 | exact m3 | exact m4 | exact m5 | exact m6 | exact m7 | exact m8 | exact m9 | exact m10 | exact m11 | exact m12 | exact m13) | exact hA_roI (by first | exact m0 | exact m1 | exact m2 | exact m3 | exact m4 | exact m5 | exact m6 | exact m7 | exact m8 | exact m9 | exact m10 | exact m11 | exact m12 | exact m13) | exact hA_vecI (by first | exact m0 | exact m1 | exact m2 | exact m3 | exact m4 | exact m5 | exact m6 | exact m7 | exact m8 | exact m9 | exact m10 | exact m11 | exact m12 | exact m13) | exact hA_vecPI (by first | exact m0 | exact m1 | exact m2 | exact m3 | exact m4 | exact m5 | exact m6 | exact m7 | exact m8 | exact m9 | exact m10 | exact m11 | exact m12 | exact m13) | exact hA_vecPS (by first | exact m0 | exact m1 | exact m2 | exact m3 | exact m4 | exact m5 | exact m6 | exact m7 | exact m8 | exact m9 | exact m10 | exact m11 | exact m12 | exact m13) | exact hA_ro (by first | exact m0 | exact m1 | exact m2 | exact m3 | exact m4 | exact m5 | exact m6 | exact m7 | exact m8 | exact m9 | exact m10 | exact m11 | exact m12 | exact m13) | exact hA_vec (by first | exact m0 | exact m1 | exact m2 | exact m3 | exact m4 | exact m5 | exact m6 | exact m7 | exact m8 | exact m9 | exact m10 | exact m11 | exact m12 | exact m13) | exact hA_roY (by first | exact m0 | exact m1 | exact m2 | exact m3 | exact m4 | exact m5 | exact m6 | exact m7 | exact m8 | exact m9 | exact m10 | exact m11 | exact m12 | exact m13)) (fun _hc => ⟨(by first | with_reducible rfl | exact (Int.toNat_of_nonneg (by omega)).symm | (have hc := g_gt _hc; exact (Int.toNat_of_nonneg (by omega)).symm)), (by first | omega | (rw [tabY_length]; omega) | (rw [tab_length]; omega) | (rw [part_length]; omega) | (rw [tabI_length]; omega) | (rw [partI_length]; omega) | (rw [List.length_set, part_length]; omega))⟩)) ?_
       first | refine ja_op rfl (.none rfl) (v_loadVec rfl Try.underlying5 (by rfl) rfl tt (by first | exact m0 | exact m1 | exact m2 | exact m3 | exact m4 | exact m5 | exact m6 | exact m7 | exact m8 | exact m9 | exact m10 | exact m11 | exact m12 | exact m13) (fun _ => (by first | with_reducible exact part_get_ge (by omega) (by omega) | with_reducible exact tab_get (by omega) | with_reducible exact tabI_get (by omega) | with_reducible exact part_get (by omega) | exact part_get_ge (by omega) (by omega) | exact tab_get (by omega) | exact tabI_get (by omega) | exact part_get (by omega) | exact part_set_get (by omega) | exact partI_get (by omega) | exact tabY_get (by omega) | assumption | rfl))) ?_ | refine ja_op rfl (.none rfl) (v_loadRo rfl Try.underlying5 (by rfl) rfl tt (by first | exact m0 | exact m1 | exact m2 | exact m3 | exact m4 | exact m5 | exact m6 | exact m7 | exact m8 | exact m9 | exact m10 | exact m11 | exact m12 | exact m13) (fun _ => (by first | with_reducible exact part_get_ge (by omega) (by omega) | with_reducible exact tab_get (by omega) | with_reducible exact tabI_get (by omega) | with_reducible exact part_get (by omega) | exact part_get_ge (by omega) (by omega) | exact tab_get (by omega) | exact tabI_get (by omega) | exact part_get (by omega) | exact part_set_get (by omega) | exact partI_get (by omega) | exact tabY_get (by omega) | assumption | rfl))) ?_
       refine ja_op rfl (.none rfl) (v_i2i rfl rfl tt (by rfl) Try.underlying3 rfl) ?_
       refine ja_op rfl (.none rfl) (v_assign rfl rfl tt) ?_
       refine ja_nil rfl ?_)
    | (refine j_region (id := 4) ?_
       refine jl_op rfl rfl (.none rfl) (v_move rfl rfl tt) ?_
       first | refine jl_op rfl rfl (.none rfl) (v_nilCheck rfl rfl tt) ?_ | refine jl_op rfl rfl (.none rfl) (v_nilCheckF rfl rfl tt) ?_
       refine jl_op rfl rfl (.none rfl) (v_fieldAddr rfl Try.underlying143 (by rfl) (by kernel_rfl) rfl tt) ?_
       first | refine jl_op rfl rfl (.none rfl) (v_loadBox rfl Try.underlying3 (by rfl) rfl tt (by first | exact m0 | exact m1 | exact m2 | exact m3 | exact m4 | exact m5 | exact m6 | exact m7 | exact m8 | exact m9 | exact m10 | exact m11 | exact m12 | exact m13) (by rfl)) ?_ | refine jl_op rfl rfl (.none rfl) (v_loadRoB rfl Try.underlying3 (by rfl) rfl tt (by first | exact m0 | exact m1 | exact m2 | exact m3 | exact m4 | exact m5 | exact m6 | exact m7 | exact m8 | exact m9 | exact m10 | exact m11 | exact m12 | exact m13) (by rfl)) ?_
       refine jl_op rfl rfl (.none rfl) (v_iarith' rfl rfl rfl rfl tt tt (by first | exact fun _ => iw_add (by omega) | exact fun _ => rfl)) ?_
       first | refine jl_op rfl rfl (.none rfl) (v_nilCheck rfl rfl tt) ?_ | refine jl_op rfl rfl (.none rfl) (v_nilCheckF rfl rfl tt) ?_
       refine jl_op rfl rfl (.none rfl) (v_fieldAddr rfl Try.underlying143 (by rfl) (by kernel_rfl) rfl tt) ?_
       first | refine jl_storeBox (i := 0) rfl rfl rfl (by kernel_rfl) rfl rfl rfl rfl rfl ?_ | refine jl_storeBox (i := 1) rfl rfl rfl (by kernel_rfl) rfl rfl rfl rfl rfl ?_ | refine jl_storeBox (i := 2) rfl rfl rfl (by kernel_rfl) rfl rfl rfl rfl rfl ?_ | refine jl_storeBox (i := 3) rfl rfl rfl (by kernel_rfl) rfl rfl rfl rfl rfl ?_ | refine jl_storeBox (i := 4) rfl rfl rfl (by kernel_rfl) rfl rfl rfl rfl rfl ?_ | refine jl_storeBox (i := 5) rfl rfl rfl (by kernel_rfl) rfl rfl rfl rfl rfl ?_ | refine jl_storeBox (i := 6) rfl rfl rfl (by kernel_rfl) rfl rfl rfl rfl rfl ?_ | refine jl_storeBox (i := 7) rfl rfl rfl (by kernel_rfl) rfl rfl rfl rfl rfl ?_
       refine jl_nil ?_)
    | (refine j_region (id := 5) ?_
       refine jl_op rfl rfl (.none rfl) (v_move rfl rfl tt) ?_
       refine jl_op rfl rfl (.none rfl) (v_move rfl rfl tt) ?_
       first | refine jl_op rfl rfl (.none rfl) (v_nilCheck rfl rfl tt) ?_ | refine jl_op rfl rfl (.none rfl) (v_nilCheckF rfl rfl tt) ?_
       refine jl_op rfl rfl (.none rfl) (v_fieldAddr rfl Try.underlying143 (by rfl) (by kernel_rfl) rfl tt) ?_
       first | refine jl_op rfl rfl (.none rfl) (v_loadBox rfl Try.underlying141 (by rfl) rfl tt (by first | exact m0 | exact m1 | exact m2 | exact m3 | exact m4 | exact m5 | exact m6 | exact m7 | exact m8 | exact m9 | exact m10 | exact m11 | exact m12 | exact m13) (by rfl)) ?_ | refine jl_op rfl rfl (.none rfl) (v_loadRoB rfl Try.underlying141 (by rfl) rfl tt (by first | exact m0 | exact m1 | exact m2 | exact m3 | exact m4 | exact m5 | exact m6 | exact m7 | exact m8 | exact m9 | exact m10 | exact m11 | exact m12 | exact m13) (by rfl)) ?_
       refine jl_op rfl rfl (.none rfl) (v_iarith rfl rfl rfl rfl tt tt) ?_
       refine jl_op rfl rfl (.none rfl) (v_move rfl rfl tt) ?_
       refine jl_op rfl rfl (.none rfl) (v_i2i rfl rfl tt (by rfl) Try.underlying141 rfl) ?_
       refine jl_op rfl rfl (.none rfl) (v_iarith rfl rfl rfl rfl tt tt) ?_
       refine jl_op rfl rfl (.none rfl) (v_iarith rfl rfl rfl rfl tt tt) ?_
       first | refine jl_op rfl rfl (.none rfl) (v_nilCheck rfl rfl tt) ?_ | refine jl_op rfl rfl (.none rfl) (v_nilCheckF rfl rfl tt) ?_
       refine jl_op rfl rfl (.none rfl) (v_fieldAddr rfl Try.underlying143 (by rfl) (by kernel_rfl) rfl tt) ?_
       first | refine jl_storeBox (i := 0) rfl rfl rfl (by kernel_rfl) rfl rfl rfl rfl rfl ?_ | refine jl_storeBox (i := 1) rfl rfl rfl (by kernel_rfl) rfl rfl rfl rfl rfl ?_ | refine jl_storeBox (i := 2) rfl rfl rfl (by kernel_rfl) rfl rfl rfl rfl rfl ?_ | refine jl_storeBox (i := 3) rfl rfl rfl (by kernel_rfl) rfl rfl rfl rfl rfl ?_ | refine jl_storeBox (i := 4) rfl rfl rfl (by kernel_rfl) rfl rfl rfl rfl rfl ?_ | refine jl_storeBox (i := 5) rfl rfl rfl (by kernel_rfl) rfl rfl rfl rfl rfl ?_ | refine jl_storeBox (i := 6) rfl rfl rfl (by kernel_rfl) rfl rfl rfl rfl rfl ?_ | refine jl_storeBox (i := 7) rfl rfl rfl (by kernel_rfl) rfl rfl rfl rfl rfl ?_
       refine jl_nil ?_)
    | (refine j_draw (id := 6) (by kernel_rfl) (by kernel_rfl) ?_
       refine ja_op rfl (.none rfl) (v_move rfl rfl tt) ?_
       first | refine ja_op rfl (.none rfl) (v_nilCheck rfl rfl tt) ?_ | refine ja_op rfl (.none rfl) (v_nilCheckF rfl rfl tt) ?_
       refine ja_op rfl (.none rfl) (v_fieldAddr rfl Try.underlying143 (by rfl) (by kernel_rfl) rfl tt) ?_
       first | refine ja_op rfl (.none rfl) (v_loadBox rfl Try.underlying3 (by rfl) rfl tt (by first | exact m0 | exact m1 | exact m2 | exact m3 | exact m4 | exact m5 | exact m6 | exact m7 | exact m8 | exact m9 | exact m10 | exact m11 | exact m12 | exact m13) (by rfl)) ?_ | refine ja_op rfl (.none rfl) (v_loadRoB rfl Try.underlying3 (by rfl) rfl tt (by first | exact m0 | exact m1 | exact m2 | exact m3 | exact m4 | exact m5 | exact m6 | exact m7 | exact m8 | exact m9 | exact m10 | exact m11 | exact m12 | exact m13) (by rfl)) ?_
       refine ja_op rfl (.none rfl) (v_move rfl rfl tt) ?_
       first | refine ja_op rfl (.none rfl) (v_nilCheck rfl rfl tt) ?_ | refine ja_op rfl (.none rfl) (v_nilCheckF rfl rfl tt) ?_
       refine ja_op rfl (.none rfl) (v_fieldAddr rfl Try.underlying143 (by rfl) (by kernel_rfl) rfl tt) ?_
       first | refine ja_op rfl (.none rfl) (v_loadBox rfl Try.underlying22 (by rfl) rfl tt (by first | exact m0 | exact m1 | exact m2 | exact m3 | exact m4 | exact m5 | exact m6 | exact m7 | exact m8 | exact m9 | exact m10 | exact m11 | exact m12 | exact m13) (by rfl)) ?_ | refine ja_op rfl (.none rfl) (v_loadRoB rfl Try.underlying22 (by rfl) rfl tt (by first | exact m0 | exact m1 | exact m2 | exact m3 | exact m4 | exact m5 | exact m6 | exact m7 | exact m8 | exact m9 | exact m10 | exact m11 | exact m12 | exact m13) (by rfl)) ?_
       refine ja_op rfl (.none rfl) (v_len rfl rfl Try.underlying22 rfl tt) ?_
       refine ja_op rfl (.none rfl) (v_icmp rfl rfl rfl rfl tt tt) ?_
       refine ja_nil rfl ?_)
    | (refine j_region (id := 7) ?_
       refine jl_op rfl rfl (.none rfl) (v_move rfl rfl tt) ?_
       refine jl_op rfl rfl (.none rfl) (v_assign rfl rfl tt) ?_
       refine jl_nil ?_)
    | (refine j_region (id := 8) ?_
       refine jl_op rfl rfl (.none rfl) (v_move rfl rfl tt) ?_
       first | refine jl_op rfl rfl (.none rfl) (v_nilCheck rfl rfl tt) ?_ | refine jl_op rfl rfl (.none rfl) (v_nilCheckF rfl rfl tt) ?_
       refine jl_op rfl rfl (.none rfl) (v_fieldAddr rfl Try.underlying143 (by rfl) (by kernel_rfl) rfl tt) ?_
       first | refine jl_op rfl rfl (.none rfl) (v_loadBox rfl Try.underlying141 (by rfl) rfl tt (by first | exact m0 | exact m1 | exact m2 | exact m3 | exact m4 | exact m5 | exact m6 | exact m7 | exact m8 | exact m9 | exact m10 | exact m11 | exact m12 | exact m13) (by rfl)) ?_ | refine jl_op rfl rfl (.none rfl) (v_loadRoB rfl Try.underlying141 (by rfl) rfl tt (by first | exact m0 | exact m1 | exact m2 | exact m3 | exact m4 | exact m5 | exact m6 | exact m7 | exact m8 | exact m9 | exact m10 | exact m11 | exact m12 | exact m13) (by rfl)) ?_
       refine jl_op rfl rfl (.none rfl) (v_ishr rfl rfl rfl tt tt (by decide) rfl) ?_
       refine jl_op rfl rfl (.none rfl) (v_iand rfl rfl rfl tt tt rfl) ?_
       refine jl_op rfl rfl (.none rfl) (v_i2i rfl rfl tt (by rfl) Try.underlying2 rfl) ?_
       refine jl_op rfl rfl (.none rfl) (v_assign rfl rfl tt) ?_
       refine jl_nil ?_)))
  all_goals first | exact jq_retG 0 ⟨(_, _), byte_wrap (hg _ (by omega)) rfl⟩ (.inl rfl) Try.results131 rfl rfl rfl (fun _ _ => fresh_nil) | exact jq_retG 0 ⟨(0, _), ⟨Int.le_refl 0, zero_lt_256⟩⟩ (.inl rfl) Try.results131 rfl rfl rfl (fun _ _ => fresh_nil) | exact jq_retG 0 ⟨(_, _), and_byte _⟩ (.inl rfl) Try.results131 rfl rfl rfl (fun _ _ => fresh_nil)
theorem c_srcPick (b : Nat) (A : Option Addr) (N cap : Nat) (g : Nat → Nat) (a : Nat) (sd : Int) (n : Int) (h1 : 2 ≤ n) (h2 : n ≤ 200) (ha : a ≤ 1000000) (hg : ∀ j, j < N → g j < 256) : ConG Try.prog 79 [.pointer (some ⟨b, 0, none⟩), .int .i64 n] [.ro A (tabY N g)] (srcB b 143 A N cap a sd) (fun s : Pk n => srcB b 143 A N cap (a + 1) s.1.2) (fun s : Pk n => .int .i64 s.1.1) (fun _ => []) := by
  refine conG_intro Try.func79 (by decide) rfl rfl (fun w0 => ?_)
  (repeat' (first
    | refine j_condLt rfl (fun _ => ?_) (fun _ => ?_)
    | refine j_condLe rfl (fun _ => ?_) (fun _ => ?_)
    | refine j_condGt rfl (fun _ => ?_) (fun _ => ?_)
    | refine j_condGe rfl (fun _ => ?_) (fun _ => ?_)
    | refine j_condNe rfl (fun _ => ?_) (fun _ => ?_)
    | refine j_condEq rfl (fun _ => ?_) (fun _ => ?_)
    | refine j_condOrLt rfl (fun _ => ?_) (fun _ => ?_)
    | refine j_condAndLt rfl (fun _ => ?_) (fun _ => ?_)
    | refine j_condAndGe rfl (fun _ => ?_) (fun _ => ?_)
    | refine j_seq ?_
    | refine jq_then ?_
    | refine j_block ?_
    | refine j_ret ?_
    | refine jq_then_ret ?_
    | refine jq_block_ret ?_
    | refine jq_block_normal ?_
    | refine jq_then_exit ?_
    | refine jq_block_same rfl ?_
    | refine jq_block_other rfl ?_
    | refine j_skip ?_
    | refine j_exit ?_
    | refine j_label ?_
    | refine j_condCT ?_
    | refine j_condCF ?_
    | refine j_cond rfl (fun _ => ?_) (fun _ => ?_)
    | (refine j_region (id := 0) ?_
       refine jl_op rfl rfl (.none rfl) (v_assign rfl rfl tt) ?_
       refine jl_nil ?_)
    | (refine j_region (id := 1) ?_
       refine jl_op rfl rfl (.none rfl) (v_move rfl rfl tt) ?_
       refine jl_op rfl rfl (.none rfl) (v_icmp rfl rfl rfl rfl tt tt) ?_
       refine jl_nil ?_)
    | (refine j_region (id := 2) ?_
       refine jl_op rfl rfl (.none rfl) (v_assign rfl rfl tt) ?_
       refine jl_nil ?_)
    | (refine j_region (id := 3) ?_
       refine jl_op rfl rfl (.none rfl) (v_move rfl rfl tt) ?_
       refine jl_g (i := 0) (f := 131) (xs := [_]) rfl rfl rfl rfl (c_srcNext b A N cap g a sd ha hg) (ev_cons rfl tt ev_nil) rfl rfl (fun _ => rfl) (fun w hI => hI.rovRo 1 0 rfl rfl rfl rov_nil) (fun s9 => ?_)
       refine jl_op rfl rfl (.none rfl) (v_assign rfl rfl tt) ?_
       refine jl_nil ?_)
    | (refine j_region (id := 4) ?_
       refine jl_op rfl rfl (.none rfl) (v_move rfl rfl tt) ?_
       refine jl_op rfl rfl (.none rfl) (v_icmp rfl rfl rfl rfl tt tt) ?_
       refine jl_nil ?_)
    | (refine j_region (id := 6) ?_
       refine jl_op rfl rfl (.none rfl) (v_move rfl rfl tt) ?_
       refine jl_op rfl rfl (.none rfl) (v_move rfl rfl tt) ?_
       refine jl_op rfl rfl (.none rfl) (v_idiv (Z := s9.1.1.tmod n) rfl rfl rfl tt tt (fun _ => (by omega)) (fun _ => .inr ⟨rfl, rfl⟩)) ?_
       refine jl_op rfl rfl (.none rfl) (v_assign rfl rfl tt) ?_
       refine jl_nil ?_)))
  all_goals first | (exfalso; omega) | exact jq_retG 0 ⟨(_, _), tmod_in s9.2.1 (by omega)⟩ (.inl rfl) Try.results79 rfl rfl rfl (fun _ _ => fresh_nil)
theorem c_l00From (A : Option Addr) (N cap : Nat) : ConM Try.prog 76 [.slice A N cap] (RoS []) (fun b : Nat => .pointer (some ⟨b, 0, none⟩)) (fun b : Nat => [srcB b 143 A N cap 0 0]) := by
  refine conM_intro (H := []) Try.func76 (by decide) rfl rfl (fun w h => h.inv) (fun w0 _ => ?_)
  (repeat' (first
    | refine j_condLt rfl (fun _ => ?_) (fun _ => ?_)
    | refine j_condLe rfl (fun _ => ?_) (fun _ => ?_)
    | refine j_condGt rfl (fun _ => ?_) (fun _ => ?_)
    | refine j_condGe rfl (fun _ => ?_) (fun _ => ?_)
    | refine j_condNe rfl (fun _ => ?_) (fun _ => ?_)
    | refine j_condEq rfl (fun _ => ?_) (fun _ => ?_)
    | refine j_condOrLt rfl (fun _ => ?_) (fun _ => ?_)
    | refine j_condAndLt rfl (fun _ => ?_) (fun _ => ?_)
    | refine j_condAndGe rfl (fun _ => ?_) (fun _ => ?_)
    | refine j_seq ?_
    | refine jq_then ?_
    | refine j_block ?_
    | refine j_ret ?_
    | refine jq_then_ret ?_
    | refine jq_block_ret ?_
    | refine jq_block_normal ?_
    | refine jq_then_exit ?_
    | refine jq_block_same rfl ?_
    | refine jq_block_other rfl ?_
    | refine j_skip ?_
    | refine j_exit ?_
    | refine j_label ?_
    | refine j_condCT ?_
    | refine j_condCF ?_
    | refine j_cond rfl (fun _ => ?_) (fun _ => ?_)
    | (refine j_region (id := 0) ?_
       refine jl_op rfl rfl (.none rfl) (v_assign rfl rfl tt) ?_
       refine jl_nil ?_)
    | (refine j_region (id := 1) ?_
       refine jl_op rfl rfl (.none rfl) (v_move rfl rfl tt) ?_
       refine jl_op rfl rfl (.none rfl) (v_buildW (Ws := [_, _, _]) rfl Try.underlying143 zero143 places143 (by rfl) (by rfl) (ev_cons rfl tt ev_nil) (by rfl) (by rfl) rfl) ?_
       refine jl_boxS rfl rfl rfl rfl rfl (fun b5 => ?_)
       refine jl_op rfl rfl (.none rfl) (v_assign rfl rfl tt) ?_
       refine jl_nil ?_)))
  all_goals exact jq_retM1 b5 (.inl rfl) Try.results76 rfl rfl (fun w h => fresh_at 0 rfl rfl h)
end Go.Vx
