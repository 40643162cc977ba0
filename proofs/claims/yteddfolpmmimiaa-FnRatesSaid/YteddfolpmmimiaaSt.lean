/- Laws on sines, pulses and voices. -/
import Derived.Test.YteddfolpmmimiaaSq
namespace Go.Vx
open Ieee Go.RowKit

/-! ### Numbers drawn, told by what they are -/
def nxB (N : Nat) (g : Nat → Nat) (a : Nat) : Int := if (a : Int) < (N : Int) then IntKind.i64.wrap (g a : Int) else 0
def nxS (N : Nat) (g : Nat → Nat) (a : Nat) (sd : Int) : Int := iarith .add .u64 (iarith .add .u64 (iarith .mul .u64 sd 6364136223846793005) (IntKind.u64.wrap (nxB N g a))) 1442695040888963407
def nxV (N : Nat) (g : Nat → Nat) (a : Nat) (sd : Int) : Int := if (a : Int) < (N : Int) then IntKind.i64.wrap (g a : Int) else IntKind.i64.wrap (IntKind.u64.wrap ((BitVec.ofInt IntKind.u64.bits ((nxS N g a sd).fdiv (2 ^ min (Int.toNat 40) IntKind.u64.bits)) &&& BitVec.ofInt IntKind.u64.bits 255).toNat : Int))
theorem nxB_1 {N a : Nat} {g : Nat → Nat} (h : (a : Int) < (N : Int)) : IntKind.i64.wrap (g a : Int) = nxB N g a := by unfold nxB; rw [if_pos h]
theorem nxB_0 {N a : Nat} {g : Nat → Nat} (h : ¬ (a : Int) < (N : Int)) : 0 = nxB N g a := by unfold nxB; rw [if_neg h]
theorem nxV_1 {N a : Nat} {g : Nat → Nat} {sd : Int} (h : (a : Int) < (N : Int)) : nxB N g a = nxV N g a sd := by unfold nxV nxB; rw [if_pos h, if_pos h]
theorem nxV_0 {N a : Nat} {g : Nat → Nat} {sd : Int} (h : ¬ (a : Int) < (N : Int)) : IntKind.i64.wrap (IntKind.u64.wrap ((BitVec.ofInt IntKind.u64.bits ((nxS N g a sd).fdiv (2 ^ min (Int.toNat 40) IntKind.u64.bits)) &&& BitVec.ofInt IntKind.u64.bits 255).toNat : Int)) = nxV N g a sd := by unfold nxV; rw [if_neg h]
theorem nxV_in {N a : Nat} {g : Nat → Nat} {sd : Int} (hg : ∀ j, j < N → g j < 256) : 0 ≤ nxV N g a sd ∧ nxV N g a sd < 256 := by
  unfold nxV
  split
  · exact byte_wrap (hg _ (by omega)) rfl
  · exact and_byte _
def wdV (N : Nat) (g : Nat → Nat) (a : Nat) (sd n : Int) : Int := (nxV N g a sd * 256 + nxV N g (a + 1) (nxS N g a sd)).tmod n
def wdS (N : Nat) (g : Nat → Nat) (a : Nat) (sd : Int) : Int := nxS N g (a + 1) (nxS N g a sd)
theorem wdV_in {N a : Nat} {g : Nat → Nat} {sd n : Int} (hg : ∀ j, j < N → g j < 256) (hn : 0 < n) : 0 ≤ wdV N g a sd n ∧ wdV N g a sd n < n := by
  have h1 := nxV_in (a := a) (sd := sd) hg
  have h2 := nxV_in (a := a + 1) (sd := nxS N g a sd) hg
  exact tmod_in (by omega) hn
def seedF (N : Nat) (g : Nat → Nat) : Int := wdV N g 0 0 32768 * 65536 + wdV N g 2 (wdS N g 0 0) 65536
theorem seedF_in {N : Nat} {g : Nat → Nat} (hg : ∀ j, j < N → g j < 256) : 0 ≤ seedF N g ∧ seedF N g ≤ 2147483647 := by
  have h1 := wdV_in (a := 0) (sd := 0) (n := 32768) hg (by decide)
  have h2 := wdV_in (a := 2) (sd := wdS N g 0 0) (n := 65536) hg (by decide)
  unfold seedF
  omega
theorem src_at {b : Nat} {T : TypeId} {A : Option Addr} {N cap a : Nat} {s s' : Int} (e : s = s') : some (srcB b T A N cap a s) = some (srcB b T A N cap a s') := by rw [e]
section
variable {P : Program} {F' : Frm} {w0 w : World} {H : List HFact} {n : Nat} {v : HFact}
/-- One struct out of its block, where one thing of the caller's has turned. -/
theorem jq_retGS {fn : Func} {p : Tmp} {T T' : TypeId} {d : TypeDesc} {b i : Nat} {cs : List Value} {σ : Type} {v' : σ → HFact} {V : σ → Value} {K : σ → List HFact} {en : Exit} (j : Nat) (s : σ) (he : en = .ret ∨ en = .normal) (hr : fn.results = #[.cell p T])
    (hp : Frm.get F' p = some (true, .pointer (some ⟨b, 0, none⟩))) (hH : H[i]? = some (.box b T' cs)) (hT : P.underlying T = some d) (hd : aggT d = true) (hs : (P.info? T).map (·.size) = some cs.length) (h : .agg cs.toArray = V s)
    (hj : H[j]? = some (v' s)) (hK : ∀ w, HInv w0 (footOf v) H w → Fresh w0 w (K s)) : JQ n w0 (footOf v) en F' H (bodyPost P fn (EndsG v v' V K w0)) := by
  intro a w hF hI
  obtain ⟨u, h1, h2⟩ := results_cellS (P := P) hr hF hI hp hH hT hd hs
  rw [h] at h2
  have : a.defers = [] ∧ ∃ u, (results fn a.tmps).run P w = .ok u w ∧ EndsG v v' V K w0 (.returned u) w :=
    ⟨hF.1, u, h1, _, s, rfl, hI.facts _ (List.mem_of_getElem? hj), hI.os, hI.tape, hI.output, hI.size, fun k hk hne => hI.frame k hk hne, h2, hK w hI⟩
  rcases he with rfl | rfl <;> exact this
end
/-! ### Drawn throats -/
structure ThC where
  i : Nat
  j : Nat
  k : Nat
  l : Nat
  m : Nat
def ThC.Ok (c : ThC) : Prop := c.i < 33 ∧ c.j < 4 ∧ c.k < 4 ∧ c.l < 5 ∧ c.m < 5
def ThC.p (c : ThC) : Nat := farith .quo .f32 (ofInt .f32 (4 + (c.i : Int))) 1073741824
def ThC.o (c : ThC) : Nat := farith .quo .f32 (ofInt .f32 (1 + (c.j : Int))) 1090519040
def ThC.cl (c : ThC) : Nat := farith .quo .f32 (ofInt .f32 (1 + (c.k : Int))) 1090519040
def ThC.br (c : ThC) : Nat := farith .quo .f32 (ofInt .f32 (c.l : Int)) 1090519040
def ThC.sh (c : ThC) : Nat := farith .quo .f32 (ofInt .f32 (c.m : Int)) 1098907648
def ThC.V (c : ThC) : Value := .agg (throatC c.p c.o c.cl c.br c.sh).toArray
theorem thc_eq {a b c d e : Int} (ha : 0 ≤ a) (hb : 0 ≤ b) (hc : 0 ≤ c) (hd : 0 ≤ d) (he : 0 ≤ e) : Value.agg (throatC (farith .quo .f32 (ofInt .f32 (4 + a)) 1073741824) (farith .quo .f32 (ofInt .f32 (1 + b)) 1090519040) (farith .quo .f32 (ofInt .f32 (1 + c)) 1090519040) (farith .quo .f32 (ofInt .f32 d) 1090519040) (farith .quo .f32 (ofInt .f32 e) 1098907648)).toArray = (ThC.mk a.toNat b.toNat c.toNat d.toNat e.toNat).V := by
  unfold ThC.V ThC.p ThC.o ThC.cl ThC.br ThC.sh
  simp only [show ((a.toNat : Nat) : Int) = a by omega, show ((b.toNat : Nat) : Int) = b by omega, show ((c.toNat : Nat) : Int) = c by omega, show ((d.toNat : Nat) : Int) = d by omega, show ((e.toNat : Nat) : Int) = e by omega]
theorem thc_ok {a b c d e : Int × Int} (ha : 0 ≤ a.1 ∧ a.1 < 33) (hb : 0 ≤ b.1 ∧ b.1 < 4) (hc : 0 ≤ c.1 ∧ c.1 < 4) (hd : 0 ≤ d.1 ∧ d.1 < 5) (he : 0 ≤ e.1 ∧ e.1 < 5) : (ThC.mk a.1.toNat b.1.toNat c.1.toNat d.1.toNat e.1.toNat).Ok := by
  unfold ThC.Ok
  refine ⟨?_, ?_, ?_, ?_, ?_⟩ <;> simp only <;> omega
theorem wd_s {N a : Nat} {g : Nat → Nat} {sd s1 s2 : Int} (h1 : nxS N g a sd = s1) (h2 : wdS N g a sd = s2) : nxS N g (a + 1) s1 = s2 := by rw [← h1, ← h2]; rfl
theorem wd_z {N a : Nat} {g : Nat → Nat} {sd n x y z s1 : Int} (hx : nxV N g a sd = x) (h1 : nxS N g a sd = s1) (hy : nxV N g (a + 1) s1 = y) (hz : wdV N g a sd n = z) : (x * 256 + y).tmod n = z := by subst h1; rw [← hx, ← hy, ← hz]; rfl
theorem nx_b {N a : Nat} {g : Nat → Nat} {sd x : Int} (hg : ∀ j, j < N → g j < 256) (hx : nxV N g a sd = x) : 0 ≤ x ∧ x < 256 := by rw [← hx]; exact nxV_in hg
theorem seed_b1 {N a : Nat} {g : Nat → Nat} {sd x : Int} (hg : ∀ j, j < N → g j < 256) (hx : wdV N g a sd 32768 = x) : 0 ≤ x ∧ x < 32768 := by rw [← hx]; exact wdV_in hg (by decide)
theorem seed_b2 {N a : Nat} {g : Nat → Nat} {sd x : Int} (hg : ∀ j, j < N → g j < 256) (hx : wdV N g a sd 65536 = x) : 0 ≤ x ∧ x < 65536 := by rw [← hx]; exact wdV_in hg (by decide)
theorem seed_z {N : Nat} {g : Nat → Nat} {x y s : Int} (hx : wdV N g 0 0 32768 = x) (hs : wdS N g 0 0 = s) (hy : wdV N g 2 s 65536 = y) : x * 65536 + y = seedF N g := by subst hs; rw [← hx, ← hy]; rfl
theorem seedF_eq {N : Nat} {g : Nat → Nat} : wdV N g 0 0 32768 * 65536 + wdV N g 2 (wdS N g 0 0) 65536 = seedF N g := rfl
end Go.Vx

namespace Go.Vx
open Ieee Go.RowKit
/-! ### What voices of drawn throats do -/
theorem t_p : ∀ i : Nat, i < 33 → btw (farith .quo .f32 (ofInt .f32 (4 + (i : Int))) 1073741824) 1073741824 1148846080 = true := by decide +kernel
theorem t_o : ∀ j : Nat, j < 4 → fcmp .gtr .f32 (farith .quo .f32 (ofInt .f32 (1 + (j : Int))) 1090519040) 0 = true := by decide +kernel
theorem t_oc : ∀ j : Nat, j < 4 → ∀ k : Nat, k < 4 → fcmp .leq .f32 (fadd .f32 (farith .quo .f32 (ofInt .f32 (1 + (j : Int))) 1090519040) (farith .quo .f32 (ofInt .f32 (1 + (k : Int))) 1090519040)) 1065353216 = true := by decide +kernel
theorem t_b : ∀ l : Nat, l < 5 → Vx.fin (farith .quo .f32 (ofInt .f32 (l : Int)) 1090519040) = true ∧ fcmp .geq .f32 (farith .quo .f32 (ofInt .f32 (l : Int)) 1090519040) 0 = true := by decide +kernel
theorem t_s : ∀ m : Nat, m < 5 → btw (farith .quo .f32 (ofInt .f32 (m : Int)) 1098907648) 0 1056964608 = true := by decide +kernel
theorem th_ok {c : ThC} (h : c.Ok) : throatI c.p c.o c.cl c.br c.sh = true := by
  obtain ⟨h1, h2, h3, h4, h5⟩ := h
  unfold throatI ThC.p ThC.o ThC.cl ThC.br ThC.sh
  rw [t_p _ h1, t_o _ h2, t_o _ h3, t_oc _ h2 _ h3, (t_b _ h4).1, (t_b _ h4).2, t_s _ h5]; rfl
theorem th_p {c : ThC} (h : c.Ok) {s : Int} (hs : 0 ≤ s ∧ s ≤ 2147483647) : voiceV 0 c.p s = true := by
  have ht := th_ok h
  have key : ∀ i : Nat, i < 33 → Vx.fin (farith .quo .f32 (ofInt .f32 (4 + (i : Int))) 1073741824) = true ∧ fcmp .geq .f32 (farith .quo .f32 (ofInt .f32 (4 + (i : Int))) 1073741824) 1065353216 = true := by decide +kernel
  have k := key _ h.1
  unfold voiceV ThC.p
  rw [k.1, k.2, seed_ok hs]
  decide
theorem new_ok {c : ThC} (h : c.Ok) {s : Int} (hs : 0 ≤ s ∧ s ≤ 2147483647) : (throatI c.p c.o c.cl c.br c.sh && iin s 0 2147483647) = true := by rw [th_ok h, seed_ok hs]; rfl
theorem vol_phase {q n : Nat} {s : Int} (hv : voiceV q n s = true) : phase q = true := by
  unfold voiceV at hv
  simp only [Bool.and_eq_true] at hv
  exact hv.1.1.1
theorem sameS_self {x : Nat} : sameS x x = true := by unfold sameS; simp
theorem voice_c1 {x : Nat} {b : Bool} (hb : b = true) : (((!true || !true) || !sameS x x) || !b) = false := by rw [sameS_self, hb]; rfl
theorem voice_c0 {m : Int} : ((!true || !true) || icmp .neq m m) = false := by simp [icmp]
theorem voice_same {q n : Nat} {s : Int} (hv : voiceV q n s = true) : ((sameN q q && sameN n n) && s == s) = true := by
  obtain ⟨h1, h2, _⟩ := voice_q hv
  rw [sameN_fin h1.fin, sameN_fin (fn_fin.1 h2)]
  simp
end Go.Vx

namespace Go.Vx
open Ieee Go.RowKit

/-! ### The sine near its greatest value: intervals, checked piece by piece -/
def mulOk (a1 a2 b1 b2 m1 m2 : Nat) : Bool := decide (0 ≤ sval .f64 a1 ∧ 0 ≤ sval .f64 b1 ∧ Fn .f64 m1 ∧ Fn .f64 m2 ∧ sval .f64 m1 * one_ .f64 ≤ sval .f64 a1 * sval .f64 b1 ∧ sval .f64 a2 * sval .f64 b2 ≤ sval .f64 m2 * one_ .f64)
def quoOk (m1 m2 c d1 d2 : Nat) : Bool := decide (0 < sval .f64 c ∧ Fn .f64 c ∧ Fn .f64 d1 ∧ Fn .f64 d2 ∧ sval .f64 d1 * sval .f64 c ≤ sval .f64 m1 * one_ .f64 ∧ sval .f64 m2 * one_ .f64 ≤ sval .f64 d2 * sval .f64 c)
def subOk (d1 d2 p1 p2 : Nat) : Bool := decide (Fn .f64 p1 ∧ Fn .f64 p2 ∧ sval .f64 p1 ≤ sval .f64 4607182418800017408 - sval .f64 d2 ∧ sval .f64 4607182418800017408 - sval .f64 d1 ≤ sval .f64 p2)
theorem Iv.mulp {a1 a2 b1 b2 m1 m2 x y : Nat} (h : mulOk a1 a2 b1 b2 m1 m2 = true) (hx : Iv a1 a2 x) (hy : Iv b1 b2 y) : Iv m1 m2 (farith .mul .f64 x y) := by
  obtain ⟨h1, h2, h3, h4, h5, h6⟩ := of_decide_eq_true h
  obtain ⟨x1, x2, x3⟩ := hx
  obtain ⟨y1, y2, y3⟩ := hy
  have e1 : sval .f64 a1 * sval .f64 b1 ≤ sval .f64 x * sval .f64 y := Int.mul_le_mul x2 y2 h2 (by omega)
  have e2 : sval .f64 x * sval .f64 y ≤ sval .f64 a2 * sval .f64 b2 := Int.mul_le_mul x3 y3 (by omega) (by omega)
  exact mul_bd x1 y1 h3 h4 (Int.le_trans h5 e1) (Int.le_trans e2 h6)
theorem Iv.quop {m1 m2 c d1 d2 x : Nat} (h : quoOk m1 m2 c d1 d2 = true) (hx : Iv m1 m2 x) : Iv d1 d2 (farith .quo .f64 x c) := by
  obtain ⟨h1, h2, h3, h4, h5, h6⟩ := of_decide_eq_true h
  obtain ⟨x1, x2, x3⟩ := hx
  have hone : 0 ≤ one_ .f64 := by unfold one_; exact Int.natCast_nonneg _
  exact div_bd x1 h2 h1 h3 h4 (Int.le_trans h5 (Int.mul_le_mul_of_nonneg_right x2 hone)) (Int.le_trans (Int.mul_le_mul_of_nonneg_right x3 hone) h6)
theorem Iv.subp {d1 d2 p1 p2 x : Nat} (h : subOk d1 d2 p1 p2 = true) (hx : Iv d1 d2 x) : Iv p1 p2 (farith .sub .f64 4607182418800017408 x) := by
  obtain ⟨h1, h2, h3, h4⟩ := of_decide_eq_true h
  obtain ⟨x1, x2, x3⟩ := hx
  exact sub_bd (by decide) x1 h1 h2 (by omega) (by omega)
def mDn (a b : Nat) : Nat := farith .mul .f64 a b - 1
def mUp (a b : Nat) : Nat := farith .mul .f64 a b + 1
def stg (u1 u2 c pl ph : Nat) (k : Nat → Nat → Bool) : Bool :=
  frc (mDn u1 pl) fun m1 => frc (mUp u2 ph) fun m2 => frc (farith .quo .f64 m1 c - 1) fun d1 => frc (farith .quo .f64 m2 c + 1) fun d2 => frc (farith .sub .f64 4607182418800017408 d2 - 1) fun p1 => frc (farith .sub .f64 4607182418800017408 d1 + 1) fun p2 =>
    ((mulOk u1 u2 pl ph m1 m2 && quoOk m1 m2 c d1 d2) && subOk d1 d2 p1 p2) && k p1 p2
theorem stg_ok {u1 u2 c pl ph u p : Nat} {k : Nat → Nat → Bool} (h : stg u1 u2 c pl ph k = true) (hu : Iv u1 u2 u) (hp : Iv pl ph p) : ∃ p1 p2, Iv p1 p2 (sinS u c p) ∧ k p1 p2 = true := by
  unfold stg at h
  simp only [frc_eq, Bool.and_eq_true] at h
  obtain ⟨⟨⟨h1, h2⟩, h3⟩, h4⟩ := h
  exact ⟨_, _, ((hu.mulp h1 hp).quop h2).subp h3, h4⟩
def chkS (f1 f2 B : Nat) : Bool :=
  frc (mDn f1 4618760256179416344) fun y1 => frc (mUp f2 4618760256179416344) fun y2 => frc (mDn y1 y1) fun u1 => frc (mUp y2 y2) fun u2 =>
    (mulOk f1 f2 4618760256179416344 4618760256179416344 y1 y2 && mulOk y1 y2 y1 y2 u1 u2) &&
    stg u1 u2 4643492690795692032 4607182418800017408 4607182418800017408 fun a b => stg u1 u2 4641592734702895104 a b fun a b => stg u1 u2 4639692778610098176 a b fun a b => stg u1 u2 4637440978796412928 a b fun a b =>
    stg u1 u2 4634766966517661696 a b fun a b => stg u1 u2 4631107791820423168 a b fun a b => stg u1 u2 4626322717216342016 a b fun a b => stg u1 u2 4618441417868443648 a b fun a b =>
    frc (mUp y2 b) fun v2 => mulOk y1 y2 a b 0 v2 && decide (sval .f64 v2 ≤ sval .f64 B)
theorem iv_one : Iv 4607182418800017408 4607182418800017408 4607182418800017408 := ⟨by decide, Int.le_refl _, Int.le_refl _⟩
theorem iv_tp : Iv 4618760256179416344 4618760256179416344 4618760256179416344 := ⟨by decide, Int.le_refl _, Int.le_refl _⟩
theorem chkS_ok {f1 f2 B f : Nat} (h : chkS f1 f2 B = true) (hf : Iv f1 f2 f) : Fn .f64 (sinV f) ∧ 0 ≤ sval .f64 (sinV f) ∧ sval .f64 (sinV f) ≤ sval .f64 B := by
  unfold chkS at h
  simp only [frc_eq, Bool.and_eq_true] at h
  obtain ⟨⟨h1, h2⟩, h⟩ := h
  have hy := hf.mulp h1 iv_tp
  have hu := hy.mulp h2 hy
  obtain ⟨_, _, p1, h⟩ := stg_ok h hu iv_one
  obtain ⟨_, _, p2, h⟩ := stg_ok h hu p1
  obtain ⟨_, _, p3, h⟩ := stg_ok h hu p2
  obtain ⟨_, _, p4, h⟩ := stg_ok h hu p3
  obtain ⟨_, _, p5, h⟩ := stg_ok h hu p4
  obtain ⟨_, _, p6, h⟩ := stg_ok h hu p5
  obtain ⟨_, _, p7, h⟩ := stg_ok h hu p6
  obtain ⟨a, b, p8, h⟩ := stg_ok h hu p7
  simp only [Bool.and_eq_true] at h
  obtain ⟨v1, v2, v3⟩ := hy.mulp h.1 p8
  exact ⟨v1, v2, Int.le_trans v3 (of_decide_eq_true h.2)⟩
/-- All pieces between neighbours of a list. -/
def chkL2 (B : Nat) : List Nat → Bool
  | a :: b :: r => chkS a b B && chkL2 B (b :: r)
  | _ => true
theorem chkL2_ok {B f : Nat} (hf : Fn .f64 f) : ∀ (a : Nat) (l : List Nat), chkL2 B (a :: l) = true → sval .f64 a ≤ sval .f64 f → sval .f64 f ≤ sval .f64 ((a :: l).getLast (by simp)) → l ≠ [] → Fn .f64 (sinV f) ∧ 0 ≤ sval .f64 (sinV f) ∧ sval .f64 (sinV f) ≤ sval .f64 B
  | _, [], _, _, _, hn => absurd rfl hn
  | a, b :: r, h, h1, h2, _ => by
    unfold chkL2 at h
    rw [Bool.and_eq_true] at h
    by_cases hb : sval .f64 f ≤ sval .f64 b
    · exact chkS_ok h.1 ⟨hf, h1, hb⟩
    · cases r with
      | nil => exact absurd (by simpa using h2) hb
      | cons c r => exact chkL2_ok hf b (c :: r) h.2 (by omega) (by simpa using h2) (by simp)
def sinBr : List Nat := [0, 4594904303069379595, 4595959454710906853, 4596479206638990226, 4596794896758252039, 4597008936348559190, 4597164444587154059, 4597282966907313717, 4597376541755277106, 4597452452123506663, 4597515375365264397, 4597568459004808242, 4597613902175315392, 4597653289620195985, 4597687793313327661, 4597718299287778721, 4597745490244392654, 4597769900987890036, 4597791956603421337, 4597811999349678400, 4597830307986493581, 4597847111914913597, 4597862601688535462, 4597876936940578348, 4597890252440498429, 4597902662776757481, 4597914266016898709, 4597925146596935548, 4597935377623378116, 4597945022722936040, 4597954137540522743, 4597962770961348487, 4597970966114751995, 4597978761204031195, 4597986190196548866, 4597993283400872018, 4598000067951994584, 4598006568221320242, 4598012806164706939, 4598018801619249796, 4598024572557423907, 4598030135305588284, 4598035504732567279, 4598040694413000479, 4598045716769329447, 4598050583195626046, 4598055304165929051, 4598059889329317398, 4598064347593589652, 4598068687199124284, 4598072915784251847, 4598077040443268301, 4598081067778050721, 4598085003944096378, 4598088854691688585, 4598092625402793763, 4598096321124210812, 4598099946597423191, 4598103506285544202, 4598107004397694878, 4598110444911110387, 4598113831591233509, 4598117168010021801, 4598120457562667521, 4598123703482905746, 4598126908857065558, 4598130076637001595, 4598133209652027801, 4598136310619962010, 4598139382157378393, 4598142426789154770, 4598145446957393061, 4598148445029783544, 4598151423307477048, 4598154384032523392, 4598157329394929555, 4598160261539386662, 4598163182571711321, 4598166094565043651, 4598168999565841738, 4598171899599710100, 4598174796677097929, 4598175219545276416]
theorem sinBr_ok : chkL2 4607184220239868356 sinBr = true := by decide +kernel
end Go.Vx

namespace Go.Vx
open Ieee Go.RowKit
theorem sinV_in {f : Nat} (hf : Fn .f64 f) (h0 : 0 ≤ sval .f64 f) (h1 : sval .f64 f ≤ sval .f64 4598175219545276416) : Fn .f64 (sinV f) ∧ 0 ≤ sval .f64 (sinV f) ∧ sval .f64 (sinV f) ≤ sval .f64 4607184220239868356 :=
  chkL2_ok hf 0 sinBr.tail sinBr_ok (by rw [show sval .f64 0 = 0 from rfl]; exact h0) h1 (by decide)
theorem chk_zero : chkS 0 0 4503599627370496 = true := by decide +kernel
theorem frac_id {y : Nat} (hy : Fn .f64 y) (h0 : 0 ≤ sval .f64 y) (h1 : sval .f64 y < (U64 : Int)) : Fn .f64 (frac y) ∧ sval .f64 (frac y) = sval .f64 y := by
  obtain ⟨T, t1, t2, t3⟩ := trunc_val hy
  have hU : 0 < U64 := Nat.two_pow_pos W
  have hT : T = 0 := by
    rcases Nat.eq_zero_or_pos T with h | h
    · exact h
    · have : 1 * U64 ≤ T * U64 := Nat.mul_le_mul_right _ h
      omega
  have hz : truncZ y = 0 := by
    unfold truncZ
    rw [t1, hT]
    split <;> rfl
  obtain ⟨o1, o2⟩ := ofInt_val (T := 0) (by decide)
  rw [Int.zero_mul] at o2
  have h2 := sub_bd (k := .f64) (x := y) (y := ofInt .f64 0) (lo := y) (hi := y) hy o1 hy hy (by omega) (by omega)
  have e : frac0 y = farith .sub .f64 y (ofInt .f64 0) := by unfold frac0; rw [hz]
  rw [← e] at h2
  have hl : fcmp .lss .f64 (frac0 y) 0 = false := cmp_lt_not h2.1 (by decide) (by rw [show sval .f64 0 = 0 from rfl]; omega)
  rw [frac_pos hl] at h2
  exact ⟨h2.1, by omega⟩
theorem v_one : sval .f64 4604930618986332160 < (U64 : Int) := by decide +kernel
theorem v_q : 0 ≤ sval .f64 4598175219545276416 := by decide +kernel
theorem v_3q : sval .f64 4604930618986332160 - sval .f64 4602678819172646912 ≤ sval .f64 4598175219545276416 := by decide +kernel
theorem v_1q : sval .f64 4602678819172646912 - sval .f64 4598175219545276416 ≤ sval .f64 4598175219545276416 := by decide +kernel
theorem sinW_mid {y : Nat} (hy : Iv 4598175219545276416 4604930618986332160 y) : Fn .f64 (sinW y) ∧ -sval .f64 4607184220239868356 ≤ sval .f64 (sinW y) ∧ sval .f64 (sinW y) ≤ sval .f64 4607184220239868356 ∧ (sval .f64 y ≤ sval .f64 4602678819172646912 → -sval .f64 4503599627370496 ≤ sval .f64 (sinW y)) := by
  obtain ⟨y1, y2, y3⟩ := hy
  have hq := v_q
  obtain ⟨f1, f2⟩ := frac_id y1 (by omega) (Int.lt_of_le_of_lt y3 v_one)
  have ht : 0 ≤ sval .f64 4503599627370496 := by decide +kernel
  by_cases hc : sval .f64 4602678819172646912 ≤ sval .f64 y
  · have hg : fcmp .geq .f64 (frac y) 4602678819172646912 = true := by
      unfold fcmp
      rw [order_sval f1 (by decide), f2]
      rcases Int.lt_or_eq_of_le hc with h | h
      · rw [Int.compare_eq_gt.2 h]; rfl
      · rw [Int.compare_eq_eq.2 h.symm]; rfl
    have h3 := v_3q
    have hz := sub_bd (k := .f64) (x := frac y) (y := 4602678819172646912) (lo := 0) (hi := 4598175219545276416) f1 (by decide) (by decide) (by decide) (by rw [show sval .f64 0 = 0 from rfl]; omega) (by omega)
    rw [show sval .f64 0 = 0 from rfl] at hz
    have hz2 := cmp_gt_not (x := farith .sub .f64 (frac y) 4602678819172646912) hz.1 (by decide) hz.2.2
    rw [← sinW_t2 hg hz2]
    have hv := sinV_in hz.1 hz.2.1 hz.2.2
    obtain ⟨n1, n2⟩ := fneg_abs hv.1
    refine ⟨n1, by omega, by omega, fun hle => ?_⟩
    have hz3 := sub_bd (k := .f64) (x := frac y) (y := 4602678819172646912) (lo := 0) (hi := 0) f1 (by decide) (by decide) (by decide) (by rw [show sval .f64 0 = 0 from rfl]; omega) (by rw [show sval .f64 0 = 0 from rfl]; omega)
    have hs := chkS_ok chk_zero hz3
    omega
  · have hg : fcmp .geq .f64 (frac y) 4602678819172646912 = false := by
      unfold fcmp
      rw [order_sval f1 (by decide), f2, Int.compare_eq_lt.2 (by omega)]; rfl
    cases hk : fcmp .gtr .f64 (frac y) 4598175219545276416 with
    | true =>
      rw [← sinW_t3 hg hk]
      have h1 := v_1q
      have hz := sub_bd (k := .f64) (x := 4602678819172646912) (y := frac y) (lo := 0) (hi := 4598175219545276416) (by decide) f1 (by decide) (by decide) (by rw [show sval .f64 0 = 0 from rfl]; omega) (by omega)
      rw [show sval .f64 0 = 0 from rfl] at hz
      have hv := sinV_in hz.1 hz.2.1 hz.2.2
      exact ⟨hv.1, by omega, hv.2.2, fun _ => by omega⟩
    | false =>
      rw [← sinW_t4 hg hk]
      have hle : sval .f64 (frac y) ≤ sval .f64 4598175219545276416 := by
        refine Int.not_lt.1 fun h => ?_
        unfold fcmp at hk
        rw [order_sval f1 (by decide), Int.compare_eq_gt.2 h] at hk
        cases hk
      have hv := sinV_in f1 (by omega) hle
      exact ⟨hv.1, by omega, hv.2.2, fun _ => by omega⟩
theorem w_q : sval .f64 4598175219545276416 = sval .f32 1048576000 * wid := by decide +kernel
theorem w_h : sval .f64 4602678819172646912 = sval .f32 1056964608 * wid := by decide +kernel
theorem w_3q : sval .f64 4604930618986332160 = sval .f32 1061158912 * wid := by decide +kernel
theorem w_B : sval .f64 4607184220239868356 ≤ sval .f32 1065356739 * wid ∧ sval .f32 3212840387 * wid ≤ -sval .f64 4607184220239868356 ∧ sval .f32 3045064704 * wid ≤ -sval .f64 4503599627370496 := by decide +kernel
theorem sinN_mid {x : Nat} (hx : Jv 1048576000 1061158912 x) : Jv 3212840387 1065356739 (sinN x) ∧ (sval .f32 x ≤ sval .f32 1056964608 → Jv 3045064704 1065356739 (sinN x)) := by
  obtain ⟨x1, x2, x3⟩ := hx
  have hw : 0 ≤ wid := by unfold wid; exact Int.natCast_nonneg _
  obtain ⟨w1, w2⟩ := wide_val x1
  have a1 := Int.mul_le_mul_of_nonneg_right x2 hw
  have a2 := Int.mul_le_mul_of_nonneg_right x3 hw
  rw [← w_q, ← w2] at a1
  rw [← w_3q, ← w2] at a2
  obtain ⟨s1, s2, s3, s4⟩ := sinW_mid ⟨w1, a1, a2⟩
  have hbig : (fcmp .geq .f32 x 1501560832 || fcmp .leq .f32 x 3649044480) = false := by
    have hb : sval .f32 x < sval .f32 1501560832 := Int.lt_of_le_of_lt x3 (by decide +kernel)
    have hc : sval .f32 3649044480 < sval .f32 x := Int.lt_of_lt_of_le (by decide +kernel) x2
    unfold fcmp
    rw [order_sval x1 (by decide), order_sval x1 (by decide), Int.compare_eq_lt.2 hb, Int.compare_eq_gt.2 hc]
    rfl
  have hf : (!fin x) = false := by rw [fn_fin.1 x1]; rfl
  rw [← sinN_3 hf hbig]
  have hB := w_B
  refine ⟨(narrow_bd s1 (by decide) (by decide) (Int.le_trans hB.2.1 s2) (Int.le_trans s3 hB.1)).2, fun hle => ?_⟩
  have a3 := Int.mul_le_mul_of_nonneg_right hle hw
  rw [← w_h, ← w2] at a3
  exact (narrow_bd s1 (by decide) (by decide) (Int.le_trans hB.2.2 (s4 a3)) (Int.le_trans s3 hB.1)).2
end Go.Vx

namespace Go.Vx
open Ieee Go.RowKit
/-! ### Pulses of drawn throats -/
theorem c_oc : ∀ j : Nat, j < 4 → ∀ k : Nat, k < 4 → (Fn .f32 (farith .quo .f32 (ofInt .f32 (1 + (j : Int))) 1090519040) ∧ 0 < sval .f32 (farith .quo .f32 (ofInt .f32 (1 + (j : Int))) 1090519040)) ∧ Fn .f32 (farith .add .f32 (farith .quo .f32 (ofInt .f32 (1 + (j : Int))) 1090519040) (farith .quo .f32 (ofInt .f32 (1 + (k : Int))) 1090519040)) ∧ sval .f32 (farith .add .f32 (farith .quo .f32 (ofInt .f32 (1 + (j : Int))) 1090519040) (farith .quo .f32 (ofInt .f32 (1 + (k : Int))) 1090519040)) = sval .f32 (farith .quo .f32 (ofInt .f32 (1 + (j : Int))) 1090519040) + sval .f32 (farith .quo .f32 (ofInt .f32 (1 + (k : Int))) 1090519040) := by decide +kernel
theorem unit_q {x y : Nat} (hx : Fn .f32 x) (hy : Fn .f32 y) (h0 : 0 ≤ sval .f32 x) (hp : 0 < sval .f32 y) (h : sval .f32 x ≤ sval .f32 y) : Jv 0 1065353216 (farith .quo .f32 x y) := by
  have h1 : 0 ≤ one_ .f32 := by unfold one_; exact Int.natCast_nonneg _
  refine div_bd hx hy hp (by decide) (by decide) ?_ ?_
  · rw [show sval .f32 0 = 0 from rfl, Int.zero_mul]; exact Int.mul_nonneg h0 h1
  · rw [one_32, Int.mul_comm (one_ .f32)]; exact Int.mul_le_mul_of_nonneg_right h h1
theorem part_q {c x : Nat} (hc : Fn .f32 c) (h0 : 0 ≤ sval .f32 c) (hx : Jv 0 1065353216 x) : Jv 0 c (farith .mul .f32 c x) := by
  obtain ⟨x1, x2, x3⟩ := hx
  rw [show sval .f32 0 = 0 from rfl] at x2
  rw [one_32] at x3
  refine mul_bd hc x1 (by decide) hc ?_ ?_
  · rw [show sval .f32 0 = 0 from rfl, Int.zero_mul]; exact Int.mul_nonneg h0 x2
  · exact Int.mul_le_mul_of_nonneg_left x3 h0
theorem v_qh : sval .f32 1048576000 ≤ sval .f32 0 + sval .f32 1048576000 ∧ sval .f32 1056964608 + sval .f32 1048576000 ≤ sval .f32 1061158912 ∧ sval .f32 1048576000 + sval .f32 1048576000 ≤ sval .f32 1056964608 ∧ 0 ≤ sval .f32 1056964608 ∧ 0 ≤ sval .f32 1048576000 ∧ sval .f32 1056964608 ≤ sval .f32 1061158912 := by decide +kernel
theorem v_pa : sval .f32 3118559647 ≤ sval .f32 1065353216 - sval .f32 1065356739 ∧ sval .f32 1065353216 - sval .f32 3212840387 ≤ sval .f32 1073743921 ∧ sval .f32 3110514637 * one_ .f32 ≤ sval .f32 1056964608 * sval .f32 3118559647 ∧ sval .f32 1056964608 * sval .f32 1073743921 ≤ sval .f32 1065356739 * one_ .f32 ∧ sval .f32 3110514637 ≤ sval .f32 3045064704 ∧ sval .f32 3110514637 ≤ sval .f32 0 ∧ sval .f32 0 ≤ sval .f32 1065356739 := by decide +kernel
theorem pulse_jv {c : ThC} (h : c.Ok) {ph : Nat} (hp : phase ph = true) : Jv 3110514637 1065356739 (pulse c.o c.cl ph) := by
  have hq := v_qh
  have ha := v_pa
  obtain ⟨⟨o1, o2⟩, s1, s2⟩ := c_oc c.j h.2.1 c.k h.2.2.1
  have hk := (c_oc c.k h.2.2.1 c.j h.2.1).1
  change Fn .f32 c.o at o1
  change 0 < sval .f32 c.o at o2
  change Fn .f32 (farith .add .f32 c.o c.cl) at s1
  change sval .f32 (farith .add .f32 c.o c.cl) = sval .f32 c.o + sval .f32 c.cl at s2
  change Fn .f32 c.cl ∧ 0 < sval .f32 c.cl at hk
  unfold phase at hp
  rw [Bool.and_eq_true] at hp
  have f0 : Fn .f32 ph := fn_between (lo := 0) (hi := 1065353216) (by decide) (by decide) hp.1 (by
    show (FloatKind.f32.format.order ph 1065353216 == some .lt || FloatKind.f32.format.order ph 1065353216 == some .eq) = true
    rw [show (FloatKind.f32.format.order ph 1065353216 == some .lt) = true from hp.2]; rfl)
  have g0 : 0 ≤ sval .f32 ph := by have := cmp_ge f0 (by decide) hp.1; rwa [show sval .f32 0 = 0 from rfl] at this
  unfold pulse
  split
  · rename_i hl
    have hle := lss_le f0 o1 hl
    have q1 := unit_q f0 o1 g0 o2 hle
    have q2 := part_q (c := 1056964608) (by decide) hq.2.2.2.1 q1
    have q3 : Jv 1048576000 1061158912 (farith .add .f32 (farith .mul .f32 1056964608 (farith .quo .f32 ph c.o)) 1048576000) := q2.add (c := 1048576000) (d := 1048576000) ⟨by decide, Int.le_refl _, Int.le_refl _⟩ (by decide) (by decide) hq.1 hq.2.1
    have q4 := (sinN_mid q3).1
    have q5 : Jv 3118559647 1073743921 (farith .sub .f32 1065353216 (sinN (farith .add .f32 (farith .mul .f32 1056964608 (farith .quo .f32 ph c.o)) 1048576000))) := Jv.sub (a := 1065353216) (b := 1065353216) ⟨by decide, Int.le_refl _, Int.le_refl _⟩ q4 (by decide) (by decide) ha.1 ha.2.1
    obtain ⟨z1, z2, z3⟩ := q5
    unfold pulA
    exact mul_bd (by decide) z1 (by decide) (by decide) (Int.le_trans ha.2.2.1 (Int.mul_le_mul_of_nonneg_left z2 hq.2.2.2.1)) (Int.le_trans (Int.mul_le_mul_of_nonneg_left z3 hq.2.2.2.1) ha.2.2.2.1)
  · rename_i hl
    have hge : sval .f32 c.o ≤ sval .f32 ph := by
      refine Int.not_lt.1 fun hlt => hl ?_
      unfold fcmp
      rw [order_sval f0 o1, Int.compare_eq_lt.2 hlt]; rfl
    split
    · rename_i hl2
      have hle := lss_le f0 s1 hl2
      have d1 : Jv 0 c.cl (farith .sub .f32 ph c.o) := sub_bd f0 o1 (by decide) hk.1 (by rw [show sval .f32 0 = 0 from rfl]; omega) (by omega)
      have q1 := unit_q d1.1 hk.1 (by have := d1.2.1; rwa [show sval .f32 0 = 0 from rfl] at this) hk.2 d1.2.2
      have q2 := part_q (c := 1048576000) (by decide) hq.2.2.2.2.1 q1
      have q3 : Jv 1048576000 1056964608 (farith .add .f32 (farith .mul .f32 1048576000 (farith .quo .f32 (farith .sub .f32 ph c.o) c.cl)) 1048576000) := q2.add (c := 1048576000) (d := 1048576000) ⟨by decide, Int.le_refl _, Int.le_refl _⟩ (by decide) (by decide) hq.1 hq.2.2.1
      exact ((sinN_mid (q3.mono (Int.le_refl _) hq.2.2.2.2.2)).2 q3.2.2).mono ha.2.2.2.2.1 (Int.le_refl _)
    · exact ⟨by decide, ha.2.2.2.2.2.1, ha.2.2.2.2.2.2⟩
theorem pul_fin {c : ThC} (h : c.Ok) {ph : Nat} (hp : phase ph = true) : fin (pulse c.o c.cl ph) = true := (pulse_jv h hp).fin
end Go.Vx

namespace Go.Vx
open Ieee Go.RowKit
theorem out_jv {c : ThC} (h : c.Ok) {q n : Nat} {s : Int} (hv : voiceV q n s = true) : fin (outN c.o c.cl c.br q s) = true := by
  have hp := pulse_jv h (vol_phase hv)
  have hu := drawU_bd (seedOf hv)
  have e1 : sval .f32 3212840387 = -sval .f32 1065356739 := by decide +kernel
  have e2 : sval .f32 3212840387 ≤ sval .f32 3110514637 := by decide +kernel
  have hp2 : Jv 3212840387 1065356739 (pulse c.o c.cl q) := hp.mono e2 (Int.le_refl _)
  have ht : Jv 3212840387 1065356739 (farith .mul .f32 (drawU s) (pulse c.o c.cl q)) := hu.mul hp2 v_neg1 e1 e1 (by decide) (by decide) (by decide +kernel)
  have key : ∀ l : Nat, l < 5 → Fn .f32 (farith .quo .f32 (ofInt .f32 (l : Int)) 1090519040) ∧ sval .f32 3212836864 ≤ sval .f32 (farith .quo .f32 (ofInt .f32 (l : Int)) 1090519040) ∧ sval .f32 (farith .quo .f32 (ofInt .f32 (l : Int)) 1090519040) ≤ sval .f32 1065353216 := by decide +kernel
  have hb : Jv 3212836864 1065353216 c.br := key _ h.2.2.2.1
  have ht2 : Jv 3212840387 1065356739 (farith .mul .f32 c.br (farith .mul .f32 (drawU s) (pulse c.o c.cl q))) := hb.mul ht v_neg1 e1 e1 (by decide) (by decide) (by decide +kernel)
  have ho : Jv 3229614080 1082130432 (outN c.o c.cl c.br q s) := hp2.add ht2 (by decide) (by decide) (by decide +kernel) (by decide +kernel)
  exact ho.fin
/-! A grid of parts of 4096 -/
def gz (z : Int) : Nat := farith .quo .f32 (ofInt .f32 z) 1166016512
def S37 : Int := ((2 ^ 137 : Nat) : Int)
theorem gz_p0 : ((List.range 1600).all fun k => decide (Fn .f32 (gz (k : Int)) ∧ sval .f32 (gz (k : Int)) = (k : Int) * S37)) = true := by decide +kernel
theorem gz_p1 : ((List.range 1600).all fun k => decide (Fn .f32 (gz ((1600 + k : Nat) : Int)) ∧ sval .f32 (gz ((1600 + k : Nat) : Int)) = ((1600 + k : Nat) : Int) * S37)) = true := by decide +kernel
theorem gz_p2 : ((List.range 1600).all fun k => decide (Fn .f32 (gz ((3200 + k : Nat) : Int)) ∧ sval .f32 (gz ((3200 + k : Nat) : Int)) = ((3200 + k : Nat) : Int) * S37)) = true := by decide +kernel
theorem gz_p3 : ((List.range 1600).all fun k => decide (Fn .f32 (gz ((4800 + k : Nat) : Int)) ∧ sval .f32 (gz ((4800 + k : Nat) : Int)) = ((4800 + k : Nat) : Int) * S37)) = true := by decide +kernel
theorem gz_n0 : ((List.range 1600).all fun k => decide (Fn .f32 (gz (-(k : Int))) ∧ sval .f32 (gz (-(k : Int))) = -(k : Int) * S37)) = true := by decide +kernel
theorem gz_n1 : ((List.range 1600).all fun k => decide (Fn .f32 (gz (-((1600 + k : Nat) : Int))) ∧ sval .f32 (gz (-((1600 + k : Nat) : Int))) = -((1600 + k : Nat) : Int) * S37)) = true := by decide +kernel
theorem gz_n2 : ((List.range 1600).all fun k => decide (Fn .f32 (gz (-((3200 + k : Nat) : Int))) ∧ sval .f32 (gz (-((3200 + k : Nat) : Int))) = -((3200 + k : Nat) : Int) * S37)) = true := by decide +kernel
theorem gz_val {z : Int} (h1 : -4700 ≤ z) (h2 : z ≤ 6300) : Fn .f32 (gz z) ∧ sval .f32 (gz z) = z * S37 := by
  have key : ∀ (b : Nat) (f : Nat → Int), ((List.range 1600).all fun k => decide (Fn .f32 (gz (f (b + k))) ∧ sval .f32 (gz (f (b + k))) = f (b + k) * S37)) = true → ∀ k, k < 1600 → z = f (b + k) → Fn .f32 (gz z) ∧ sval .f32 (gz z) = z * S37 := fun b f h k hk e => by
    rw [List.all_eq_true] at h
    have := of_decide_eq_true (h k (List.mem_range.2 hk))
    rw [e]; exact this
  by_cases hz : 0 ≤ z
  · obtain ⟨k, rfl⟩ : ∃ k : Nat, z = (k : Int) := ⟨z.toNat, by omega⟩
    rcases Nat.lt_or_ge k 1600 with h | h
    · exact key 0 (fun k => (k : Int)) (by simpa using gz_p0) k h (by simp)
    rcases Nat.lt_or_ge k 3200 with h' | h'
    · exact key 1600 (fun k => (k : Int)) gz_p1 (k - 1600) (by omega) (by omega)
    rcases Nat.lt_or_ge k 4800 with h'' | h''
    · exact key 3200 (fun k => (k : Int)) gz_p2 (k - 3200) (by omega) (by omega)
    · exact key 4800 (fun k => (k : Int)) gz_p3 (k - 4800) (by omega) (by omega)
  · obtain ⟨k, rfl⟩ : ∃ k : Nat, z = -(k : Int) := ⟨(-z).toNat, by omega⟩
    rcases Nat.lt_or_ge k 1600 with h | h
    · exact key 0 (fun k => -(k : Int)) (by simpa using gz_n0) k h (by simp)
    rcases Nat.lt_or_ge k 3200 with h' | h'
    · exact key 1600 (fun k => -(k : Int)) gz_n1 (k - 1600) (by omega) (by omega)
    · exact key 3200 (fun k => -(k : Int)) gz_n2 (k - 3200) (by omega) (by omega)
end Go.Vx

namespace Go.Vx
open Ieee Go.RowKit
theorem sq_le {a b S : Int} (h : a ≤ b) (hS : 0 ≤ S) : a * (512 * S * S) ≤ b * (512 * S * S) := Int.mul_le_mul_of_nonneg_right h (Int.mul_nonneg (Int.mul_nonneg (by decide) hS) hS)
theorem acA (x S w y z : Int) : x * S * w * (z * y * S * w) = z * x * S * (y * S * w * w) := by ac_rfl
theorem acB (l y S w v : Int) : l * (y * S) * w * (v * w) = l * v * (y * S * w * w) := by ac_rfl
theorem one_S : one_ .f32 = 4096 * S37 := by decide +kernel
theorem one_SW : one_ .f64 = 4096 * S37 * wid := by decide +kernel
theorem S37_pos : 0 < S37 := by decide +kernel
theorem p_lo : -(1 * S37) ≤ sval .f32 3110514637 := by decide +kernel
theorem p_hi : sval .f32 1065356739 < 4099 * S37 := by decide +kernel
theorem br_val : ∀ l : Nat, l < 5 → Fn .f32 (farith .quo .f32 (ofInt .f32 (l : Int)) 1090519040) ∧ Fn .f32 (fneg .f32 (farith .quo .f32 (ofInt .f32 (l : Int)) 1090519040)) ∧ sval .f32 (farith .quo .f32 (ofInt .f32 (l : Int)) 1090519040) = (l : Int) * (512 * S37) ∧ sval .f32 (fneg .f32 (farith .quo .f32 (ofInt .f32 (l : Int)) 1090519040)) = -((l : Int) * (512 * S37)) := by decide +kernel
theorem milli : 4 * S37 * wid ≤ sval .f64 4562254508917369340 ∧ sval .f64 4562254508917369340 ≤ 5 * S37 * wid := by decide +kernel
/-- Breath is no more than told. -/
theorem breath_ok {c : ThC} (h : c.Ok) {q n : Nat} {s : Int} (hv : voiceV q n s = true) : fcmp .gtr .f64 (gapW (conv .f32 .f64 (outN c.o c.cl c.br q s)) (conv .f32 .f64 (pulse c.o c.cl q))) (farith .add .f64 (farith .mul .f64 (conv .f32 .f64 c.br) (conv .f32 .f64 (pulse c.o c.cl q))) 4562254508917369340) = false := by
  obtain ⟨p1, p2, p3⟩ := pulse_jv h (vol_phase hv)
  have hu := drawU_bd (seedOf hv)
  obtain ⟨b1, b2, b3, b4⟩ := br_val c.l h.2.2.2.1
  have hl := h.2.2.2.1
  change Fn .f32 c.br at b1
  change Fn .f32 (fneg .f32 c.br) at b2
  change sval .f32 c.br = _ at b3
  change sval .f32 (fneg .f32 c.br) = _ at b4
  have e1 : one_ .f32 = 4096 * S37 := one_S
  have e2 := one_SW
  have hS := S37_pos
  have q1 := p_lo
  have q2 := p_hi
  have hm := milli
  have hw : 0 ≤ wid := by unfold wid; exact Int.natCast_nonneg _
  have gv : ∀ {z : Int}, -4700 ≤ z → z ≤ 6300 → Fn .f32 (gz z) ∧ sval .f32 (gz z) = z * S37 := fun h1 h2 => gz_val h1 h2
  have o1 := one_32
  unfold outN
  generalize pulse c.o c.cl q = p at *
  generalize drawU s = u at *
  generalize c.br = b at *
  generalize c.l = l at *
  generalize S37 = S at *
  -- where the pulse lies on the grid
  obtain ⟨i, i1, i2⟩ : ∃ i : Int, i * S ≤ sval .f32 p ∧ sval .f32 p < (i + 1) * S := ⟨sval .f32 p / S, Int.ediv_mul_le _ (by omega), Int.lt_ediv_add_one_mul_self _ hS⟩
  have j1 : -1 ≤ i := by
    refine Int.not_lt.1 fun hlt => ?_
    have : (i + 1) * S ≤ (-1) * S := Int.mul_le_mul_of_nonneg_right (by omega) (by omega)
    omega
  have j2 : i ≤ 4098 := by
    refine Int.not_lt.1 fun hlt => ?_
    have : 4099 * S ≤ i * S := Int.mul_le_mul_of_nonneg_right (by omega) (by omega)
    omega
  obtain ⟨K1, hK1⟩ : ∃ K : Int, K = max (i + 1) 1 := ⟨_, rfl⟩
  obtain ⟨K2, hK2⟩ : ∃ K : Int, K = ((l : Int) * K1 + 7) / 8 := ⟨_, rfl⟩
  obtain ⟨K3, hK3⟩ : ∃ K : Int, K = ((l : Int) * i) / 8 := ⟨_, rfl⟩
  have hlK : (l : Int) * K1 ≤ 8 * K2 ∧ 0 ≤ K2 ∧ K2 ≤ 2052 ∧ 8 * K3 ≤ (l : Int) * i ∧ -1 ≤ K3 ∧ K3 ≤ 2050 ∧ 1 + K2 ≤ K3 + 4 := by
    have : l = 0 ∨ l = 1 ∨ l = 2 ∨ l = 3 ∨ l = 4 := by omega
    rcases this with rfl | rfl | rfl | rfl | rfl <;> omega
  obtain ⟨k1, k2, k3, k4, k5, k6, k7⟩ := hlK
  obtain ⟨g1, g1v⟩ := gv (z := K1) (by omega) (by omega)
  obtain ⟨n1, n1v⟩ := gv (z := -K1) (by omega) (by omega)
  obtain ⟨g2, g2v⟩ := gv (z := K2) (by omega) (by omega)
  obtain ⟨n2, n2v⟩ := gv (z := -K2) (by omega) (by omega)
  obtain ⟨g3, g3v⟩ := gv (z := i - K2) (by omega) (by omega)
  obtain ⟨g4, g4v⟩ := gv (z := i + 1 + K2) (by omega) (by omega)
  obtain ⟨g5, g5v⟩ := gv (z := 1 + K2) (by omega) (by omega)
  obtain ⟨n5, n5v⟩ := gv (z := -(1 + K2)) (by omega) (by omega)
  obtain ⟨g6, g6v⟩ := gv (z := K3) (by omega) (by omega)
  obtain ⟨g7, g7v⟩ := gv (z := K3 + 4) (by omega) (by omega)
  obtain ⟨g8, g8v⟩ := gv (z := 6000) (by omega) (by omega)
  obtain ⟨g9, g9v⟩ := gv (z := 6100) (by omega) (by omega)
  have m1 : (i + 1) * S ≤ K1 * S := Int.mul_le_mul_of_nonneg_right (by omega) (by omega)
  have m2 : (-K1) * S ≤ i * S := Int.mul_le_mul_of_nonneg_right (by omega) (by omega)
  have hp : Jv (gz (-K1)) (gz K1) p := ⟨p1, by omega, by omega⟩
  have ht1 : Jv (gz (-K1)) (gz K1) (farith .mul .f32 u p) := hu.mul hp v_neg1 (by rw [n1v, g1v, Int.neg_mul]) (by rw [n1v, g1v, Int.neg_mul]) n1 g1 (by rw [o1, Int.mul_comm]; exact Int.le_refl _)
  have hb : Jv (fneg .f32 b) b b := ⟨b1, by rw [b3, b4]; have := Int.mul_nonneg (Int.natCast_nonneg l) (show 0 ≤ 512 * S by omega); omega, Int.le_refl _⟩
  have ht2 : Jv (gz (-K2)) (gz K2) (farith .mul .f32 b (farith .mul .f32 u p)) := hb.mul ht1 (by rw [b3, b4]) (by rw [n1v, g1v, Int.neg_mul]) (by rw [n2v, g2v, Int.neg_mul]) n2 g2 (by
    rw [b3, g1v, g2v, e1, show (l : Int) * (512 * S) * (K1 * S) = (l : Int) * K1 * (512 * S * S) by ac_rfl, show K2 * S * (4096 * S) = 8 * K2 * (512 * S * S) by rw [show (4096 : Int) = 8 * 512 from rfl]; ac_rfl]
    exact sq_le k1 (by omega))
  generalize hT : farith .mul .f32 b (farith .mul .f32 u p) = t2 at *
  obtain ⟨t1, t3, t4⟩ := ht2
  rw [n2v, Int.neg_mul] at t3
  rw [g2v] at t4
  have x1 : (i - K2) * S = i * S - K2 * S := Int.sub_mul ..
  have x2 : (i + 1 + K2) * S = (i + 1) * S + K2 * S := Int.add_mul ..
  have x3 : (1 + K2) * S = S + K2 * S := by rw [Int.add_mul, Int.one_mul]
  have x4 : (i + 1) * S = i * S + S := by rw [Int.add_mul, Int.one_mul]
  obtain ⟨r1, r2, r3⟩ := add_bd (k := .f32) p1 t1 g3 g4 (by rw [g3v]; omega) (by rw [g4v]; omega)
  rw [g3v] at r2
  rw [g4v] at r3
  generalize farith .add .f32 p t2 = r at *
  obtain ⟨wp1, wp2⟩ := wide_val p1
  obtain ⟨wr1, wr2⟩ := wide_val r1
  obtain ⟨wb1, wb2⟩ := wide_val b1
  obtain ⟨w51, w52⟩ := wide_val g5
  obtain ⟨v51, v52⟩ := wide_val n5
  obtain ⟨w61, w62⟩ := wide_val g6
  obtain ⟨w71, w72⟩ := wide_val g7
  obtain ⟨w81, w82⟩ := wide_val g8
  obtain ⟨w91, w92⟩ := wide_val g9
  rw [g5v] at w52
  rw [n5v, Int.neg_mul, Int.neg_mul] at v52
  rw [g6v] at w62
  rw [g7v] at w72
  rw [g8v] at w82
  rw [g9v] at w92
  -- the difference
  have d1 : (sval .f32 r - sval .f32 p) * wid ≤ (1 + K2) * S * wid := Int.mul_le_mul_of_nonneg_right (by omega) hw
  have d2 : (sval .f32 p - sval .f32 r) * wid ≤ (1 + K2) * S * wid := Int.mul_le_mul_of_nonneg_right (by omega) hw
  rw [Int.sub_mul] at d1 d2
  have hgap : Fn .f64 (gapW (conv .f32 .f64 r) (conv .f32 .f64 p)) ∧ sval .f64 (gapW (conv .f32 .f64 r) (conv .f32 .f64 p)) ≤ (1 + K2) * S * wid := by
    unfold gapW
    split
    · have := sub_bd (k := .f64) wp1 wr1 v51 w51 (by rw [v52, wp2, wr2]; omega) (by rw [w52, wp2, wr2]; omega)
      rw [w52] at this
      exact ⟨this.1, this.2.2⟩
    · have := sub_bd (k := .f64) wr1 wp1 v51 w51 (by rw [v52, wp2, wr2]; omega) (by rw [w52, wp2, wr2]; omega)
      rw [w52] at this
      exact ⟨this.1, this.2.2⟩
  -- what is told
  have hlp : (l : Int) * (i * S) ≤ (l : Int) * sval .f32 p := Int.mul_le_mul_of_nonneg_left i1 (Int.natCast_nonneg l)
  have hlp2 : (l : Int) * sval .f32 p ≤ (l : Int) * ((i + 1) * S) := Int.mul_le_mul_of_nonneg_left (Int.le_of_lt i2) (Int.natCast_nonneg l)
  have hk3 : 8 * K3 * S ≤ (l : Int) * i * S := Int.mul_le_mul_of_nonneg_right k4 (by omega)
  have hk8 : (l : Int) * (i + 1) * S ≤ 48000 * S := Int.mul_le_mul_of_nonneg_right (by
    have : l = 0 ∨ l = 1 ∨ l = 2 ∨ l = 3 ∨ l = 4 := by omega
    rcases this with rfl | rfl | rfl | rfl | rfl <;> omega) (by omega)
  rw [← Int.mul_assoc] at hlp hlp2
  have hZ : 0 ≤ 512 * S * wid * wid := Int.mul_nonneg (Int.mul_nonneg (by omega) hw) hw
  have c1 := Int.mul_le_mul_of_nonneg_right (Int.le_trans hk3 hlp) hZ
  have c2 := Int.mul_le_mul_of_nonneg_right (Int.le_trans hlp2 hk8) hZ
  have hmul := mul_bd (k := .f64) wb1 wp1 w61 w81 (by
    rw [w62, e2, wb2, wp2, b3, show (4096 : Int) = 8 * 512 from rfl, acA K3 S wid 512 8, acB (l : Int) 512 S wid (sval .f32 p)]
    exact c1) (by
    rw [w82, e2, wb2, wp2, b3, show (4096 : Int) = 8 * 512 from rfl, acA 6000 S wid 512 8, acB (l : Int) 512 S wid (sval .f32 p)]
    exact c2)
  rw [w62, w82] at hmul
  have y1 : (K3 + 4) * S * wid = K3 * S * wid + 4 * S * wid := by rw [Int.add_mul, Int.add_mul]
  have y2 : 6100 * S * wid = 6000 * S * wid + 100 * S * wid := by rw [show (6100 : Int) = 6000 + 100 from rfl, Int.add_mul, Int.add_mul]
  have y3 : 5 * S * wid ≤ 100 * S * wid := Int.mul_le_mul_of_nonneg_right (by omega) hw
  have hadd := add_bd (k := .f64) (y := 4562254508917369340) hmul.1 (by decide) w71 w91 (by rw [w72, y1]; omega) (by rw [w92, y2]; omega)
  rw [w72] at hadd
  refine cmp_gt_not hgap.1 hadd.1 (Int.le_trans hgap.2 (Int.le_trans ?_ hadd.2.1))
  exact Int.mul_le_mul_of_nonneg_right (Int.mul_le_mul_of_nonneg_right k7 (by omega)) hw
end Go.Vx

namespace Go.Vx
open Ieee Go.RowKit
def pT (i : Nat) : Nat := farith .quo .f32 (ofInt .f32 (4 + (i : Int))) 1073741824
def hT (m : Nat) : Nat := farith .quo .f32 (ofInt .f32 (m : Int)) 1098907648
def loT (i m : Nat) : Nat := farith .mul .f32 (pT i) (farith .sub .f32 1065353216 (hT m))
def hiT (i m : Nat) : Nat := farith .mul .f32 (pT i) (farith .add .f32 1065353216 (hT m))
def gT (i m : Nat) : Nat := farith .mul .f64 (conv .f32 .f64 (hT m)) (conv .f32 .f64 (pT i))
theorem n_h : ∀ m : Nat, m < 5 → Fn .f32 (hT m) ∧ Fn .f32 (fneg .f32 (hT m)) ∧ sval .f32 (fneg .f32 (hT m)) = -sval .f32 (hT m) ∧ 0 ≤ sval .f32 (hT m) ∧ Fn .f32 (farith .sub .f32 1065353216 (hT m)) ∧ Fn .f32 (farith .add .f32 1065353216 (hT m)) ∧ sval .f32 (farith .sub .f32 1065353216 (hT m)) = sval .f32 1065353216 - sval .f32 (hT m) ∧ sval .f32 (farith .add .f32 1065353216 (hT m)) = sval .f32 1065353216 + sval .f32 (hT m) := by decide +kernel
theorem n_p : ∀ i : Nat, i < 33 → ∀ m : Nat, m < 5 → Fn .f32 (pT i) ∧ 0 ≤ sval .f32 (pT i) ∧ Fn .f32 (loT i m) ∧ Fn .f32 (hiT i m) ∧ sval .f32 (loT i m) * one_ .f32 ≤ sval .f32 (pT i) * sval .f32 (farith .sub .f32 1065353216 (hT m)) ∧ sval .f32 (pT i) * sval .f32 (farith .add .f32 1065353216 (hT m)) ≤ sval .f32 (hiT i m) * one_ .f32 := by decide +kernel
theorem n_g : ∀ i : Nat, i < 33 → ∀ m : Nat, m < 5 → Fn .f64 (gT i m) ∧ Fn .f64 (fneg .f64 (gT i m)) ∧ sval .f64 (fneg .f64 (gT i m)) = -sval .f64 (gT i m) ∧ sval .f64 (conv .f32 .f64 (hiT i m)) - sval .f64 (conv .f32 .f64 (pT i)) ≤ sval .f64 (gT i m) ∧ sval .f64 (conv .f32 .f64 (pT i)) - sval .f64 (conv .f32 .f64 (loT i m)) ≤ sval .f64 (gT i m) ∧ Fn .f64 (farith .add .f64 (gT i m) 4562254508917369340) ∧ sval .f64 (gT i m) ≤ sval .f64 (farith .add .f64 (gT i m) 4562254508917369340) := by decide +kernel
theorem n_0 : ∀ i : Nat, i < 33 → ∀ m : Nat, m < 5 → fcmp .gtr .f64 (gapW (conv .f32 .f64 (pT i)) (conv .f32 .f64 (pT i))) (farith .add .f64 (gT i m) 4562254508917369340) = false := by decide +kernel
def NowOk (c : ThC) (n : Nat) : Prop := n = c.p ∨ ∃ s : Int, (0 ≤ s ∧ s ≤ 2147483647) ∧ n = nowN c.p c.sh s
theorem vst_now {c : ThC} (h : c.Ok) {s : Int} (hs : 0 ≤ s ∧ s ≤ 2147483647) : ∀ k, NowOk c (vst c.p c.sh 0 c.p s k).2.1
  | 0 => .inl rfl
  | k + 1 => by
    have ih := vst_now h hs k
    have hv := vst_valid (th_ok h) (th_p h hs) k
    show NowOk c (stN c.p c.sh (vst c.p c.sh 0 c.p s k).1 (vst c.p c.sh 0 c.p s k).2.1 (vst c.p c.sh 0 c.p s k).2.2)
    unfold stN
    split
    · exact .inr ⟨_, nextS_in (seedOf hv), rfl⟩
    · exact ih
theorem now_ok {c : ThC} (h : c.Ok) {n : Nat} (hn : NowOk c n) : (fcmp .gtr .f64 (gapW (conv .f32 .f64 n) (conv .f32 .f64 c.p)) (farith .add .f64 (farith .mul .f64 (conv .f32 .f64 c.sh) (conv .f32 .f64 c.p)) 4562254508917369340) && fcmp .neq .f32 n 1065353216) = false := by
  obtain ⟨hi, _, _, _, hm⟩ := h
  change (fcmp .gtr .f64 (gapW (conv .f32 .f64 n) (conv .f32 .f64 (pT c.i))) (farith .add .f64 (gT c.i c.m) 4562254508917369340) && fcmp .neq .f32 n 1065353216) = false
  rcases hn with rfl | ⟨s, hs, rfl⟩
  · have := n_0 _ hi _ hm
    change (fcmp .gtr .f64 (gapW (conv .f32 .f64 (pT c.i)) (conv .f32 .f64 (pT c.i))) (farith .add .f64 (gT c.i c.m) 4562254508917369340) && _) = false
    rw [this]; rfl
  · unfold nowN
    split
    · have : fcmp .neq .f32 1065353216 1065353216 = false := by decide +kernel
      rw [this, Bool.and_false]
    · have hu := drawU_bd hs
      obtain ⟨a1, a2, a3, a4, a5, a6, a7, a8⟩ := n_h _ hm
      obtain ⟨b1, b2, b3, b4, b5, b6⟩ := n_p _ hi _ hm
      obtain ⟨g1, g2, g3, g4, g5, g6, g7⟩ := n_g _ hi _ hm
      have o1 := one_32
      have hone : 0 ≤ one_ .f32 := by unfold one_; exact Int.natCast_nonneg _
      have ht : Jv (fneg .f32 (hT c.m)) (hT c.m) (farith .mul .f32 (hT c.m) (drawU s)) := Jv.mul (a := hT c.m) (na := fneg .f32 (hT c.m)) ⟨a1, by omega, Int.le_refl _⟩ hu a3 v_neg1 a3 a2 a1 (by rw [o1]; exact Int.le_refl _)
      have ha : Jv (farith .sub .f32 1065353216 (hT c.m)) (farith .add .f32 1065353216 (hT c.m)) (farith .add .f32 1065353216 (farith .mul .f32 (hT c.m) (drawU s))) := add_bd (by decide) ht.1 a5 a6 (by rw [a7]; have := ht.2.1; rw [a3] at this; omega) (by rw [a8]; have := ht.2.2; omega)
      have hv : Jv (loT c.i c.m) (hiT c.i c.m) (nowV c.p c.sh s) := mul_bd b1 ha.1 b3 b4 (Int.le_trans b5 (Int.mul_le_mul_of_nonneg_left ha.2.1 b2)) (Int.le_trans (Int.mul_le_mul_of_nonneg_left ha.2.2 b2) b6)
      generalize nowV c.p c.sh s = v at *
      have hw : 0 ≤ wid := by unfold wid; exact Int.natCast_nonneg _
      obtain ⟨w1, w2⟩ := wide_val hv.1
      obtain ⟨p1, p2⟩ := wide_val b1
      obtain ⟨l1, l2⟩ := wide_val b3
      obtain ⟨u1, u2⟩ := wide_val b4
      have m1 := Int.mul_le_mul_of_nonneg_right hv.2.1 hw
      have m2 := Int.mul_le_mul_of_nonneg_right hv.2.2 hw
      rw [← l2, ← w2] at m1
      rw [← u2, ← w2] at m2
      have hg : Fn .f64 (gapW (conv .f32 .f64 v) (conv .f32 .f64 (pT c.i))) ∧ sval .f64 (gapW (conv .f32 .f64 v) (conv .f32 .f64 (pT c.i))) ≤ sval .f64 (gT c.i c.m) := by
        unfold gapW
        split
        · have := sub_bd (k := .f64) p1 w1 g2 g1 (by rw [g3]; omega) (by omega)
          exact ⟨this.1, this.2.2⟩
        · have := sub_bd (k := .f64) w1 p1 g2 g1 (by rw [g3]; omega) (by omega)
          exact ⟨this.1, this.2.2⟩
      rw [cmp_gt_not hg.1 g6 (Int.le_trans hg.2 g7)]; rfl
theorem out_fin {c : ThC} (h : c.Ok) {q n : Nat} {s : Int} (hv : voiceV q n s = true) : fin (outN c.o c.cl c.br q s) = true := out_jv h hv
theorem pul_ok {c : ThC} (h : c.Ok) {ph : Nat} (hp : phase ph = true) : ((throatI c.p c.o c.cl c.br c.sh && phase ph) && fin (pulse c.o c.cl ph)) = true := by rw [th_ok h, hp, pul_fin h hp]; rfl
theorem stp_ok {c : ThC} (h : c.Ok) {q n : Nat} {s : Int} (hv : voiceV q n s = true) : ((throatI c.p c.o c.cl c.br c.sh && voiceV q n s) && fin (outN c.o c.cl c.br q s)) = true := by rw [th_ok h, hv, out_fin h hv]; rfl
theorem run_ok {c : ThC} (h : c.Ok) {q n : Nat} {s m : Int} (hv : voiceV q n s = true) (hm : 0 ≤ m ∧ m ≤ 256) : runB c.p c.o c.cl c.br c.sh q n s m = true :=
  run_yes ⟨th_ok h, hv⟩ hm fun j _ => out_fin h (vst_valid (th_ok h) hv j)
theorem voice_c2 {c : ThC} (h : c.Ok) {s : Int} (hs : 0 ≤ s ∧ s ≤ 2147483647) (k : Nat) :
    (fcmp .gtr .f64 (gapW (conv .f32 .f64 (outN c.o c.cl c.br (vst c.p c.sh 0 c.p s k).1 (vst c.p c.sh 0 c.p s k).2.2)) (conv .f32 .f64 (pulse c.o c.cl (vst c.p c.sh 0 c.p s k).1))) (farith .add .f64 (farith .mul .f64 (conv .f32 .f64 c.br) (conv .f32 .f64 (pulse c.o c.cl (vst c.p c.sh 0 c.p s k).1))) 4562254508917369340) || (fcmp .gtr .f64 (gapW (conv .f32 .f64 (stN c.p c.sh (vst c.p c.sh 0 c.p s k).1 (vst c.p c.sh 0 c.p s k).2.1 (vst c.p c.sh 0 c.p s k).2.2)) (conv .f32 .f64 c.p)) (farith .add .f64 (farith .mul .f64 (conv .f32 .f64 c.sh) (conv .f32 .f64 c.p)) 4562254508917369340) && fcmp .neq .f32 (stN c.p c.sh (vst c.p c.sh 0 c.p s k).1 (vst c.p c.sh 0 c.p s k).2.1 (vst c.p c.sh 0 c.p s k).2.2) 1065353216)) = false := by
  have e2 := now_ok h (vst_now h hs (k + 1))
  rw [breath_ok h (vst_valid (th_ok h) (th_p h hs) k)]; exact e2
end Go.Vx

namespace Go.Vx
open Ieee Go.RowKit
/-! ### How much an operation rounds -/
theorem mg_step {B : Nat} (hB : 0 < B) (r : Nat) : mg B (r + 1) = mg B r + 2 ^ (r / B - 1) := by
  obtain ⟨q, m, rfl, hm⟩ : ∃ q m, r = B * q + m ∧ m < B := ⟨r / B, r % B, (Nat.div_add_mod ..).symm, Nat.mod_lt _ hB⟩
  have d0 : (B * q + m) / B = q := by rw [Nat.mul_add_div hB, Nat.div_eq_of_lt hm, Nat.add_zero]
  have m0 : (B * q + m) % B = m := by rw [Nat.mul_add_mod, Nat.mod_eq_of_lt hm]
  unfold mg
  rw [d0, m0]
  cases q with
  | zero =>
    rw [Nat.mul_zero, Nat.zero_add, if_pos hm]
    by_cases h : m + 1 < B
    · rw [if_pos h]
    · have e : m + 1 = B := by omega
      rw [if_neg h, e, Nat.mod_self, Nat.div_self hB, Nat.shiftLeft_eq]
      simp
  | succ q =>
    have hle : B ≤ B * (q + 1) := Nat.le_mul_of_pos_right _ (by omega)
    rw [if_neg (by omega), if_neg (by omega), Nat.shiftLeft_eq, Nat.shiftLeft_eq, Nat.add_assoc]
    rw [show q + 1 - 1 = q by omega]
    by_cases h : m + 1 < B
    · rw [Nat.mul_add_div hB, Nat.div_eq_of_lt h, Nat.mul_add_mod, Nat.mod_eq_of_lt h]
      rw [show q + 1 + 0 - 1 = q by omega, ← Nat.add_assoc, Nat.add_mul (B + m), Nat.one_mul]
    · have e : m + 1 = B := by omega
      rw [e, Nat.mul_add_div hB, Nat.div_self hB, Nat.mul_add_mod, Nat.mod_self]
      rw [show q + 1 + 1 - 1 = q + 1 by omega, Nat.pow_succ, Nat.add_zero, Nat.mul_comm (2 ^ q), ← Nat.mul_assoc]
      have : (B + m) * 2 ^ q + 2 ^ q = (B + m + 1) * 2 ^ q := by rw [Nat.add_mul (B + m), Nat.one_mul]
      rw [this]
      congr 1
      omega
theorem mg_cell {B : Nat} (hB : 0 < B) : ∀ R e : Nat, e < mg B R → ∃ r, r < R ∧ mg B r ≤ e ∧ e < mg B (r + 1)
  | 0, e, h => by rw [mg_zero hB] at h; omega
  | R + 1, e, h => by
    by_cases h1 : e < mg B R
    · obtain ⟨r, h2, h3⟩ := mg_cell hB R e h1
      exact ⟨r, by omega, h3⟩
    · exact ⟨R, by omega, by omega, h⟩
def gapU (k : FloatKind) (R : Nat) : Int := ((2 ^ ((R - 1) / k.format.binade - 1) : Nat) : Int)
theorem gapU_pos (k : FloatKind) (R : Nat) : 0 < gapU k R := by unfold gapU; have := Nat.two_pow_pos ((R - 1) / k.format.binade - 1); omega
def topU (k : FloatKind) (R : Nat) : Int := ((mg k.format.binade R : Nat) : Int)
theorem cell {k : FloatKind} {R : Nat} {e : Int} (hR : R < k.format.infRung) (h1 : -topU k R ≤ e) (h2 : e < topU k R) : ∃ lo hi, Fn k lo ∧ Fn k hi ∧ sval k lo ≤ e ∧ e + 1 ≤ sval k hi ∧ sval k hi ≤ sval k lo + gapU k R := by
  have hB := binade_pos k.format
  have hs := inf_lt_sign k
  unfold topU at h1 h2
  have key : ∀ n : Nat, n < mg k.format.binade R → ∃ r, r + 1 < k.format.infRung ∧ mg k.format.binade r ≤ n ∧ n < mg k.format.binade (r + 1) ∧ ((mg k.format.binade (r + 1) : Nat) : Int) ≤ (mg k.format.binade r : Nat) + gapU k R := fun n hn => by
    obtain ⟨r, a1, a2, a3⟩ := mg_cell hB R n hn
    refine ⟨r, by omega, a2, a3, ?_⟩
    rw [mg_step hB r]
    unfold gapU
    have hd : r / k.format.binade - 1 ≤ (R - 1) / k.format.binade - 1 := Nat.sub_le_sub_right (Nat.div_le_div_right (by omega)) 1
    have := Nat.pow_le_pow_right (n := 2) (by omega) hd
    omega
  by_cases h0 : 0 ≤ e
  · obtain ⟨r, a1, a2, a3, a4⟩ := key e.toNat (by omega)
    refine ⟨k.format.word false r, k.format.word false (r + 1), ?_, ?_, ?_⟩
    · unfold Fn; rw [rg_word (by omega)]; omega
    · unfold Fn; rw [rg_word (by omega)]; omega
    · rw [sval_word (by omega), sval_word (by omega)]
      simp only [Bool.false_eq_true, if_false]
      omega
  · obtain ⟨r, a1, a2, a3, a4⟩ := key (-e - 1).toNat (by omega)
    refine ⟨k.format.word true (r + 1), k.format.word true r, ?_, ?_, ?_⟩
    · unfold Fn; rw [rg_word (by omega)]; omega
    · unfold Fn; rw [rg_word (by omega)]; omega
    · rw [sval_word (by omega), sval_word (by omega)]
      simp only [if_true]
      omega
theorem add_er {k : FloatKind} {x y : Nat} (R : Nat) (hR : R < k.format.infRung) (hx : Fn k x) (hy : Fn k y) (h1 : -topU k R ≤ sval k x + sval k y) (h2 : sval k x + sval k y < topU k R) :
    Fn k (farith .add k x y) ∧ sval k (farith .add k x y) ≤ sval k x + sval k y + gapU k R ∧ sval k x + sval k y ≤ sval k (farith .add k x y) + gapU k R := by
  obtain ⟨lo, hi, f1, f2, a1, a2, a3⟩ := cell hR h1 h2
  obtain ⟨b1, b2, b3⟩ := add_bd hx hy f1 f2 a1 (by omega)
  exact ⟨b1, by omega, by omega⟩
theorem sub_er {k : FloatKind} {x y : Nat} (R : Nat) (hR : R < k.format.infRung) (hx : Fn k x) (hy : Fn k y) (h1 : -topU k R ≤ sval k x - sval k y) (h2 : sval k x - sval k y < topU k R) :
    Fn k (farith .sub k x y) ∧ sval k (farith .sub k x y) ≤ sval k x - sval k y + gapU k R ∧ sval k x - sval k y ≤ sval k (farith .sub k x y) + gapU k R := by
  obtain ⟨lo, hi, f1, f2, a1, a2, a3⟩ := cell hR h1 h2
  obtain ⟨b1, b2, b3⟩ := sub_bd hx hy f1 f2 a1 (by omega)
  exact ⟨b1, by omega, by omega⟩
theorem floor_le {a U : Int} (hU : 0 < U) : a / U * U ≤ a ∧ a ≤ (a / U + 1) * U := by
  have h1 := Int.emod_add_mul_ediv a U
  have h2 := Int.emod_nonneg a (Int.ne_of_gt hU)
  have h3 := Int.emod_lt_of_pos a hU
  rw [Int.mul_comm] at h1
  rw [Int.add_mul, Int.one_mul]
  omega
theorem mul_er {k : FloatKind} {x y : Nat} (R : Nat) (hR : R < k.format.infRung) (hx : Fn k x) (hy : Fn k y) (h1 : -topU k R * one_ k ≤ sval k x * sval k y) (h2 : sval k x * sval k y < topU k R * one_ k) :
    Fn k (farith .mul k x y) ∧ sval k (farith .mul k x y) * one_ k ≤ sval k x * sval k y + gapU k R * one_ k ∧ sval k x * sval k y ≤ sval k (farith .mul k x y) * one_ k + gapU k R * one_ k := by
  have hU := one_pos k
  obtain ⟨c1, c2⟩ := floor_le (a := sval k x * sval k y) hU
  obtain ⟨lo, hi, f1, f2, a1, a2, a3⟩ := cell (k := k) (R := R) (e := sval k x * sval k y / one_ k) hR ((Int.le_ediv_iff_mul_le hU).2 h1) ((Int.ediv_lt_iff_lt_mul hU).2 h2)
  have d1 := Int.mul_le_mul_of_nonneg_right a1 (Int.le_of_lt hU)
  have d2 := Int.mul_le_mul_of_nonneg_right a2 (Int.le_of_lt hU)
  have d3 := Int.mul_le_mul_of_nonneg_right a3 (Int.le_of_lt hU)
  obtain ⟨b1, b2, b3⟩ := mul_bd hx hy f1 f2 (Int.le_trans d1 c1) (Int.le_trans c2 d2)
  have e1 := Int.mul_le_mul_of_nonneg_right b2 (Int.le_of_lt hU)
  have e2 := Int.mul_le_mul_of_nonneg_right b3 (Int.le_of_lt hU)
  rw [Int.add_mul] at d3
  exact ⟨b1, by omega, by omega⟩
theorem div_er {k : FloatKind} {x y : Nat} (R : Nat) (hR : R < k.format.infRung) (hx : Fn k x) (hy : Fn k y) (hy0 : 0 < sval k y) (h1 : -topU k R * sval k y ≤ sval k x * one_ k) (h2 : sval k x * one_ k < topU k R * sval k y) :
    Fn k (farith .quo k x y) ∧ sval k (farith .quo k x y) * sval k y ≤ sval k x * one_ k + gapU k R * sval k y ∧ sval k x * one_ k ≤ sval k (farith .quo k x y) * sval k y + gapU k R * sval k y := by
  obtain ⟨c1, c2⟩ := floor_le (a := sval k x * one_ k) hy0
  obtain ⟨lo, hi, f1, f2, a1, a2, a3⟩ := cell (k := k) (R := R) (e := sval k x * one_ k / sval k y) hR ((Int.le_ediv_iff_mul_le hy0).2 h1) ((Int.ediv_lt_iff_lt_mul hy0).2 h2)
  have d1 := Int.mul_le_mul_of_nonneg_right a1 (Int.le_of_lt hy0)
  have d2 := Int.mul_le_mul_of_nonneg_right a2 (Int.le_of_lt hy0)
  have d3 := Int.mul_le_mul_of_nonneg_right a3 (Int.le_of_lt hy0)
  obtain ⟨b1, b2, b3⟩ := div_bd hx hy hy0 f1 f2 (Int.le_trans d1 c1) (Int.le_trans c2 d2)
  have e1 := Int.mul_le_mul_of_nonneg_right b2 (Int.le_of_lt hy0)
  have e2 := Int.mul_le_mul_of_nonneg_right b3 (Int.le_of_lt hy0)
  rw [Int.add_mul] at d3
  exact ⟨b1, by omega, by omega⟩
theorem narrow_er {y : Nat} (R : Nat) (hR : R < FloatKind.f32.format.infRung) (hy : Fn .f64 y) (h1 : -topU .f32 R * wid ≤ sval .f64 y) (h2 : sval .f64 y < topU .f32 R * wid) :
    Fn .f32 (conv .f64 .f32 y) ∧ sval .f32 (conv .f64 .f32 y) * wid ≤ sval .f64 y + gapU .f32 R * wid ∧ sval .f64 y ≤ sval .f32 (conv .f64 .f32 y) * wid + gapU .f32 R * wid := by
  have hU := wid_pos
  obtain ⟨c1, c2⟩ := floor_le (a := sval .f64 y) hU
  obtain ⟨lo, hi, f1, f2, a1, a2, a3⟩ := cell (k := .f32) (R := R) (e := sval .f64 y / wid) hR ((Int.le_ediv_iff_mul_le hU).2 h1) ((Int.ediv_lt_iff_lt_mul hU).2 h2)
  have d1 := Int.mul_le_mul_of_nonneg_right a1 (Int.le_of_lt hU)
  have d2 := Int.mul_le_mul_of_nonneg_right a2 (Int.le_of_lt hU)
  have d3 := Int.mul_le_mul_of_nonneg_right a3 (Int.le_of_lt hU)
  obtain ⟨b1, b2, b3⟩ := (narrow_bd hy f1 f2 (Int.le_trans d1 c1) (Int.le_trans c2 d2)).2
  have e1 := Int.mul_le_mul_of_nonneg_right b2 (Int.le_of_lt hU)
  have e2 := Int.mul_le_mul_of_nonneg_right b3 (Int.le_of_lt hU)
  rw [Int.add_mul] at d3
  exact ⟨b1, by omega, by omega⟩
end Go.Vx

namespace Go.Vx
open Ieee Go.RowKit
/-! ### How much the sine changes -/
section
attribute [local irreducible] farith fcmp sval one_ gapU topU Fn
def R4 : Nat := 4616189618054758400
def e4 : Int := gapU .f64 R4
theorem r4_ok : R4 < FloatKind.f64.format.infRung := by decide
theorem e4_pos : 0 < e4 := gapU_pos _ _
theorem scale_mul {a b c : Int} (ha : 0 ≤ a) (h : b ≤ c) : a * b ≤ a * c := Int.mul_le_mul_of_nonneg_left h ha
/-- How far two products are apart, where all is at least nothing. -/
theorem mul_lip {k : FloatKind} {x x' y y' : Nat} {R : Nat} {cx cy dx dy : Int} (hR : R < k.format.infRung) (hx : Fn k x) (hx' : Fn k x') (hy : Fn k y) (hy' : Fn k y')
    (x0 : 0 ≤ sval k x') (x1 : sval k x' ≤ cx * one_ k) (y0 : 0 ≤ sval k y) (y1 : sval k y ≤ cy * one_ k) (hp0 : 0 ≤ sval k x * sval k y) (hp : sval k x * sval k y < topU k R * one_ k) (hp0' : 0 ≤ sval k x' * sval k y') (hp' : sval k x' * sval k y' < topU k R * one_ k)
    (hdx : sval k x - sval k x' ≤ dx) (hdy : sval k y - sval k y' ≤ dy) (hdx0 : 0 ≤ dx) (hdy0 : 0 ≤ dy) :
    sval k (farith .mul k x y) - sval k (farith .mul k x' y') ≤ cy * dx + cx * dy + 2 * gapU k R := by
  have hU := one_pos k
  have hT : 0 ≤ topU k R := by unfold topU; exact Int.natCast_nonneg _
  have hTU : -topU k R * one_ k ≤ 0 := by rw [Int.neg_mul]; have := Int.mul_nonneg hT (Int.le_of_lt hU); omega
  obtain ⟨_, a1, _⟩ := mul_er R hR hx hy (by omega) hp
  obtain ⟨_, _, b2⟩ := mul_er R hR hx' hy' (by omega) hp'
  generalize sval k (farith .mul k x y) = Z at *
  generalize sval k (farith .mul k x' y') = Z' at *
  generalize sval k x = X at *
  generalize sval k x' = X' at *
  generalize sval k y = Y at *
  generalize sval k y' = Y' at *
  generalize one_ k = U at *
  have h1 : (X - X') * Y ≤ dx * (cy * U) := Int.le_trans (Int.mul_le_mul_of_nonneg_right hdx y0) (Int.mul_le_mul_of_nonneg_left y1 hdx0)
  have h2 : X' * (Y - Y') ≤ (cx * U) * dy := Int.le_trans (Int.mul_le_mul_of_nonneg_left hdy x0) (Int.mul_le_mul_of_nonneg_right x1 hdy0)
  have h3 : (X - X') * Y + X' * (Y - Y') = X * Y - X' * Y' := by rw [Int.sub_mul, Int.mul_sub]; omega
  have h4 : dx * (cy * U) = cy * dx * U := by rw [← Int.mul_assoc, Int.mul_comm dx]
  have h5 : cx * U * dy = cx * dy * U := by rw [Int.mul_assoc, Int.mul_comm U, ← Int.mul_assoc]
  have h6 : (Z - Z') * U ≤ (cy * dx + cx * dy + 2 * gapU k R) * U := by
    rw [Int.sub_mul, Int.add_mul, Int.add_mul, Int.mul_assoc 2]
    omega
  exact Int.le_of_mul_le_mul_right h6 hU
/-- How far two quotients by one number are apart. -/
theorem quo_lip {k : FloatKind} {x x' c : Nat} {R : Nat} {n dx : Int} (hR : R < k.format.infRung) (hx : Fn k x) (hx' : Fn k x') (hc : Fn k c) (hn : 0 < n) (hc6 : n * one_ k ≤ sval k c)
    (x0 : 0 ≤ sval k x) (x1 : sval k x * one_ k < topU k R * sval k c) (x0' : 0 ≤ sval k x') (x1' : sval k x' * one_ k < topU k R * sval k c) (hdx : sval k x - sval k x' ≤ dx) (hdx0 : 0 ≤ dx) :
    n * (sval k (farith .quo k x c) - sval k (farith .quo k x' c)) ≤ dx + n * (2 * gapU k R) := by
  have hU := one_pos k
  have hC : 0 < sval k c := Int.lt_of_lt_of_le (Int.mul_pos hn hU) hc6
  have hT : 0 ≤ topU k R := by unfold topU; exact Int.natCast_nonneg _
  have hTU : -topU k R * sval k c ≤ 0 := by rw [Int.neg_mul]; have := Int.mul_nonneg hT (Int.le_of_lt hC); omega
  have p1 := Int.mul_nonneg x0 (Int.le_of_lt hU)
  have p2 := Int.mul_nonneg x0' (Int.le_of_lt hU)
  obtain ⟨_, a1, _⟩ := div_er R hR hx hc hC (by omega) x1
  obtain ⟨_, _, b2⟩ := div_er R hR hx' hc hC (by omega) x1'
  generalize sval k (farith .quo k x c) = Z at *
  generalize sval k (farith .quo k x' c) = Z' at *
  generalize sval k x = X at *
  generalize sval k x' = X' at *
  generalize sval k c = C at *
  generalize one_ k = U at *
  have h1 : (X - X') * U ≤ dx * U := Int.mul_le_mul_of_nonneg_right hdx (Int.le_of_lt hU)
  rw [Int.sub_mul] at h1
  have h2 : (Z - Z' - 2 * gapU k R) * C ≤ dx * U := by
    rw [Int.sub_mul, Int.sub_mul, Int.mul_assoc 2]; omega
  by_cases h3 : Z - Z' - 2 * gapU k R ≤ 0
  · have h4 := Int.mul_nonpos_of_nonneg_of_nonpos (Int.le_of_lt hn) h3
    rw [Int.mul_sub] at h4
    omega
  · have h4 : (Z - Z' - 2 * gapU k R) * (n * U) ≤ (Z - Z' - 2 * gapU k R) * C := Int.mul_le_mul_of_nonneg_left hc6 (by omega)
    have h5 : n * (Z - Z' - 2 * gapU k R) * U ≤ dx * U := by
      have e : (Z - Z' - 2 * gapU k R) * (n * U) = n * (Z - Z' - 2 * gapU k R) * U := by rw [← Int.mul_assoc, Int.mul_comm n]
      omega
    have h6 := Int.le_of_mul_le_mul_right h5 hU
    rw [Int.mul_sub] at h6
    omega
end
end Go.Vx

namespace Go.Vx
open Ieee Go.RowKit
/-! The stages of the sine -/
theorem u_z : sval .f64 0 = 0 := by decide +kernel
theorem u_g : gapU .f64 R4 = e4 := rfl
theorem fn_0 : Fn .f64 0 := by decide
theorem fn_1 : Fn .f64 4607182418800017408 := by decide
theorem u_top : topU .f64 R4 = 4 * one_ .f64 := by decide +kernel
theorem u_one : sval .f64 4607182418800017408 = one_ .f64 := by decide +kernel
theorem u_e4 : one_ .f64 = 2251799813685248 * e4 := by decide +kernel
theorem u_tp : Fn .f64 4618760256179416344 ∧ 0 ≤ sval .f64 4618760256179416344 ∧ 2 * sval .f64 4618760256179416344 ≤ 13 * one_ .f64 ∧ sval .f64 4618760256179416344 ≤ 7 * one_ .f64 := by decide +kernel
theorem u_3 : Fn .f64 4613937818241073152 ∧ sval .f64 4613937818241073152 = 3 * one_ .f64 := by decide +kernel
theorem u_h : Fn .f64 4602678819172646912 ∧ 2 * sval .f64 4602678819172646912 = one_ .f64 := by decide +kernel
theorem u_13 : Fn .f64 4609997168567123968 ∧ 8 * sval .f64 4609997168567123968 = 13 * one_ .f64 := by decide +kernel
def Cc (c : Nat) : Prop := Fn .f64 c ∧ 6 * one_ .f64 ≤ sval .f64 c
theorem u_c : Cc 4643492690795692032 ∧ Cc 4641592734702895104 ∧ Cc 4639692778610098176 ∧ Cc 4637440978796412928 ∧ Cc 4634766966517661696 ∧ Cc 4631107791820423168 ∧ Cc 4626322717216342016 ∧ Cc 4618441417868443648 := by unfold Cc; decide +kernel
/-- What a stage takes: numbers of at most three, and of at most one. -/
def At3 (u : Nat) : Prop := Fn .f64 u ∧ 0 ≤ sval .f64 u ∧ sval .f64 u ≤ 3 * one_ .f64
def At1 (p : Nat) : Prop := Fn .f64 p ∧ 0 ≤ sval .f64 p ∧ sval .f64 p ≤ one_ .f64
section
attribute [local irreducible] farith fcmp sval one_ gapU topU Fn e4
theorem stage_m {u p : Nat} (hu : At3 u) (hp : At1 p) : At3 (farith .mul .f64 u p) ∧ 0 ≤ sval .f64 u * sval .f64 p ∧ sval .f64 u * sval .f64 p < topU .f64 R4 * one_ .f64 := by
  obtain ⟨u1, u2, u3⟩ := hu
  obtain ⟨p1, p2, p3⟩ := hp
  obtain ⟨c1, c2⟩ := u_3
  have hU := one_pos .f64
  have h0 : 0 ≤ sval .f64 u * sval .f64 p := Int.mul_nonneg u2 p2
  have h1 : sval .f64 u * sval .f64 p ≤ 3 * one_ .f64 * one_ .f64 := Int.mul_le_mul u3 p3 p2 (by omega)
  have z0 := u_z
  obtain ⟨a1, a2, a3⟩ := mul_bd (k := .f64) (lo := 0) u1 p1 fn_0 c1 (by rw [z0, Int.zero_mul]; exact h0) (by rw [c2]; exact h1)
  rw [z0] at a2
  rw [c2] at a3
  refine ⟨⟨a1, a2, a3⟩, h0, Int.lt_of_le_of_lt h1 ?_⟩
  rw [u_top]
  exact Int.mul_lt_mul_of_pos_right (by omega) hU
theorem stage_1 {c u p : Nat} (hc : Cc c) (hu : At3 u) (hp : At1 p) : At1 (sinS u c p) := by
  obtain ⟨⟨m1, m2, m3⟩, _⟩ := stage_m hu hp
  obtain ⟨c1, c2⟩ := hc
  obtain ⟨h1, h2⟩ := u_h
  have hU := one_pos .f64
  have z0 := u_z
  have hC : 0 < sval .f64 c := by omega
  obtain ⟨d1, d2, d3⟩ := div_bd (k := .f64) (lo := 0) (hi := 4602678819172646912) m1 c1 hC fn_0 h1 (by rw [z0, Int.zero_mul]; exact Int.mul_nonneg m2 (Int.le_of_lt hU))
    (by
      have e1 : sval .f64 (farith .mul .f64 u p) * one_ .f64 ≤ 3 * one_ .f64 * one_ .f64 := Int.mul_le_mul_of_nonneg_right m3 (Int.le_of_lt hU)
      have e2 : sval .f64 4602678819172646912 * (6 * one_ .f64) ≤ sval .f64 4602678819172646912 * sval .f64 c := Int.mul_le_mul_of_nonneg_left c2 (by omega)
      have e3 : sval .f64 4602678819172646912 * (6 * one_ .f64) = 3 * one_ .f64 * one_ .f64 := by
        have e4 : sval .f64 4602678819172646912 * (6 * one_ .f64) = 3 * (2 * sval .f64 4602678819172646912 * one_ .f64) := by
          rw [Int.mul_left_comm, Int.mul_assoc 2, ← Int.mul_assoc 3 2]; rfl
        rw [e4, h2, Int.mul_assoc]
      omega)
  rw [z0] at d2
  have u1 := u_one
  obtain ⟨s1, s2, s3⟩ := sub_bd (k := .f64) (x := 4607182418800017408) (lo := 4602678819172646912) (hi := 4607182418800017408) fn_1 d1 h1 fn_1 (by omega) (by omega)
  exact ⟨s1, by show 0 ≤ sval .f64 (farith .sub .f64 4607182418800017408 (farith .quo .f64 (farith .mul .f64 u p) c)); omega, by show sval .f64 (farith .sub .f64 4607182418800017408 (farith .quo .f64 (farith .mul .f64 u p) c)) ≤ _; omega⟩
/-- How far the ends of a stage are apart. -/
theorem stage_2 {c u u' p p' : Nat} {du : Int} (hc : Cc c) (hu : At3 u) (hu' : At3 u') (hp : At1 p) (hp' : At1 p') (h0 : 0 ≤ du) (d1 : sval .f64 u - sval .f64 u' ≤ du) (d2 : 3 * (sval .f64 p - sval .f64 p') ≤ du + 30 * e4) :
    3 * (sval .f64 (sinS u' c p') - sval .f64 (sinS u c p)) ≤ du + 30 * e4 := by
  have hU := one_pos .f64
  have he := e4_pos
  obtain ⟨⟨m1, m2, m3⟩, q0, q1⟩ := stage_m hu hp
  obtain ⟨⟨m1', m2', m3'⟩, q0', q1'⟩ := stage_m hu' hp'
  have hm := mul_lip (R := R4) (cx := 3) (cy := 1) (dx := du) (dy := (du + 30 * e4) / 3) r4_ok hu.1 hu'.1 hp.1 hp'.1 hu'.2.1 hu'.2.2 hp.2.1 (by rw [Int.one_mul]; exact hp.2.2) q0 q1 q0' q1' d1 (by omega) h0 (by omega)
  have hCp : 0 < sval .f64 c := by have := hc.2; omega
  have hx : ∀ x : Nat, 0 ≤ sval .f64 x → sval .f64 x ≤ 3 * one_ .f64 → sval .f64 x * one_ .f64 < topU .f64 R4 * sval .f64 c := fun x a b => by
    have e1 := Int.mul_le_mul_of_nonneg_right b (Int.le_of_lt hU)
    have e2 := Int.mul_le_mul_of_nonneg_left hc.2 (show 0 ≤ topU .f64 R4 by rw [u_top]; omega)
    refine Int.lt_of_le_of_lt e1 (Int.lt_of_lt_of_le ?_ e2)
    rw [u_top]
    have e3 : 4 * one_ .f64 * (6 * one_ .f64) = 24 * one_ .f64 * one_ .f64 := by rw [Int.mul_left_comm, ← Int.mul_assoc, ← Int.mul_assoc]; rfl
    rw [e3]
    exact Int.mul_lt_mul_of_pos_right (by omega) hU
  have hd := quo_lip (R := R4) (n := 6) (dx := 1 * du + 3 * ((du + 30 * e4) / 3) + 2 * gapU .f64 R4) r4_ok m1 m1' hc.1 (by decide) hc.2 m2 (hx _ m2 m3) m2' (hx _ m2' m3') hm (by have := u_g; omega)
  have hg := u_g
  rw [hg] at hd
  have hq := fun x (a1 : Fn .f64 x) (a2 : 0 ≤ sval .f64 x) (a3 : sval .f64 x ≤ 3 * one_ .f64) => div_bd (k := .f64) (lo := 0) (hi := 4613937818241073152) a1 hc.1 hCp fn_0 u_3.1 (by rw [u_z, Int.zero_mul]; exact Int.mul_nonneg a2 (Int.le_of_lt hU))
    (by
      rw [u_3.2]
      exact Int.mul_le_mul a3 (by have := hc.2; omega) (Int.le_of_lt hU) (by omega))
  obtain ⟨t1, t2, t3⟩ := hq _ m1 m2 m3
  obtain ⟨t1', t2', t3'⟩ := hq _ m1' m2' m3'
  have u1 := u_one
  have u3 := u_3.2
  have z0 := u_z
  have ht := u_top
  obtain ⟨_, _, s1⟩ := sub_er (k := .f64) (x := 4607182418800017408) R4 r4_ok fn_1 t1 (by omega) (by omega)
  obtain ⟨_, s2, _⟩ := sub_er (k := .f64) (x := 4607182418800017408) R4 r4_ok fn_1 t1' (by omega) (by omega)
  rw [hg] at s1 s2
  unfold sinS
  omega
end
def Nr (a b d : Int) : Prop := a - b ≤ d ∧ b - a ≤ d
def St3 (p p' : Nat) (du : Int) : Prop := (At1 p ∧ At1 p') ∧ 3 * (sval .f64 p - sval .f64 p') ≤ du + 30 * e4 ∧ 3 * (sval .f64 p' - sval .f64 p) ≤ du + 30 * e4
theorem st_go {c u u' p p' : Nat} {du : Int} (hc : Cc c) (hu : At3 u) (hu' : At3 u') (h0 : 0 ≤ du) (hd : Nr (sval .f64 u) (sval .f64 u') du) (h : St3 p p' du) : St3 (sinS u c p) (sinS u' c p') du :=
  ⟨⟨stage_1 hc hu h.1.1, stage_1 hc hu' h.1.2⟩, stage_2 hc hu' hu h.1.2 h.1.1 h0 hd.2 h.2.2, stage_2 hc hu hu' h.1.1 h.1.2 h0 hd.1 h.2.1⟩
theorem at1_one : At1 4607182418800017408 := ⟨fn_1, by rw [u_one]; exact Int.le_of_lt (one_pos _), by rw [u_one]; exact Int.le_refl _⟩
theorem sinP_lip {u u' : Nat} {du : Int} (hu : At3 u) (hu' : At3 u') (h0 : 0 ≤ du) (hd : Nr (sval .f64 u) (sval .f64 u') du) : St3 (sinP u) (sinP u') du := by
  obtain ⟨c1, c2, c3, c4, c5, c6, c7, c8⟩ := u_c
  have he := e4_pos
  unfold sinP
  exact st_go c8 hu hu' h0 hd (st_go c7 hu hu' h0 hd (st_go c6 hu hu' h0 hd (st_go c5 hu hu' h0 hd (st_go c4 hu hu' h0 hd (st_go c3 hu hu' h0 hd (st_go c2 hu hu' h0 hd (st_go c1 hu hu' h0 hd ⟨⟨at1_one, at1_one⟩, by omega, by omega⟩)))))))
/-- What the series takes: at most a quarter turn. -/
def AtQ (f : Nat) : Prop := Fn .f64 f ∧ 0 ≤ sval .f64 f ∧ 4 * sval .f64 f ≤ one_ .f64
section
attribute [local irreducible] farith fcmp sval one_ gapU topU Fn e4
theorem sin_z {f : Nat} (hf : AtQ f) : (Fn .f64 (farith .mul .f64 f 4618760256179416344) ∧ 0 ≤ sval .f64 (farith .mul .f64 f 4618760256179416344) ∧ 8 * sval .f64 (farith .mul .f64 f 4618760256179416344) ≤ 13 * one_ .f64) ∧ 0 ≤ sval .f64 f * sval .f64 4618760256179416344 ∧ sval .f64 f * sval .f64 4618760256179416344 < topU .f64 R4 * one_ .f64 := by
  obtain ⟨f1, f2, f3⟩ := hf
  obtain ⟨t1, t2, t3, _⟩ := u_tp
  obtain ⟨c1, c2⟩ := u_13
  have hU := one_pos .f64
  have ht := u_top
  have h0 : 0 ≤ sval .f64 f * sval .f64 4618760256179416344 := Int.mul_nonneg f2 t2
  have h1 : (4 * sval .f64 f) * (2 * sval .f64 4618760256179416344) ≤ one_ .f64 * (13 * one_ .f64) := Int.mul_le_mul f3 t3 (by omega) (by omega)
  have h2 : (4 * sval .f64 f) * (2 * sval .f64 4618760256179416344) = 8 * (sval .f64 f * sval .f64 4618760256179416344) := by rw [Int.mul_assoc, Int.mul_left_comm (sval .f64 f), ← Int.mul_assoc]; rfl
  have h3 : one_ .f64 * (13 * one_ .f64) = 13 * (one_ .f64 * one_ .f64) := by rw [Int.mul_left_comm]
  have h4 : 8 * (sval .f64 4609997168567123968 * one_ .f64) = 13 * (one_ .f64 * one_ .f64) := by rw [← Int.mul_assoc, c2, Int.mul_assoc]
  have hUU := Int.mul_pos hU hU
  have h5 : topU .f64 R4 * one_ .f64 = 4 * (one_ .f64 * one_ .f64) := by rw [ht, Int.mul_assoc]
  obtain ⟨a1, a2, a3⟩ := mul_bd (k := .f64) (lo := 0) (hi := 4609997168567123968) f1 t1 fn_0 c1 (by rw [u_z, Int.zero_mul]; exact h0) (by omega)
  rw [u_z] at a2
  exact ⟨⟨a1, a2, by omega⟩, h0, by omega⟩
theorem sin_u {z : Nat} (hz : Fn .f64 z ∧ 0 ≤ sval .f64 z ∧ 8 * sval .f64 z ≤ 13 * one_ .f64) : At3 (farith .mul .f64 z z) ∧ 0 ≤ sval .f64 z * sval .f64 z ∧ sval .f64 z * sval .f64 z < topU .f64 R4 * one_ .f64 := by
  obtain ⟨f1, f2, f3⟩ := hz
  have hU := one_pos .f64
  have ht := u_top
  have hUU := Int.mul_pos hU hU
  have h0 : 0 ≤ sval .f64 z * sval .f64 z := Int.mul_nonneg f2 f2
  have h1 : (8 * sval .f64 z) * (8 * sval .f64 z) ≤ (13 * one_ .f64) * (13 * one_ .f64) := Int.mul_le_mul f3 f3 (by omega) (by omega)
  have h2 : (8 * sval .f64 z) * (8 * sval .f64 z) = 64 * (sval .f64 z * sval .f64 z) := by rw [Int.mul_assoc, Int.mul_left_comm (sval .f64 z), ← Int.mul_assoc]; rfl
  have h3 : (13 * one_ .f64) * (13 * one_ .f64) = 169 * (one_ .f64 * one_ .f64) := by rw [Int.mul_assoc, Int.mul_left_comm (one_ .f64), ← Int.mul_assoc]; rfl
  have h5 : topU .f64 R4 * one_ .f64 = 4 * (one_ .f64 * one_ .f64) := by rw [ht, Int.mul_assoc]
  have h6 := u_3.2
  have h7 : sval .f64 4613937818241073152 * one_ .f64 = 3 * (one_ .f64 * one_ .f64) := by rw [h6, Int.mul_assoc]
  obtain ⟨a1, a2, a3⟩ := mul_bd (k := .f64) (lo := 0) (hi := 4613937818241073152) f1 f1 fn_0 u_3.1 (by rw [u_z, Int.zero_mul]; exact h0) (by omega)
  rw [u_z] at a2
  exact ⟨⟨a1, a2, by omega⟩, h0, by omega⟩
theorem sinV_le {f g : Nat} {D : Int} (hf : AtQ f) (hg : AtQ g) (h0 : 0 ≤ D) (h1 : Nr (sval .f64 f) (sval .f64 g) D) : 3 * (sval .f64 (sinV f) - sval .f64 (sinV g)) ≤ 77 * D + 92 * e4 := by
  have he := e4_pos
  have hge := u_g
  have hU := one_pos .f64
  have ht := u_top
  obtain ⟨t1, t2, t3, t4⟩ := u_tp
  obtain ⟨z1, q1, q2⟩ := sin_z hf
  obtain ⟨z1', q1', q2'⟩ := sin_z hg
  have dz := mul_lip (R := R4) (cx := 1) (cy := 7) (dx := D) (dy := 0) r4_ok hf.1 hg.1 t1 t1 hg.2.1 (by have := hg.2.2; omega) t2 t4 q1 q2 q1' q2' h1.1 (by omega) h0 (Int.le_refl _)
  have dz' := mul_lip (R := R4) (cx := 1) (cy := 7) (dx := D) (dy := 0) r4_ok hg.1 hf.1 t1 t1 hf.2.1 (by have := hf.2.2; omega) t2 t4 q1' q2' q1 q2 h1.2 (by omega) h0 (Int.le_refl _)
  unfold sinV
  generalize farith .mul .f64 f 4618760256179416344 = z at *
  generalize farith .mul .f64 g 4618760256179416344 = z' at *
  rw [hge] at dz dz'
  obtain ⟨u1, v1, v2⟩ := sin_u z1
  obtain ⟨u1', v1', v2'⟩ := sin_u z1'
  have du := mul_lip (R := R4) (cx := 2) (cy := 2) (dx := 7 * D + 2 * e4) (dy := 7 * D + 2 * e4) r4_ok z1.1 z1'.1 z1.1 z1'.1 z1'.2.1 (by have := z1'.2.2; omega) z1.2.1 (by have := z1.2.2; omega) v1 v2 v1' v2' (by omega) (by omega) (by omega) (by omega)
  have du' := mul_lip (R := R4) (cx := 2) (cy := 2) (dx := 7 * D + 2 * e4) (dy := 7 * D + 2 * e4) r4_ok z1'.1 z1.1 z1'.1 z1.1 z1.2.1 (by have := z1.2.2; omega) z1'.2.1 (by have := z1'.2.2; omega) v1' v2' v1 v2 (by omega) (by omega) (by omega) (by omega)
  generalize farith .mul .f64 z z = u at *
  generalize farith .mul .f64 z' z' = u' at *
  rw [hge] at du du'
  obtain ⟨⟨p1, p1'⟩, p2, p3⟩ := sinP_lip (du := 28 * D + 10 * e4) u1 u1' (by omega) ⟨by omega, by omega⟩
  generalize sinP u = p at *
  generalize sinP u' = p' at *
  have hzp : ∀ {a b : Nat}, (Fn .f64 a ∧ 0 ≤ sval .f64 a ∧ 8 * sval .f64 a ≤ 13 * one_ .f64) → At1 b → 0 ≤ sval .f64 a * sval .f64 b ∧ sval .f64 a * sval .f64 b < topU .f64 R4 * one_ .f64 := fun {a b} ha hb => by
    have r1 : sval .f64 a * sval .f64 b ≤ 2 * one_ .f64 * one_ .f64 := Int.mul_le_mul (by have := ha.2.2; omega) hb.2.2 hb.2.1 (by omega)
    have r2 := Int.mul_pos hU hU
    refine ⟨Int.mul_nonneg ha.2.1 hb.2.1, ?_⟩
    rw [ht, Int.mul_assoc]
    rw [Int.mul_assoc] at r1
    omega
  obtain ⟨w1, w2⟩ := hzp z1 p1
  obtain ⟨w1', w2'⟩ := hzp z1' p1'
  have dv := mul_lip (R := R4) (cx := 2) (cy := 1) (dx := 7 * D + 2 * e4) (dy := (28 * D + 40 * e4) / 3) r4_ok z1.1 z1'.1 p1.1 p1'.1 z1'.2.1 (by have := z1'.2.2; omega) p1.2.1 (by have := p1.2.2; omega) w1 w2 w1' w2' (by omega) (by omega) (by omega) (by omega)
  rw [hge] at dv
  omega
end
theorem at_q0 : AtQ 0 := ⟨fn_0, by rw [u_z]; exact Int.le_refl _, by rw [u_z]; have := one_pos .f64; omega⟩
theorem sin_v0 : sval .f64 (sinV 0) = 0 := by decide +kernel
end Go.Vx

namespace Go.Vx
open Ieee Go.RowKit
/-! ### How much the sine of turns changes between a quarter and three -/
theorem sg_neg (k : FloatKind) (x : Nat) : sg k (Op.negFloat k x) = !sg k x := by
  have hb : ∀ y : Nat, sg k y = Nat.testBit y (k.format.exponentBits + k.format.fractionBits) := fun y => by
    unfold sg
    rw [Nat.testBit_eq_decide_div_mod_eq, show k.format.signWeight = 2 ^ (k.format.exponentBits + k.format.fractionBits) from rfl]
    generalize y / 2 ^ (k.format.exponentBits + k.format.fractionBits) % 2 = t
    by_cases h : t = 1 <;> simp [h]
  rw [hb, hb]
  unfold Op.negFloat
  rw [Nat.testBit_xor, Nat.testBit_two_pow_self, Bool.xor_true]
theorem neg_val {x : Nat} (h : Fn .f64 x) : Fn .f64 (fneg .f64 x) ∧ sval .f64 (fneg .f64 x) = -sval .f64 x := by
  refine ⟨(fneg_abs h).1, ?_⟩
  have hr := rg_neg .f64 x
  have hn : isN .f64 (Op.negFloat .f64 x) = false := by
    rw [notN_rg, hr]
    unfold Fn at h
    simp only [decide_eq_false_iff_not]
    omega
  unfold fneg
  rw [read_cn hn]
  unfold sval
  rw [hr, sg_neg]
  cases sg .f64 x <;> simp
theorem q_4 : 4 * sval .f64 4598175219545276416 = one_ .f64 := by decide +kernel
theorem q_h : sval .f64 4602678819172646912 = 2 * sval .f64 4598175219545276416 := by decide +kernel
theorem fn_h : Fn .f64 4602678819172646912 := by decide
theorem fn_q : Fn .f64 4598175219545276416 := by decide
/-- What the series is given, and which sign is told. -/
def Form (y f : Nat) : Prop := AtQ f ∧ Fn .f64 (sinW y) ∧
  ((sval .f64 (sinW y) = sval .f64 (sinV f) ∧ sval .f64 y ≤ sval .f64 4602678819172646912 ∧ Nr (sval .f64 f) (sval .f64 4602678819172646912 - sval .f64 y) e4) ∨
   (sval .f64 (sinW y) = -sval .f64 (sinV f) ∧ sval .f64 4602678819172646912 ≤ sval .f64 y ∧ Nr (sval .f64 f) (sval .f64 y - sval .f64 4602678819172646912) e4))
theorem sinW_form {y : Nat} (hy : Iv 4598175219545276416 4604930618986332160 y) : ∃ f, Form y f := by
  obtain ⟨y1, y2, y3⟩ := hy
  have hq := v_q
  have h4 := q_4
  have hh := q_h
  have he := e4_pos
  have ht := u_top
  have hU := one_pos .f64
  have hge := u_g
  obtain ⟨f1, f2⟩ := frac_id y1 (by omega) (Int.lt_of_le_of_lt y3 v_one)
  by_cases hc : sval .f64 4602678819172646912 ≤ sval .f64 y
  · have hg : fcmp .geq .f64 (frac y) 4602678819172646912 = true := by
      unfold fcmp
      rw [order_sval f1 (by decide), f2]
      rcases Int.lt_or_eq_of_le hc with h | h
      · rw [Int.compare_eq_gt.2 h]; rfl
      · rw [Int.compare_eq_eq.2 h.symm]; rfl
    have h3 := v_3q
    have hz := sub_bd (k := .f64) (x := frac y) (y := 4602678819172646912) (lo := 0) (hi := 4598175219545276416) f1 (by decide) (by decide) (by decide) (by rw [u_z]; omega) (by omega)
    have her := sub_er (k := .f64) (x := frac y) (y := 4602678819172646912) R4 r4_ok f1 fn_h (by omega) (by omega)
    rw [u_z] at hz
    have hz2 := cmp_gt_not (x := farith .sub .f64 (frac y) 4602678819172646912) hz.1 (by decide) hz.2.2
    have hv := sinV_in hz.1 hz.2.1 hz.2.2
    obtain ⟨n1, n2⟩ := neg_val hv.1
    refine ⟨farith .sub .f64 (frac y) 4602678819172646912, ⟨hz.1, hz.2.1, by omega⟩, ?_, .inr ⟨?_, hc, ?_, ?_⟩⟩
    · rw [← sinW_t2 hg hz2]; exact n1
    · rw [← sinW_t2 hg hz2]; exact n2
    · omega
    · omega
  · have hg : fcmp .geq .f64 (frac y) 4602678819172646912 = false := by
      unfold fcmp
      rw [order_sval f1 (by decide), f2, Int.compare_eq_lt.2 (by omega)]; rfl
    cases hk : fcmp .gtr .f64 (frac y) 4598175219545276416 with
    | true =>
      have h1 := v_1q
      have hz := sub_bd (k := .f64) (x := 4602678819172646912) (y := frac y) (lo := 0) (hi := 4598175219545276416) (by decide) f1 (by decide) (by decide) (by rw [u_z]; omega) (by omega)
      have her := sub_er (k := .f64) (x := 4602678819172646912) (y := frac y) R4 r4_ok fn_h f1 (by omega) (by omega)
      rw [u_z] at hz
      have hv := sinV_in hz.1 hz.2.1 hz.2.2
      refine ⟨farith .sub .f64 4602678819172646912 (frac y), ⟨hz.1, hz.2.1, by omega⟩, ?_, .inl ⟨?_, by omega, ?_, ?_⟩⟩
      · rw [← sinW_t3 hg hk]; exact hv.1
      · rw [← sinW_t3 hg hk]
      · omega
      · omega
    | false =>
      have hle : sval .f64 (frac y) ≤ sval .f64 4598175219545276416 := by
        refine Int.not_lt.1 fun h => ?_
        unfold fcmp at hk
        rw [order_sval f1 (by decide), Int.compare_eq_gt.2 h] at hk
        cases hk
      have hv := sinV_in f1 (by omega) hle
      refine ⟨frac y, ⟨f1, by omega, by omega⟩, ?_, .inl ⟨?_, by omega, ?_, ?_⟩⟩
      · rw [← sinW_t4 hg hk]; exact hv.1
      · rw [← sinW_t4 hg hk]
      · omega
      · omega
theorem sinW_le {y z : Nat} {D : Int} (hy : Iv 4598175219545276416 4604930618986332160 y) (hz : Iv 4598175219545276416 4604930618986332160 z) (h0 : 0 ≤ D) (h : Nr (sval .f64 y) (sval .f64 z) D) : 3 * (sval .f64 (sinW y) - sval .f64 (sinW z)) ≤ 77 * D + 400 * e4 := by
  obtain ⟨f, qf, _, hf⟩ := sinW_form hy
  obtain ⟨g, qg, _, hg⟩ := sinW_form hz
  have he := e4_pos
  have v0 := sin_v0
  have z0 := u_z
  obtain ⟨h1, h2⟩ := h
  rcases hf with ⟨a1, a2, a3, a4⟩ | ⟨a1, a2, a3, a4⟩ <;> rcases hg with ⟨b1, b2, b3, b4⟩ | ⟨b1, b2, b3, b4⟩
  · have := sinV_le (D := D + 2 * e4) qf qg (by omega) ⟨by omega, by omega⟩
    omega
  · have c1 := sinV_le (D := sval .f64 f) qf at_q0 qf.2.1 ⟨by omega, by have := qf.2.1; omega⟩
    have c2 := sinV_le (D := sval .f64 g) qg at_q0 qg.2.1 ⟨by omega, by have := qg.2.1; omega⟩
    omega
  · have c1 := sinV_le (D := sval .f64 f) at_q0 qf qf.2.1 ⟨by have := qf.2.1; omega, by omega⟩
    have c2 := sinV_le (D := sval .f64 g) at_q0 qg qg.2.1 ⟨by have := qg.2.1; omega, by omega⟩
    omega
  · have := sinV_le (D := D + 2 * e4) qg qf (by omega) ⟨by omega, by omega⟩
    omega
def R2s : Nat := 1073741824
/-- The unit in which 32 bits are told: the 24th part below one, halved again and again. -/
def g1 : Int := gapU .f32 1065353216
theorem w_g1 : gapU .f32 R2s = 2 * g1 ∧ one_ .f32 = 16777216 * g1 ∧ topU .f32 R2s = 2 * one_ .f32 ∧ 400 * e4 ≤ g1 * wid ∧ topU .f32 1065353216 = one_ .f32 := by decide +kernel
theorem g1_pos : 0 < g1 := gapU_pos _ _
theorem r2_ok : R2s < FloatKind.f32.format.infRung := by decide
theorem one_w : sval .f64 4607184220239868356 < 2 * (one_ .f32 * wid) := by decide +kernel
theorem sinN_is {x : Nat} (hx : Jv 1048576000 1061158912 x) : Iv 4598175219545276416 4604930618986332160 (conv .f32 .f64 x) ∧ sinN x = conv .f64 .f32 (sinW (conv .f32 .f64 x)) := by
  obtain ⟨x1, x2, x3⟩ := hx
  have hw : 0 ≤ wid := by unfold wid; exact Int.natCast_nonneg _
  obtain ⟨w1, w2⟩ := wide_val x1
  have a1 := Int.mul_le_mul_of_nonneg_right x2 hw
  have a2 := Int.mul_le_mul_of_nonneg_right x3 hw
  rw [← w_q, ← w2] at a1
  rw [← w_3q, ← w2] at a2
  refine ⟨⟨w1, a1, a2⟩, ?_⟩
  have hbig : (fcmp .geq .f32 x 1501560832 || fcmp .leq .f32 x 3649044480) = false := by
    have hb : sval .f32 x < sval .f32 1501560832 := Int.lt_of_le_of_lt x3 (by decide +kernel)
    have hc : sval .f32 3649044480 < sval .f32 x := Int.lt_of_lt_of_le (by decide +kernel) x2
    unfold fcmp
    rw [order_sval x1 (by decide), order_sval x1 (by decide), Int.compare_eq_lt.2 hb, Int.compare_eq_gt.2 hc]
    rfl
  have hf : (!fin x) = false := by rw [fn_fin.1 x1]; rfl
  exact (sinN_3 hf hbig).symm
/-- The sine in 32 bits: how far two of them are apart. -/
theorem sinN_le {x x' : Nat} {D : Int} (hx : Jv 1048576000 1061158912 x) (hx' : Jv 1048576000 1061158912 x') (h0 : 0 ≤ D) (h : Nr (sval .f32 x) (sval .f32 x') D) : 3 * (sval .f32 (sinN x) - sval .f32 (sinN x')) ≤ 77 * D + 13 * g1 := by
  obtain ⟨i1, e1⟩ := sinN_is hx
  obtain ⟨i2, e2⟩ := sinN_is hx'
  have hw := wid_pos
  have w1 := (wide_val hx.1).2
  have w2 := (wide_val hx'.1).2
  have hd1 := Int.mul_le_mul_of_nonneg_right h.1 (Int.le_of_lt hw)
  have hd2 := Int.mul_le_mul_of_nonneg_right h.2 (Int.le_of_lt hw)
  rw [Int.sub_mul] at hd1 hd2
  have hW := sinW_le (D := D * wid) i1 i2 (Int.mul_nonneg h0 (Int.le_of_lt hw)) ⟨by omega, by omega⟩
  obtain ⟨s1, s2, s3, _⟩ := sinW_mid i1
  obtain ⟨t1, t2, t3, _⟩ := sinW_mid i2
  obtain ⟨k1, k2, k3, k4, _⟩ := w_g1
  have ho := one_w
  have hm : 2 * one_ .f32 * wid = 2 * (one_ .f32 * wid) := Int.mul_assoc ..
  have hm2 : -(2 * one_ .f32) * wid = -(2 * (one_ .f32 * wid)) := by rw [Int.neg_mul, hm]
  obtain ⟨_, n1, _⟩ := narrow_er R2s r2_ok s1 (by rw [k3, hm2]; omega) (by rw [k3, hm]; omega)
  obtain ⟨_, _, n2⟩ := narrow_er R2s r2_ok t1 (by rw [k3, hm2]; omega) (by rw [k3, hm]; omega)
  rw [← e1, k1] at n1
  rw [← e2, k1] at n2
  rw [Int.mul_assoc 2] at n1 n2
  have hfin : (3 * (sval .f32 (sinN x) - sval .f32 (sinN x'))) * wid ≤ (77 * D + 13 * g1) * wid := by
    rw [Int.mul_assoc 3, Int.sub_mul, Int.add_mul, Int.mul_assoc 77, Int.mul_assoc 13]
    omega
  exact Int.le_of_mul_le_mul_right hfin hw
end Go.Vx

namespace Go.Vx
open Ieee Go.RowKit
/-! ### How much pulses of drawn throats change -/
theorem b_fit {X T U : Int} (h0 : 0 ≤ X) (hU : 0 < U) (hT : T = 2 * U) {Y : Int} (h1 : X ≤ Y) (hY : 0 < Y) : -T * Y ≤ X * U ∧ X * U < T * Y := by
  have a := Int.mul_nonneg h0 (Int.le_of_lt hU)
  have b := Int.mul_pos hY hU
  have c := Int.mul_le_mul_of_nonneg_right h1 (Int.le_of_lt hU)
  have d : T * Y = 2 * (Y * U) := by rw [hT, Int.mul_assoc, Int.mul_comm U]
  rw [Int.neg_mul]
  omega
/-- A quotient by an eighth at least. -/
theorem quo_lip8 {x x' o : Nat} {dx : Int} (hx : Fn .f32 x) (hx' : Fn .f32 x') (ho : Fn .f32 o) (h8 : one_ .f32 ≤ 8 * sval .f32 o) (x0 : 0 ≤ sval .f32 x) (x1 : sval .f32 x ≤ sval .f32 o) (x0' : 0 ≤ sval .f32 x') (x1' : sval .f32 x' ≤ sval .f32 o) (hd : sval .f32 x - sval .f32 x' ≤ dx) (hd0 : 0 ≤ dx) :
    sval .f32 (farith .quo .f32 x o) - sval .f32 (farith .quo .f32 x' o) ≤ 8 * dx + 4 * g1 := by
  have hU := one_pos .f32
  obtain ⟨k1, k2, k3, k4, _⟩ := w_g1
  have hO : 0 < sval .f32 o := by omega
  obtain ⟨p1, p2⟩ := b_fit x0 hU k3 x1 hO
  obtain ⟨q1, q2⟩ := b_fit x0' hU k3 x1' hO
  obtain ⟨_, a1, _⟩ := div_er R2s r2_ok hx ho hO p1 p2
  obtain ⟨_, _, b2⟩ := div_er R2s r2_ok hx' ho hO q1 q2
  rw [k1] at a1 b2
  generalize sval .f32 (farith .quo .f32 x o) = Z at *
  generalize sval .f32 (farith .quo .f32 x' o) = Z' at *
  generalize sval .f32 x = X at *
  generalize sval .f32 x' = X' at *
  generalize sval .f32 o = O at *
  have h1 : (X - X') * one_ .f32 ≤ dx * one_ .f32 := Int.mul_le_mul_of_nonneg_right hd (Int.le_of_lt hU)
  have h2 : dx * one_ .f32 ≤ dx * (8 * O) := Int.mul_le_mul_of_nonneg_left h8 hd0
  rw [Int.sub_mul] at h1
  have h3 : (Z - Z') * O ≤ (8 * dx + 4 * g1) * O := by
    rw [Int.sub_mul, Int.add_mul]
    have e1 : dx * (8 * O) = 8 * dx * O := by rw [← Int.mul_assoc, Int.mul_comm dx]
    have e2 : 4 * g1 * O = 2 * (2 * g1 * O) := by rw [Int.mul_assoc, Int.mul_assoc]; omega
    omega
  exact Int.le_of_mul_le_mul_right h3 hO
/-- A product with a half, or a quarter. -/
theorem part_lip {h x x' : Nat} {n dx : Int} (hh : Fn .f32 h) (hx : Fn .f32 x) (hx' : Fn .f32 x') (hn : n * sval .f32 h = one_ .f32) (hn0 : 0 < n) (h0 : 0 ≤ sval .f32 h) (h2 : 2 * sval .f32 h ≤ one_ .f32) (x0 : 0 ≤ sval .f32 x) (x1 : sval .f32 x < 4 * one_ .f32) (x0' : 0 ≤ sval .f32 x') (x1' : sval .f32 x' < 4 * one_ .f32) (hd : sval .f32 x - sval .f32 x' ≤ dx) :
    n * (sval .f32 (farith .mul .f32 h x) - sval .f32 (farith .mul .f32 h x')) ≤ dx + n * (4 * g1) := by
  have hU := one_pos .f32
  obtain ⟨k1, k2, k3, k4, _⟩ := w_g1
  have key : ∀ y : Int, 0 ≤ y → y < 4 * one_ .f32 → -topU .f32 R2s * one_ .f32 ≤ sval .f32 h * y ∧ sval .f32 h * y < topU .f32 R2s * one_ .f32 := fun y a b => by
    have e1 := Int.mul_nonneg h0 a
    have e2 := Int.mul_pos hU hU
    have e3 : (2 * sval .f32 h) * y ≤ one_ .f32 * y := Int.mul_le_mul_of_nonneg_right h2 a
    have e4 : one_ .f32 * y < one_ .f32 * (4 * one_ .f32) := Int.mul_lt_mul_of_pos_left b hU
    rw [k3, Int.neg_mul, Int.mul_assoc 2]
    rw [Int.mul_assoc 2] at e3
    rw [Int.mul_left_comm] at e4
    omega
  obtain ⟨p1, p2⟩ := key _ x0 x1
  obtain ⟨q1, q2⟩ := key _ x0' x1'
  obtain ⟨_, a1, _⟩ := mul_er R2s r2_ok hh hx p1 p2
  obtain ⟨_, _, b2⟩ := mul_er R2s r2_ok hh hx' q1 q2
  rw [k1] at a1 b2
  generalize sval .f32 (farith .mul .f32 h x) = Z at *
  generalize sval .f32 (farith .mul .f32 h x') = Z' at *
  generalize sval .f32 x = X at *
  generalize sval .f32 x' = X' at *
  generalize sval .f32 h = H at *
  generalize one_ .f32 = U at *
  have h3 : (n * (Z - Z')) * U ≤ (dx + n * (4 * g1)) * U := by
    have e1 : n * (Z * U) ≤ n * (H * X + 2 * g1 * U) := Int.mul_le_mul_of_nonneg_left a1 (Int.le_of_lt hn0)
    have e2 : n * (H * X') ≤ n * (Z' * U + 2 * g1 * U) := Int.mul_le_mul_of_nonneg_left b2 (Int.le_of_lt hn0)
    rw [Int.mul_add, ← Int.mul_assoc n H, hn] at e1
    rw [Int.mul_add, ← Int.mul_assoc n H, hn] at e2
    have e3 : (X - X') * U ≤ dx * U := Int.mul_le_mul_of_nonneg_right hd (Int.le_of_lt hU)
    rw [Int.sub_mul] at e3
    rw [Int.mul_sub, Int.sub_mul, Int.add_mul, Int.mul_assoc n Z, Int.mul_assoc n Z', Int.mul_assoc n (4 * g1)]
    have e4 : n * (4 * g1 * U) = 2 * (n * (2 * g1 * U)) := by rw [show 4 * g1 * U = 2 * (2 * g1 * U) by rw [Int.mul_assoc, Int.mul_assoc]; omega, Int.mul_left_comm]
    rw [Int.mul_comm U X] at e1
    rw [Int.mul_comm U X'] at e2
    omega
  exact Int.le_of_mul_le_mul_right h3 hU
theorem v_32 : 2 * sval .f32 1056964608 = one_ .f32 ∧ 4 * sval .f32 1048576000 = one_ .f32 ∧ sval .f32 1065353216 = one_ .f32 ∧ sval .f32 0 = 0 ∧ topU .f32 1082130432 = 4 * one_ .f32 ∧ gapU .f32 1082130432 = 4 * g1 ∧ 16 * sval .f32 1065356739 ≤ 17 * one_ .f32 ∧ 16 * sval .f32 3212840387 = -(16 * sval .f32 1065356739) ∧ sval .f32 1061158912 = 3 * sval .f32 1048576000 := by decide +kernel
theorem g1_is : gapU .f32 1065353216 = g1 := rfl
theorem v_fit : -(3 * one_ .f32) ≤ sval .f32 3118559647 ∧ sval .f32 1073743921 ≤ 3 * one_ .f32 := by decide +kernel
theorem fn_p1 : Fn .f32 3118559647 := by decide
theorem fn_p2 : Fn .f32 1073743921 := by decide
theorem fn_3q : Fn .f32 1061158912 := by decide
theorem fn_32 : Fn .f32 1056964608 ∧ Fn .f32 1048576000 ∧ Fn .f32 1065353216 ∧ Fn .f32 0 := by decide
theorem r4s_ok : 1082130432 < FloatKind.f32.format.infRung := by decide
/-- What a throat's parts are. -/
def Tp (o c : Nat) : Prop := (Fn .f32 o ∧ one_ .f32 ≤ 8 * sval .f32 o ∧ 2 * sval .f32 o ≤ one_ .f32) ∧ (Fn .f32 c ∧ one_ .f32 ≤ 8 * sval .f32 c ∧ 2 * sval .f32 c ≤ one_ .f32)
section
attribute [local irreducible] farith fcmp sval one_ gapU topU Fn g1 sinN
theorem pulA_arg {o x : Nat} (ho : Fn .f32 o) (hO : 0 < sval .f32 o) (hx : Fn .f32 x) (x0 : 0 ≤ sval .f32 x) (x1 : sval .f32 x ≤ sval .f32 o) : Jv 0 1065353216 (farith .quo .f32 x o) ∧ Jv 1048576000 1061158912 (farith .add .f32 (farith .mul .f32 1056964608 (farith .quo .f32 x o)) 1048576000) := by
  have hq := v_qh
  have q1 := unit_q hx ho x0 hO x1
  have q2 := part_q (c := 1056964608) fn_32.1 hq.2.2.2.1 q1
  exact ⟨q1, q2.add (c := 1048576000) (d := 1048576000) ⟨fn_32.2.1, Int.le_refl _, Int.le_refl _⟩ fn_32.2.1 fn_3q hq.1 hq.2.1⟩
theorem mid_le {x : Nat} (h : Jv 1048576000 1061158912 x) : 0 ≤ sval .f32 x ∧ sval .f32 x < one_ .f32 := by
  obtain ⟨k1, k2, k3, k4, k5, k6, k7, k8, k9⟩ := v_32
  have := h.2.1; have := h.2.2
  have hU := one_pos .f32
  omega
theorem add_lip {x x' : Nat} {dx : Int} (hx : Fn .f32 x) (hx' : Fn .f32 x') (x0 : 0 ≤ sval .f32 x) (x1 : sval .f32 x ≤ one_ .f32) (x0' : 0 ≤ sval .f32 x') (x1' : sval .f32 x' ≤ one_ .f32) (hd : sval .f32 x - sval .f32 x' ≤ dx) :
    sval .f32 (farith .add .f32 x 1048576000) - sval .f32 (farith .add .f32 x' 1048576000) ≤ dx + 4 * g1 := by
  obtain ⟨k1, k2, k3, k4, k5, k6, k7, k8, k9⟩ := v_32
  obtain ⟨w1, w2, w3, w4, w5⟩ := w_g1
  have hU := one_pos .f32
  obtain ⟨_, a1, _⟩ := add_er (y := 1048576000) R2s r2_ok hx fn_32.2.1 (by omega) (by omega)
  obtain ⟨_, _, b2⟩ := add_er (y := 1048576000) R2s r2_ok hx' fn_32.2.1 (by omega) (by omega)
  omega
theorem pulA_le {o x x' : Nat} {D : Int} (ho : Fn .f32 o ∧ one_ .f32 ≤ 8 * sval .f32 o) (hx : Fn .f32 x) (hx' : Fn .f32 x') (x0 : 0 ≤ sval .f32 x) (x1 : sval .f32 x ≤ sval .f32 o) (x0' : 0 ≤ sval .f32 x') (x1' : sval .f32 x' ≤ sval .f32 o) (h0 : 0 ≤ D) (h : Nr (sval .f32 x) (sval .f32 x') D) :
    6 * (sval .f32 (pulA o x) - sval .f32 (pulA o x')) ≤ 308 * D + 2100 * g1 := by
  obtain ⟨k1, k2, k3, k4, k5, k6, k7, k8, k9⟩ := v_32
  obtain ⟨w1, w2, w3, w4, w5⟩ := w_g1
  have hU := one_pos .f32
  have hg := g1_pos
  have hO : 0 < sval .f32 o := by omega
  obtain ⟨i1, j1⟩ := pulA_arg ho.1 hO hx x0 x1
  obtain ⟨i2, j2⟩ := pulA_arg ho.1 hO hx' x0' x1'
  have q1 := quo_lip8 hx hx' ho.1 ho.2 x0 x1 x0' x1' h.1 h0
  have q2 := quo_lip8 hx' hx ho.1 ho.2 x0' x1' x0 x1 h.2 h0
  obtain ⟨f1, f2, f3⟩ := i1
  obtain ⟨f1', f2', f3'⟩ := i2
  rw [k4] at f2 f2'
  rw [k3] at f3 f3'
  have m1 := part_q (c := 1056964608) fn_32.1 (by omega) ⟨f1, by omega, by omega⟩
  have m2 := part_q (c := 1056964608) fn_32.1 (by omega) ⟨f1', by omega, by omega⟩
  have b1 := part_lip (h := 1056964608) (n := 2) fn_32.1 f1 f1' k1 (by decide) (by omega) (by omega) f2 (by omega) f2' (by omega) q1
  have b2 := part_lip (h := 1056964608) (n := 2) fn_32.1 f1' f1 k1 (by decide) (by omega) (by omega) f2' (by omega) f2 (by omega) q2
  have a1 := add_lip (dx := 4 * D + 6 * g1) m1.1 m2.1 (by have := m1.2.1; omega) (by have := m1.2.2; omega) (by have := m2.2.1; omega) (by have := m2.2.2; omega) (by omega)
  have a2 := add_lip (dx := 4 * D + 6 * g1) m2.1 m1.1 (by have := m2.2.1; omega) (by have := m2.2.2; omega) (by have := m1.2.1; omega) (by have := m1.2.2; omega) (by omega)
  unfold pulA
  generalize farith .add .f32 (farith .mul .f32 1056964608 (farith .quo .f32 x o)) 1048576000 = y at *
  generalize farith .add .f32 (farith .mul .f32 1056964608 (farith .quo .f32 x' o)) 1048576000 = y' at *
  have s1 := sinN_le (D := 4 * D + 10 * g1) j2 j1 (by omega) ⟨by omega, by omega⟩
  obtain ⟨⟨t1, t2, t3⟩, _⟩ := sinN_mid j1
  obtain ⟨⟨t1', t2', t3'⟩, _⟩ := sinN_mid j2
  obtain ⟨c1, c2, c3⟩ := sub_er (k := .f32) (x := 1065353216) (y := sinN y) 1082130432 r4s_ok fn_32.2.2.1 t1 (by omega) (by omega)
  obtain ⟨c1', c2', c3'⟩ := sub_er (k := .f32) (x := 1065353216) (y := sinN y') 1082130432 r4s_ok fn_32.2.2.1 t1' (by omega) (by omega)
  rw [k6] at c2 c3 c2' c3'
  have ha := v_pa
  have hb : ∀ {s : Nat}, Jv 3212840387 1065356739 s → Jv 3118559647 1073743921 (farith .sub .f32 1065353216 s) := fun {s} hs => Jv.sub (a := 1065353216) (b := 1065353216) ⟨fn_32.2.2.1, Int.le_refl _, Int.le_refl _⟩ hs fn_p1 fn_p2 ha.1 ha.2.1
  have hh := hb ⟨t1, t2, t3⟩
  have hh' := hb ⟨t1', t2', t3'⟩
  have fit : ∀ {z : Nat}, Jv 3118559647 1073743921 z → -topU .f32 R2s * one_ .f32 ≤ sval .f32 1056964608 * sval .f32 z ∧ sval .f32 1056964608 * sval .f32 z < topU .f32 R2s * one_ .f32 := fun {z} hz => by
    have e1 := hz.2.1
    have e2 := hz.2.2
    have e3 := v_fit
    have e0 : 0 ≤ sval .f32 1056964608 := by omega
    have e4 := Int.mul_le_mul_of_nonneg_left (show -(3 * one_ .f32) ≤ sval .f32 z by omega) e0
    have e5 := Int.mul_le_mul_of_nonneg_left (show sval .f32 z ≤ 3 * one_ .f32 by omega) e0
    have e6 := Int.mul_pos hU hU
    have e7 : 2 * (sval .f32 1056964608 * (3 * one_ .f32)) = 3 * (one_ .f32 * one_ .f32) := by rw [← Int.mul_assoc, k1, Int.mul_left_comm]
    rw [Int.mul_neg] at e4
    rw [w3, Int.neg_mul, Int.mul_assoc 2]
    omega
  obtain ⟨l1, l2⟩ := fit hh
  obtain ⟨l1', l2'⟩ := fit hh'
  obtain ⟨_, p1, _⟩ := mul_er R2s r2_ok fn_32.1 hh.1 l1 l2
  obtain ⟨_, _, p2⟩ := mul_er R2s r2_ok fn_32.1 hh'.1 l1' l2'
  rw [w1] at p1 p2
  generalize sval .f32 (farith .mul .f32 1056964608 (farith .sub .f32 1065353216 (sinN y))) = Z at *
  generalize sval .f32 (farith .mul .f32 1056964608 (farith .sub .f32 1065353216 (sinN y'))) = Z' at *
  generalize sval .f32 (farith .sub .f32 1065353216 (sinN y)) = V at *
  generalize sval .f32 (farith .sub .f32 1065353216 (sinN y')) = V' at *
  generalize hH : sval .f32 1056964608 = H at *
  have e1 : 2 * (H * V) = V * one_ .f32 := by rw [← Int.mul_assoc, k1, Int.mul_comm]
  have e2 : 2 * (H * V') = V' * one_ .f32 := by rw [← Int.mul_assoc, k1, Int.mul_comm]
  have fin : (2 * (Z - Z')) * one_ .f32 ≤ (V - V' + 8 * g1) * one_ .f32 := by
    rw [Int.mul_assoc, Int.sub_mul, Int.add_mul, Int.sub_mul, Int.mul_assoc 8]
    rw [Int.mul_assoc 2] at p1 p2
    omega
  have := Int.le_of_mul_le_mul_right fin hU
  omega
theorem pulB_arg {o c x : Nat} (ho : Fn .f32 o) (hc : Fn .f32 c) (hC : 0 < sval .f32 c) (hx : Fn .f32 x) (x0 : sval .f32 o ≤ sval .f32 x) (x1 : sval .f32 x ≤ sval .f32 o + sval .f32 c) : Jv 0 c (farith .sub .f32 x o) ∧ Jv 0 1065353216 (farith .quo .f32 (farith .sub .f32 x o) c) ∧ Jv 1048576000 1061158912 (farith .add .f32 (farith .mul .f32 1048576000 (farith .quo .f32 (farith .sub .f32 x o) c)) 1048576000) := by
  have hq := v_qh
  obtain ⟨k1, k2, k3, k4, k5, k6, k7, k8, k9⟩ := v_32
  have d1 : Jv 0 c (farith .sub .f32 x o) := sub_bd hx ho fn_32.2.2.2 hc (by omega) (by omega)
  have q1 := unit_q d1.1 hc (by have := d1.2.1; omega) hC d1.2.2
  have q2 := part_q (c := 1048576000) fn_32.2.1 hq.2.2.2.2.1 q1
  exact ⟨d1, q1, q2.add (c := 1048576000) (d := 1048576000) ⟨fn_32.2.1, Int.le_refl _, Int.le_refl _⟩ fn_32.2.1 fn_3q hq.1 (by omega)⟩
theorem pulB_le {o c x x' : Nat} {D : Int} (h1 : Tp o c) (hx : Fn .f32 x) (hx' : Fn .f32 x') (x0 : sval .f32 o ≤ sval .f32 x) (x1 : sval .f32 x ≤ sval .f32 o + sval .f32 c) (x0' : sval .f32 o ≤ sval .f32 x') (x1' : sval .f32 x' ≤ sval .f32 o + sval .f32 c) (h0 : 0 ≤ D) (h : Nr (sval .f32 x) (sval .f32 x') D) :
    6 * (sval .f32 (pulB o c x) - sval .f32 (pulB o c x')) ≤ 308 * D + 2100 * g1 := by
  obtain ⟨⟨o1, o2, o3⟩, c1, c2, c3⟩ := h1
  obtain ⟨k1, k2, k3, k4, k5, k6, k7, k8, k9⟩ := v_32
  obtain ⟨w1, w2, w3, w4, w5⟩ := w_g1
  have hU := one_pos .f32
  have hg := g1_pos
  have hC : 0 < sval .f32 c := by omega
  obtain ⟨d1, i1, j1⟩ := pulB_arg o1 c1 hC hx x0 x1
  obtain ⟨d2, i2, j2⟩ := pulB_arg o1 c1 hC hx' x0' x1'
  obtain ⟨_, s1, s2⟩ := sub_er (k := .f32) (x := x) (y := o) 1065353216 (by decide) hx o1 (by omega) (by omega)
  obtain ⟨_, s1', s2'⟩ := sub_er (k := .f32) (x := x') (y := o) 1065353216 (by decide) hx' o1 (by omega) (by omega)
  have hgu : gapU .f32 1065353216 = g1 := g1_is
  rw [hgu] at s1 s2 s1' s2'
  have e1 : 0 ≤ sval .f32 (farith .sub .f32 x o) := by have := d1.2.1; omega
  have e2 : 0 ≤ sval .f32 (farith .sub .f32 x' o) := by have := d2.2.1; omega
  have q1 := quo_lip8 (dx := D + 2 * g1) d1.1 d2.1 c1 c2 e1 d1.2.2 e2 d2.2.2 (by have := h.1; omega) (by omega)
  have q2 := quo_lip8 (dx := D + 2 * g1) d2.1 d1.1 c1 c2 e2 d2.2.2 e1 d1.2.2 (by have := h.2; omega) (by omega)
  obtain ⟨f1, f2, f3⟩ := i1
  obtain ⟨f1', f2', f3'⟩ := i2
  rw [k4] at f2 f2'
  rw [k3] at f3 f3'
  have m1 := part_q (c := 1048576000) fn_32.2.1 (by omega) ⟨f1, by omega, by omega⟩
  have m2 := part_q (c := 1048576000) fn_32.2.1 (by omega) ⟨f1', by omega, by omega⟩
  have b1 := part_lip (h := 1048576000) (n := 4) fn_32.2.1 f1 f1' k2 (by decide) (by omega) (by omega) f2 (by omega) f2' (by omega) q1
  have b2 := part_lip (h := 1048576000) (n := 4) fn_32.2.1 f1' f1 k2 (by decide) (by omega) (by omega) f2' (by omega) f2 (by omega) q2
  have a1 := add_lip (dx := 2 * D + 9 * g1) m1.1 m2.1 (by have := m1.2.1; omega) (by have := m1.2.2; omega) (by have := m2.2.1; omega) (by have := m2.2.2; omega) (by omega)
  have a2 := add_lip (dx := 2 * D + 9 * g1) m2.1 m1.1 (by have := m2.2.1; omega) (by have := m2.2.2; omega) (by have := m1.2.1; omega) (by have := m1.2.2; omega) (by omega)
  unfold pulB
  have := sinN_le (D := 2 * D + 13 * g1) j1 j2 (by omega) ⟨by omega, by omega⟩
  omega
end
end Go.Vx

namespace Go.Vx
open Ieee Go.RowKit
theorem tp_ok {c : ThC} (h : c.Ok) : Tp c.o c.cl := by
  have key : ∀ j : Nat, j < 4 → Fn .f32 (farith .quo .f32 (ofInt .f32 (1 + (j : Int))) 1090519040) ∧ one_ .f32 ≤ 8 * sval .f32 (farith .quo .f32 (ofInt .f32 (1 + (j : Int))) 1090519040) ∧ 2 * sval .f32 (farith .quo .f32 (ofInt .f32 (1 + (j : Int))) 1090519040) ≤ one_ .f32 := by decide +kernel
  exact ⟨key _ h.2.1, key _ h.2.2.1⟩
/-- The ends of the two arches. -/
def c8 (j : Nat) : Nat := farith .quo .f32 (ofInt .f32 (1 + (j : Int))) 1090519040
theorem end_a : ∀ j : Nat, j < 4 → Nr (sval .f32 (pulA (c8 j) (c8 j))) (one_ .f32) (4 * g1) ∧ Nr (sval .f32 (pulA (c8 j) 0)) 0 (4 * g1) := by unfold Nr; decide +kernel
theorem end_b : ∀ j : Nat, j < 4 → ∀ k : Nat, k < 4 → Nr (sval .f32 (pulB (c8 j) (c8 k) (c8 j))) (one_ .f32) (4 * g1) ∧ Nr (sval .f32 (pulB (c8 j) (c8 k) (farith .add .f32 (c8 j) (c8 k)))) 0 (4 * g1) := by unfold Nr; decide +kernel
theorem pul_a {o c x : Nat} (hx : Fn .f32 x) (ho : Fn .f32 o) (h : sval .f32 x < sval .f32 o) : pulse o c x = pulA o x := by
  refine (pulse_1 ?_).symm
  unfold fcmp
  rw [order_sval hx ho, Int.compare_eq_lt.2 h]; rfl
theorem pul_b {o c x : Nat} (hx : Fn .f32 x) (ho : Fn .f32 o) (hs : Fn .f32 (farith .add .f32 o c)) (h : sval .f32 o ≤ sval .f32 x) (h2 : sval .f32 x < sval .f32 (farith .add .f32 o c)) : pulse o c x = pulB o c x := by
  refine (pulse_2 (cmp_lt_not hx ho h) ?_).symm
  unfold fcmp
  rw [order_sval hx hs, Int.compare_eq_lt.2 h2]; rfl
theorem pul_0 {o c x : Nat} (hx : Fn .f32 x) (ho : Fn .f32 o) (hs : Fn .f32 (farith .add .f32 o c)) (h : sval .f32 o ≤ sval .f32 x) (h2 : sval .f32 (farith .add .f32 o c) ≤ sval .f32 x) : pulse o c x = 0 :=
  (pulse_3 (cmp_lt_not hx ho h) (cmp_lt_not hx hs h2)).symm
/-- A number from nothing to below one. -/
def Ph (x : Nat) : Prop := Fn .f32 x ∧ 0 ≤ sval .f32 x ∧ sval .f32 x < one_ .f32
section
attribute [local irreducible] farith fcmp sval one_ gapU topU Fn g1 sinN pulA pulB
/-- Pulses near each other, and where the round begins anew. -/
theorem pulse_go {c : ThC} (h : c.Ok) {q r : Nat} (hq : Ph q) (hr : Ph r) (hle : sval .f32 q ≤ sval .f32 r) (hd : sval .f32 r - sval .f32 q ≤ 128 * g1) : Nr (sval .f32 (pulse c.o c.cl q)) (sval .f32 (pulse c.o c.cl r)) (14000 * g1) := by
  have hT := tp_ok h
  obtain ⟨⟨o1, o2, o3⟩, c1, c2, c3⟩ := hT
  obtain ⟨_, s1, s2⟩ := c_oc c.j h.2.1 c.k h.2.2.1
  change Fn .f32 (farith .add .f32 c.o c.cl) at s1
  change sval .f32 (farith .add .f32 c.o c.cl) = sval .f32 c.o + sval .f32 c.cl at s2
  obtain ⟨k1, k2, k3, k4, k5, k6, k7, k8, k9⟩ := v_32
  obtain ⟨w1, w2, w3, w4, w5⟩ := w_g1
  have hg := g1_pos
  obtain ⟨⟨a1, a2⟩, a3, a4⟩ := end_a c.j h.2.1
  obtain ⟨⟨b1, b2⟩, b3, b4⟩ := end_b c.j h.2.1 c.k h.2.2.1
  change sval .f32 (pulA c.o c.o) - one_ .f32 ≤ 4 * g1 at a1
  change one_ .f32 - sval .f32 (pulA c.o c.o) ≤ 4 * g1 at a2
  change sval .f32 (pulB c.o c.cl c.o) - one_ .f32 ≤ 4 * g1 at b1
  change one_ .f32 - sval .f32 (pulB c.o c.cl c.o) ≤ 4 * g1 at b2
  change sval .f32 (pulB c.o c.cl (farith .add .f32 c.o c.cl)) - 0 ≤ 4 * g1 at b3
  change 0 - sval .f32 (pulB c.o c.cl (farith .add .f32 c.o c.cl)) ≤ 4 * g1 at b4
  obtain ⟨q1, q2, q3⟩ := hq
  obtain ⟨r1, r2, r3⟩ := hr
  by_cases hA : sval .f32 q < sval .f32 c.o
  · rw [pul_a q1 o1 hA]
    by_cases hA2 : sval .f32 r < sval .f32 c.o
    · rw [pul_a r1 o1 hA2]
      have e1 := pulA_le (D := 128 * g1) ⟨o1, o2⟩ q1 r1 q2 (by omega) r2 (by omega) (by omega) ⟨by omega, by omega⟩
      have e2 := pulA_le (D := 128 * g1) ⟨o1, o2⟩ r1 q1 r2 (by omega) q2 (by omega) (by omega) ⟨by omega, by omega⟩
      exact ⟨by omega, by omega⟩
    · rw [pul_b r1 o1 s1 (by omega) (by omega)]
      have e1 := pulA_le (D := sval .f32 c.o - sval .f32 q) ⟨o1, o2⟩ q1 o1 q2 (by omega) (by omega) (by omega) (by omega) ⟨by omega, by omega⟩
      have e2 := pulA_le (D := sval .f32 c.o - sval .f32 q) ⟨o1, o2⟩ o1 q1 (by omega) (by omega) q2 (by omega) (by omega) ⟨by omega, by omega⟩
      have e3 := pulB_le (D := sval .f32 r - sval .f32 c.o) ⟨⟨o1, o2, o3⟩, c1, c2, c3⟩ r1 o1 (by omega) (by omega) (by omega) (by omega) (by omega) ⟨by omega, by omega⟩
      have e4 := pulB_le (D := sval .f32 r - sval .f32 c.o) ⟨⟨o1, o2, o3⟩, c1, c2, c3⟩ o1 r1 (by omega) (by omega) (by omega) (by omega) (by omega) ⟨by omega, by omega⟩
      exact ⟨by omega, by omega⟩
  · by_cases hB : sval .f32 q < sval .f32 c.o + sval .f32 c.cl
    · rw [pul_b q1 o1 s1 (by omega) (by omega)]
      by_cases hB2 : sval .f32 r < sval .f32 c.o + sval .f32 c.cl
      · rw [pul_b r1 o1 s1 (by omega) (by omega)]
        have e3 := pulB_le (D := 128 * g1) ⟨⟨o1, o2, o3⟩, c1, c2, c3⟩ r1 q1 (by omega) (by omega) (by omega) (by omega) (by omega) ⟨by omega, by omega⟩
        have e4 := pulB_le (D := 128 * g1) ⟨⟨o1, o2, o3⟩, c1, c2, c3⟩ q1 r1 (by omega) (by omega) (by omega) (by omega) (by omega) ⟨by omega, by omega⟩
        exact ⟨by omega, by omega⟩
      · rw [pul_0 r1 o1 s1 (by omega) (by omega), k4]
        have e3 := pulB_le (D := 128 * g1) ⟨⟨o1, o2, o3⟩, c1, c2, c3⟩ s1 q1 (by omega) (by omega) (by omega) (by omega) (by omega) ⟨by omega, by omega⟩
        have e4 := pulB_le (D := 128 * g1) ⟨⟨o1, o2, o3⟩, c1, c2, c3⟩ q1 s1 (by omega) (by omega) (by omega) (by omega) (by omega) ⟨by omega, by omega⟩
        exact ⟨by omega, by omega⟩
    · rw [pul_0 q1 o1 s1 (by omega) (by omega), pul_0 r1 o1 s1 (by omega) (by omega)]
      exact ⟨by omega, by omega⟩
theorem pulse_wrap {c : ThC} (h : c.Ok) {q r : Nat} (hq : Ph q) (hr : Ph r) (hq1 : one_ .f32 - 128 * g1 ≤ sval .f32 q) (hr1 : sval .f32 r ≤ 128 * g1) : Nr (sval .f32 (pulse c.o c.cl q)) (sval .f32 (pulse c.o c.cl r)) (14000 * g1) := by
  have hT := tp_ok h
  obtain ⟨⟨o1, o2, o3⟩, c1, c2, c3⟩ := hT
  obtain ⟨_, s1, s2⟩ := c_oc c.j h.2.1 c.k h.2.2.1
  change Fn .f32 (farith .add .f32 c.o c.cl) at s1
  change sval .f32 (farith .add .f32 c.o c.cl) = sval .f32 c.o + sval .f32 c.cl at s2
  obtain ⟨k1, k2, k3, k4, k5, k6, k7, k8, k9⟩ := v_32
  obtain ⟨w1, w2, w3, w4, w5⟩ := w_g1
  have hg := g1_pos
  obtain ⟨_, a3, a4⟩ := end_a c.j h.2.1
  obtain ⟨_, b3, b4⟩ := end_b c.j h.2.1 c.k h.2.2.1
  change sval .f32 (pulA c.o 0) - 0 ≤ 4 * g1 at a3
  change 0 - sval .f32 (pulA c.o 0) ≤ 4 * g1 at a4
  change sval .f32 (pulB c.o c.cl (farith .add .f32 c.o c.cl)) - 0 ≤ 4 * g1 at b3
  change 0 - sval .f32 (pulB c.o c.cl (farith .add .f32 c.o c.cl)) ≤ 4 * g1 at b4
  obtain ⟨q1, q2, q3⟩ := hq
  obtain ⟨r1, r2, r3⟩ := hr
  rw [pul_a r1 o1 (by omega)]
  have e1 := pulA_le (D := 128 * g1) ⟨o1, o2⟩ r1 fn_32.2.2.2 r2 (by omega) (by omega) (by omega) (by omega) ⟨by omega, by omega⟩
  have e2 := pulA_le (D := 128 * g1) ⟨o1, o2⟩ fn_32.2.2.2 r1 (by omega) (by omega) r2 (by omega) (by omega) ⟨by omega, by omega⟩
  by_cases hB : sval .f32 q < sval .f32 c.o + sval .f32 c.cl
  · rw [pul_b q1 o1 s1 (by omega) (by omega)]
    have e3 := pulB_le (D := 128 * g1) ⟨⟨o1, o2, o3⟩, c1, c2, c3⟩ s1 q1 (by omega) (by omega) (by omega) (by omega) (by omega) ⟨by omega, by omega⟩
    have e4 := pulB_le (D := 128 * g1) ⟨⟨o1, o2, o3⟩, c1, c2, c3⟩ q1 s1 (by omega) (by omega) (by omega) (by omega) (by omega) ⟨by omega, by omega⟩
    exact ⟨by omega, by omega⟩
  · rw [pul_0 q1 o1 s1 (by omega) (by omega), k4]
    exact ⟨by omega, by omega⟩
end
theorem Nr.symm {a b d : Int} (h : Nr a b d) : Nr b a d := ⟨h.2, h.1⟩
/-- Two phases that stand for nearly one place of the round. -/
def Close (q r : Nat) : Prop := (Ph q ∧ Ph r) ∧ ((Nr (sval .f32 q) (sval .f32 r) (128 * g1)) ∨ (one_ .f32 - 128 * g1 ≤ sval .f32 q ∧ sval .f32 r ≤ 128 * g1) ∨ (one_ .f32 - 128 * g1 ≤ sval .f32 r ∧ sval .f32 q ≤ 128 * g1))
theorem pulse_close {c : ThC} (h : c.Ok) {q r : Nat} (hc : Close q r) : Nr (sval .f32 (pulse c.o c.cl q)) (sval .f32 (pulse c.o c.cl r)) (14000 * g1) := by
  obtain ⟨⟨hq, hr⟩, hn | hw | hw⟩ := hc
  · rcases Int.le_total (sval .f32 q) (sval .f32 r) with hl | hl
    · exact pulse_go h hq hr hl hn.2
    · exact (pulse_go h hr hq hl hn.1).symm
  · exact pulse_wrap h hq hr hw.1 hw.2
  · exact (pulse_wrap h hr hq hw.1 hw.2).symm
end Go.Vx

namespace Go.Vx
open Ieee Go.RowKit
/-- The part behind the point. -/
def frF (q : Nat) : Nat := farith .sub .f32 q (conv .f64 .f32 (floorF (conv .f32 .f64 q)))
/-- The phase after ticks of one period. -/
def phq (p : Nat) : Nat → Nat
  | 0 => 0
  | k + 1 => stQ (phq p k) p
def closeB (q r : Nat) : Bool := decide (((Fn .f32 q ∧ 0 ≤ sval .f32 q ∧ sval .f32 q < one_ .f32) ∧ (Fn .f32 r ∧ 0 ≤ sval .f32 r ∧ sval .f32 r < one_ .f32)) ∧ ((sval .f32 q - sval .f32 r ≤ 128 * g1 ∧ sval .f32 r - sval .f32 q ≤ 128 * g1) ∨ (one_ .f32 - 128 * g1 ≤ sval .f32 q ∧ sval .f32 r ≤ 128 * g1) ∨ (one_ .f32 - 128 * g1 ≤ sval .f32 r ∧ sval .f32 q ≤ 128 * g1)))
theorem closeB_ok {q r : Nat} (h : closeB q r = true) : Close q r := by
  unfold closeB at h
  have h2 := of_decide_eq_true h
  exact h2
def chkPh (p : Nat) : Nat → Nat → Nat → Bool
  | 0, _, _ => true
  | n + 1, k, q => closeB q (frF (flowQ p k)) && frc (stQ q p) fun q' => chkPh p n (k + 1) q'
theorem chkPh_ok {p : Nat} : ∀ (n k q : Nat), chkPh p n k q = true → q = phq p k → ∀ j, k ≤ j → j < k + n → Close (phq p j) (frF (flowQ p j))
  | 0, k, q, _, _, j, h1, h2 => by omega
  | n + 1, k, q, h, hq, j, h1, h2 => by
    unfold chkPh at h
    rw [Bool.and_eq_true, frc_eq] at h
    by_cases hj : j = k
    · subst hj; rw [← hq]; exact closeB_ok h.1
    · exact chkPh_ok n (k + 1) (stQ q p) h.2 (by rw [hq]; rfl) j (by omega) (by omega)
def pI (i : Nat) : Nat := farith .quo .f32 (ofInt .f32 (4 + (i : Int))) 1073741824
theorem ph_a : ((List.range 11).all fun i => frc (pI i) fun p => chkPh p 40 0 0) = true := by decide +kernel
theorem ph_b : ((List.range 11).all fun i => frc (pI (11 + i)) fun p => chkPh p 40 0 0) = true := by decide +kernel
theorem ph_c : ((List.range 11).all fun i => frc (pI (22 + i)) fun p => chkPh p 40 0 0) = true := by decide +kernel
theorem ph_all {i k : Nat} (hi : i < 33) (hk : k < 40) : Close (phq (pI i) k) (frF (flowQ (pI i) k)) := by
  have key : chkPh (pI i) 40 0 0 = true := by
    by_cases h1 : i < 11
    · have := List.all_eq_true.1 ph_a i (List.mem_range.2 h1)
      rw [frc_eq] at this; exact this
    · by_cases h2 : i < 22
      · have := List.all_eq_true.1 ph_b (i - 11) (List.mem_range.2 (by omega))
        rw [frc_eq, show 11 + (i - 11) = i by omega] at this; exact this
      · have := List.all_eq_true.1 ph_c (i - 22) (List.mem_range.2 (by omega))
        rw [frc_eq, show 22 + (i - 22) = i by omega] at this; exact this
  exact chkPh_ok 40 0 0 key rfl k (Nat.zero_le _) (by omega)
end Go.Vx

namespace Go.Vx
open Ieee Go.RowKit
/-- A throat that neither breathes nor shakes. -/
def ThC.still (c : ThC) : ThC := { c with l := 0, m := 0 }
theorem still_ok {c : ThC} (h : c.Ok) : c.still.Ok := ⟨h.1, h.2.1, h.2.2.1, (by decide : 0 < 5), (by decide : 0 < 5)⟩
theorem still_br {c : ThC} : c.still.br = 0 := by
  have : farith .quo .f32 (ofInt .f32 ((0 : Nat) : Int)) 1090519040 = 0 := by decide +kernel
  exact this
theorem still_sh {c : ThC} : c.still.sh = 0 := by
  have : farith .quo .f32 (ofInt .f32 ((0 : Nat) : Int)) 1098907648 = 0 := by decide +kernel
  exact this
section
attribute [local irreducible] farith fcmp sval one_ gapU topU Fn g1 sinN pulA pulB
theorem zero_mul_v {x : Nat} (hx : Fn .f32 x) : Fn .f32 (farith .mul .f32 0 x) ∧ sval .f32 (farith .mul .f32 0 x) = 0 := by
  obtain ⟨_, _, _, k4, _⟩ := v_32
  have := mul_bd (k := .f32) fn_z hx fn_z fn_z (by rw [k4]; omega) (by rw [k4]; omega)
  rw [k4] at this
  exact ⟨this.1, by omega⟩
theorem add_z {x y : Nat} (hx : Fn .f32 x) (hy : Fn .f32 y) (h : sval .f32 y = 0) : Fn .f32 (farith .add .f32 x y) ∧ sval .f32 (farith .add .f32 x y) = sval .f32 x := by
  have := add_bd (k := .f32) hx hy hx hx (by omega) (by omega)
  exact ⟨this.1, by omega⟩
theorem one_add_z {y : Nat} (hy : Fn .f32 y) (h : sval .f32 y = 0) : Fn .f32 (farith .add .f32 1065353216 y) ∧ sval .f32 (farith .add .f32 1065353216 y) = one_ .f32 := by
  obtain ⟨_, _, k3, _⟩ := v_32
  have := add_z fn_o hy h
  exact ⟨this.1, by rw [this.2, k3]⟩
theorem p_of {c : ThC} (h : c.Ok) : (Fn .f32 c.p ∧ one_ .f32 ≤ sval .f32 c.p) ∧ c.p < 4294967296 := by
  have key : ∀ i : Nat, i < 33 → (Fn .f32 (farith .quo .f32 (ofInt .f32 (4 + (i : Int))) 1073741824) ∧ one_ .f32 ≤ sval .f32 (farith .quo .f32 (ofInt .f32 (4 + (i : Int))) 1073741824)) ∧ farith .quo .f32 (ofInt .f32 (4 + (i : Int))) 1073741824 < 4294967296 := by decide +kernel
  exact key _ h.1
theorem now_still {c : ThC} (h : c.Ok) {s : Int} (hs : 0 ≤ s ∧ s ≤ 2147483647) : nowN c.p 0 s = c.p := by
  obtain ⟨⟨p1, p2⟩, p3⟩ := p_of h
  have hp := one_pos .f32
  have hu := drawU_bd hs
  have hz := zero_mul_v hu.1
  have ho := one_add_z hz.1 hz.2
  have hv : Fn .f32 (nowV c.p 0 s) ∧ sval .f32 (nowV c.p 0 s) = sval .f32 c.p := by
    have := mul_bd (k := .f32) p1 ho.1 p1 p1 (by rw [ho.2]; omega) (by rw [ho.2]; omega)
    exact ⟨this.1, by unfold nowV; omega⟩
  have he : nowV c.p 0 s = c.p := same_val (farith_lt (op := .mul) (k := .f32) rfl) p3 (by omega) hv.2
  obtain ⟨_, _, k3, _⟩ := v_32
  unfold nowN
  rw [he, cmp_lt_not p1 fn_o (by omega), if_neg Bool.false_ne_true]
theorem vst_still {c : ThC} (h : c.Ok) {s : Int} (hs : 0 ≤ s ∧ s ≤ 2147483647) : ∀ k, (vst c.p 0 0 c.p s k).1 = phq c.p k ∧ (vst c.p 0 0 c.p s k).2.1 = c.p
  | 0 => ⟨rfl, rfl⟩
  | k + 1 => by
    have ih := vst_still h hs k
    have hv := vst_valid (p := c.p) (o := c.still.o) (c := c.still.cl) (b := c.still.br) (h := 0) (by have := th_ok (still_ok h); rw [still_sh] at this; exact this) (th_p h hs) k
    have e1 : (vst c.p 0 0 c.p s (k + 1)).1 = stQ (vst c.p 0 0 c.p s k).1 (vst c.p 0 0 c.p s k).2.1 := rfl
    have e2 : (vst c.p 0 0 c.p s (k + 1)).2.1 = stN c.p 0 (vst c.p 0 0 c.p s k).1 (vst c.p 0 0 c.p s k).2.1 (vst c.p 0 0 c.p s k).2.2 := rfl
    refine ⟨by rw [e1, ih.1, ih.2]; rfl, ?_⟩
    rw [e2]
    unfold stN
    split
    · exact now_still h (nextS_in (seedOf hv))
    · exact ih.2
theorem out_still {o cl q : Nat} {s : Int} (hp : Fn .f32 (pulse o cl q)) (hu : Fn .f32 (farith .mul .f32 (drawU s) (pulse o cl q))) : Fn .f32 (outN o cl 0 q s) ∧ sval .f32 (outN o cl 0 q s) = sval .f32 (pulse o cl q) := by
  have hz := zero_mul_v hu
  exact add_z hp hz.1 hz.2
end
theorem milli_g : 14000 * g1 * wid ≤ sval .f64 4562254508917369340 ∧ Fn .f64 4562254508917369340 ∧ Fn .f64 13785626545772145148 ∧ sval .f64 13785626545772145148 = -sval .f64 4562254508917369340 := by decide +kernel
section
attribute [local irreducible] farith fcmp sval one_ gapU topU Fn g1 sinN pulA pulB
theorem gap_w {x y : Nat} (hx : Fn .f32 x) (hy : Fn .f32 y) (h : Nr (sval .f32 x) (sval .f32 y) (14000 * g1)) : fcmp .gtr .f64 (gapW (conv .f32 .f64 x) (conv .f32 .f64 y)) 4562254508917369340 = false := by
  obtain ⟨m1, m2, m3, m4⟩ := milli_g
  obtain ⟨x1, x2⟩ := wide_val hx
  obtain ⟨y1, y2⟩ := wide_val hy
  have hw : (0 : Int) ≤ wid := by unfold wid; exact Int.natCast_nonneg _
  have a := Int.mul_le_mul_of_nonneg_right h.1 hw
  have b := Int.mul_le_mul_of_nonneg_right h.2 hw
  rw [Int.sub_mul, ← x2, ← y2] at a
  rw [Int.sub_mul, ← x2, ← y2] at b
  have hg : Fn .f64 (gapW (conv .f32 .f64 x) (conv .f32 .f64 y)) ∧ sval .f64 (gapW (conv .f32 .f64 x) (conv .f32 .f64 y)) ≤ sval .f64 4562254508917369340 := by
    unfold gapW
    split
    · have := sub_bd (k := .f64) y1 x1 m3 m2 (by omega) (by omega)
      exact ⟨this.1, this.2.2⟩
    · have := sub_bd (k := .f64) x1 y1 m3 m2 (by omega) (by omega)
      exact ⟨this.1, this.2.2⟩
  exact cmp_gt_not hg.1 m2 hg.2
theorem ph_of {q : Nat} (h : Ph q) : phase q = true := by
  obtain ⟨h1, h2, h3⟩ := h
  obtain ⟨_, _, k3, k4, _⟩ := v_32
  refine phase_of (hi := q) ⟨h1, by rw [k4]; exact h2, Int.le_refl _⟩ ?_
  rw [geq_lss h1 fn_o]
  have : fcmp .lss .f32 q 1065353216 = true := lss_yes h1 fn_o (by omega)
  rw [this]; rfl
theorem ph_phase {c : ThC} (h : c.Ok) {k : Nat} (hk : k < 40) : phase (frF (flowQ c.p k)) = true := ph_of (ph_all h.1 hk).1.2
theorem flow_ok {c : ThC} (h : c.Ok) {k : Nat} (hk : k < 40) : fin (flowG c.p c.o c.cl k) = true := pul_fin h (ph_phase h hk)
/-- A still voice flows as its throat does. -/
theorem flow_near {c : ThC} (h : c.Ok) {s : Int} (hs : 0 ≤ s ∧ s ≤ 2147483647) {k : Nat} (hk : k < 40) :
    fcmp .gtr .f64 (gapW (conv .f32 .f64 (outN c.o c.cl 0 (vst c.p 0 0 c.p s k).1 (vst c.p 0 0 c.p s k).2.2)) (conv .f32 .f64 (flowG c.p c.o c.cl k))) 4562254508917369340 = false := by
  have hth : throatI c.p c.still.o c.still.cl c.still.br 0 = true := by have := th_ok (still_ok h); rw [still_sh] at this; exact this
  have hv := vst_valid hth (th_p h hs) k
  have hc := ph_all h.1 hk
  change Close (phq c.p k) (frF (flowQ c.p k)) at hc
  obtain ⟨e1, e2⟩ := vst_still h hs k
  have hph := vol_phase hv
  have hpul := pulse_jv h hph
  have hs' := seedOf hv
  have hu := drawU_bd hs'
  have hm : Fn .f32 (farith .mul .f32 (drawU (vst c.p 0 0 c.p s k).2.2) (pulse c.o c.cl (vst c.p 0 0 c.p s k).1)) := by
    have hpul2 : Jv 3212840387 1065356739 (pulse c.o c.cl (vst c.p 0 0 c.p s k).1) := hpul.mono (lo' := 3212840387) (by decide +kernel) (Int.le_refl _)
    exact (Jv.mul (lo := 3212840387) (hi := 1065356739) hu hpul2 (by decide +kernel) (by decide +kernel) (by decide +kernel) (by decide) (by decide) (by decide +kernel)).1
  have ho := out_still hpul.1 hm
  have hf : Fn .f32 (flowG c.p c.o c.cl k) := (pulse_jv h (ph_phase h hk)).1
  refine gap_w ho.1 hf ?_
  rw [ho.2, e1]
  exact pulse_close h hc
end
/-- The sixteen places. -/
def k16 (k : Nat) : Nat := farith .quo .f32 (ofInt .f32 (k : Int)) 1098907648
theorem k16_ph : ∀ k : Nat, k < 16 → phase (k16 k) = true := by decide +kernel
theorem k16_0 : k16 0 = 0 := by decide +kernel
theorem pul_lim : Fn .f32 3129152111 ∧ Fn .f32 1065361605 ∧ sval .f32 3129152111 ≤ sval .f32 3110514637 ∧ sval .f32 1065356739 ≤ sval .f32 1065361605 := by decide +kernel
theorem pul_16 {c : ThC} (h : c.Ok) {k : Nat} (hk : k < 16) : fcmp .lss .f32 (pulse c.o c.cl (k16 k)) 3129152111 = false ∧ fcmp .gtr .f32 (pulse c.o c.cl (k16 k)) 1065361605 = false := by
  obtain ⟨f, a, b⟩ := pulse_jv h (k16_ph k hk)
  obtain ⟨l1, l2, l3, l4⟩ := pul_lim
  exact ⟨cmp_lt_not f l1 (Int.le_trans l3 a), cmp_gt_not f l2 (Int.le_trans b l4)⟩
section
attribute [local irreducible] farith fcmp sval one_ gapU topU Fn g1 sinN pulA pulB
theorem pul_z {c : ThC} (h : c.Ok) : Fn .f32 (pulse c.o c.cl 0) ∧ Nr (sval .f32 (pulse c.o c.cl 0)) 0 (4 * g1) := by
  have hT := tp_ok h
  obtain ⟨⟨o1, o2, o3⟩, _⟩ := hT
  obtain ⟨_, a2⟩ := end_a c.j h.2.1
  have hp := one_pos .f32
  obtain ⟨_, _, _, k4, _⟩ := v_32
  have e := pul_a (c := c.cl) fn_z o1 (by omega)
  refine ⟨?_, by rw [e]; exact a2⟩
  have h0 : phase 0 = true := by have := k16_ph 0 (by decide); rw [k16_0] at this; exact this
  exact (pulse_jv h h0).1
theorem pul_first {c : ThC} (h : c.Ok) : fcmp .gtr .f64 (gapW (conv .f32 .f64 (pulse c.o c.cl 0)) (conv .f32 .f64 0)) 4562254508917369340 = false := by
  obtain ⟨f, n1, n2⟩ := pul_z h
  obtain ⟨_, _, _, k4, _⟩ := v_32
  have hg := g1_pos
  exact gap_w f fn_z ⟨by omega, by omega⟩
theorem o_ph {c : ThC} (h : c.Ok) : phase c.o = true := by
  have hT := tp_ok h
  obtain ⟨⟨o1, o2, o3⟩, _⟩ := hT
  have hp := one_pos .f32
  exact ph_of ⟨o1, by omega, by omega⟩
theorem pul_o {c : ThC} (h : c.Ok) : Fn .f32 (pulse c.o c.cl c.o) ∧ Nr (sval .f32 (pulse c.o c.cl c.o)) (one_ .f32) (4 * g1) := by
  have hT := tp_ok h
  obtain ⟨⟨o1, o2, o3⟩, c1, c2, c3⟩ := hT
  obtain ⟨_, s1, s2⟩ := c_oc c.j h.2.1 c.k h.2.2.1
  change Fn .f32 (farith .add .f32 c.o c.cl) at s1
  change sval .f32 (farith .add .f32 c.o c.cl) = sval .f32 c.o + sval .f32 c.cl at s2
  obtain ⟨b1, _⟩ := end_b c.j h.2.1 c.k h.2.2.1
  have hp := one_pos .f32
  refine ⟨(pulse_jv h (o_ph h)).1, ?_⟩
  rw [pul_b o1 o1 s1 (Int.le_refl _) (by omega)]
  exact b1
theorem pul_top {c : ThC} (h : c.Ok) : fcmp .gtr .f64 (gapW (conv .f32 .f64 (pulse c.o c.cl c.o)) (conv .f32 .f64 1065353216)) 4562254508917369340 = false := by
  obtain ⟨f, n1, n2⟩ := pul_o h
  obtain ⟨_, _, k3, _⟩ := v_32
  have hg := g1_pos
  exact gap_w f fn_o ⟨by omega, by omega⟩
end
end Go.Vx

namespace Go.Vx
open Ieee Go.RowKit
/-- Parts of 1024. -/
def gk (z : Int) : Nat := farith .quo .f32 (ofInt .f32 z) 1149239296
def S10 : Int := ((2 ^ 139 : Nat) : Int)
def uN (k : Nat) : Int := if k = 0 then 0 else 1025 * ((k : Int) - 1) + 1
def lN (k0 k : Nat) : Int := if k ≤ k0 then -(k : Int) else 1024 - (k : Int)
theorem uN_val : ∀ k : Nat, k < 65 → Fn .f32 (gk (uN k)) ∧ sval .f32 (gk (uN k)) = uN k * S10 := by decide +kernel
theorem lN_val : ∀ j : Nat, j < 4 → ∀ k : Nat, k < 65 → Fn .f32 (gk (lN (8 * (j + 1)) k)) ∧ sval .f32 (gk (lN (8 * (j + 1)) k)) = lN (8 * (j + 1)) k * S10 := by decide +kernel
def k64 (k : Nat) : Nat := farith .quo .f32 (ofInt .f32 (k : Int)) (ofInt .f32 64)
theorem k64_ph : ∀ k : Nat, k < 64 → phase (k64 k) = true := by decide +kernel
theorem k64_0 : k64 0 = 0 := by decide +kernel
theorem k64_o : ∀ j : Nat, j < 4 → k64 (8 * (j + 1)) = c8 j := by decide +kernel
theorem S10_v : one_ .f32 = 1024 * S10 ∧ 4 * g1 ≤ S10 ∧ 0 < S10 ∧ -S10 ≤ sval .f32 3110514637 ∧ sval .f32 1065356739 ≤ 1025 * S10 := by decide +kernel
theorem mean_v : (Fn .f32 1006632960 ∧ Fn .f32 1065287680 ∧ Fn .f32 (ofInt .f32 64)) ∧ 0 < sval .f32 1006632960 ∧ sval .f32 1065287680 < one_ .f32 ∧ sval .f32 (ofInt .f32 64) = 65536 * S10 ∧ sval .f32 1006632960 * (65536 * S10) ≤ 900 * S10 * one_ .f32 ∧ 64576 * S10 * one_ .f32 ≤ sval .f32 1065287680 * (65536 * S10) := by decide +kernel
theorem w_zero : conv .f32 .f64 0 = 0 := by decide +kernel
theorem w_one : conv .f32 .f64 1065353216 = 4607182418800017408 := by decide +kernel
section
attribute [local irreducible] farith fcmp sval one_ gapU topU Fn g1 sinN pulA pulB ofInt
theorem sum_bd {c : ThC} (h : c.Ok) : ∀ k : Nat, k ≤ 64 → Fn .f32 (sumPul c.o c.cl 64 k) ∧ lN (8 * (c.j + 1)) k * S10 ≤ sval .f32 (sumPul c.o c.cl 64 k) ∧ sval .f32 (sumPul c.o c.cl 64 k) ≤ uN k * S10
  | 0, _ => by
    obtain ⟨_, _, _, k4, _⟩ := v_32
    have e : sumPul c.o c.cl 64 0 = 0 := rfl
    have e1 : uN 0 = 0 := rfl
    have e2 : lN (8 * (c.j + 1)) 0 = 0 := by unfold lN; rw [if_pos (by omega)]; rfl
    rw [e, k4, e1, e2, Int.zero_mul]
    exact ⟨fn_z, Int.le_refl _, Int.le_refl _⟩
  | k + 1, hk => by
    obtain ⟨f, a, b⟩ := sum_bd h k (by omega)
    obtain ⟨s1, s2, s3, s4, s5⟩ := S10_v
    have e : sumPul c.o c.cl 64 (k + 1) = farith .add .f32 (sumPul c.o c.cl 64 k) (pulse c.o c.cl (k64 k)) := rfl
    obtain ⟨p1, p2, p3⟩ := pulse_jv h (k64_ph k (by omega))
    obtain ⟨u1, u2⟩ := uN_val (k + 1) (by omega)
    obtain ⟨l1, l2⟩ := lN_val c.j h.2.1 (k + 1) (by omega)
    have hu : sval .f32 (pulse c.o c.cl (k64 k)) ≤ (uN (k + 1) - uN k) * S10 := by
      by_cases h0 : k = 0
      · subst h0
        obtain ⟨_, n1, _⟩ := pul_z h
        rw [k64_0]
        have : uN (0 + 1) - uN 0 = 1 := rfl
        rw [this]; omega
      · have : uN (k + 1) - uN k = 1025 := by unfold uN; rw [if_neg (by omega), if_neg h0]; omega
        rw [this]; omega
    have hl : (lN (8 * (c.j + 1)) (k + 1) - lN (8 * (c.j + 1)) k) * S10 ≤ sval .f32 (pulse c.o c.cl (k64 k)) := by
      by_cases h0 : k = 8 * (c.j + 1)
      · have e1 : k64 k = c.o := by rw [h0]; exact k64_o c.j h.2.1
        obtain ⟨_, _, n2⟩ := pul_o h
        have : lN (8 * (c.j + 1)) (k + 1) - lN (8 * (c.j + 1)) k = 1023 := by unfold lN; rw [if_neg (by omega), if_pos (by omega)]; omega
        rw [this, e1]; omega
      · have : lN (8 * (c.j + 1)) (k + 1) - lN (8 * (c.j + 1)) k = -1 := by
          unfold lN
          by_cases h2 : k + 1 ≤ 8 * (c.j + 1)
          · rw [if_pos h2, if_pos (by omega)]; omega
          · rw [if_neg h2, if_neg (by omega)]; omega
        rw [this]; omega
    rw [Int.sub_mul] at hu hl
    rw [e, ← u2, ← l2]
    exact add_bd f p1 l1 u1 (by rw [l2]; omega) (by rw [u2]; omega)
theorem mean_jv {c : ThC} (h : c.Ok) : Jv 1006632960 1065287680 (meanPul c.o c.cl 64) := by
  obtain ⟨⟨m1, m2, m3⟩, m4, m5, m6, m7, m8⟩ := mean_v
  obtain ⟨s1, s2, s3, s4, s5⟩ := S10_v
  have hp := one_pos .f32
  obtain ⟨f, a, b⟩ := sum_bd h 64 (Nat.le_refl _)
  have e1 : uN 64 = 64576 := rfl
  have hj := h.2.1
  have e2 : lN (8 * (c.j + 1)) 64 = 960 := by unfold lN; rw [if_neg (by omega)]; rfl
  rw [e1] at b
  rw [e2] at a
  show Jv 1006632960 1065287680 (farith .quo .f32 (sumPul c.o c.cl 64 64) (ofInt .f32 64))
  refine div_bd f m3 (by omega) m1 m2 ?_ ?_
  · rw [m6]
    exact Int.le_trans m7 (Int.mul_le_mul_of_nonneg_right (by omega) (by omega))
  · rw [m6]
    exact Int.le_trans (Int.mul_le_mul_of_nonneg_right b (by omega)) m8
theorem mean_fin {c : ThC} (h : c.Ok) : fin (meanPul c.o c.cl 64) = true := (mean_jv h).fin
theorem mean_pos {c : ThC} (h : c.Ok) : fcmp .leq .f32 (meanPul c.o c.cl 64) 0 = false ∧ fcmp .geq .f32 (meanPul c.o c.cl 64) 1065353216 = false := by
  obtain ⟨f, a, b⟩ := mean_jv h
  obtain ⟨_, m4, m5, _⟩ := mean_v
  obtain ⟨_, _, k3, k4, _⟩ := v_32
  exact ⟨leq_not f fn_z (by omega), geq_not f fn_o (by omega)⟩
theorem mean_ok {c : ThC} (h : c.Ok) : ((throatI c.p c.o c.cl c.br c.sh && iin 64 1 256) && fin (meanPul c.o c.cl 64)) = true := by
  rw [th_ok h, mean_fin h]; rfl
/-! ### The law's questions -/
theorem still_th {c : ThC} (h : c.Ok) : throatI c.p c.o c.cl 0 0 = true := by
  have := th_ok (still_ok h)
  rw [still_br, still_sh] at this
  exact this
theorem flow_all {c : ThC} (h : c.Ok) {m : Nat} (hm : m < 40) : ((throatI c.p c.o c.cl 0 0 && iin (m : Int) 0 256) && allB (m : Int).toNat (fun j => fin (flowG c.p c.o c.cl j))) = true := by
  rw [still_th h, allB_true.2 (fun j hj => flow_ok h (by rw [Int.toNat_natCast] at hj; omega))]
  simp only [iin, Bool.true_and, Bool.and_true, Bool.and_eq_true, decide_eq_true_eq]
  omega
theorem run_still {c : ThC} (h : c.Ok) {s : Int} (hs : 0 ≤ s ∧ s ≤ 2147483647) {m : Int} (hm : 0 ≤ m ∧ m ≤ 256) : runB c.p c.o c.cl 0 0 0 c.p s m = true := by
  have := run_ok (still_ok h) (q := 0) (n := c.p) (s := s) (m := m) (th_p h hs) hm
  rw [still_br, still_sh] at this
  exact this
theorem pulses_c1 {c : ThC} (h : c.Ok) {k : Nat} (hk : k < 16) : (((!true || fcmp .lss .f32 (pulse c.o c.cl (k16 k)) 3129152111) || fcmp .gtr .f32 (pulse c.o c.cl (k16 k)) 1065361605) || (icmp .eql (k : Int) 0 && fcmp .gtr .f64 (gapW (conv .f32 .f64 (pulse c.o c.cl (k16 k))) 0) 4562254508917369340)) = false := by
  obtain ⟨a, b⟩ := pul_16 h hk
  rw [a, b]
  by_cases h0 : k = 0
  · subst h0
    have e : conv .f32 .f64 0 = 0 := w_zero
    have f := pul_first h
    rw [e] at f
    rw [k16_0, f, Bool.and_false]; rfl
  · have : icmp .eql (k : Int) 0 = false := by simp [icmp]; omega
    rw [this]; rfl
theorem pulses_c2 {c : ThC} (h : c.Ok) {s : Int} (hs : 0 ≤ s ∧ s ≤ 2147483647) {m : Nat} : (((((((((((fcmp .lss .f32 c.o 1065353216 && (!true || fcmp .gtr .f64 (gapW (conv .f32 .f64 (pulse c.o c.cl c.o)) 4607182418800017408) 4562254508917369340)) || !true) || fcmp .leq .f32 (meanPul c.o c.cl 64) 0) || fcmp .geq .f32 (meanPul c.o c.cl 64) 1065353216) || !true) || !true) || !true) || icmp .neq (m : Int) (m : Int)) || icmp .neq (m : Int) (m : Int)) || !voiceV (vst c.p 0 0 c.p s m).1 (vst c.p 0 0 c.p s m).2.1 (vst c.p 0 0 c.p s m).2.2) || !throatI c.p c.o c.cl c.br c.sh) = false := by
  obtain ⟨a, b⟩ := mean_pos h
  have e : conv .f32 .f64 1065353216 = 4607182418800017408 := w_one
  have f := pul_top h
  rw [e] at f
  have hv := vst_valid (still_th h) (th_p h hs) m
  rw [a, b, f, hv, th_ok h]
  simp [icmp]
end
end Go.Vx
