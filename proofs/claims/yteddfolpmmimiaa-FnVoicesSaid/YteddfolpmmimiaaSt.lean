/- Laws on sines, pulses and voices. -/
import Derived.Test.YteddfolpmmimiaaSq
namespace Go.Vx
open Ieee Go.RowKit

/-! ### Numbers drawn, told by what they are -/
def nxB (N : Nat) (g : Nat → Nat) (a : Nat) : Int := if (a : Int) < (N : Int) then IntKind.i64.wrap (g a : Int) else 0
def nxS (N : Nat) (g : Nat → Nat) (a : Nat) (sd : Int) : Int := iarith .add .u64 (iarith .add .u64 (iarith .mul .u64 sd 6364136223846793005) (IntKind.u64.wrap (nxB N g a))) 1442695040888963407
def nxV (N : Nat) (g : Nat → Nat) (a : Nat) (sd : Int) : Int := if (a : Int) < (N : Int) then IntKind.i64.wrap (g a : Int) else IntKind.i64.wrap (IntKind.u64.wrap ((BitVec.ofInt IntKind.u64.bits ((nxS N g a sd).fdiv (2 ^ min (Int.toNat 40) IntKind.u64.bits)) &&& BitVec.ofInt IntKind.u64.bits 255).toNat : Int))
theorem nxB_1 {N a : Nat} {g : Nat → Nat} (h : (a : Int) < (N : Int)) : IntKind.i64.wrap (g a : Int) = nxB N g a := by unfold nxB; rw [if_pos h]
theorem nxB_0 {N a : Nat} {g : Nat → Nat} (h : ¬ (a : Int) < (N : Int)) : 0 = nxB N g a := by unfold nxB; rw [if_neg h]
theorem nxV_1 {N a : Nat} {g : Nat → Nat} {sd : Int} (h : (a : Int) < (N : Int)) : nxB N g a = nxV N g a sd := by unfold nxV nxB; rw [if_pos h, if_pos h]
theorem nxV_0 {N a : Nat} {g : Nat → Nat} {sd : Int} (h : ¬ (a : Int) < (N : Int)) : IntKind.i64.wrap (IntKind.u64.wrap ((BitVec.ofInt IntKind.u64.bits ((nxS N g a sd).fdiv (2 ^ min (Int.toNat 40) IntKind.u64.bits)) &&& BitVec.ofInt IntKind.u64.bits 255).toNat : Int)) = nxV N g a sd := by unfold nxV; rw [if_neg h]
theorem nxV_in {N a : Nat} {g : Nat → Nat} {sd : Int} (hg : ∀ j, j < N → g j < 256) : 0 ≤ nxV N g a sd ∧ nxV N g a sd < 256 := by
  unfold nxV
  split
  · exact byte_wrap (hg _ (by omega)) rfl
  · exact and_byte _
def wdV (N : Nat) (g : Nat → Nat) (a : Nat) (sd n : Int) : Int := (nxV N g a sd * 256 + nxV N g (a + 1) (nxS N g a sd)).tmod n
def wdS (N : Nat) (g : Nat → Nat) (a : Nat) (sd : Int) : Int := nxS N g (a + 1) (nxS N g a sd)
theorem wdV_in {N a : Nat} {g : Nat → Nat} {sd n : Int} (hg : ∀ j, j < N → g j < 256) (hn : 0 < n) : 0 ≤ wdV N g a sd n ∧ wdV N g a sd n < n := by
  have h1 := nxV_in (a := a) (sd := sd) hg
  have h2 := nxV_in (a := a + 1) (sd := nxS N g a sd) hg
  exact tmod_in (by omega) hn
def seedF (N : Nat) (g : Nat → Nat) : Int := wdV N g 0 0 32768 * 65536 + wdV N g 2 (wdS N g 0 0) 65536
theorem seedF_in {N : Nat} {g : Nat → Nat} (hg : ∀ j, j < N → g j < 256) : 0 ≤ seedF N g ∧ seedF N g ≤ 2147483647 := by
  have h1 := wdV_in (a := 0) (sd := 0) (n := 32768) hg (by decide)
  have h2 := wdV_in (a := 2) (sd := wdS N g 0 0) (n := 65536) hg (by decide)
  unfold seedF
  omega
theorem src_at {b : Nat} {T : TypeId} {A : Option Addr} {N cap a : Nat} {s s' : Int} (e : s = s') : some (srcB b T A N cap a s) = some (srcB b T A N cap a s') := by rw [e]
section
variable {P : Program} {F' : Frm} {w0 w : World} {H : List HFact} {n : Nat} {v : HFact}
/-- One struct out of its block, where one thing of the caller's has turned. -/
theorem jq_retGS {fn : Func} {p : Tmp} {T T' : TypeId} {d : TypeDesc} {b i : Nat} {cs : List Value} {σ : Type} {v' : σ → HFact} {V : σ → Value} {K : σ → List HFact} {en : Exit} (j : Nat) (s : σ) (he : en = .ret ∨ en = .normal) (hr : fn.results = #[.cell p T])
    (hp : Frm.get F' p = some (true, .pointer (some ⟨b, 0, none⟩))) (hH : H[i]? = some (.box b T' cs)) (hT : P.underlying T = some d) (hd : aggT d = true) (hs : (P.info? T).map (·.size) = some cs.length) (h : .agg cs.toArray = V s)
    (hj : H[j]? = some (v' s)) (hK : ∀ w, HInv w0 (footOf v) H w → Fresh w0 w (K s)) : JQ n w0 (footOf v) en F' H (bodyPost P fn (EndsG v v' V K w0)) := by
  intro a w hF hI
  obtain ⟨u, h1, h2⟩ := results_cellS (P := P) hr hF hI hp hH hT hd hs
  rw [h] at h2
  have : a.defers = [] ∧ ∃ u, (results fn a.tmps).run P w = .ok u w ∧ EndsG v v' V K w0 (.returned u) w :=
    ⟨hF.1, u, h1, _, s, rfl, hI.facts _ (List.mem_of_getElem? hj), hI.os, hI.tape, hI.output, hI.size, fun k hk hne => hI.frame k hk hne, h2, hK w hI⟩
  rcases he with rfl | rfl <;> exact this
end
/-! ### Drawn throats -/
structure ThC where
  i : Nat
  j : Nat
  k : Nat
  l : Nat
  m : Nat
def ThC.Ok (c : ThC) : Prop := c.i < 33 ∧ c.j < 4 ∧ c.k < 4 ∧ c.l < 5 ∧ c.m < 5
def ThC.p (c : ThC) : Nat := farith .quo .f32 (ofInt .f32 (4 + (c.i : Int))) 1073741824
def ThC.o (c : ThC) : Nat := farith .quo .f32 (ofInt .f32 (1 + (c.j : Int))) 1090519040
def ThC.cl (c : ThC) : Nat := farith .quo .f32 (ofInt .f32 (1 + (c.k : Int))) 1090519040
def ThC.br (c : ThC) : Nat := farith .quo .f32 (ofInt .f32 (c.l : Int)) 1090519040
def ThC.sh (c : ThC) : Nat := farith .quo .f32 (ofInt .f32 (c.m : Int)) 1098907648
def ThC.V (c : ThC) : Value := .agg (throatC c.p c.o c.cl c.br c.sh).toArray
theorem thc_eq {a b c d e : Int} (ha : 0 ≤ a) (hb : 0 ≤ b) (hc : 0 ≤ c) (hd : 0 ≤ d) (he : 0 ≤ e) : Value.agg (throatC (farith .quo .f32 (ofInt .f32 (4 + a)) 1073741824) (farith .quo .f32 (ofInt .f32 (1 + b)) 1090519040) (farith .quo .f32 (ofInt .f32 (1 + c)) 1090519040) (farith .quo .f32 (ofInt .f32 d) 1090519040) (farith .quo .f32 (ofInt .f32 e) 1098907648)).toArray = (ThC.mk a.toNat b.toNat c.toNat d.toNat e.toNat).V := by
  unfold ThC.V ThC.p ThC.o ThC.cl ThC.br ThC.sh
  simp only [show ((a.toNat : Nat) : Int) = a by omega, show ((b.toNat : Nat) : Int) = b by omega, show ((c.toNat : Nat) : Int) = c by omega, show ((d.toNat : Nat) : Int) = d by omega, show ((e.toNat : Nat) : Int) = e by omega]
theorem thc_ok {a b c d e : Int × Int} (ha : 0 ≤ a.1 ∧ a.1 < 33) (hb : 0 ≤ b.1 ∧ b.1 < 4) (hc : 0 ≤ c.1 ∧ c.1 < 4) (hd : 0 ≤ d.1 ∧ d.1 < 5) (he : 0 ≤ e.1 ∧ e.1 < 5) : (ThC.mk a.1.toNat b.1.toNat c.1.toNat d.1.toNat e.1.toNat).Ok := by
  unfold ThC.Ok
  refine ⟨?_, ?_, ?_, ?_, ?_⟩ <;> simp only <;> omega
theorem wd_s {N a : Nat} {g : Nat → Nat} {sd s1 s2 : Int} (h1 : nxS N g a sd = s1) (h2 : wdS N g a sd = s2) : nxS N g (a + 1) s1 = s2 := by rw [← h1, ← h2]; rfl
theorem wd_z {N a : Nat} {g : Nat → Nat} {sd n x y z s1 : Int} (hx : nxV N g a sd = x) (h1 : nxS N g a sd = s1) (hy : nxV N g (a + 1) s1 = y) (hz : wdV N g a sd n = z) : (x * 256 + y).tmod n = z := by subst h1; rw [← hx, ← hy, ← hz]; rfl
theorem nx_b {N a : Nat} {g : Nat → Nat} {sd x : Int} (hg : ∀ j, j < N → g j < 256) (hx : nxV N g a sd = x) : 0 ≤ x ∧ x < 256 := by rw [← hx]; exact nxV_in hg
theorem seed_b1 {N a : Nat} {g : Nat → Nat} {sd x : Int} (hg : ∀ j, j < N → g j < 256) (hx : wdV N g a sd 32768 = x) : 0 ≤ x ∧ x < 32768 := by rw [← hx]; exact wdV_in hg (by decide)
theorem seed_b2 {N a : Nat} {g : Nat → Nat} {sd x : Int} (hg : ∀ j, j < N → g j < 256) (hx : wdV N g a sd 65536 = x) : 0 ≤ x ∧ x < 65536 := by rw [← hx]; exact wdV_in hg (by decide)
theorem seed_z {N : Nat} {g : Nat → Nat} {x y s : Int} (hx : wdV N g 0 0 32768 = x) (hs : wdS N g 0 0 = s) (hy : wdV N g 2 s 65536 = y) : x * 65536 + y = seedF N g := by subst hs; rw [← hx, ← hy]; rfl
theorem seedF_eq {N : Nat} {g : Nat → Nat} : wdV N g 0 0 32768 * 65536 + wdV N g 2 (wdS N g 0 0) 65536 = seedF N g := rfl
end Go.Vx

namespace Go.Vx
open Ieee Go.RowKit
/-! ### What voices of drawn throats do -/
theorem t_p : ∀ i : Nat, i < 33 → btw (farith .quo .f32 (ofInt .f32 (4 + (i : Int))) 1073741824) 1073741824 1148846080 = true := by decide +kernel
theorem t_o : ∀ j : Nat, j < 4 → fcmp .gtr .f32 (farith .quo .f32 (ofInt .f32 (1 + (j : Int))) 1090519040) 0 = true := by decide +kernel
theorem t_oc : ∀ j : Nat, j < 4 → ∀ k : Nat, k < 4 → fcmp .leq .f32 (fadd .f32 (farith .quo .f32 (ofInt .f32 (1 + (j : Int))) 1090519040) (farith .quo .f32 (ofInt .f32 (1 + (k : Int))) 1090519040)) 1065353216 = true := by decide +kernel
theorem t_b : ∀ l : Nat, l < 5 → Vx.fin (farith .quo .f32 (ofInt .f32 (l : Int)) 1090519040) = true ∧ fcmp .geq .f32 (farith .quo .f32 (ofInt .f32 (l : Int)) 1090519040) 0 = true := by decide +kernel
theorem t_s : ∀ m : Nat, m < 5 → btw (farith .quo .f32 (ofInt .f32 (m : Int)) 1098907648) 0 1056964608 = true := by decide +kernel
theorem th_ok {c : ThC} (h : c.Ok) : throatI c.p c.o c.cl c.br c.sh = true := by
  obtain ⟨h1, h2, h3, h4, h5⟩ := h
  unfold throatI ThC.p ThC.o ThC.cl ThC.br ThC.sh
  rw [t_p _ h1, t_o _ h2, t_o _ h3, t_oc _ h2 _ h3, (t_b _ h4).1, (t_b _ h4).2, t_s _ h5]; rfl
theorem th_p {c : ThC} (h : c.Ok) {s : Int} (hs : 0 ≤ s ∧ s ≤ 2147483647) : voiceV 0 c.p s = true := by
  have ht := th_ok h
  have key : ∀ i : Nat, i < 33 → Vx.fin (farith .quo .f32 (ofInt .f32 (4 + (i : Int))) 1073741824) = true ∧ fcmp .geq .f32 (farith .quo .f32 (ofInt .f32 (4 + (i : Int))) 1073741824) 1065353216 = true := by decide +kernel
  have k := key _ h.1
  unfold voiceV ThC.p
  rw [k.1, k.2, seed_ok hs]
  decide
theorem new_ok {c : ThC} (h : c.Ok) {s : Int} (hs : 0 ≤ s ∧ s ≤ 2147483647) : (throatI c.p c.o c.cl c.br c.sh && iin s 0 2147483647) = true := by rw [th_ok h, seed_ok hs]; rfl
theorem vol_phase {q n : Nat} {s : Int} (hv : voiceV q n s = true) : phase q = true := by
  unfold voiceV at hv
  simp only [Bool.and_eq_true] at hv
  exact hv.1.1.1
theorem sameS_self {x : Nat} : sameS x x = true := by unfold sameS; simp
theorem voice_c1 {x : Nat} {b : Bool} (hb : b = true) : (((!true || !true) || !sameS x x) || !b) = false := by rw [sameS_self, hb]; rfl
theorem voice_c0 {m : Int} : ((!true || !true) || icmp .neq m m) = false := by simp [icmp]
theorem voice_same {q n : Nat} {s : Int} (hv : voiceV q n s = true) : ((sameN q q && sameN n n) && s == s) = true := by
  obtain ⟨h1, h2, _⟩ := voice_q hv
  rw [sameN_fin h1.fin, sameN_fin (fn_fin.1 h2)]
  simp
end Go.Vx

namespace Go.Vx
open Ieee Go.RowKit

/-! ### The sine near its greatest value: intervals, checked piece by piece -/
def frc {α : Type} (n : Nat) (f : Nat → α) : α := match n with | 0 => f 0 | k + 1 => f (k + 1)
theorem frc_eq {α : Type} (n : Nat) (f : Nat → α) : frc n f = f n := by cases n <;> rfl
def mulOk (a1 a2 b1 b2 m1 m2 : Nat) : Bool := decide (0 ≤ sval .f64 a1 ∧ 0 ≤ sval .f64 b1 ∧ Fn .f64 m1 ∧ Fn .f64 m2 ∧ sval .f64 m1 * one_ .f64 ≤ sval .f64 a1 * sval .f64 b1 ∧ sval .f64 a2 * sval .f64 b2 ≤ sval .f64 m2 * one_ .f64)
def quoOk (m1 m2 c d1 d2 : Nat) : Bool := decide (0 < sval .f64 c ∧ Fn .f64 c ∧ Fn .f64 d1 ∧ Fn .f64 d2 ∧ sval .f64 d1 * sval .f64 c ≤ sval .f64 m1 * one_ .f64 ∧ sval .f64 m2 * one_ .f64 ≤ sval .f64 d2 * sval .f64 c)
def subOk (d1 d2 p1 p2 : Nat) : Bool := decide (Fn .f64 p1 ∧ Fn .f64 p2 ∧ sval .f64 p1 ≤ sval .f64 4607182418800017408 - sval .f64 d2 ∧ sval .f64 4607182418800017408 - sval .f64 d1 ≤ sval .f64 p2)
theorem Iv.mulp {a1 a2 b1 b2 m1 m2 x y : Nat} (h : mulOk a1 a2 b1 b2 m1 m2 = true) (hx : Iv a1 a2 x) (hy : Iv b1 b2 y) : Iv m1 m2 (farith .mul .f64 x y) := by
  obtain ⟨h1, h2, h3, h4, h5, h6⟩ := of_decide_eq_true h
  obtain ⟨x1, x2, x3⟩ := hx
  obtain ⟨y1, y2, y3⟩ := hy
  have e1 : sval .f64 a1 * sval .f64 b1 ≤ sval .f64 x * sval .f64 y := Int.mul_le_mul x2 y2 h2 (by omega)
  have e2 : sval .f64 x * sval .f64 y ≤ sval .f64 a2 * sval .f64 b2 := Int.mul_le_mul x3 y3 (by omega) (by omega)
  exact mul_bd x1 y1 h3 h4 (Int.le_trans h5 e1) (Int.le_trans e2 h6)
theorem Iv.quop {m1 m2 c d1 d2 x : Nat} (h : quoOk m1 m2 c d1 d2 = true) (hx : Iv m1 m2 x) : Iv d1 d2 (farith .quo .f64 x c) := by
  obtain ⟨h1, h2, h3, h4, h5, h6⟩ := of_decide_eq_true h
  obtain ⟨x1, x2, x3⟩ := hx
  have hone : 0 ≤ one_ .f64 := by unfold one_; exact Int.natCast_nonneg _
  exact div_bd x1 h2 h1 h3 h4 (Int.le_trans h5 (Int.mul_le_mul_of_nonneg_right x2 hone)) (Int.le_trans (Int.mul_le_mul_of_nonneg_right x3 hone) h6)
theorem Iv.subp {d1 d2 p1 p2 x : Nat} (h : subOk d1 d2 p1 p2 = true) (hx : Iv d1 d2 x) : Iv p1 p2 (farith .sub .f64 4607182418800017408 x) := by
  obtain ⟨h1, h2, h3, h4⟩ := of_decide_eq_true h
  obtain ⟨x1, x2, x3⟩ := hx
  exact sub_bd (by decide) x1 h1 h2 (by omega) (by omega)
def mDn (a b : Nat) : Nat := farith .mul .f64 a b - 1
def mUp (a b : Nat) : Nat := farith .mul .f64 a b + 1
def stg (u1 u2 c pl ph : Nat) (k : Nat → Nat → Bool) : Bool :=
  frc (mDn u1 pl) fun m1 => frc (mUp u2 ph) fun m2 => frc (farith .quo .f64 m1 c - 1) fun d1 => frc (farith .quo .f64 m2 c + 1) fun d2 => frc (farith .sub .f64 4607182418800017408 d2 - 1) fun p1 => frc (farith .sub .f64 4607182418800017408 d1 + 1) fun p2 =>
    ((mulOk u1 u2 pl ph m1 m2 && quoOk m1 m2 c d1 d2) && subOk d1 d2 p1 p2) && k p1 p2
theorem stg_ok {u1 u2 c pl ph u p : Nat} {k : Nat → Nat → Bool} (h : stg u1 u2 c pl ph k = true) (hu : Iv u1 u2 u) (hp : Iv pl ph p) : ∃ p1 p2, Iv p1 p2 (sinS u c p) ∧ k p1 p2 = true := by
  unfold stg at h
  simp only [frc_eq, Bool.and_eq_true] at h
  obtain ⟨⟨⟨h1, h2⟩, h3⟩, h4⟩ := h
  exact ⟨_, _, ((hu.mulp h1 hp).quop h2).subp h3, h4⟩
def chkS (f1 f2 B : Nat) : Bool :=
  frc (mDn f1 4618760256179416344) fun y1 => frc (mUp f2 4618760256179416344) fun y2 => frc (mDn y1 y1) fun u1 => frc (mUp y2 y2) fun u2 =>
    (mulOk f1 f2 4618760256179416344 4618760256179416344 y1 y2 && mulOk y1 y2 y1 y2 u1 u2) &&
    stg u1 u2 4643492690795692032 4607182418800017408 4607182418800017408 fun a b => stg u1 u2 4641592734702895104 a b fun a b => stg u1 u2 4639692778610098176 a b fun a b => stg u1 u2 4637440978796412928 a b fun a b =>
    stg u1 u2 4634766966517661696 a b fun a b => stg u1 u2 4631107791820423168 a b fun a b => stg u1 u2 4626322717216342016 a b fun a b => stg u1 u2 4618441417868443648 a b fun a b =>
    frc (mUp y2 b) fun v2 => mulOk y1 y2 a b 0 v2 && decide (sval .f64 v2 ≤ sval .f64 B)
theorem iv_one : Iv 4607182418800017408 4607182418800017408 4607182418800017408 := ⟨by decide, Int.le_refl _, Int.le_refl _⟩
theorem iv_tp : Iv 4618760256179416344 4618760256179416344 4618760256179416344 := ⟨by decide, Int.le_refl _, Int.le_refl _⟩
theorem chkS_ok {f1 f2 B f : Nat} (h : chkS f1 f2 B = true) (hf : Iv f1 f2 f) : Fn .f64 (sinV f) ∧ 0 ≤ sval .f64 (sinV f) ∧ sval .f64 (sinV f) ≤ sval .f64 B := by
  unfold chkS at h
  simp only [frc_eq, Bool.and_eq_true] at h
  obtain ⟨⟨h1, h2⟩, h⟩ := h
  have hy := hf.mulp h1 iv_tp
  have hu := hy.mulp h2 hy
  obtain ⟨_, _, p1, h⟩ := stg_ok h hu iv_one
  obtain ⟨_, _, p2, h⟩ := stg_ok h hu p1
  obtain ⟨_, _, p3, h⟩ := stg_ok h hu p2
  obtain ⟨_, _, p4, h⟩ := stg_ok h hu p3
  obtain ⟨_, _, p5, h⟩ := stg_ok h hu p4
  obtain ⟨_, _, p6, h⟩ := stg_ok h hu p5
  obtain ⟨_, _, p7, h⟩ := stg_ok h hu p6
  obtain ⟨a, b, p8, h⟩ := stg_ok h hu p7
  simp only [Bool.and_eq_true] at h
  obtain ⟨v1, v2, v3⟩ := hy.mulp h.1 p8
  exact ⟨v1, v2, Int.le_trans v3 (of_decide_eq_true h.2)⟩
/-- All pieces between neighbours of a list. -/
def chkL2 (B : Nat) : List Nat → Bool
  | a :: b :: r => chkS a b B && chkL2 B (b :: r)
  | _ => true
theorem chkL2_ok {B f : Nat} (hf : Fn .f64 f) : ∀ (a : Nat) (l : List Nat), chkL2 B (a :: l) = true → sval .f64 a ≤ sval .f64 f → sval .f64 f ≤ sval .f64 ((a :: l).getLast (by simp)) → l ≠ [] → Fn .f64 (sinV f) ∧ 0 ≤ sval .f64 (sinV f) ∧ sval .f64 (sinV f) ≤ sval .f64 B
  | _, [], _, _, _, hn => absurd rfl hn
  | a, b :: r, h, h1, h2, _ => by
    unfold chkL2 at h
    rw [Bool.and_eq_true] at h
    by_cases hb : sval .f64 f ≤ sval .f64 b
    · exact chkS_ok h.1 ⟨hf, h1, hb⟩
    · cases r with
      | nil => exact absurd (by simpa using h2) hb
      | cons c r => exact chkL2_ok hf b (c :: r) h.2 (by omega) (by simpa using h2) (by simp)
def sinBr : List Nat := [0, 4594904303069379595, 4595959454710906853, 4596479206638990226, 4596794896758252039, 4597008936348559190, 4597164444587154059, 4597282966907313717, 4597376541755277106, 4597452452123506663, 4597515375365264397, 4597568459004808242, 4597613902175315392, 4597653289620195985, 4597687793313327661, 4597718299287778721, 4597745490244392654, 4597769900987890036, 4597791956603421337, 4597811999349678400, 4597830307986493581, 4597847111914913597, 4597862601688535462, 4597876936940578348, 4597890252440498429, 4597902662776757481, 4597914266016898709, 4597925146596935548, 4597935377623378116, 4597945022722936040, 4597954137540522743, 4597962770961348487, 4597970966114751995, 4597978761204031195, 4597986190196548866, 4597993283400872018, 4598000067951994584, 4598006568221320242, 4598012806164706939, 4598018801619249796, 4598024572557423907, 4598030135305588284, 4598035504732567279, 4598040694413000479, 4598045716769329447, 4598050583195626046, 4598055304165929051, 4598059889329317398, 4598064347593589652, 4598068687199124284, 4598072915784251847, 4598077040443268301, 4598081067778050721, 4598085003944096378, 4598088854691688585, 4598092625402793763, 4598096321124210812, 4598099946597423191, 4598103506285544202, 4598107004397694878, 4598110444911110387, 4598113831591233509, 4598117168010021801, 4598120457562667521, 4598123703482905746, 4598126908857065558, 4598130076637001595, 4598133209652027801, 4598136310619962010, 4598139382157378393, 4598142426789154770, 4598145446957393061, 4598148445029783544, 4598151423307477048, 4598154384032523392, 4598157329394929555, 4598160261539386662, 4598163182571711321, 4598166094565043651, 4598168999565841738, 4598171899599710100, 4598174796677097929, 4598175219545276416]
theorem sinBr_ok : chkL2 4607184220239868356 sinBr = true := by decide +kernel
end Go.Vx

namespace Go.Vx
open Ieee Go.RowKit
theorem sinV_in {f : Nat} (hf : Fn .f64 f) (h0 : 0 ≤ sval .f64 f) (h1 : sval .f64 f ≤ sval .f64 4598175219545276416) : Fn .f64 (sinV f) ∧ 0 ≤ sval .f64 (sinV f) ∧ sval .f64 (sinV f) ≤ sval .f64 4607184220239868356 :=
  chkL2_ok hf 0 sinBr.tail sinBr_ok (by rw [show sval .f64 0 = 0 from rfl]; exact h0) h1 (by decide)
theorem chk_zero : chkS 0 0 4503599627370496 = true := by decide +kernel
theorem frac_id {y : Nat} (hy : Fn .f64 y) (h0 : 0 ≤ sval .f64 y) (h1 : sval .f64 y < (U64 : Int)) : Fn .f64 (frac y) ∧ sval .f64 (frac y) = sval .f64 y := by
  obtain ⟨T, t1, t2, t3⟩ := trunc_val hy
  have hU : 0 < U64 := Nat.two_pow_pos W
  have hT : T = 0 := by
    rcases Nat.eq_zero_or_pos T with h | h
    · exact h
    · have : 1 * U64 ≤ T * U64 := Nat.mul_le_mul_right _ h
      omega
  have hz : truncZ y = 0 := by
    unfold truncZ
    rw [t1, hT]
    split <;> rfl
  obtain ⟨o1, o2⟩ := ofInt_val (T := 0) (by decide)
  rw [Int.zero_mul] at o2
  have h2 := sub_bd (k := .f64) (x := y) (y := ofInt .f64 0) (lo := y) (hi := y) hy o1 hy hy (by omega) (by omega)
  have e : frac0 y = farith .sub .f64 y (ofInt .f64 0) := by unfold frac0; rw [hz]
  rw [← e] at h2
  have hl : fcmp .lss .f64 (frac0 y) 0 = false := cmp_lt_not h2.1 (by decide) (by rw [show sval .f64 0 = 0 from rfl]; omega)
  rw [frac_pos hl] at h2
  exact ⟨h2.1, by omega⟩
theorem v_one : sval .f64 4604930618986332160 < (U64 : Int) := by decide +kernel
theorem v_q : 0 ≤ sval .f64 4598175219545276416 := by decide +kernel
theorem v_3q : sval .f64 4604930618986332160 - sval .f64 4602678819172646912 ≤ sval .f64 4598175219545276416 := by decide +kernel
theorem v_1q : sval .f64 4602678819172646912 - sval .f64 4598175219545276416 ≤ sval .f64 4598175219545276416 := by decide +kernel
theorem fneg_abs {x : Nat} (h : Fn .f64 x) : Fn .f64 (fneg .f64 x) ∧ (sval .f64 (fneg .f64 x) = sval .f64 x ∨ sval .f64 (fneg .f64 x) = -sval .f64 x) := by
  have hr := rg_neg .f64 x
  have hn : isN .f64 (Op.negFloat .f64 x) = false := by
    rw [notN_rg, hr]
    unfold Fn at h
    simp only [decide_eq_false_iff_not]
    omega
  unfold fneg
  rw [read_cn hn]
  exact ⟨by unfold Fn; rw [hr]; exact h, sval_abs hr⟩
theorem sinW_mid {y : Nat} (hy : Iv 4598175219545276416 4604930618986332160 y) : Fn .f64 (sinW y) ∧ -sval .f64 4607184220239868356 ≤ sval .f64 (sinW y) ∧ sval .f64 (sinW y) ≤ sval .f64 4607184220239868356 ∧ (sval .f64 y ≤ sval .f64 4602678819172646912 → -sval .f64 4503599627370496 ≤ sval .f64 (sinW y)) := by
  obtain ⟨y1, y2, y3⟩ := hy
  have hq := v_q
  obtain ⟨f1, f2⟩ := frac_id y1 (by omega) (Int.lt_of_le_of_lt y3 v_one)
  have ht : 0 ≤ sval .f64 4503599627370496 := by decide +kernel
  by_cases hc : sval .f64 4602678819172646912 ≤ sval .f64 y
  · have hg : fcmp .geq .f64 (frac y) 4602678819172646912 = true := by
      unfold fcmp
      rw [order_sval f1 (by decide), f2]
      rcases Int.lt_or_eq_of_le hc with h | h
      · rw [Int.compare_eq_gt.2 h]; rfl
      · rw [Int.compare_eq_eq.2 h.symm]; rfl
    have h3 := v_3q
    have hz := sub_bd (k := .f64) (x := frac y) (y := 4602678819172646912) (lo := 0) (hi := 4598175219545276416) f1 (by decide) (by decide) (by decide) (by rw [show sval .f64 0 = 0 from rfl]; omega) (by omega)
    rw [show sval .f64 0 = 0 from rfl] at hz
    have hz2 := cmp_gt_not (x := farith .sub .f64 (frac y) 4602678819172646912) hz.1 (by decide) hz.2.2
    rw [← sinW_t2 hg hz2]
    have hv := sinV_in hz.1 hz.2.1 hz.2.2
    obtain ⟨n1, n2⟩ := fneg_abs hv.1
    refine ⟨n1, by omega, by omega, fun hle => ?_⟩
    have hz3 := sub_bd (k := .f64) (x := frac y) (y := 4602678819172646912) (lo := 0) (hi := 0) f1 (by decide) (by decide) (by decide) (by rw [show sval .f64 0 = 0 from rfl]; omega) (by rw [show sval .f64 0 = 0 from rfl]; omega)
    have hs := chkS_ok chk_zero hz3
    omega
  · have hg : fcmp .geq .f64 (frac y) 4602678819172646912 = false := by
      unfold fcmp
      rw [order_sval f1 (by decide), f2, Int.compare_eq_lt.2 (by omega)]; rfl
    cases hk : fcmp .gtr .f64 (frac y) 4598175219545276416 with
    | true =>
      rw [← sinW_t3 hg hk]
      have h1 := v_1q
      have hz := sub_bd (k := .f64) (x := 4602678819172646912) (y := frac y) (lo := 0) (hi := 4598175219545276416) (by decide) f1 (by decide) (by decide) (by rw [show sval .f64 0 = 0 from rfl]; omega) (by omega)
      rw [show sval .f64 0 = 0 from rfl] at hz
      have hv := sinV_in hz.1 hz.2.1 hz.2.2
      exact ⟨hv.1, by omega, hv.2.2, fun _ => by omega⟩
    | false =>
      rw [← sinW_t4 hg hk]
      have hle : sval .f64 (frac y) ≤ sval .f64 4598175219545276416 := by
        refine Int.not_lt.1 fun h => ?_
        unfold fcmp at hk
        rw [order_sval f1 (by decide), Int.compare_eq_gt.2 h] at hk
        cases hk
      have hv := sinV_in f1 (by omega) hle
      exact ⟨hv.1, by omega, hv.2.2, fun _ => by omega⟩
theorem w_q : sval .f64 4598175219545276416 = sval .f32 1048576000 * wid := by decide +kernel
theorem w_h : sval .f64 4602678819172646912 = sval .f32 1056964608 * wid := by decide +kernel
theorem w_3q : sval .f64 4604930618986332160 = sval .f32 1061158912 * wid := by decide +kernel
theorem w_B : sval .f64 4607184220239868356 ≤ sval .f32 1065356739 * wid ∧ sval .f32 3212840387 * wid ≤ -sval .f64 4607184220239868356 ∧ sval .f32 3045064704 * wid ≤ -sval .f64 4503599627370496 := by decide +kernel
theorem sinN_mid {x : Nat} (hx : Jv 1048576000 1061158912 x) : Jv 3212840387 1065356739 (sinN x) ∧ (sval .f32 x ≤ sval .f32 1056964608 → Jv 3045064704 1065356739 (sinN x)) := by
  obtain ⟨x1, x2, x3⟩ := hx
  have hw : 0 ≤ wid := by unfold wid; exact Int.natCast_nonneg _
  obtain ⟨w1, w2⟩ := wide_val x1
  have a1 := Int.mul_le_mul_of_nonneg_right x2 hw
  have a2 := Int.mul_le_mul_of_nonneg_right x3 hw
  rw [← w_q, ← w2] at a1
  rw [← w_3q, ← w2] at a2
  obtain ⟨s1, s2, s3, s4⟩ := sinW_mid ⟨w1, a1, a2⟩
  have hbig : (fcmp .geq .f32 x 1501560832 || fcmp .leq .f32 x 3649044480) = false := by
    have hb : sval .f32 x < sval .f32 1501560832 := Int.lt_of_le_of_lt x3 (by decide +kernel)
    have hc : sval .f32 3649044480 < sval .f32 x := Int.lt_of_lt_of_le (by decide +kernel) x2
    unfold fcmp
    rw [order_sval x1 (by decide), order_sval x1 (by decide), Int.compare_eq_lt.2 hb, Int.compare_eq_gt.2 hc]
    rfl
  have hf : (!fin x) = false := by rw [fn_fin.1 x1]; rfl
  rw [← sinN_3 hf hbig]
  have hB := w_B
  refine ⟨(narrow_bd s1 (by decide) (by decide) (Int.le_trans hB.2.1 s2) (Int.le_trans s3 hB.1)).2, fun hle => ?_⟩
  have a3 := Int.mul_le_mul_of_nonneg_right hle hw
  rw [← w_h, ← w2] at a3
  exact (narrow_bd s1 (by decide) (by decide) (Int.le_trans hB.2.2 (s4 a3)) (Int.le_trans s3 hB.1)).2
end Go.Vx

namespace Go.Vx
open Ieee Go.RowKit
/-! ### Pulses of drawn throats -/
theorem c_oc : ∀ j : Nat, j < 4 → ∀ k : Nat, k < 4 → (Fn .f32 (farith .quo .f32 (ofInt .f32 (1 + (j : Int))) 1090519040) ∧ 0 < sval .f32 (farith .quo .f32 (ofInt .f32 (1 + (j : Int))) 1090519040)) ∧ Fn .f32 (farith .add .f32 (farith .quo .f32 (ofInt .f32 (1 + (j : Int))) 1090519040) (farith .quo .f32 (ofInt .f32 (1 + (k : Int))) 1090519040)) ∧ sval .f32 (farith .add .f32 (farith .quo .f32 (ofInt .f32 (1 + (j : Int))) 1090519040) (farith .quo .f32 (ofInt .f32 (1 + (k : Int))) 1090519040)) = sval .f32 (farith .quo .f32 (ofInt .f32 (1 + (j : Int))) 1090519040) + sval .f32 (farith .quo .f32 (ofInt .f32 (1 + (k : Int))) 1090519040) := by decide +kernel
theorem unit_q {x y : Nat} (hx : Fn .f32 x) (hy : Fn .f32 y) (h0 : 0 ≤ sval .f32 x) (hp : 0 < sval .f32 y) (h : sval .f32 x ≤ sval .f32 y) : Jv 0 1065353216 (farith .quo .f32 x y) := by
  have h1 : 0 ≤ one_ .f32 := by unfold one_; exact Int.natCast_nonneg _
  refine div_bd hx hy hp (by decide) (by decide) ?_ ?_
  · rw [show sval .f32 0 = 0 from rfl, Int.zero_mul]; exact Int.mul_nonneg h0 h1
  · rw [one_32, Int.mul_comm (one_ .f32)]; exact Int.mul_le_mul_of_nonneg_right h h1
theorem part_q {c x : Nat} (hc : Fn .f32 c) (h0 : 0 ≤ sval .f32 c) (hx : Jv 0 1065353216 x) : Jv 0 c (farith .mul .f32 c x) := by
  obtain ⟨x1, x2, x3⟩ := hx
  rw [show sval .f32 0 = 0 from rfl] at x2
  rw [one_32] at x3
  refine mul_bd hc x1 (by decide) hc ?_ ?_
  · rw [show sval .f32 0 = 0 from rfl, Int.zero_mul]; exact Int.mul_nonneg h0 x2
  · exact Int.mul_le_mul_of_nonneg_left x3 h0
theorem v_qh : sval .f32 1048576000 ≤ sval .f32 0 + sval .f32 1048576000 ∧ sval .f32 1056964608 + sval .f32 1048576000 ≤ sval .f32 1061158912 ∧ sval .f32 1048576000 + sval .f32 1048576000 ≤ sval .f32 1056964608 ∧ 0 ≤ sval .f32 1056964608 ∧ 0 ≤ sval .f32 1048576000 ∧ sval .f32 1056964608 ≤ sval .f32 1061158912 := by decide +kernel
theorem v_pa : sval .f32 3118559647 ≤ sval .f32 1065353216 - sval .f32 1065356739 ∧ sval .f32 1065353216 - sval .f32 3212840387 ≤ sval .f32 1073743921 ∧ sval .f32 3110514637 * one_ .f32 ≤ sval .f32 1056964608 * sval .f32 3118559647 ∧ sval .f32 1056964608 * sval .f32 1073743921 ≤ sval .f32 1065356739 * one_ .f32 ∧ sval .f32 3110514637 ≤ sval .f32 3045064704 ∧ sval .f32 3110514637 ≤ sval .f32 0 ∧ sval .f32 0 ≤ sval .f32 1065356739 := by decide +kernel
theorem pulse_jv {c : ThC} (h : c.Ok) {ph : Nat} (hp : phase ph = true) : Jv 3110514637 1065356739 (pulse c.o c.cl ph) := by
  have hq := v_qh
  have ha := v_pa
  obtain ⟨⟨o1, o2⟩, s1, s2⟩ := c_oc c.j h.2.1 c.k h.2.2.1
  have hk := (c_oc c.k h.2.2.1 c.j h.2.1).1
  change Fn .f32 c.o at o1
  change 0 < sval .f32 c.o at o2
  change Fn .f32 (farith .add .f32 c.o c.cl) at s1
  change sval .f32 (farith .add .f32 c.o c.cl) = sval .f32 c.o + sval .f32 c.cl at s2
  change Fn .f32 c.cl ∧ 0 < sval .f32 c.cl at hk
  unfold phase at hp
  rw [Bool.and_eq_true] at hp
  have f0 : Fn .f32 ph := fn_between (lo := 0) (hi := 1065353216) (by decide) (by decide) hp.1 (by
    show (FloatKind.f32.format.order ph 1065353216 == some .lt || FloatKind.f32.format.order ph 1065353216 == some .eq) = true
    rw [show (FloatKind.f32.format.order ph 1065353216 == some .lt) = true from hp.2]; rfl)
  have g0 : 0 ≤ sval .f32 ph := by have := cmp_ge f0 (by decide) hp.1; rwa [show sval .f32 0 = 0 from rfl] at this
  unfold pulse
  split
  · rename_i hl
    have hle := lss_le f0 o1 hl
    have q1 := unit_q f0 o1 g0 o2 hle
    have q2 := part_q (c := 1056964608) (by decide) hq.2.2.2.1 q1
    have q3 : Jv 1048576000 1061158912 (farith .add .f32 (farith .mul .f32 1056964608 (farith .quo .f32 ph c.o)) 1048576000) := q2.add (c := 1048576000) (d := 1048576000) ⟨by decide, Int.le_refl _, Int.le_refl _⟩ (by decide) (by decide) hq.1 hq.2.1
    have q4 := (sinN_mid q3).1
    have q5 : Jv 3118559647 1073743921 (farith .sub .f32 1065353216 (sinN (farith .add .f32 (farith .mul .f32 1056964608 (farith .quo .f32 ph c.o)) 1048576000))) := Jv.sub (a := 1065353216) (b := 1065353216) ⟨by decide, Int.le_refl _, Int.le_refl _⟩ q4 (by decide) (by decide) ha.1 ha.2.1
    obtain ⟨z1, z2, z3⟩ := q5
    unfold pulA
    exact mul_bd (by decide) z1 (by decide) (by decide) (Int.le_trans ha.2.2.1 (Int.mul_le_mul_of_nonneg_left z2 hq.2.2.2.1)) (Int.le_trans (Int.mul_le_mul_of_nonneg_left z3 hq.2.2.2.1) ha.2.2.2.1)
  · rename_i hl
    have hge : sval .f32 c.o ≤ sval .f32 ph := by
      refine Int.not_lt.1 fun hlt => hl ?_
      unfold fcmp
      rw [order_sval f0 o1, Int.compare_eq_lt.2 hlt]; rfl
    split
    · rename_i hl2
      have hle := lss_le f0 s1 hl2
      have d1 : Jv 0 c.cl (farith .sub .f32 ph c.o) := sub_bd f0 o1 (by decide) hk.1 (by rw [show sval .f32 0 = 0 from rfl]; omega) (by omega)
      have q1 := unit_q d1.1 hk.1 (by have := d1.2.1; rwa [show sval .f32 0 = 0 from rfl] at this) hk.2 d1.2.2
      have q2 := part_q (c := 1048576000) (by decide) hq.2.2.2.2.1 q1
      have q3 : Jv 1048576000 1056964608 (farith .add .f32 (farith .mul .f32 1048576000 (farith .quo .f32 (farith .sub .f32 ph c.o) c.cl)) 1048576000) := q2.add (c := 1048576000) (d := 1048576000) ⟨by decide, Int.le_refl _, Int.le_refl _⟩ (by decide) (by decide) hq.1 hq.2.2.1
      exact ((sinN_mid (q3.mono (Int.le_refl _) hq.2.2.2.2.2)).2 q3.2.2).mono ha.2.2.2.2.1 (Int.le_refl _)
    · exact ⟨by decide, ha.2.2.2.2.2.1, ha.2.2.2.2.2.2⟩
theorem pul_fin {c : ThC} (h : c.Ok) {ph : Nat} (hp : phase ph = true) : fin (pulse c.o c.cl ph) = true := (pulse_jv h hp).fin
end Go.Vx

namespace Go.Vx
open Ieee Go.RowKit
theorem out_jv {c : ThC} (h : c.Ok) {q n : Nat} {s : Int} (hv : voiceV q n s = true) : fin (outN c.o c.cl c.br q s) = true := by
  have hp := pulse_jv h (vol_phase hv)
  have hu := drawU_bd (seedOf hv)
  have e1 : sval .f32 3212840387 = -sval .f32 1065356739 := by decide +kernel
  have e2 : sval .f32 3212840387 ≤ sval .f32 3110514637 := by decide +kernel
  have hp2 : Jv 3212840387 1065356739 (pulse c.o c.cl q) := hp.mono e2 (Int.le_refl _)
  have ht : Jv 3212840387 1065356739 (farith .mul .f32 (drawU s) (pulse c.o c.cl q)) := hu.mul hp2 v_neg1 e1 e1 (by decide) (by decide) (by decide +kernel)
  have key : ∀ l : Nat, l < 5 → Fn .f32 (farith .quo .f32 (ofInt .f32 (l : Int)) 1090519040) ∧ sval .f32 3212836864 ≤ sval .f32 (farith .quo .f32 (ofInt .f32 (l : Int)) 1090519040) ∧ sval .f32 (farith .quo .f32 (ofInt .f32 (l : Int)) 1090519040) ≤ sval .f32 1065353216 := by decide +kernel
  have hb : Jv 3212836864 1065353216 c.br := key _ h.2.2.2.1
  have ht2 : Jv 3212840387 1065356739 (farith .mul .f32 c.br (farith .mul .f32 (drawU s) (pulse c.o c.cl q))) := hb.mul ht v_neg1 e1 e1 (by decide) (by decide) (by decide +kernel)
  have ho : Jv 3229614080 1082130432 (outN c.o c.cl c.br q s) := hp2.add ht2 (by decide) (by decide) (by decide +kernel) (by decide +kernel)
  exact ho.fin
/-! A grid of parts of 4096 -/
def gz (z : Int) : Nat := farith .quo .f32 (ofInt .f32 z) 1166016512
def S37 : Int := ((2 ^ 137 : Nat) : Int)
theorem gz_p0 : ((List.range 1600).all fun k => decide (Fn .f32 (gz (k : Int)) ∧ sval .f32 (gz (k : Int)) = (k : Int) * S37)) = true := by decide +kernel
theorem gz_p1 : ((List.range 1600).all fun k => decide (Fn .f32 (gz ((1600 + k : Nat) : Int)) ∧ sval .f32 (gz ((1600 + k : Nat) : Int)) = ((1600 + k : Nat) : Int) * S37)) = true := by decide +kernel
theorem gz_p2 : ((List.range 1600).all fun k => decide (Fn .f32 (gz ((3200 + k : Nat) : Int)) ∧ sval .f32 (gz ((3200 + k : Nat) : Int)) = ((3200 + k : Nat) : Int) * S37)) = true := by decide +kernel
theorem gz_p3 : ((List.range 1600).all fun k => decide (Fn .f32 (gz ((4800 + k : Nat) : Int)) ∧ sval .f32 (gz ((4800 + k : Nat) : Int)) = ((4800 + k : Nat) : Int) * S37)) = true := by decide +kernel
theorem gz_n0 : ((List.range 1600).all fun k => decide (Fn .f32 (gz (-(k : Int))) ∧ sval .f32 (gz (-(k : Int))) = -(k : Int) * S37)) = true := by decide +kernel
theorem gz_n1 : ((List.range 1600).all fun k => decide (Fn .f32 (gz (-((1600 + k : Nat) : Int))) ∧ sval .f32 (gz (-((1600 + k : Nat) : Int))) = -((1600 + k : Nat) : Int) * S37)) = true := by decide +kernel
theorem gz_n2 : ((List.range 1600).all fun k => decide (Fn .f32 (gz (-((3200 + k : Nat) : Int))) ∧ sval .f32 (gz (-((3200 + k : Nat) : Int))) = -((3200 + k : Nat) : Int) * S37)) = true := by decide +kernel
theorem gz_val {z : Int} (h1 : -4700 ≤ z) (h2 : z ≤ 6300) : Fn .f32 (gz z) ∧ sval .f32 (gz z) = z * S37 := by
  have key : ∀ (b : Nat) (f : Nat → Int), ((List.range 1600).all fun k => decide (Fn .f32 (gz (f (b + k))) ∧ sval .f32 (gz (f (b + k))) = f (b + k) * S37)) = true → ∀ k, k < 1600 → z = f (b + k) → Fn .f32 (gz z) ∧ sval .f32 (gz z) = z * S37 := fun b f h k hk e => by
    rw [List.all_eq_true] at h
    have := of_decide_eq_true (h k (List.mem_range.2 hk))
    rw [e]; exact this
  by_cases hz : 0 ≤ z
  · obtain ⟨k, rfl⟩ : ∃ k : Nat, z = (k : Int) := ⟨z.toNat, by omega⟩
    rcases Nat.lt_or_ge k 1600 with h | h
    · exact key 0 (fun k => (k : Int)) (by simpa using gz_p0) k h (by simp)
    rcases Nat.lt_or_ge k 3200 with h' | h'
    · exact key 1600 (fun k => (k : Int)) gz_p1 (k - 1600) (by omega) (by omega)
    rcases Nat.lt_or_ge k 4800 with h'' | h''
    · exact key 3200 (fun k => (k : Int)) gz_p2 (k - 3200) (by omega) (by omega)
    · exact key 4800 (fun k => (k : Int)) gz_p3 (k - 4800) (by omega) (by omega)
  · obtain ⟨k, rfl⟩ : ∃ k : Nat, z = -(k : Int) := ⟨(-z).toNat, by omega⟩
    rcases Nat.lt_or_ge k 1600 with h | h
    · exact key 0 (fun k => -(k : Int)) (by simpa using gz_n0) k h (by simp)
    rcases Nat.lt_or_ge k 3200 with h' | h'
    · exact key 1600 (fun k => -(k : Int)) gz_n1 (k - 1600) (by omega) (by omega)
    · exact key 3200 (fun k => -(k : Int)) gz_n2 (k - 3200) (by omega) (by omega)
end Go.Vx

namespace Go.Vx
open Ieee Go.RowKit
theorem sq_le {a b S : Int} (h : a ≤ b) (hS : 0 ≤ S) : a * (512 * S * S) ≤ b * (512 * S * S) := Int.mul_le_mul_of_nonneg_right h (Int.mul_nonneg (Int.mul_nonneg (by decide) hS) hS)
theorem acA (x S w y z : Int) : x * S * w * (z * y * S * w) = z * x * S * (y * S * w * w) := by ac_rfl
theorem acB (l y S w v : Int) : l * (y * S) * w * (v * w) = l * v * (y * S * w * w) := by ac_rfl
theorem one_S : one_ .f32 = 4096 * S37 := by decide +kernel
theorem one_SW : one_ .f64 = 4096 * S37 * wid := by decide +kernel
theorem S37_pos : 0 < S37 := by decide +kernel
theorem p_lo : -(1 * S37) ≤ sval .f32 3110514637 := by decide +kernel
theorem p_hi : sval .f32 1065356739 < 4099 * S37 := by decide +kernel
theorem br_val : ∀ l : Nat, l < 5 → Fn .f32 (farith .quo .f32 (ofInt .f32 (l : Int)) 1090519040) ∧ Fn .f32 (fneg .f32 (farith .quo .f32 (ofInt .f32 (l : Int)) 1090519040)) ∧ sval .f32 (farith .quo .f32 (ofInt .f32 (l : Int)) 1090519040) = (l : Int) * (512 * S37) ∧ sval .f32 (fneg .f32 (farith .quo .f32 (ofInt .f32 (l : Int)) 1090519040)) = -((l : Int) * (512 * S37)) := by decide +kernel
theorem milli : 4 * S37 * wid ≤ sval .f64 4562254508917369340 ∧ sval .f64 4562254508917369340 ≤ 5 * S37 * wid := by decide +kernel
/-- Breath is no more than told. -/
theorem breath_ok {c : ThC} (h : c.Ok) {q n : Nat} {s : Int} (hv : voiceV q n s = true) : fcmp .gtr .f64 (gapW (conv .f32 .f64 (outN c.o c.cl c.br q s)) (conv .f32 .f64 (pulse c.o c.cl q))) (farith .add .f64 (farith .mul .f64 (conv .f32 .f64 c.br) (conv .f32 .f64 (pulse c.o c.cl q))) 4562254508917369340) = false := by
  obtain ⟨p1, p2, p3⟩ := pulse_jv h (vol_phase hv)
  have hu := drawU_bd (seedOf hv)
  obtain ⟨b1, b2, b3, b4⟩ := br_val c.l h.2.2.2.1
  have hl := h.2.2.2.1
  change Fn .f32 c.br at b1
  change Fn .f32 (fneg .f32 c.br) at b2
  change sval .f32 c.br = _ at b3
  change sval .f32 (fneg .f32 c.br) = _ at b4
  have e1 : one_ .f32 = 4096 * S37 := one_S
  have e2 := one_SW
  have hS := S37_pos
  have q1 := p_lo
  have q2 := p_hi
  have hm := milli
  have hw : 0 ≤ wid := by unfold wid; exact Int.natCast_nonneg _
  have gv : ∀ {z : Int}, -4700 ≤ z → z ≤ 6300 → Fn .f32 (gz z) ∧ sval .f32 (gz z) = z * S37 := fun h1 h2 => gz_val h1 h2
  have o1 := one_32
  unfold outN
  generalize pulse c.o c.cl q = p at *
  generalize drawU s = u at *
  generalize c.br = b at *
  generalize c.l = l at *
  generalize S37 = S at *
  -- where the pulse lies on the grid
  obtain ⟨i, i1, i2⟩ : ∃ i : Int, i * S ≤ sval .f32 p ∧ sval .f32 p < (i + 1) * S := ⟨sval .f32 p / S, Int.ediv_mul_le _ (by omega), Int.lt_ediv_add_one_mul_self _ hS⟩
  have j1 : -1 ≤ i := by
    refine Int.not_lt.1 fun hlt => ?_
    have : (i + 1) * S ≤ (-1) * S := Int.mul_le_mul_of_nonneg_right (by omega) (by omega)
    omega
  have j2 : i ≤ 4098 := by
    refine Int.not_lt.1 fun hlt => ?_
    have : 4099 * S ≤ i * S := Int.mul_le_mul_of_nonneg_right (by omega) (by omega)
    omega
  obtain ⟨K1, hK1⟩ : ∃ K : Int, K = max (i + 1) 1 := ⟨_, rfl⟩
  obtain ⟨K2, hK2⟩ : ∃ K : Int, K = ((l : Int) * K1 + 7) / 8 := ⟨_, rfl⟩
  obtain ⟨K3, hK3⟩ : ∃ K : Int, K = ((l : Int) * i) / 8 := ⟨_, rfl⟩
  have hlK : (l : Int) * K1 ≤ 8 * K2 ∧ 0 ≤ K2 ∧ K2 ≤ 2052 ∧ 8 * K3 ≤ (l : Int) * i ∧ -1 ≤ K3 ∧ K3 ≤ 2050 ∧ 1 + K2 ≤ K3 + 4 := by
    have : l = 0 ∨ l = 1 ∨ l = 2 ∨ l = 3 ∨ l = 4 := by omega
    rcases this with rfl | rfl | rfl | rfl | rfl <;> omega
  obtain ⟨k1, k2, k3, k4, k5, k6, k7⟩ := hlK
  obtain ⟨g1, g1v⟩ := gv (z := K1) (by omega) (by omega)
  obtain ⟨n1, n1v⟩ := gv (z := -K1) (by omega) (by omega)
  obtain ⟨g2, g2v⟩ := gv (z := K2) (by omega) (by omega)
  obtain ⟨n2, n2v⟩ := gv (z := -K2) (by omega) (by omega)
  obtain ⟨g3, g3v⟩ := gv (z := i - K2) (by omega) (by omega)
  obtain ⟨g4, g4v⟩ := gv (z := i + 1 + K2) (by omega) (by omega)
  obtain ⟨g5, g5v⟩ := gv (z := 1 + K2) (by omega) (by omega)
  obtain ⟨n5, n5v⟩ := gv (z := -(1 + K2)) (by omega) (by omega)
  obtain ⟨g6, g6v⟩ := gv (z := K3) (by omega) (by omega)
  obtain ⟨g7, g7v⟩ := gv (z := K3 + 4) (by omega) (by omega)
  obtain ⟨g8, g8v⟩ := gv (z := 6000) (by omega) (by omega)
  obtain ⟨g9, g9v⟩ := gv (z := 6100) (by omega) (by omega)
  have m1 : (i + 1) * S ≤ K1 * S := Int.mul_le_mul_of_nonneg_right (by omega) (by omega)
  have m2 : (-K1) * S ≤ i * S := Int.mul_le_mul_of_nonneg_right (by omega) (by omega)
  have hp : Jv (gz (-K1)) (gz K1) p := ⟨p1, by omega, by omega⟩
  have ht1 : Jv (gz (-K1)) (gz K1) (farith .mul .f32 u p) := hu.mul hp v_neg1 (by rw [n1v, g1v, Int.neg_mul]) (by rw [n1v, g1v, Int.neg_mul]) n1 g1 (by rw [o1, Int.mul_comm]; exact Int.le_refl _)
  have hb : Jv (fneg .f32 b) b b := ⟨b1, by rw [b3, b4]; have := Int.mul_nonneg (Int.natCast_nonneg l) (show 0 ≤ 512 * S by omega); omega, Int.le_refl _⟩
  have ht2 : Jv (gz (-K2)) (gz K2) (farith .mul .f32 b (farith .mul .f32 u p)) := hb.mul ht1 (by rw [b3, b4]) (by rw [n1v, g1v, Int.neg_mul]) (by rw [n2v, g2v, Int.neg_mul]) n2 g2 (by
    rw [b3, g1v, g2v, e1, show (l : Int) * (512 * S) * (K1 * S) = (l : Int) * K1 * (512 * S * S) by ac_rfl, show K2 * S * (4096 * S) = 8 * K2 * (512 * S * S) by rw [show (4096 : Int) = 8 * 512 from rfl]; ac_rfl]
    exact sq_le k1 (by omega))
  generalize hT : farith .mul .f32 b (farith .mul .f32 u p) = t2 at *
  obtain ⟨t1, t3, t4⟩ := ht2
  rw [n2v, Int.neg_mul] at t3
  rw [g2v] at t4
  have x1 : (i - K2) * S = i * S - K2 * S := Int.sub_mul ..
  have x2 : (i + 1 + K2) * S = (i + 1) * S + K2 * S := Int.add_mul ..
  have x3 : (1 + K2) * S = S + K2 * S := by rw [Int.add_mul, Int.one_mul]
  have x4 : (i + 1) * S = i * S + S := by rw [Int.add_mul, Int.one_mul]
  obtain ⟨r1, r2, r3⟩ := add_bd (k := .f32) p1 t1 g3 g4 (by rw [g3v]; omega) (by rw [g4v]; omega)
  rw [g3v] at r2
  rw [g4v] at r3
  generalize farith .add .f32 p t2 = r at *
  obtain ⟨wp1, wp2⟩ := wide_val p1
  obtain ⟨wr1, wr2⟩ := wide_val r1
  obtain ⟨wb1, wb2⟩ := wide_val b1
  obtain ⟨w51, w52⟩ := wide_val g5
  obtain ⟨v51, v52⟩ := wide_val n5
  obtain ⟨w61, w62⟩ := wide_val g6
  obtain ⟨w71, w72⟩ := wide_val g7
  obtain ⟨w81, w82⟩ := wide_val g8
  obtain ⟨w91, w92⟩ := wide_val g9
  rw [g5v] at w52
  rw [n5v, Int.neg_mul, Int.neg_mul] at v52
  rw [g6v] at w62
  rw [g7v] at w72
  rw [g8v] at w82
  rw [g9v] at w92
  -- the difference
  have d1 : (sval .f32 r - sval .f32 p) * wid ≤ (1 + K2) * S * wid := Int.mul_le_mul_of_nonneg_right (by omega) hw
  have d2 : (sval .f32 p - sval .f32 r) * wid ≤ (1 + K2) * S * wid := Int.mul_le_mul_of_nonneg_right (by omega) hw
  rw [Int.sub_mul] at d1 d2
  have hgap : Fn .f64 (gapW (conv .f32 .f64 r) (conv .f32 .f64 p)) ∧ sval .f64 (gapW (conv .f32 .f64 r) (conv .f32 .f64 p)) ≤ (1 + K2) * S * wid := by
    unfold gapW
    split
    · have := sub_bd (k := .f64) wp1 wr1 v51 w51 (by rw [v52, wp2, wr2]; omega) (by rw [w52, wp2, wr2]; omega)
      rw [w52] at this
      exact ⟨this.1, this.2.2⟩
    · have := sub_bd (k := .f64) wr1 wp1 v51 w51 (by rw [v52, wp2, wr2]; omega) (by rw [w52, wp2, wr2]; omega)
      rw [w52] at this
      exact ⟨this.1, this.2.2⟩
  -- what is told
  have hlp : (l : Int) * (i * S) ≤ (l : Int) * sval .f32 p := Int.mul_le_mul_of_nonneg_left i1 (Int.natCast_nonneg l)
  have hlp2 : (l : Int) * sval .f32 p ≤ (l : Int) * ((i + 1) * S) := Int.mul_le_mul_of_nonneg_left (Int.le_of_lt i2) (Int.natCast_nonneg l)
  have hk3 : 8 * K3 * S ≤ (l : Int) * i * S := Int.mul_le_mul_of_nonneg_right k4 (by omega)
  have hk8 : (l : Int) * (i + 1) * S ≤ 48000 * S := Int.mul_le_mul_of_nonneg_right (by
    have : l = 0 ∨ l = 1 ∨ l = 2 ∨ l = 3 ∨ l = 4 := by omega
    rcases this with rfl | rfl | rfl | rfl | rfl <;> omega) (by omega)
  rw [← Int.mul_assoc] at hlp hlp2
  have hZ : 0 ≤ 512 * S * wid * wid := Int.mul_nonneg (Int.mul_nonneg (by omega) hw) hw
  have c1 := Int.mul_le_mul_of_nonneg_right (Int.le_trans hk3 hlp) hZ
  have c2 := Int.mul_le_mul_of_nonneg_right (Int.le_trans hlp2 hk8) hZ
  have hmul := mul_bd (k := .f64) wb1 wp1 w61 w81 (by
    rw [w62, e2, wb2, wp2, b3, show (4096 : Int) = 8 * 512 from rfl, acA K3 S wid 512 8, acB (l : Int) 512 S wid (sval .f32 p)]
    exact c1) (by
    rw [w82, e2, wb2, wp2, b3, show (4096 : Int) = 8 * 512 from rfl, acA 6000 S wid 512 8, acB (l : Int) 512 S wid (sval .f32 p)]
    exact c2)
  rw [w62, w82] at hmul
  have y1 : (K3 + 4) * S * wid = K3 * S * wid + 4 * S * wid := by rw [Int.add_mul, Int.add_mul]
  have y2 : 6100 * S * wid = 6000 * S * wid + 100 * S * wid := by rw [show (6100 : Int) = 6000 + 100 from rfl, Int.add_mul, Int.add_mul]
  have y3 : 5 * S * wid ≤ 100 * S * wid := Int.mul_le_mul_of_nonneg_right (by omega) hw
  have hadd := add_bd (k := .f64) (y := 4562254508917369340) hmul.1 (by decide) w71 w91 (by rw [w72, y1]; omega) (by rw [w92, y2]; omega)
  rw [w72] at hadd
  refine cmp_gt_not hgap.1 hadd.1 (Int.le_trans hgap.2 (Int.le_trans ?_ hadd.2.1))
  exact Int.mul_le_mul_of_nonneg_right (Int.mul_le_mul_of_nonneg_right k7 (by omega)) hw
end Go.Vx

namespace Go.Vx
open Ieee Go.RowKit
def pT (i : Nat) : Nat := farith .quo .f32 (ofInt .f32 (4 + (i : Int))) 1073741824
def hT (m : Nat) : Nat := farith .quo .f32 (ofInt .f32 (m : Int)) 1098907648
def loT (i m : Nat) : Nat := farith .mul .f32 (pT i) (farith .sub .f32 1065353216 (hT m))
def hiT (i m : Nat) : Nat := farith .mul .f32 (pT i) (farith .add .f32 1065353216 (hT m))
def gT (i m : Nat) : Nat := farith .mul .f64 (conv .f32 .f64 (hT m)) (conv .f32 .f64 (pT i))
theorem n_h : ∀ m : Nat, m < 5 → Fn .f32 (hT m) ∧ Fn .f32 (fneg .f32 (hT m)) ∧ sval .f32 (fneg .f32 (hT m)) = -sval .f32 (hT m) ∧ 0 ≤ sval .f32 (hT m) ∧ Fn .f32 (farith .sub .f32 1065353216 (hT m)) ∧ Fn .f32 (farith .add .f32 1065353216 (hT m)) ∧ sval .f32 (farith .sub .f32 1065353216 (hT m)) = sval .f32 1065353216 - sval .f32 (hT m) ∧ sval .f32 (farith .add .f32 1065353216 (hT m)) = sval .f32 1065353216 + sval .f32 (hT m) := by decide +kernel
theorem n_p : ∀ i : Nat, i < 33 → ∀ m : Nat, m < 5 → Fn .f32 (pT i) ∧ 0 ≤ sval .f32 (pT i) ∧ Fn .f32 (loT i m) ∧ Fn .f32 (hiT i m) ∧ sval .f32 (loT i m) * one_ .f32 ≤ sval .f32 (pT i) * sval .f32 (farith .sub .f32 1065353216 (hT m)) ∧ sval .f32 (pT i) * sval .f32 (farith .add .f32 1065353216 (hT m)) ≤ sval .f32 (hiT i m) * one_ .f32 := by decide +kernel
theorem n_g : ∀ i : Nat, i < 33 → ∀ m : Nat, m < 5 → Fn .f64 (gT i m) ∧ Fn .f64 (fneg .f64 (gT i m)) ∧ sval .f64 (fneg .f64 (gT i m)) = -sval .f64 (gT i m) ∧ sval .f64 (conv .f32 .f64 (hiT i m)) - sval .f64 (conv .f32 .f64 (pT i)) ≤ sval .f64 (gT i m) ∧ sval .f64 (conv .f32 .f64 (pT i)) - sval .f64 (conv .f32 .f64 (loT i m)) ≤ sval .f64 (gT i m) ∧ Fn .f64 (farith .add .f64 (gT i m) 4562254508917369340) ∧ sval .f64 (gT i m) ≤ sval .f64 (farith .add .f64 (gT i m) 4562254508917369340) := by decide +kernel
theorem n_0 : ∀ i : Nat, i < 33 → ∀ m : Nat, m < 5 → fcmp .gtr .f64 (gapW (conv .f32 .f64 (pT i)) (conv .f32 .f64 (pT i))) (farith .add .f64 (gT i m) 4562254508917369340) = false := by decide +kernel
def NowOk (c : ThC) (n : Nat) : Prop := n = c.p ∨ ∃ s : Int, (0 ≤ s ∧ s ≤ 2147483647) ∧ n = nowN c.p c.sh s
theorem vst_now {c : ThC} (h : c.Ok) {s : Int} (hs : 0 ≤ s ∧ s ≤ 2147483647) : ∀ k, NowOk c (vst c.p c.sh 0 c.p s k).2.1
  | 0 => .inl rfl
  | k + 1 => by
    have ih := vst_now h hs k
    have hv := vst_valid (th_ok h) (th_p h hs) k
    show NowOk c (stN c.p c.sh (vst c.p c.sh 0 c.p s k).1 (vst c.p c.sh 0 c.p s k).2.1 (vst c.p c.sh 0 c.p s k).2.2)
    unfold stN
    split
    · exact .inr ⟨_, nextS_in (seedOf hv), rfl⟩
    · exact ih
theorem now_ok {c : ThC} (h : c.Ok) {n : Nat} (hn : NowOk c n) : (fcmp .gtr .f64 (gapW (conv .f32 .f64 n) (conv .f32 .f64 c.p)) (farith .add .f64 (farith .mul .f64 (conv .f32 .f64 c.sh) (conv .f32 .f64 c.p)) 4562254508917369340) && fcmp .neq .f32 n 1065353216) = false := by
  obtain ⟨hi, _, _, _, hm⟩ := h
  change (fcmp .gtr .f64 (gapW (conv .f32 .f64 n) (conv .f32 .f64 (pT c.i))) (farith .add .f64 (gT c.i c.m) 4562254508917369340) && fcmp .neq .f32 n 1065353216) = false
  rcases hn with rfl | ⟨s, hs, rfl⟩
  · have := n_0 _ hi _ hm
    change (fcmp .gtr .f64 (gapW (conv .f32 .f64 (pT c.i)) (conv .f32 .f64 (pT c.i))) (farith .add .f64 (gT c.i c.m) 4562254508917369340) && _) = false
    rw [this]; rfl
  · unfold nowN
    split
    · have : fcmp .neq .f32 1065353216 1065353216 = false := by decide +kernel
      rw [this, Bool.and_false]
    · have hu := drawU_bd hs
      obtain ⟨a1, a2, a3, a4, a5, a6, a7, a8⟩ := n_h _ hm
      obtain ⟨b1, b2, b3, b4, b5, b6⟩ := n_p _ hi _ hm
      obtain ⟨g1, g2, g3, g4, g5, g6, g7⟩ := n_g _ hi _ hm
      have o1 := one_32
      have hone : 0 ≤ one_ .f32 := by unfold one_; exact Int.natCast_nonneg _
      have ht : Jv (fneg .f32 (hT c.m)) (hT c.m) (farith .mul .f32 (hT c.m) (drawU s)) := Jv.mul (a := hT c.m) (na := fneg .f32 (hT c.m)) ⟨a1, by omega, Int.le_refl _⟩ hu a3 v_neg1 a3 a2 a1 (by rw [o1]; exact Int.le_refl _)
      have ha : Jv (farith .sub .f32 1065353216 (hT c.m)) (farith .add .f32 1065353216 (hT c.m)) (farith .add .f32 1065353216 (farith .mul .f32 (hT c.m) (drawU s))) := add_bd (by decide) ht.1 a5 a6 (by rw [a7]; have := ht.2.1; rw [a3] at this; omega) (by rw [a8]; have := ht.2.2; omega)
      have hv : Jv (loT c.i c.m) (hiT c.i c.m) (nowV c.p c.sh s) := mul_bd b1 ha.1 b3 b4 (Int.le_trans b5 (Int.mul_le_mul_of_nonneg_left ha.2.1 b2)) (Int.le_trans (Int.mul_le_mul_of_nonneg_left ha.2.2 b2) b6)
      generalize nowV c.p c.sh s = v at *
      have hw : 0 ≤ wid := by unfold wid; exact Int.natCast_nonneg _
      obtain ⟨w1, w2⟩ := wide_val hv.1
      obtain ⟨p1, p2⟩ := wide_val b1
      obtain ⟨l1, l2⟩ := wide_val b3
      obtain ⟨u1, u2⟩ := wide_val b4
      have m1 := Int.mul_le_mul_of_nonneg_right hv.2.1 hw
      have m2 := Int.mul_le_mul_of_nonneg_right hv.2.2 hw
      rw [← l2, ← w2] at m1
      rw [← u2, ← w2] at m2
      have hg : Fn .f64 (gapW (conv .f32 .f64 v) (conv .f32 .f64 (pT c.i))) ∧ sval .f64 (gapW (conv .f32 .f64 v) (conv .f32 .f64 (pT c.i))) ≤ sval .f64 (gT c.i c.m) := by
        unfold gapW
        split
        · have := sub_bd (k := .f64) p1 w1 g2 g1 (by rw [g3]; omega) (by omega)
          exact ⟨this.1, this.2.2⟩
        · have := sub_bd (k := .f64) w1 p1 g2 g1 (by rw [g3]; omega) (by omega)
          exact ⟨this.1, this.2.2⟩
      rw [cmp_gt_not hg.1 g6 (Int.le_trans hg.2 g7)]; rfl
theorem out_fin {c : ThC} (h : c.Ok) {q n : Nat} {s : Int} (hv : voiceV q n s = true) : fin (outN c.o c.cl c.br q s) = true := out_jv h hv
theorem pul_ok {c : ThC} (h : c.Ok) {ph : Nat} (hp : phase ph = true) : ((throatI c.p c.o c.cl c.br c.sh && phase ph) && fin (pulse c.o c.cl ph)) = true := by rw [th_ok h, hp, pul_fin h hp]; rfl
theorem stp_ok {c : ThC} (h : c.Ok) {q n : Nat} {s : Int} (hv : voiceV q n s = true) : ((throatI c.p c.o c.cl c.br c.sh && voiceV q n s) && fin (outN c.o c.cl c.br q s)) = true := by rw [th_ok h, hv, out_fin h hv]; rfl
theorem run_ok {c : ThC} (h : c.Ok) {q n : Nat} {s m : Int} (hv : voiceV q n s = true) (hm : 0 ≤ m ∧ m ≤ 256) : runB c.p c.o c.cl c.br c.sh q n s m = true :=
  run_yes ⟨th_ok h, hv⟩ hm fun j _ => out_fin h (vst_valid (th_ok h) hv j)
theorem voice_c2 {c : ThC} (h : c.Ok) {s : Int} (hs : 0 ≤ s ∧ s ≤ 2147483647) (k : Nat) :
    (fcmp .gtr .f64 (gapW (conv .f32 .f64 (outN c.o c.cl c.br (vst c.p c.sh 0 c.p s k).1 (vst c.p c.sh 0 c.p s k).2.2)) (conv .f32 .f64 (pulse c.o c.cl (vst c.p c.sh 0 c.p s k).1))) (farith .add .f64 (farith .mul .f64 (conv .f32 .f64 c.br) (conv .f32 .f64 (pulse c.o c.cl (vst c.p c.sh 0 c.p s k).1))) 4562254508917369340) || (fcmp .gtr .f64 (gapW (conv .f32 .f64 (stN c.p c.sh (vst c.p c.sh 0 c.p s k).1 (vst c.p c.sh 0 c.p s k).2.1 (vst c.p c.sh 0 c.p s k).2.2)) (conv .f32 .f64 c.p)) (farith .add .f64 (farith .mul .f64 (conv .f32 .f64 c.sh) (conv .f32 .f64 c.p)) 4562254508917369340) && fcmp .neq .f32 (stN c.p c.sh (vst c.p c.sh 0 c.p s k).1 (vst c.p c.sh 0 c.p s k).2.1 (vst c.p c.sh 0 c.p s k).2.2) 1065353216)) = false := by
  have e2 := now_ok h (vst_now h hs (k + 1))
  rw [breath_ok h (vst_valid (th_ok h) (th_p h hs) k)]; exact e2
end Go.Vx
