/-
  'SkillMore': for every input the law returns true, and what is handed in reads as before. No condition.
-/
import Derived.Test.YtdokbocmgdhmmaaQf
import Derived.Test.YtdokbocmgdhmmaaRows
import Derived.WalkKit
import Derived.ProofKit
set_option linter.unusedVariables false
set_option linter.unusedSectionVars false
set_option linter.unusedSimpArgs false
namespace Go.Proofs.Ytdokbocmgdhmmaa
open Go.RowKit
set_option linter.unusedVariables false
set_option maxRecDepth 100000
set_option maxHeartbeats 1600000
namespace Sp
def nrLo (rg nums : Dt) (i : Nat) : Int := amg (rLo rg i) (rHi rg i) (trn nums (2 * i))
def nrHi (rg nums : Dt) (i : Nat) : Int := amg (nrLo rg nums i) (rHi rg i) (trn nums (2 * i + 1))
def narD (rg nums : Dt) (n : Nat) : Dt := (List.range n).map fun i => [.i (nrLo rg nums i), .i (nrHi rg nums i)]
def wider (a b : Dt) : Nat → Nat → Bool
  | _, 0 => false
  | i, n + 1 => if rLo a i ≤ rLo b i ∧ rHi b i ≤ rHi a i then wider a b (i + 1) n else true
end Sp
noncomputable def TK14a : Tab Try.prog := ⟨[pc_turn, pc_among], [], []⟩
def sp_nar [InW] (e : List Ed) (K : Nat → List Ed → Prop) : Prop := match e with
  | [.i i, .ro _ st, .ro _ ev, .i w, .i ins, .ro _ nums, .i ys, .i yi, .i ym, .l out] => Pre (0 ≤ i ∧ i ≤ st.xs.length ∧ st.xs.length ≤ 5 ∧ Sp.RgOk st.xs ∧ Sp.U16 nums.xs ∧ out = Sp.narD st.xs nums.xs i.toNat) (K 0 [.ro _ st, .ro _ ev, .i w, .i ins, .ro _ nums, .i ys, .i yi, .i ym, .l (Sp.narD st.xs nums.xs st.xs.length)])
  | _ => False
noncomputable def lc_nar : LC where
  len := 196
  T := [(4, (.ptr 1 0)), (5, (.ptr 4 0)), (9, (.row 6)), (10, .int .i64)]
  H := [(1, .blk 40 [.rs [.int .i64, .int .i64], .rs Iv5, .int .i64, .int .i64]), (4, .blk 95 [.rs [.int .u16], .int .u8, .int .u8, .int .u16]), (6, .arr 32 [.int .i64, .int .i64])]
  W := [6, 11, 12, 61, 62, 63, 64, 65, 66, 67, 68, 69, 70, 71, 72, 73, 74, 75, 76, 77, 78, 79, 80, 81, 82, 83, 84, 85, 86, 87, 88, 89, 90, 91, 92, 93, 94, 95, 96, 97, 98, 99, 100]
  outs := [⟨.exit 0, [(4, (.ptr 1 0)), (5, (.ptr 4 0)), (9, (.row 12))], [(1, .blk 40 [.rs [.int .i64, .int .i64], .rs Iv5, .int .i64, .int .i64]), (4, .blk 95 [.rs [.int .u16], .int .u8, .int .u8, .int .u16]), (12, .arr 32 [.int .i64, .int .i64])], [6, 10, 11, 12, 61, 62, 63, 64, 65, 66, 67, 68, 69, 70, 71, 72, 73, 74, 75, 76, 77, 78, 79, 80, 81, 82, 83, 84, 85, 86, 87, 88, 89, 90, 91, 92, 93, 94, 95, 96, 97, 98, 99, 100]⟩, ⟨.ret, [(6, (.lit (.bool false)))], [], [4, 5, 9, 10, 11, 12, 61, 62, 63, 64, 65, 66, 67, 68, 69, 70, 71, 72, 73, 74, 75, 76, 77, 78, 79, 80, 81, 82, 83, 84, 85, 86, 87, 88, 89, 90, 91, 92, 93, 94, 95, 96, 97, 98, 99, 100]⟩]
  spec := sp_nar
def VCL_nar [W : InW] (i : Int) (st : Ro [.int .i64, .int .i64]) (ev : Ro Iv5) (w ins : Int) (nums : Ro [.int .u16]) (ys yi ym : Int) (out : Dt) (A : List Ed → Prop) (K : Nat → List Ed → Prop) : Prop :=
  Vif (decide (i < (↑(st.xs.length) : Int))) (Need (decide ((0 : Int) ≤ i) && decide (i < (↑(st.xs.length) : Int))) (Need (decide (i.toNat < st.xs.length)) (Vif (decide ((cel st.xs i.toNat (0+1 : Nat)).int < (cel st.xs i.toNat (0 : Nat)).int)) (K (0+1 : Nat) []) (Ar .i64 ((2 : Int) * i) fun z => Pre ((0 : Int) ≤ z ∧ z ≤ (1000000000 : Int) ∧ Sp.U16 nums.xs) (Pre ((-1000000 : Int) ≤ (cel st.xs i.toNat (0 : Nat)).int ∧ (cel st.xs i.toNat (0 : Nat)).int ≤ (cel st.xs i.toNat (0+1 : Nat)).int ∧ (cel st.xs i.toNat (0+1 : Nat)).int ≤ (1000000 : Int) ∧ (0 : Int) ≤ Sp.trn nums.xs z ∧ Sp.trn nums.xs z ≤ (1000000000 : Int)) (Ar .i64 ((2 : Int) * i) fun z_1 => Ar .i64 (z_1 + (1 : Int)) fun z_2 => Pre ((0 : Int) ≤ z_2 ∧ z_2 ≤ (1000000000 : Int) ∧ Sp.U16 nums.xs) (Pre ((-1000000 : Int) ≤ Sp.amg (cel st.xs i.toNat (0 : Nat)).int (cel st.xs i.toNat (0+1 : Nat)).int (Sp.trn nums.xs z) ∧ Sp.amg (cel st.xs i.toNat (0 : Nat)).int (cel st.xs i.toNat (0+1 : Nat)).int (Sp.trn nums.xs z) ≤ (cel st.xs i.toNat (0+1 : Nat)).int ∧ (cel st.xs i.toNat (0+1 : Nat)).int ≤ (1000000 : Int) ∧ (0 : Int) ≤ Sp.trn nums.xs z_2 ∧ Sp.trn nums.xs z_2 ≤ (1000000000 : Int)) (Need (decide ((out.length + [[Cl.i (Sp.amg (cel st.xs i.toNat (0 : Nat)).int (cel st.xs i.toNat (0+1 : Nat)).int (Sp.trn nums.xs z)), Cl.i (Sp.amg (Sp.amg (cel st.xs i.toNat (0 : Nat)).int (cel st.xs i.toNat (0+1 : Nat)).int (Sp.trn nums.xs z)) (cel st.xs i.toNat (0+1 : Nat)).int (Sp.trn nums.xs z_2))]].length) * (16 : Nat) ≤ (140737488355328 : Nat))) (Ar .i64 (i + (1 : Int)) fun z_3 => A [.i z_3, .ro _ st, .ro _ ev, .i w, .i ins, .ro _ nums, .i ys, .i yi, .i ym, .l (out ++ [[Cl.i (Sp.amg (cel st.xs i.toNat (0 : Nat)).int (cel st.xs i.toNat (0+1 : Nat)).int (Sp.trn nums.xs z)), Cl.i (Sp.amg (Sp.amg (cel st.xs i.toNat (0 : Nat)).int (cel st.xs i.toNat (0+1 : Nat)).int (Sp.trn nums.xs z)) (cel st.xs i.toNat (0+1 : Nat)).int (Sp.trn nums.xs z_2))]])]))))))))) (K (0 : Nat) [.ro _ st, .ro _ ev, .i w, .i ins, .ro _ nums, .i ys, .i yi, .i ym, .l out])
theorem vcl_nar (W : InW) (i st ev w ins nums ys yi ym out A K) : vcTop { cxT Try.prog TT TK14a 1000 50 with fn := 14 } 1000 (loopAt Try.prog 14 7) (tmOut 196 [(4, .ptr 1 0), (5, .ptr 4 0), (9, .rw 6), (10, .si .i64 i)] [6, 11, 12, 61, 62, 63, 64, 65, 66, 67, 68, 69, 70, 71, 72, 73, 74, 75, 76, 77, 78, 79, 80, 81, 82, 83, 84, 85, 86, 87, 88, 89, 90, 91, 92, 93, 94, 95, 96, 97, 98, 99, 100]) [(1, .blk 40 [.rs _ st, .rs _ ev, .si .i64 w, .si .i64 ins]), (4, .blk 95 [.rs _ nums, .si .u8 ys, .si .u8 yi, .si .u16 ym]), (6, .arr 32 [.int .i64, .int .i64] out)] (roundL lc_nar A K) = VCL_nar i st ev w ins nums ys yi ym out A K := by kernel_rfl
def okLt_nar : Prop := ∀ (W : InW) (body a : Code), (Try.prog.funcs[14]?).bind (·.body) = some body → a ∈ loopsIn body → keyOf a = 7 → @LoopOk W Try.prog a (@loopRun W lc_nar)
theorem okl_nar (meas : [InW] → List Ed → Nat) (hyp_ : ∀ (W : InW) (i : Int) (st : Ro [.int .i64, .int .i64]) (ev : Ro Iv5) (w : Int) (ins : Int) (nums : Ro [.int .u16]) (ys : Int) (yi : Int) (ym : Int) (out : Dt) (K : Nat → List Ed → Prop), sp_nar [.i i, .ro _ st, .ro _ ev, .i w, .i ins, .ro _ nums, .i ys, .i yi, .i ym, .l out] K → ∀ A : List Ed → Prop, (∀ e, meas e < meas [.i i, .ro _ st, .ro _ ev, .i w, .i ins, .ro _ nums, .i ys, .i yi, .i ym, .l out] → sp_nar e K → A e) → VCL_nar i st ev w ins nums ys yi ym out A K) : okLt_nar :=
  LE.okOf' (fun W => @TT W) (fun W => @TT_ok W) mixed_ok TK14a 1000 50 (by kernel_rfl) lc_nar (fun W => @meas W) fun W i st ev w ins nums ys yi ym out K hs =>
    (vcl_nar W i st ev w ins nums ys yi ym out (fun e => meas e < meas [.i i, .ro _ st, .ro _ ev, .i w, .i ins, .ro _ nums, .i ys, .i yi, .i ym, .l out] ∧ sp_nar e K) K).mpr (hyp_ W i st ev w ins nums ys yi ym out K hs _ fun e h1 h2 => ⟨h1, h2⟩)
def sp_wid [InW] (e : List Ed) (K : Nat → List Ed → Prop) : Prop := match e with
  | [.i i, .l a, .l b] => Pre (0 ≤ i ∧ i ≤ (a.length : Int) ∧ a.length ≤ 5 ∧ a.length = b.length) (Vif (Sp.wider a b i.toNat ((a.length : Int) - i).toNat) (K 1 []) (K 0 []))
  | _ => False
noncomputable def lc_wid : LC where
  len := 196
  T := [(7, (.row 1)), (14, (.row 4)), (15, .int .i64)]
  H := [(1, .arr 32 [.int .i64, .int .i64]), (4, .arr 32 [.int .i64, .int .i64])]
  W := [6, 159, 160, 161, 162, 163, 164, 165, 166, 167, 168, 169, 170, 171, 172, 173, 174, 175, 176, 177, 178, 179, 180, 181, 182, 183, 184, 185, 186, 187, 188, 189, 190, 191, 192, 193, 194]
  outs := [⟨.exit 2, [], [], [6, 7, 14, 15, 159, 160, 161, 162, 163, 164, 165, 166, 167, 168, 169, 170, 171, 172, 173, 174, 175, 176, 177, 178, 179, 180, 181, 182, 183, 184, 185, 186, 187, 188, 189, 190, 191, 192, 193, 194]⟩, ⟨.ret, [(6, (.lit (.bool false)))], [], [7, 14, 15, 159, 160, 161, 162, 163, 164, 165, 166, 167, 168, 169, 170, 171, 172, 173, 174, 175, 176, 177, 178, 179, 180, 181, 182, 183, 184, 185, 186, 187, 188, 189, 190, 191, 192, 193, 194]⟩]
  spec := sp_wid
def VCL_wid [W : InW] (i : Int) (a b : Dt) (A : List Ed → Prop) (K : Nat → List Ed → Prop) : Prop :=
  Vif (decide (i < (↑(a.length) : Int))) (Vif (decide ((↑(b.length) : Int) ≤ i)) (K (0+1 : Nat) []) (Need (decide ((0 : Int) ≤ i) && decide (i < (↑(b.length) : Int))) (Need (decide (i.toNat < b.length)) (Need (decide ((0 : Int) ≤ i) && decide (i < (↑(a.length) : Int))) (Need (decide (i.toNat < a.length)) (Vif (decide ((cel b i.toNat (0 : Nat)).int < (cel a i.toNat (0 : Nat)).int)) (K (0+1 : Nat) []) (Need (decide ((0 : Int) ≤ i) && decide (i < (↑(b.length) : Int))) (Need (decide (i.toNat < b.length)) (Need (decide ((0 : Int) ≤ i) && decide (i < (↑(a.length) : Int))) (Need (decide (i.toNat < a.length)) (Vif (decide ((cel a i.toNat (0+1 : Nat)).int < (cel b i.toNat (0+1 : Nat)).int)) (K (0+1 : Nat) []) (Ar .i64 (i + (1 : Int)) fun z => A [.i z, .l a, .l b])))))))))))) (K (0 : Nat) [])
theorem vcl_wid (W : InW) (i a b A K) : vcTop { cxT Try.prog TT TK14a 1000 50 with fn := 14 } 1000 (loopAt Try.prog 14 21) (tmOut 196 [(7, .rw 1), (14, .rw 4), (15, .si .i64 i)] [6, 159, 160, 161, 162, 163, 164, 165, 166, 167, 168, 169, 170, 171, 172, 173, 174, 175, 176, 177, 178, 179, 180, 181, 182, 183, 184, 185, 186, 187, 188, 189, 190, 191, 192, 193, 194]) [(1, .arr 32 [.int .i64, .int .i64] a), (4, .arr 32 [.int .i64, .int .i64] b)] (roundL lc_wid A K) = VCL_wid i a b A K := by kernel_rfl
def okLt_wid : Prop := ∀ (W : InW) (body a : Code), (Try.prog.funcs[14]?).bind (·.body) = some body → a ∈ loopsIn body → keyOf a = 21 → @LoopOk W Try.prog a (@loopRun W lc_wid)
theorem okl_wid (meas : [InW] → List Ed → Nat) (hyp_ : ∀ (W : InW) (i : Int) (a : Dt) (b : Dt) (K : Nat → List Ed → Prop), sp_wid [.i i, .l a, .l b] K → ∀ A : List Ed → Prop, (∀ e, meas e < meas [.i i, .l a, .l b] → sp_wid e K → A e) → VCL_wid i a b A K) : okLt_wid :=
  LE.okOf' (fun W => @TT W) (fun W => @TT_ok W) mixed_ok TK14a 1000 50 (by kernel_rfl) lc_wid (fun W => @meas W) fun W i a b K hs =>
    (vcl_wid W i a b (fun e => meas e < meas [.i i, .l a, .l b] ∧ sp_wid e K) K).mpr (hyp_ W i a b K hs _ fun e h1 h2 => ⟨h1, h2⟩)
theorem nar_succ (rg nums : Dt) (n : Nat) : Sp.narD rg nums n ++ [[.i (Sp.nrLo rg nums n), .i (Sp.nrHi rg nums n)]] = Sp.narD rg nums (n + 1) := by
  unfold Sp.narD
  rw [List.range_succ, List.map_append]
  rfl
theorem nar_len (rg nums : Dt) (n : Nat) : (Sp.narD rg nums n).length = n := by simp [Sp.narD]
theorem okLnar : okLt_nar := okl_nar (fun e => match e with | .i i :: .ro _ st :: _ => (st.xs.length - i).toNat | _ => 0) fun W i st ev w ins nums ys yi ym out K hs A hA => by
  obtain ⟨⟨h0, h1, h5, hR, hU, rfl⟩, hk⟩ := hs
  unfold VCL_nar
  refine vifd (fun e => ?_) fun e => ?_
  · have e1 : (i + 1).toNat = i.toNat + 1 := by omega
    have ei : ((i.toNat : Nat) : Int) = i := by omega
    have st1 := nar_succ st.xs nums.xs i.toNat
    have l1 := nar_len st.xs nums.xs i.toNat
    have hr := hR i.toNat (by omega)
    have t1 := trn_in hU (2 * i)
    have t2 := trn_in hU (2 * i + 1)
    have a1 := amg_in hr.2.1 t1.1
    have hA' := hA [.i (i + 1), .ro _ st, .ro _ ev, .i w, .i ins, .ro _ nums, .i ys, .i yi, .i ym, .l (Sp.narD st.xs nums.xs (i.toNat + 1))] (by show ((st.xs.length : Int) - (i + 1)).toNat < ((st.xs.length : Int) - i).toNat; omega) ⟨⟨by omega, by omega, h5, hR, hU, by rw [e1]⟩, hk⟩
    rw [← st1] at hA'
    unfold Sp.nrHi Sp.nrLo at hA'
    rw [ei] at hA'
    unfold Sp.rLo Sp.rHi at hr a1 hA'
    simp only [List.length_singleton, Nat.zero_add]
    exact need_in (by omega) (nedd (by omega) (vifd (fun x => absurd x (by omega)) fun _ => ar64 (by omega) ⟨⟨by omega, by omega, hU⟩, ⟨by omega, by omega, by omega, by omega, by omega⟩, ar64 (by omega) (ar64 (by omega) ⟨⟨by omega, by omega, hU⟩, ⟨by omega, by omega, by omega, by omega, by omega⟩, nedd (by omega) (ar64 (by omega) hA')⟩)⟩))
  · rw [show i.toNat = st.xs.length by omega]
    exact hk
theorem okLwid : okLt_wid := okl_wid (fun e => match e with | .i i :: .l a :: _ => (a.length - i).toNat | _ => 0) fun W i a b K hs A hA => by
  obtain ⟨⟨h0, h1, h5, hl⟩, hk⟩ := hs
  unfold VCL_wid
  refine vifd (fun e => ?_) fun e => ?_
  · have e1 : (i + 1).toNat = i.toNat + 1 := by omega
    rw [show ((a.length : Int) - i).toNat = ((a.length : Int) - (i + 1)).toNat + 1 by omega, Sp.wider] at hk
    simp only [Nat.zero_add]
    refine vifd (fun x => absurd x (by omega)) fun _ => need_in (by omega) (nedd (by omega) (need_in (by omega) (nedd (by omega) (vifd (fun e2 => ?_) fun e2 => need_in (by omega) (nedd (by omega) (need_in (by omega) (nedd (by omega) (vifd (fun e3 => ?_) fun e3 => ?_))))))))
    · refine hk.1 ?_
      rw [if_neg]
      intro c
      exact absurd c.1 (by unfold Sp.rLo; omega)
    · refine hk.1 ?_
      rw [if_neg]
      intro c
      exact absurd c.2 (by unfold Sp.rHi; omega)
    · rw [if_pos (show Sp.rLo a i.toNat ≤ Sp.rLo b i.toNat ∧ Sp.rHi b i.toNat ≤ Sp.rHi a i.toNat from ⟨by unfold Sp.rLo; omega, by unfold Sp.rHi; omega⟩)] at hk
      exact ar64 (by omega) (hA _ (by show ((a.length : Int) - (i + 1)).toNat < ((a.length : Int) - i).toNat; omega) ⟨⟨by omega, by omega, h5, hl⟩, by rw [e1]; exact hk⟩)
  · rw [show ((a.length : Int) - i).toNat = 0 by omega] at hk
    exact hk.2 rfl
noncomputable def le_nar : LE Try.prog := ⟨14, 7, fun W => @loopRun W lc_nar, okLnar⟩
noncomputable def le_wid : LE Try.prog := ⟨14, 21, fun W => @loopRun W lc_wid, okLwid⟩
noncomputable def TK14 : Tab Try.prog := ⟨[pc_Check, pc_After, pc_Awake], [le_nar, le_wid], []⟩
def VC_lawMore [W : InW] (s_Skills : Ro [.str, .int .i64, .int .i64, .int .i64, .int .i64]) (s_Instrs : Ro [.str, .int .i64, .int .i64]) (x_st : Ro [.int .i64, .int .i64]) (x_ev : Ro Iv5) (x_w x_ins : Int) (y_nums : Ro [.int .u16]) (y_ys y_yi y_ym : Int) (Q : DS → Prop) : Prop :=
  Pre (Sp.Two x_st.xs) (Vif (!decide (Sp.aftE s_Skills.xs s_Instrs.xs x_st.xs x_ev.xs x_w = (0 : Int))) (Vif (!decide (Sp.aftE s_Skills.xs s_Instrs.xs x_st.xs x_ev.xs x_w = (0 : Int))) (Vif (decide ((↑(List.length (Sp.aftD s_Skills.xs s_Instrs.xs x_st.xs x_ev.xs x_w)) : Int) = (0 : Int))) (Pre True (Q [[Cl.b true]])) (Q [[Cl.b false]])) (Q [[Cl.b false]])) (Pre (Sp.NamesOk s_Skills.xs ∧ Sp.NamesOk s_Instrs.xs) (Vif (!decide (Sp.chkE s_Skills.xs s_Instrs.xs = (0 : Int))) (Vif (!decide (Sp.aftE s_Skills.xs s_Instrs.xs x_st.xs x_ev.xs x_w = (0 : Int))) (Vif (decide ((↑(List.length (Sp.aftD s_Skills.xs s_Instrs.xs x_st.xs x_ev.xs x_w)) : Int) = (0 : Int))) (Pre True (Q [[Cl.b true]])) (Q [[Cl.b false]])) (Q [[Cl.b false]])) (Vif (!decide ((↑(x_st.xs.length) : Int) = (↑(s_Skills.xs.length) : Int))) (Vif (!decide (Sp.aftE s_Skills.xs s_Instrs.xs x_st.xs x_ev.xs x_w = (0 : Int))) (Vif (decide ((↑(List.length (Sp.aftD s_Skills.xs s_Instrs.xs x_st.xs x_ev.xs x_w)) : Int) = (0 : Int))) (Pre True (Q [[Cl.b true]])) (Q [[Cl.b false]])) (Q [[Cl.b false]])) (Vif (!decide ((↑(List.length (Sp.aftD s_Skills.xs s_Instrs.xs x_st.xs x_ev.xs x_w)) : Int) = (↑(x_st.xs.length) : Int))) (Vif (!decide (Sp.aftE s_Skills.xs s_Instrs.xs x_st.xs x_ev.xs x_w = (0 : Int))) (Vif (decide ((↑(List.length (Sp.aftD s_Skills.xs s_Instrs.xs x_st.xs x_ev.xs x_w)) : Int) = (0 : Int))) (Pre True (Q [[Cl.b true]])) (Q [[Cl.b false]])) (Q [[Cl.b false]])) (Pre ((0 : Int) ≤ (0 : Int) ∧ (0 : Int) ≤ (↑(x_st.xs.length) : Int) ∧ x_st.xs.length ≤ (5 : Nat) ∧ Sp.RgOk x_st.xs ∧ Sp.U16 y_nums.xs ∧ [] = Sp.narD x_st.xs y_nums.xs (Int.toNat (0 : Int))) (Need (decide (((0 : Nat) + x_ev.xs.length) * (40 : Nat) ≤ (140737488355328 : Nat))) (Vif (decide ((0 : Int) < (↑(s_Instrs.xs.length) : Int))) (Vif (decide ((↑(x_ev.xs.length) : Int) < (60 : Int))) (Ar .i64 y_ys fun z => Need (!decide ((↑(s_Skills.xs.length) : Int) = (0 : Int))) (Ar .i64 y_yi fun z_1 => Need (!decide ((↑(s_Instrs.xs.length) : Int) = (0 : Int))) (Ar .i64 y_ym fun z_2 => Need (decide ((x_ev.xs.length + [[Cl.i x_w, Cl.i (1 : Int), Cl.i (z.tmod (↑(s_Skills.xs.length) : Int)), Cl.i (z_1.tmod (↑(s_Instrs.xs.length) : Int)), Cl.i (z_2.tmod (1001 : Int))]].length) * (40 : Nat) ≤ (140737488355328 : Nat))) (Pre (Sp.Two (Sp.narD x_st.xs y_nums.xs (x_st.xs.length))) (Vif (!decide (Sp.aftE s_Skills.xs s_Instrs.xs (Sp.narD x_st.xs y_nums.xs (x_st.xs.length)) (x_ev.xs ++ [[Cl.i x_w, Cl.i (1 : Int), Cl.i (z.tmod (↑(s_Skills.xs.length) : Int)), Cl.i (z_1.tmod (↑(s_Instrs.xs.length) : Int)), Cl.i (z_2.tmod (1001 : Int))]]) x_w = (0 : Int))) (Vif (decide (Sp.aftE s_Skills.xs s_Instrs.xs (Sp.narD x_st.xs y_nums.xs (x_st.xs.length)) (x_ev.xs ++ [[Cl.i x_w, Cl.i (1 : Int), Cl.i (z.tmod (↑(s_Skills.xs.length) : Int)), Cl.i (z_1.tmod (↑(s_Instrs.xs.length) : Int)), Cl.i (z_2.tmod (1001 : Int))]]) x_w = (9 : Int))) (Vif (decide ((↑(List.length (Sp.aftD s_Skills.xs s_Instrs.xs (Sp.narD x_st.xs y_nums.xs (x_st.xs.length)) (x_ev.xs ++ [[Cl.i x_w, Cl.i (1 : Int), Cl.i (z.tmod (↑(s_Skills.xs.length) : Int)), Cl.i (z_1.tmod (↑(s_Instrs.xs.length) : Int)), Cl.i (z_2.tmod (1001 : Int))]]) x_w)) : Int) = (0 : Int))) (Pre True (Q [[Cl.b true]])) (Q [[Cl.b false]])) (Q [[Cl.b false]])) (Pre ((0 : Int) ≤ (0 : Int) ∧ (0 : Int) ≤ (↑(List.length (Sp.aftD s_Skills.xs s_Instrs.xs x_st.xs x_ev.xs x_w)) : Int) ∧ List.length (Sp.aftD s_Skills.xs s_Instrs.xs x_st.xs x_ev.xs x_w) ≤ (5 : Nat) ∧ List.length (Sp.aftD s_Skills.xs s_Instrs.xs x_st.xs x_ev.xs x_w) = List.length (Sp.aftD s_Skills.xs s_Instrs.xs (Sp.narD x_st.xs y_nums.xs (x_st.xs.length)) (x_ev.xs ++ [[Cl.i x_w, Cl.i (1 : Int), Cl.i (z.tmod (↑(s_Skills.xs.length) : Int)), Cl.i (z_1.tmod (↑(s_Instrs.xs.length) : Int)), Cl.i (z_2.tmod (1001 : Int))]]) x_w)) (Vif (Sp.wider (Sp.aftD s_Skills.xs s_Instrs.xs x_st.xs x_ev.xs x_w) (Sp.aftD s_Skills.xs s_Instrs.xs (Sp.narD x_st.xs y_nums.xs (x_st.xs.length)) (x_ev.xs ++ [[Cl.i x_w, Cl.i (1 : Int), Cl.i (z.tmod (↑(s_Skills.xs.length) : Int)), Cl.i (z_1.tmod (↑(s_Instrs.xs.length) : Int)), Cl.i (z_2.tmod (1001 : Int))]]) x_w) (Int.toNat (0 : Int)) ((↑(List.length (Sp.aftD s_Skills.xs s_Instrs.xs x_st.xs x_ev.xs x_w)) : Int) - (0 : Int)).toNat) (Q [[Cl.b false]]) (Pre True (Q [[Cl.b true]]))))))))) (Pre (Sp.Two (Sp.narD x_st.xs y_nums.xs (x_st.xs.length))) (Vif (!decide (Sp.aftE s_Skills.xs s_Instrs.xs (Sp.narD x_st.xs y_nums.xs (x_st.xs.length)) x_ev.xs x_w = (0 : Int))) (Vif (decide (Sp.aftE s_Skills.xs s_Instrs.xs (Sp.narD x_st.xs y_nums.xs (x_st.xs.length)) x_ev.xs x_w = (9 : Int))) (Vif (decide ((↑(List.length (Sp.aftD s_Skills.xs s_Instrs.xs (Sp.narD x_st.xs y_nums.xs (x_st.xs.length)) x_ev.xs x_w)) : Int) = (0 : Int))) (Pre True (Q [[Cl.b true]])) (Q [[Cl.b false]])) (Q [[Cl.b false]])) (Pre ((0 : Int) ≤ (0 : Int) ∧ (0 : Int) ≤ (↑(List.length (Sp.aftD s_Skills.xs s_Instrs.xs x_st.xs x_ev.xs x_w)) : Int) ∧ List.length (Sp.aftD s_Skills.xs s_Instrs.xs x_st.xs x_ev.xs x_w) ≤ (5 : Nat) ∧ List.length (Sp.aftD s_Skills.xs s_Instrs.xs x_st.xs x_ev.xs x_w) = List.length (Sp.aftD s_Skills.xs s_Instrs.xs (Sp.narD x_st.xs y_nums.xs (x_st.xs.length)) x_ev.xs x_w)) (Vif (Sp.wider (Sp.aftD s_Skills.xs s_Instrs.xs x_st.xs x_ev.xs x_w) (Sp.aftD s_Skills.xs s_Instrs.xs (Sp.narD x_st.xs y_nums.xs (x_st.xs.length)) x_ev.xs x_w) (Int.toNat (0 : Int)) ((↑(List.length (Sp.aftD s_Skills.xs s_Instrs.xs x_st.xs x_ev.xs x_w)) : Int) - (0 : Int)).toNat) (Q [[Cl.b false]]) (Pre True (Q [[Cl.b true]]))))))) (Pre (Sp.Two (Sp.narD x_st.xs y_nums.xs (x_st.xs.length))) (Vif (!decide (Sp.aftE s_Skills.xs s_Instrs.xs (Sp.narD x_st.xs y_nums.xs (x_st.xs.length)) x_ev.xs x_w = (0 : Int))) (Vif (decide (Sp.aftE s_Skills.xs s_Instrs.xs (Sp.narD x_st.xs y_nums.xs (x_st.xs.length)) x_ev.xs x_w = (9 : Int))) (Vif (decide ((↑(List.length (Sp.aftD s_Skills.xs s_Instrs.xs (Sp.narD x_st.xs y_nums.xs (x_st.xs.length)) x_ev.xs x_w)) : Int) = (0 : Int))) (Pre True (Q [[Cl.b true]])) (Q [[Cl.b false]])) (Q [[Cl.b false]])) (Pre ((0 : Int) ≤ (0 : Int) ∧ (0 : Int) ≤ (↑(List.length (Sp.aftD s_Skills.xs s_Instrs.xs x_st.xs x_ev.xs x_w)) : Int) ∧ List.length (Sp.aftD s_Skills.xs s_Instrs.xs x_st.xs x_ev.xs x_w) ≤ (5 : Nat) ∧ List.length (Sp.aftD s_Skills.xs s_Instrs.xs x_st.xs x_ev.xs x_w) = List.length (Sp.aftD s_Skills.xs s_Instrs.xs (Sp.narD x_st.xs y_nums.xs (x_st.xs.length)) x_ev.xs x_w)) (Vif (Sp.wider (Sp.aftD s_Skills.xs s_Instrs.xs x_st.xs x_ev.xs x_w) (Sp.aftD s_Skills.xs s_Instrs.xs (Sp.narD x_st.xs y_nums.xs (x_st.xs.length)) x_ev.xs x_w) (Int.toNat (0 : Int)) ((↑(List.length (Sp.aftD s_Skills.xs s_Instrs.xs x_st.xs x_ev.xs x_w)) : Int) - (0 : Int)).toNat) (Q [[Cl.b false]]) (Pre True (Q [[Cl.b true]]))))))))))))))
theorem vc_lawMore (W : InW) (s_Skills s_Instrs x_st x_ev x_w x_ins y_nums y_ys y_yi y_ym Q) : bodyK (cxT Try.prog TT TK14 1000 50) 1000 14 [.agg [.rs _ s_Skills, .rs _ s_Instrs], .agg [.rs _ x_st, .rs _ x_ev, .si .i64 x_w, .si .i64 x_ins], .agg [.rs _ y_nums, .si .u8 y_ys, .si .u8 y_yi, .si .u16 y_ym]] [] 0 (leafK [(false, [.bool])] Q) (fun _ _ _ _ => Stuck 421) = VC_lawMore s_Skills s_Instrs x_st x_ev x_w x_ins y_nums y_ys y_yi y_ym Q := by kernel_rfl
abbrev ats_lawMore : List AT := [.agg [.sl [.str, .int .i64, .int .i64, .int .i64, .int .i64], .sl [.str, .int .i64, .int .i64]], .agg [.sl [.int .i64, .int .i64], .sl Iv5, .int .i64, .int .i64], .agg [.sl [.int .u16], .int .u8, .int .u8, .int .u16]]
theorem ok_lawMore {pre : DS → Prop} {res : DS → DS} (hyp_ : ∀ (W : InW) (s_Skills : Ro [.str, .int .i64, .int .i64, .int .i64, .int .i64]) (s_Instrs : Ro [.str, .int .i64, .int .i64]) (x_st : Ro [.int .i64, .int .i64]) (x_ev : Ro Iv5) (x_w : Int) (x_ins : Int) (y_nums : Ro [.int .u16]) (y_ys : Int) (y_yi : Int) (y_ym : Int), pre [[.l s_Skills.xs, .l s_Instrs.xs], [.l x_st.xs, .l x_ev.xs, .i x_w, .i x_ins], [.l y_nums.xs, .i y_ys, .i y_yi, .i y_ym]] → ∀ Q : DS → Prop, Q (res [[.l s_Skills.xs, .l s_Instrs.xs], [.l x_st.xs, .l x_ev.xs, .i x_w, .i x_ins], [.l y_nums.xs, .i y_ys, .i y_yi, .i y_ym]]) → VC_lawMore s_Skills s_Instrs x_st x_ev x_w x_ins y_nums y_ys y_yi y_ym Q) : PureOk Try.prog 14 ats_lawMore [(false, [.bool])] pre res :=
  PureOk.of' (fun W => @TT W) (fun W => @TT_ok W) mixed_ok TK14 1000 50 fun W s_Skills s_Instrs x_st x_ev x_w x_ins y_nums y_ys y_yi y_ym hp =>
    (vc_lawMore W s_Skills s_Instrs x_st x_ev x_w x_ins y_nums y_ys y_yi y_ym (fun o => o = res [[.l s_Skills.xs, .l s_Instrs.xs], [.l x_st.xs, .l x_ev.xs, .i x_w, .i x_ins], [.l y_nums.xs, .i y_ys, .i y_yi, .i y_ym]])).mpr (hyp_ W s_Skills s_Instrs x_st x_ev x_w x_ins y_nums y_ys y_yi y_ym hp _ rfl)
structure SubR (a b : Dt) : Prop where
  len : b.length = a.length
  le : ∀ i, i < a.length → Sp.rLo a i ≤ Sp.rLo b i ∧ Sp.rHi b i ≤ Sp.rHi a i
theorem SubR.trans {a b c : Dt} (h : SubR a b) (h2 : SubR b c) : SubR a c := ⟨h2.len.trans h.len, fun i hi => by
  have x := h.le i hi
  have y := h2.le i (by rw [h.len]; exact hi)
  omega⟩
theorem wider_no {a b : Dt} (h : SubR a b) : ∀ n i, i + n ≤ a.length → Sp.wider a b i n = false
  | 0, i, _ => rfl
  | n + 1, i, hi => by rw [Sp.wider, if_pos (h.le i (by omega))]; exact wider_no h n (i + 1) (by omega)
theorem fade_sub {sk a b : Dt} {k : Int} (h : SubR a b) : SubR (Sp.fadeD sk a k) (Sp.fadeD sk b k) := ⟨by rw [fd_len, fd_len]; exact h.len, fun i hi => by
  rw [fd_len] at hi
  have x := h.le i hi
  rw [(fd_at hi).1, (fd_at hi).2, (fd_at (by rw [h.len]; exact hi)).1, (fd_at (by rw [h.len]; exact hi)).2]
  unfold Sp.fdLo Sp.fdHi
  omega⟩
theorem hp_le {sk is a b ev : Dt} {i : Nat} (h : SubR a b) (hi : (Sp.evS ev i).toNat < a.length) : Sp.hpLo sk is a ev i ≤ Sp.hpLo sk is b ev i ∧ Sp.hpHi sk is b ev i ≤ Sp.hpHi sk is a ev i := by
  have x := h.le _ hi
  unfold Sp.hpLo Sp.hpHi Sp.lev
  by_cases e : Sp.evK ev i = 0
  · simp only [if_pos e]; omega
  · simp only [if_neg e]; omega
theorem hp_sub {sk is a b ev : Dt} {i : Nat} (h : SubR a b) (hi : (Sp.evS ev i).toNat < a.length) : SubR (Sp.hpD sk is a ev i) (Sp.hpD sk is b ev i) := ⟨by simp [Sp.hpD, h.len], fun j hj => by
  have y := hp_le (sk := sk) (is := is) (ev := ev) h hi
  have hj' : j < a.length := by simpa [Sp.hpD] using hj
  have x := h.le j hj'
  unfold Sp.hpD
  rw [(rg_set hi).1, (rg_set hi).2, (rg_set (by rw [h.len]; exact hi)).1, (rg_set (by rw [h.len]; exact hi)).2]
  split <;> omega⟩
theorem lv_sub {sk is ev : Dt} (hE : Sp.EvOk sk is ev) : ∀ (n i : Nat) (w : Int) (a b : Dt), i + n ≤ ev.length → a.length = sk.length → SubR a b → (Sp.lvS sk is ev n i w b).1 = true →
    (Sp.lvS sk is ev n i w a).1 = true ∧ (Sp.lvS sk is ev n i w a).2.1 = (Sp.lvS sk is ev n i w b).2.1 ∧ SubR (Sp.lvS sk is ev n i w a).2.2 (Sp.lvS sk is ev n i w b).2.2
  | 0, i, w, a, b, _, _, h, _ => ⟨rfl, rfl, h⟩
  | n + 1, i, w, a, b, hi, hl, h, hb => by
    have s1 := lv_step (sk := sk) (is := is) (ev := ev) (rg := a) (n := n) (i := i) (w := w)
    have s2 := lv_step (sk := sk) (is := is) (ev := ev) (rg := b) (n := n) (i := i) (w := w)
    have f := fade_sub (sk := sk) (k := Sp.evW ev i - w) h
    have hs := hE.sk i (by omega)
    have hs2 : (Sp.evS ev i).toNat < (Sp.fadeD sk a (Sp.evW ev i - w)).length := by rw [fd_len]; omega
    have y := hp_le (sk := sk) (is := is) (ev := ev) f hs2
    by_cases hd : Sp.hpHi sk is (Sp.fadeD sk b (Sp.evW ev i - w)) ev i < Sp.hpLo sk is (Sp.fadeD sk b (Sp.evW ev i - w)) ev i
    · rw [s2.1 hd] at hb; cases hb
    · rw [s2.2 hd] at hb ⊢
      rw [s1.2 (by omega)]
      exact lv_sub hE n (i + 1) _ _ _ (by omega) (by rw [Sp.hpD, List.length_set, fd_len]; exact hl) (hp_sub f hs2) hb
theorem nar_at {rg nums : Dt} {n k : Nat} (h : k < n) : Sp.rLo (Sp.narD rg nums n) k = Sp.nrLo rg nums k ∧ Sp.rHi (Sp.narD rg nums n) k = Sp.nrHi rg nums k := by
  have e : (Sp.narD rg nums n).getD k [] = [.i (Sp.nrLo rg nums k), .i (Sp.nrHi rg nums k)] := by simp [Sp.narD, List.getD_eq_getElem?_getD, List.getElem?_range h]
  refine ⟨?_, ?_⟩
  · show (((Sp.narD rg nums n).getD k []).getD 0 .z).int = _; rw [e]; rfl
  · show (((Sp.narD rg nums n).getD k []).getD 1 .z).int = _; rw [e]; rfl
theorem nar_in {rg nums : Dt} {k : Nat} (hR : Sp.RgOk rg) (hU : Sp.U16 nums) (hk : k < rg.length) : Sp.rLo rg k ≤ Sp.nrLo rg nums k ∧ Sp.nrLo rg nums k ≤ Sp.nrHi rg nums k ∧ Sp.nrHi rg nums k ≤ Sp.rHi rg k := by
  have a := amg_in (hR k hk).2.1 (trn_in hU (2 * k)).1
  have b := amg_in (lo := Sp.nrLo rg nums k) (hi := Sp.rHi rg k) a.2 (trn_in hU (2 * k + 1)).1
  exact ⟨a.1, b.1, b.2⟩
theorem nar_sub {rg nums : Dt} (hR : Sp.RgOk rg) (hU : Sp.U16 nums) : SubR rg (Sp.narD rg nums rg.length) ∧ Sp.RgOk (Sp.narD rg nums rg.length) ∧ Sp.Two (Sp.narD rg nums rg.length) := by
  refine ⟨⟨nar_len _ _ _, fun i hi => ?_⟩, fun i hi => ?_, fun i hi => ?_⟩
  · rw [(nar_at hi).1, (nar_at hi).2]
    have := nar_in hR hU hi
    omega
  · rw [nar_len] at hi
    rw [(nar_at hi).1, (nar_at hi).2]
    have := nar_in hR hU hi
    have := hR i hi
    omega
  · rw [nar_len] at hi
    exact ⟨_, _, by simp only [Sp.narD, List.getD_eq_getElem?_getD, List.getElem?_map, List.getElem?_range hi]; rfl⟩
theorem more_law0 {sk is st st2 ev : Dt} {w : Int} (h : AskOk sk is st ev w) (h0 : Sp.aftE sk is st ev w = 0) (hs : SubR st st2) (hR : Sp.RgOk st2) :
    AskOk sk is st2 ev w ∧ (Sp.aftE sk is st2 ev w = 0 → SubR (Sp.aftD sk is st ev w) (Sp.aftD sk is st2 ev w)) := by
  have h2 : AskOk sk is st2 ev w := ⟨⟨h.his.sch, hs.len.trans h.his.len, hR, h.his.ev⟩, h.w0, h.w2, h.wl⟩
  refine ⟨h2, fun e => ?_⟩
  have a1 := aftE_of h
  have a2 := aftE_of h2
  rw [h0] at a1
  rw [e] at a2
  have b1 : (Sp.lvA sk is st ev).1 = true := by
    by_cases c : (Sp.lvA sk is st ev).1 = true
    · exact c
    · rw [if_neg c] at a1; omega
  have b2 : (Sp.lvA sk is st2 ev).1 = true := by
    by_cases c : (Sp.lvA sk is st2 ev).1 = true
    · exact c
    · rw [if_neg c] at a2; omega
  have r := lv_sub h.his.ev ev.length 0 0 st st2 (by omega) h.his.len hs b2
  rw [aftD_of h b1, aftD_of h2 b2]
  have e1 : (Sp.lvA sk is st ev).2.1 = (Sp.lvA sk is st2 ev).2.1 := r.2.1
  rw [e1]
  exact fade_sub r.2.2
theorem app_cel {ev : Dt} {r : List Cl} {j k : Nat} (h : j < ev.length) : cel (ev ++ [r]) j k = cel ev j k := by
  unfold cel
  congr 1
  simp only [List.getD_eq_getElem?_getD, List.getElem?_append_left h]
theorem app_last {ev : Dt} {r : List Cl} {k : Nat} : cel (ev ++ [r]) ev.length k = r.getD k .z := by
  unfold cel
  congr 1
  simp only [List.getD_eq_getElem?_getD, List.getElem?_append_right (Nat.le_refl _), Nat.sub_self]
  rfl
theorem app_same (ev : Dt) (r : List Cl) : SameEv ev (ev ++ [r]) 0 0 ev.length 0 where
  wk := fun j hj => by unfold Sp.evW; rw [Nat.zero_add, app_cel hj]; omega
  kd := fun j hj => by unfold Sp.evK; rw [Nat.zero_add, app_cel hj]
  sk := fun j hj => by unfold Sp.evS; rw [Nat.zero_add, app_cel hj]
  is := fun j hj => by unfold Sp.evI; rw [Nat.zero_add, app_cel hj]
  mrk := fun j hj => by unfold Sp.evM; rw [Nat.zero_add, app_cel hj]
theorem app_ok {sk is ev : Dt} {w s i m : Int} (h : Sp.EvOk sk is ev) (h6 : ev.length < 60) (w0 : 0 ≤ w) (w2 : w ≤ 200) (wl : ¬ (0 < ev.length ∧ w < Sp.evW ev (ev.length - 1))) (s0 : 0 ≤ s) (s1 : s < sk.length) (i0 : 0 ≤ i) (i1 : i < is.length) (m0 : 0 ≤ m) (m1 : m ≤ 1000) :
    Sp.EvOk sk is (ev ++ [[.i w, .i 1, .i s, .i i, .i m]]) := by
  have hl : (ev ++ [[Cl.i w, .i 1, .i s, .i i, .i m]]).length = ev.length + 1 := by simp
  have t : ∀ j, j < (ev ++ [[Cl.i w, .i 1, .i s, .i i, .i m]]).length → j < ev.length ∨ j = ev.length := fun j hj => by omega
  refine ⟨by omega, fun j hj => ?_, fun j hj => ?_, fun j hj => ?_, fun j hj => ?_, fun j hj => ?_⟩
  · unfold Sp.evW
    rcases t j hj with c | rfl
    · rw [app_cel c]; exact h.wk j c
    · rw [app_last]; exact ⟨w0, w2⟩
  · unfold Sp.evW
    rcases t (j + 1) hj with c | c
    · rw [app_cel c, app_cel (by omega)]; exact h.up j c
    · rw [app_cel (show j < ev.length by omega), c, app_last]
      have e : j = ev.length - 1 := by omega
      rw [e]
      exact Int.not_lt.1 fun x => wl ⟨by omega, x⟩
  · unfold Sp.evK
    rcases t j hj with c | rfl
    · rw [app_cel c]; exact h.kd j c
    · rw [app_last]; exact Or.inr rfl
  · unfold Sp.evS
    rcases t j hj with c | rfl
    · rw [app_cel c]; exact h.sk j c
    · rw [app_last]; exact ⟨s0, s1⟩
  · unfold Sp.evK Sp.evI Sp.evM
    rcases t j hj with c | rfl
    · rw [app_cel c, app_cel c, app_cel c]; exact h.is j c
    · rw [app_last, app_last, app_last]; exact fun _ => ⟨i0, i1, m0, m1⟩
theorem more_law1 {sk is st st2 ev : Dt} {w s i m : Int} (h : AskOk sk is st ev w) (h0 : Sp.aftE sk is st ev w = 0) (hT : Sp.Two st) (hT2 : Sp.Two st2) (hs : SubR st st2) (hR : Sp.RgOk st2) (h6 : ev.length < 60) (s0 : 0 ≤ s) (s1 : s < sk.length) (i0 : 0 ≤ i) (i1 : i < is.length) (m0 : 0 ≤ m) (m1 : m ≤ 1000) :
    AskOk sk is st2 (ev ++ [[.i w, .i 1, .i s, .i i, .i m]]) w ∧ (Sp.aftE sk is st2 (ev ++ [[.i w, .i 1, .i s, .i i, .i m]]) w = 0 → SubR (Sp.aftD sk is st ev w) (Sp.aftD sk is st2 (ev ++ [[.i w, .i 1, .i s, .i i, .i m]]) w)) := by
  have hE2 := app_ok h.his.ev h6 h.w0 h.w2 h.wl s0 s1 i0 i1 m0 m1
  have hl : (ev ++ [[Cl.i w, .i 1, .i s, .i i, .i m]]).length = ev.length + 1 := by simp
  have wE : Sp.evW (ev ++ [[.i w, .i 1, .i s, .i i, .i m]]) ev.length = w := by unfold Sp.evW; rw [app_last]; rfl
  have kE : Sp.evK (ev ++ [[.i w, .i 1, .i s, .i i, .i m]]) ev.length = 1 := by unfold Sp.evK; rw [app_last]; rfl
  have h2 : AskOk sk is st2 (ev ++ [[.i w, .i 1, .i s, .i i, .i m]]) w := ⟨⟨h.his.sch, hs.len.trans h.his.len, hR, hE2⟩, h.w0, h.w2, fun c => by
    have c2 := c.2
    rw [hl, Nat.add_sub_cancel, wE] at c2
    omega⟩
  refine ⟨h2, fun e => ?_⟩
  have a2 := aftE_of h2
  rw [e] at a2
  have b2 : (Sp.lvA sk is st2 (ev ++ [[.i w, .i 1, .i s, .i i, .i m]])).1 = true := by
    by_cases c : (Sp.lvA sk is st2 (ev ++ [[.i w, .i 1, .i s, .i i, .i m]])).1 = true
    · exact c
    · rw [if_neg c] at a2; omega
  have hF : Sp.FdOk sk := fun j hj => h.his.sch.skF j hj
  obtain ⟨hA, hsub⟩ := more_law0 h h0 hs hR
  have eP : Sp.lvS sk is (ev ++ [[.i w, .i 1, .i s, .i i, .i m]]) ev.length 0 0 st2 = Sp.lvA sk is st2 ev := by
    have := lv_same (sk := sk) (is := is) ev.length 0 0 0 st2 (app_same ev [.i w, .i 1, .i s, .i i, .i m])
    rw [Int.sub_zero, Int.sub_zero] at this
    rw [this]
    rfl
  have eF := lv_add (sk := sk) (is := is) (ev := ev ++ [[.i w, .i 1, .i s, .i i, .i m]]) ev.length 1 0 0 st2
  rw [eP, Nat.zero_add] at eF
  have eA : Sp.lvA sk is st2 (ev ++ [[.i w, .i 1, .i s, .i i, .i m]]) = Sp.lvS sk is (ev ++ [[.i w, .i 1, .i s, .i i, .i m]]) (ev.length + 1) 0 0 st2 := by rw [Sp.lvA, hl]
  rw [← eA] at eF
  by_cases hp : (Sp.lvA sk is st2 ev).1 = true
  · rw [if_pos hp] at eF
    have r := lvA_ok hA.his hT2 hp
    have q : (Sp.lvA sk is st2 ev).2.1 ≤ w := by
      rw [r.1]
      split
      · exact h.w0
      · exact Int.not_lt.1 fun x => h.wl ⟨by omega, x⟩
    have sub0 := hsub (by rw [aftE_of hA, if_pos hp])
    rw [aftD_of hA hp] at sub0
    have f1 := fd_ok r.2.2.1 hF (show 0 ≤ w - (Sp.lvA sk is st2 ev).2.1 by omega) r.2.1
    have sl := lv_step (sk := sk) (is := is) (ev := ev ++ [[.i w, .i 1, .i s, .i i, .i m]]) (rg := (Sp.lvA sk is st2 ev).2.2) (n := 0) (i := ev.length) (w := (Sp.lvA sk is st2 ev).2.1)
    rw [wE] at sl
    by_cases hd : Sp.hpHi sk is (Sp.fadeD sk (Sp.lvA sk is st2 ev).2.2 (w - (Sp.lvA sk is st2 ev).2.1)) (ev ++ [[.i w, .i 1, .i s, .i i, .i m]]) ev.length < Sp.hpLo sk is (Sp.fadeD sk (Sp.lvA sk is st2 ev).2.2 (w - (Sp.lvA sk is st2 ev).2.1)) (ev ++ [[.i w, .i 1, .i s, .i i, .i m]]) ev.length
    · rw [sl.1 hd] at eF
      rw [eF] at b2
      cases b2
    · rw [sl.2 hd] at eF
      have hq := hE2.sk ev.length (by omega)
      have hi : (Sp.evS (ev ++ [[.i w, .i 1, .i s, .i i, .i m]]) ev.length).toNat < (Sp.fadeD sk (Sp.lvA sk is st2 ev).2.2 (w - (Sp.lvA sk is st2 ev).2.1)).length := by rw [fd_len]; omega
      have f2 := hp_ok h.his.sch hE2 (by omega) (by rw [fd_len]; exact r.2.1) f1 hd
      rw [aftD_of h2 b2, eF]
      show SubR _ (Sp.fadeD sk (Sp.hpD sk is _ _ _) (w - w))
      rw [Int.sub_self, fade_zero f2 (hp_two (fd_two _ _ _))]
      refine sub0.trans ⟨by simp [Sp.hpD], fun j hj => ?_⟩
      unfold Sp.hpD
      rw [(rg_set hi).1, (rg_set hi).2]
      split
      · rename_i ej
        subst ej
        unfold Sp.hpLo Sp.hpHi
        rw [if_neg (by omega), if_neg (by omega)]
        omega
      · omega
  · rw [if_neg hp] at eF
    rw [eF] at b2
    exact absurd b2 hp
theorem more_end [InW] {sk is st2 ev2 l : Dt} {w : Int} {T F : Prop} (hT : Sp.Two st2) (h : AskOk sk is st2 ev2 w) (hs : Sp.aftE sk is st2 ev2 w = 0 → SubR l (Sp.aftD sk is st2 ev2 w)) (h5 : l.length ≤ 5) (ht : T) :
    Pre (Sp.Two st2) (Vif (!decide (Sp.aftE sk is st2 ev2 w = 0)) (Vif (decide (Sp.aftE sk is st2 ev2 w = 9)) (Vif (decide (((Sp.aftD sk is st2 ev2 w).length : Int) = 0)) (Pre True T) F) F)
      (Pre ((0 : Int) ≤ 0 ∧ (0 : Int) ≤ (l.length : Int) ∧ l.length ≤ 5 ∧ l.length = (Sp.aftD sk is st2 ev2 w).length) (Vif (Sp.wider l (Sp.aftD sk is st2 ev2 w) (Int.toNat 0) ((l.length : Int) - 0).toNat) F (Pre True T)))) := by
  refine ⟨hT, vifn (fun e => vifd (fun e9 => vifd (fun _ => ⟨trivial, ht⟩) fun e2 => absurd (by rw [aftD_no e]; rfl) e2) fun e9 => absurd ((ask_iff.2 h).resolve_left e) e9) fun e => ⟨⟨by omega, by omega, h5, (hs e).len.symm⟩, vif (fun x => ?_) fun _ => ⟨trivial, ht⟩⟩⟩
  rw [wider_no (hs e) _ _ (by show Int.toNat 0 + ((l.length : Int) - 0).toNat ≤ l.length; omega)] at x
  cases x
theorem more_pure : PureOk Try.prog 14 ats_lawMore [(false, [.bool])] (WfD ats_lawMore) fun _ => [[.b true]] :=
  ok_lawMore fun W sk is st ev w ins nums ys yi ym hp Q h => by
    obtain ⟨hp1, hp⟩ := hp.head
    obtain ⟨hp2, hp⟩ := hp.head
    obtain ⟨hp3, _⟩ := hp.head
    have hn := school_names hp1
    obtain ⟨g1, hp2⟩ := WfL.head hp2
    obtain ⟨g4, hp3⟩ := WfL.head hp3
    obtain ⟨g5, hp3⟩ := WfL.head hp3
    obtain ⟨g6, hp3⟩ := WfL.head hp3
    obtain ⟨g7, hp3⟩ := WfL.head hp3
    have hU := u16_of g4
    have g5 := wf_u8 g5
    have g6 := wf_u8 g6
    have g7 := wf_u16 g7
    have hT := two_of g1
    unfold VC_lawMore
    refine ⟨hT, vifn (fun e => vifn (fun _ => vifd (fun _ => ⟨trivial, h⟩) fun e2 => absurd (by rw [aftD_no e]; rfl) e2) fun e2 => absurd e2 e) fun e => ⟨hn, ?_⟩⟩
    have hA := ask_iff.1 (Or.inl e)
    have hl := hA.his.len
    have n1 := hA.his.sch.n1
    have n5 := hA.his.sch.n5
    have l6 := hA.his.ev.l60
    have a1 := aftE_of hA
    rw [e] at a1
    have b1 : (Sp.lvA sk.xs is.xs st.xs ev.xs).1 = true := by
      by_cases c : (Sp.lvA sk.xs is.xs st.xs ev.xs).1 = true
      · exact c
      · rw [if_neg c] at a1; omega
    have r := lvA_ok hA.his hT b1
    have ld : (Sp.aftD sk.xs is.xs st.xs ev.xs w).length = sk.xs.length := by rw [aftD_of hA b1, fd_len]; exact r.2.1
    obtain ⟨q1, q2, q3⟩ := nar_sub hA.his.rg hU
    have m0 := more_law0 hA e q1 q2
    have z0 := more_end (T := Q [[.b true]]) (F := Q [[.b false]]) q3 m0.1 m0.2 (by omega) h
    refine vifn (fun x => absurd (chk_iff.2 hA.his.sch) x) fun _ => vifn (fun x => absurd (show (st.xs.length : Int) = sk.xs.length by omega) x) fun _ => vifn (fun x => absurd (show ((Sp.aftD sk.xs is.xs st.xs ev.xs w).length : Int) = st.xs.length by omega) x) fun _ => ⟨⟨by omega, by omega, by omega, hA.his.rg, hU, rfl⟩, nedd (by omega) (vifd (fun e1 => vifd (fun e2 => ?_) fun _ => z0) fun _ => z0)⟩
    have ts := tm_in g5.1 (show (0 : Int) < sk.xs.length by omega)
    have ti := tm_in g6.1 (show (0 : Int) < is.xs.length by omega)
    have tk := tm_in g7.1 (show (0 : Int) < 1001 by omega)
    have m1 := more_law1 hA e hT q3 q1 q2 (by omega) ts.1 ts.2 ti.1 ti.2 tk.1 (by omega)
    have z1 := more_end (T := Q [[.b true]]) (F := Q [[.b false]]) q3 m1.1 m1.2 (by omega) h
    exact ar64 (by omega) (need_not (by omega) (ar64 (by omega) (need_not (by omega) (ar64 (by omega) (nedd (by simp only [List.length_singleton]; omega) z1)))))
end Go.Proofs.Ytdokbocmgdhmmaa
namespace Go.Proofs.Ytdokbocmgdhmmaa.skillMore
open Go.ChangeShapes Go.WideShapes Go.ChangeAt Go.RowKit
set_option linter.unusedVariables false
set_option maxRecDepth 100000
theorem own : ownKnob Try.prog.godebug = none := by kernel_rfl
theorem laid : laidOutB Try.prog = true := by kernel_rfl
theorem lifted (os : Os) (started : os.Started) (H : Type) (enc : TypeId × Value → H) :
    ReturnsInHanded {} Try.checked os 14 .any (Rows.skillMoreSpec.pre6 enc Try.prog Try.f14 Rows.skillMoreRow.domain false) (Rows.skillMoreSpec.post enc Try.prog Try.f14 false true false false) := by
  refine returnsInHanded_of_change (C := Try.checked) own started (by kernel_rfl) Try.func14
    (ChangeSpec.witness6 (enc := enc) (C := Try.checked) false ⟨#[], #[(.agg #[.slice none 0 0, .slice none 0 0]), (.agg #[.slice none 0 0, .slice none 0 0, .int .i64 0, .int .i64 0]), (.agg #[.slice none 0 0, .int .u8 0, .int .u8 0, .int .u16 0])], []⟩ 8 (by kernel_rfl) (by kernel_rfl) (by kernel_rfl) (by kernel_rfl)) ?_
  intro W base args ds gs before hval hW _ _
  exact law_end (f := Try.f14) (s := Rows.skillMoreSpec) (by kernel_rfl) Try.underlying4 (by kernel_rfl) rfl laid (by kernel_rfl)
    (fun ds h => by match ds, (show ds.length = 3 from h) with | [_, _, _], _ => exact ⟨rfl, rfl, rfl⟩) more_pure hval hW
theorem over : Rows.skillMoreRow.holds Try.pinned (OpenSpec.ofChange Rows.skillMoreSpec) :=
  OpenClaim.holds_of_wide 14 Try.f14 rfl rfl rfl rfl rfl rfl rfl ⟨rfl, rfl, rfl, rfl, rfl⟩ rfl rfl rfl rfl rfl (by kernel_rfl) Try.func14 (by kernel_rfl)
    (of_decide_eq_true (by kernel_rfl)) (by unfold Func.isWrapper; first | (rw [if_pos (by decide +kernel)]; kernel_rfl) | (rw [if_neg (by decide +kernel)]; exact ⟨rfl, rfl⟩))
    (fun os started H enc _ => lifted os started H enc)
theorem proved : Rows.SkillMoreSaid := over
end Go.Proofs.Ytdokbocmgdhmmaa.skillMore
