/-
  'SkillSevere': for every input the law returns true, and what is handed in reads as before. No condition.
-/
import Derived.Test.YtdokbocmgdhmmaaQf
import Derived.Test.YtdokbocmgdhmmaaRows
import Derived.WalkKit
import Derived.ProofKit
set_option linter.unusedVariables false
set_option linter.unusedSectionVars false
set_option linter.unusedSimpArgs false
namespace Go.Proofs.Ytdokbocmgdhmmaa
open Go.RowKit
set_option linter.unusedVariables false
set_option maxRecDepth 100000
set_option maxHeartbeats 1600000
end Go.Proofs.Ytdokbocmgdhmmaa
namespace Go.Proofs.Ytdokbocmgdhmmaa
open Go.RowKit
set_option linter.unusedVariables false
set_option maxRecDepth 100000
set_option maxHeartbeats 1600000
noncomputable def Tp0O : Tab Try.prog := ⟨[], [], []⟩
def sp_wtO [InW] (e : List Ed) (K : Nat → List Ed → Prop) : Prop := match e with
  | [.ro _ sk2, .i n, .i i, .i w, .ro _ sk, .i wk, .l is, .l rg] => Pre (sk2.xs = sk.xs ∧ n = (sk.xs.length : Int) ∧ rg.length = sk.xs.length ∧ 0 ≤ i ∧ i ≤ n ∧ Sp.FdOk sk.xs ∧ 0 ≤ w - wk ∧ -100000 ≤ wk ∧ w ≤ 100000 ∧ Sp.RgOk rg ∧ Sp.Two rg) (K 0 [.i w, .ro _ sk, .i wk, .l is, .l (Sp.fadF sk.xs rg (w - wk) i.toNat)])
  | _ => False
noncomputable def lc_wtO : LC where
  len := 48
  T := [(2, (.ptr 4 0)), (3, (.ptr 7 0)), (11, .rs [.str, .int .i64, .int .i64, .int .i64, .int .i64]), (12, .int .i64), (13, .int .i64)]
  H := [(4, .blk 115 [(.ptr 1 0)]), (7, .blk 3 [.int .i64]), (1, .blk 120 [.rs [.str, .int .i64, .int .i64, .int .i64, .int .i64], (.row 16), (.row 6), .int .i64]), (16, .arr 81 [.str, .int .i64, .int .i64]), (6, .arr 32 [.int .i64, .int .i64])]
  W := [4, 5, 6, 14, 15, 16, 17, 18, 19, 20, 21, 22, 23, 24, 25, 26, 27, 28, 29, 30, 31, 32, 33, 34, 35, 36, 37, 38, 39, 40, 41, 42, 43]
  outs := [⟨.exit 0, [(2, (.ptr 4 0)), (3, (.ptr 7 0))], [(4, .blk 115 [(.ptr 1 0)]), (7, .blk 3 [.int .i64]), (1, .blk 120 [.rs [.str, .int .i64, .int .i64, .int .i64, .int .i64], (.row 16), (.row 12), .int .i64]), (16, .arr 81 [.str, .int .i64, .int .i64]), (12, .arr 32 [.int .i64, .int .i64])], [4, 5, 6, 11, 12, 13, 14, 15, 16, 17, 18, 19, 20, 21, 22, 23, 24, 25, 26, 27, 28, 29, 30, 31, 32, 33, 34, 35, 36, 37, 38, 39, 40, 41, 42, 43]⟩]
  spec := sp_wtO
def VCL_wtO [W : InW] (sk2 : Ro [.str, .int .i64, .int .i64, .int .i64, .int .i64]) (n i w : Int) (sk : Ro [.str, .int .i64, .int .i64, .int .i64, .int .i64]) (wk : Int) (is rg : Dt) (A : List Ed → Prop) (K : Nat → List Ed → Prop) : Prop :=
  Vif (decide (i < n)) (Need (decide ((0 : Int) ≤ i) && decide (i < (↑(sk2.xs.length) : Int))) (Need (decide (i.toNat < sk2.xs.length)) (Need (decide ((0 : Int) ≤ i) && decide (i < (↑(rg.length) : Int))) (Need (decide (i.toNat < rg.length)) (Ar .i64 (w - wk) fun z => Ar .i64 ((cel sk2.xs i.toNat (0+1+1+1+1 : Nat)).int * z) fun z => Ar .i64 ((cel rg i.toNat (0 : Nat)).int - z) fun z => Need (decide (i.toNat < rg.length)) (Need (decide ((0 : Int) ≤ i) && decide (i < (↑(List.set rg i.toNat (setCls (List.getD rg i.toNat []) (0 : Nat) [Cl.i (max (0 : Int) z)])).length : Int))) (Need (decide (i.toNat < (List.set rg i.toNat (setCls (List.getD rg i.toNat []) (0 : Nat) [Cl.i (max (0 : Int) z)])).length)) (Ar .i64 (w - wk) fun z_1 => Ar .i64 ((cel sk2.xs i.toNat (0+1+1+1 : Nat)).int * z_1) fun z_2 => Ar .i64 ((cel (List.set rg i.toNat (setCls (List.getD rg i.toNat []) (0 : Nat) [Cl.i (max (0 : Int) z)])) i.toNat (0+1 : Nat)).int - z_2) fun z_3 => Need (decide (i.toNat < (List.set rg i.toNat (setCls (List.getD rg i.toNat []) (0 : Nat) [Cl.i (max (0 : Int) z)])).length)) (Ar .i64 (i + (1 : Int)) fun z_4 => A [.ro _ sk2, .i n, .i z_4, .i w, .ro _ sk, .i wk, .l is, .l ((List.set rg i.toNat (setCls (List.getD rg i.toNat []) (0 : Nat) [Cl.i (max (0 : Int) z)])).set i.toNat (setCls ((List.set rg i.toNat (setCls (List.getD rg i.toNat []) (0 : Nat) [Cl.i (max (0 : Int) z)])).getD i.toNat []) (0+1 : Nat) [Cl.i (max (0 : Int) z_3)]))]))))))))) (K (0 : Nat) [.i w, .ro _ sk, .i wk, .l is, .l rg])
theorem vcl_wtO (W : InW) (sk2 n i w sk wk is rg A K) : vcTop { cxT Try.prog TT Tp0O 1000 50 with fn := 69 } 1000 (loopAt Try.prog 69 3) (tmOut 48 [(2, .ptr 4 0), (3, .ptr 7 0), (11, .rs _ sk2), (12, .si .i64 n), (13, .si .i64 i)] [4, 5, 6, 14, 15, 16, 17, 18, 19, 20, 21, 22, 23, 24, 25, 26, 27, 28, 29, 30, 31, 32, 33, 34, 35, 36, 37, 38, 39, 40, 41, 42, 43]) [(4, .blk 115 [.ptr 1 0]), (7, .blk 3 [.si .i64 w]), (1, .blk 120 [.rs _ sk, .rw 16, .rw 6, .si .i64 wk]), (16, .arr 81 [.str, .int .i64, .int .i64] is), (6, .arr 32 [.int .i64, .int .i64] rg)] (roundL lc_wtO A K) = VCL_wtO sk2 n i w sk wk is rg A K := by kernel_rfl
def okLt_wtO : Prop := ∀ (W : InW) (body a : Code), (Try.prog.funcs[69]?).bind (·.body) = some body → a ∈ loopsIn body → keyOf a = 3 → @LoopOk W Try.prog a (@loopRun W lc_wtO)
theorem okl_wtO (meas : [InW] → List Ed → Nat) (hyp_ : ∀ (W : InW) (sk2 : Ro [.str, .int .i64, .int .i64, .int .i64, .int .i64]) (n : Int) (i : Int) (w : Int) (sk : Ro [.str, .int .i64, .int .i64, .int .i64, .int .i64]) (wk : Int) (is : Dt) (rg : Dt) (K : Nat → List Ed → Prop), sp_wtO [.ro _ sk2, .i n, .i i, .i w, .ro _ sk, .i wk, .l is, .l rg] K → ∀ A : List Ed → Prop, (∀ e, meas e < meas [.ro _ sk2, .i n, .i i, .i w, .ro _ sk, .i wk, .l is, .l rg] → sp_wtO e K → A e) → VCL_wtO sk2 n i w sk wk is rg A K) : okLt_wtO :=
  LE.okOf' (fun W => @TT W) (fun W => @TT_ok W) mixed_ok Tp0O 1000 50 (by kernel_rfl) lc_wtO (fun W => @meas W) fun W sk2 n i w sk wk is rg K hs =>
    (vcl_wtO W sk2 n i w sk wk is rg (fun e => meas e < meas [.ro _ sk2, .i n, .i i, .i w, .ro _ sk, .i wk, .l is, .l rg] ∧ sp_wtO e K) K).mpr (hyp_ W sk2 n i w sk wk is rg K hs _ fun e h1 h2 => ⟨h1, h2⟩)
theorem okLwtO : okLt_wtO := okl_wtO (fun e => match e with | _ :: .i n :: .i i :: _ => (n - i).toNat | _ => 0) fun W sk2 n i w sk wk is rg K hs A hA => by
  obtain ⟨⟨e2, rfl, hl, h0, h1, hF, hk0, w0, w1, hR, hT⟩, hk⟩ := hs
  unfold VCL_wtO
  rw [e2]
  have hm := sk.len
  simp only [maxLen] at hm
  refine vifd (fun e => ?_) fun e => ?_
  · have e1 : (i + 1).toNat = i.toNat + 1 := by omega
    have hi : i.toNat < rg.length := by omega
    have hb := fd_in hR hF hk0 hi (by omega)
    have hr := hR i.toNat hi
    have hA' := hA [.ro _ sk2, .i sk.xs.length, .i (i + 1), .i w, .ro _ sk, .i wk, .l is, .l (rg.set i.toNat [.i (Sp.fdLo sk.xs rg (w - wk) i.toNat), .i (Sp.fdHi sk.xs rg (w - wk) i.toNat)])] (by show ((sk.xs.length : Int) - (i + 1)).toNat < ((sk.xs.length : Int) - i).toNat; omega) ⟨⟨e2, rfl, by simpa using hl, by omega, by omega, hF, hk0, w0, w1, rgok_set hR hi hb.1 hb.2.1 hb.2.2.1, two_set hT⟩, by
      rw [e1, fad_step hi]
      exact hk⟩
    rw [← set_two hT hi] at hA'
    unfold Sp.fdLo Sp.fdHi at hA' hb
    unfold Sp.rLo Sp.rHi at hr
    clear hA hk hF hR hT
    simp only [Nat.zero_add, Nat.reduceAdd, cel_two hi, List.length_set]
    unfold Sp.fHi Sp.fLo Sp.rLo Sp.rHi at *
    refine need_in (by omega) (nedd (by omega) (need_in (by omega) (nedd (by omega) (ar64 (by omega) (ar64 (by omega) (ar64 (by omega) (nedd (by omega) (need_in (by omega) (nedd (by omega) (ar64 (by omega) (ar64 (by omega) (ar64 (by omega) (nedd (by omega) (ar64 (by omega) hA'))))))))))))))
  · rw [show i.toNat = rg.length by omega, fad_end] at hk
    exact hk
noncomputable def le_wtO : LE Try.prog := ⟨69, 3, fun W => @loopRun W lc_wtO, okLwtO⟩
noncomputable def Tp1O : Tab Try.prog := ⟨[], [le_wtO], []⟩
def sp_waitO [InW] (e : List Ed) (K : Nat → List Ed → Prop) : Prop := match e with
  | [.i w, .ro _ sk, .i wk, .l is, .l rg] => Pre (rg.length = sk.xs.length ∧ Sp.FdOk sk.xs ∧ wk ≤ w ∧ -100000 ≤ wk ∧ w ≤ 100000 ∧ Sp.RgOk rg ∧ Sp.Two rg) (K 0 [.ro _ sk, .i w, .l is, .l (Sp.fadeD sk.xs rg (w - wk))])
  | _ => False
noncomputable def cc_waitO : CC where
  g := 69
  args := [(.ptr 1 0), .int .i64]
  H := [(1, .blk 120 [.rs [.str, .int .i64, .int .i64, .int .i64, .int .i64], (.row 16), (.row 6), .int .i64]), (16, .arr 81 [.str, .int .i64, .int .i64]), (6, .arr 32 [.int .i64, .int .i64])]
  outs := [⟨false, .tup [], [(1, .blk 120 [.rs [.str, .int .i64, .int .i64, .int .i64, .int .i64], (.row 16), (.row 12), .int .i64]), (16, .arr 81 [.str, .int .i64, .int .i64]), (12, .arr 32 [.int .i64, .int .i64])], false⟩]
  spec := sp_waitO
def VCC_waitO [W : InW] (w : Int) (sk : Ro [.str, .int .i64, .int .i64, .int .i64, .int .i64]) (wk : Int) (is rg : Dt) (K : Nat → List Ed → Prop) : Prop :=
  Pre (sk.xs = sk.xs ∧ (↑(sk.xs.length) : Int) = (↑(sk.xs.length) : Int) ∧ rg.length = sk.xs.length ∧ (0 : Int) ≤ (0 : Int) ∧ (0 : Int) ≤ (↑(sk.xs.length) : Int) ∧ Sp.FdOk sk.xs ∧ (0 : Int) ≤ w - wk ∧ (-100000 : Int) ≤ wk ∧ w ≤ (100000 : Int) ∧ Sp.RgOk rg ∧ Sp.Two rg) (K (0 : Nat) [.ro _ sk, .i w, .l is, .l (Sp.fadF sk.xs rg (w - wk) (Int.toNat (0 : Int)))])
theorem vcc_waitO (W : InW) (w sk wk is rg K) : coreK (cxT Try.prog TT Tp1O 1000 50) 1000 69 [.ptr 1 0, .si .i64 w] [(1, .blk 120 [.rs _ sk, .rw 16, .rw 6, .si .i64 wk]), (16, .arr 81 [.str, .int .i64, .int .i64] is), (6, .arr 32 [.int .i64, .int .i64] rg)] (fun v h => outC cc_waitO.H [.ro _ sk, .i wk, .l is, .l rg] cc_waitO.outs 0 false v h K) (fun v h => outC cc_waitO.H [.ro _ sk, .i wk, .l is, .l rg] cc_waitO.outs 0 true v h K) = VCC_waitO w sk wk is rg K := by kernel_rfl
theorem okc_waitO (hyp_ : ∀ (W : InW) (w : Int) (sk : Ro [.str, .int .i64, .int .i64, .int .i64, .int .i64]) (wk : Int) (is : Dt) (rg : Dt) (K : Nat → List Ed → Prop), sp_waitO [.i w, .ro _ sk, .i wk, .l is, .l rg] K → VCC_waitO w sk wk is rg K) : ∀ W : InW, @CallC W Try.prog cc_waitO :=
  CC.okOf (fun W => @TT W) (fun W => @TT_ok W) mixed_ok Tp1O 1000 50 cc_waitO fun W w sk wk is rg K hs => (vcc_waitO W w sk wk is rg K).mpr (hyp_ W w sk wk is rg K hs)
theorem okCwaitO : ∀ W : InW, @CallC W Try.prog cc_waitO := okc_waitO fun W w sk wk is rg K hs => by
  obtain ⟨⟨hl, hF, h0, h1, h2, hR, hT⟩, hk⟩ := hs
  unfold VCC_waitO
  exact ⟨⟨rfl, rfl, hl, by omega, by omega, hF, by omega, h1, h2, hR, hT⟩, hk⟩
noncomputable def TqO : Tab Try.prog := ⟨[pc_lev, pc_behind], [], []⟩
def sp_tgtO [InW] (e : List Ed) (K : Nat → List Ed → Prop) : Prop := match e with
  | [.i ew, .i ek, .i es, .i ei, .i em, .ro _ sk, .i wk, .l is, .l rg] => Pre (0 ≤ es ∧ es < sk.xs.length ∧ rg.length = sk.xs.length ∧ Sp.SchOk sk.xs is ∧ Sp.RgOk rg ∧ Sp.Two rg) (K 0 [.ro _ sk, .i wk, .l is, .l (rg.set es.toNat [.i (Sp.lev (Sp.rLo rg es.toNat + Sp.gLo sk.xs es.toNat)), .i (Sp.lev (Sp.rHi rg es.toNat + Sp.gHi sk.xs es.toNat))])])
  | _ => False
noncomputable def cc_tgtO : CC where
  g := 99
  args := [(.ptr 1 0), .agg [.int .i64, .int .i64, .int .i64, .int .i64, .int .i64]]
  H := [(1, .blk 120 [.rs [.str, .int .i64, .int .i64, .int .i64, .int .i64], (.row 16), (.row 6), .int .i64]), (16, .arr 81 [.str, .int .i64, .int .i64]), (6, .arr 32 [.int .i64, .int .i64])]
  outs := [⟨false, .tup [], [(1, .blk 120 [.rs [.str, .int .i64, .int .i64, .int .i64, .int .i64], (.row 16), (.row 12), .int .i64]), (16, .arr 81 [.str, .int .i64, .int .i64]), (12, .arr 32 [.int .i64, .int .i64])], false⟩]
  spec := sp_tgtO
def VCC_tgtO [W : InW] (ew ek es ei em : Int) (sk : Ro [.str, .int .i64, .int .i64, .int .i64, .int .i64]) (wk : Int) (is rg : Dt) (K : Nat → List Ed → Prop) : Prop :=
  Need (decide ((0 : Int) ≤ es) && decide (es < (↑(rg.length) : Int))) (Need (decide ((0 : Int) ≤ es) && decide (es < (↑(sk.xs.length) : Int))) (Need (decide (es.toNat < sk.xs.length)) (Need (decide (es.toNat < rg.length)) (Ar .i64 ((cel rg es.toNat (0 : Nat)).int + (cel sk.xs es.toNat (0+1 : Nat)).int) fun z => Pre True (Need (decide (es.toNat < rg.length)) (Ar .i64 ((cel rg es.toNat (0+1 : Nat)).int + (cel sk.xs es.toNat (0+1+1 : Nat)).int) fun z_1 => Pre True (Need (decide (es.toNat < rg.length)) (Need (decide (es.toNat < (List.set rg es.toNat (setCls (List.getD rg es.toNat []) (0 : Nat) [Cl.i (Sp.lev z)])).length)) (K (0 : Nat) [.ro _ sk, .i wk, .l is, .l ((List.set rg es.toNat (setCls (List.getD rg es.toNat []) (0 : Nat) [Cl.i (Sp.lev z)])).set es.toNat (setCls ((List.set rg es.toNat (setCls (List.getD rg es.toNat []) (0 : Nat) [Cl.i (Sp.lev z)])).getD es.toNat []) (0+1 : Nat) [Cl.i (Sp.lev z_1)]))])))))))))
theorem vcc_tgtO (W : InW) (ew ek es ei em sk wk is rg K) : coreK (cxT Try.prog TT TqO 1000 50) 1000 99 [.ptr 1 0, .agg [.si .i64 ew, .si .i64 ek, .si .i64 es, .si .i64 ei, .si .i64 em]] [(1, .blk 120 [.rs _ sk, .rw 16, .rw 6, .si .i64 wk]), (16, .arr 81 [.str, .int .i64, .int .i64] is), (6, .arr 32 [.int .i64, .int .i64] rg)] (fun v h => outC cc_tgtO.H [.ro _ sk, .i wk, .l is, .l rg] cc_tgtO.outs 0 false v h K) (fun v h => outC cc_tgtO.H [.ro _ sk, .i wk, .l is, .l rg] cc_tgtO.outs 0 true v h K) = VCC_tgtO ew ek es ei em sk wk is rg K := by kernel_rfl
theorem okc_tgtO (hyp_ : ∀ (W : InW) (ew : Int) (ek : Int) (es : Int) (ei : Int) (em : Int) (sk : Ro [.str, .int .i64, .int .i64, .int .i64, .int .i64]) (wk : Int) (is : Dt) (rg : Dt) (K : Nat → List Ed → Prop), sp_tgtO [.i ew, .i ek, .i es, .i ei, .i em, .ro _ sk, .i wk, .l is, .l rg] K → VCC_tgtO ew ek es ei em sk wk is rg K) : ∀ W : InW, @CallC W Try.prog cc_tgtO :=
  CC.okOf (fun W => @TT W) (fun W => @TT_ok W) mixed_ok TqO 1000 50 cc_tgtO fun W ew ek es ei em sk wk is rg K hs => (vcc_tgtO W ew ek es ei em sk wk is rg K).mpr (hyp_ W ew ek es ei em sk wk is rg K hs)
def sp_mkdO [InW] (e : List Ed) (K : Nat → List Ed → Prop) : Prop := match e with
  | [.i ew, .i ek, .i es, .i ei, .i em, .ro _ sk, .i wk, .l is, .l rg] => Pre (0 ≤ es ∧ es < sk.xs.length ∧ 0 ≤ ei ∧ ei < is.length ∧ 0 ≤ em ∧ em ≤ 1000 ∧ rg.length = sk.xs.length ∧ Sp.SchOk sk.xs is ∧ Sp.Two rg)
    (Vif (decide (min (Sp.rHi rg es.toNat) (Sp.bhHi (Sp.bLo is ei.toNat) em) < max (Sp.rLo rg es.toNat) (Sp.bhLo (Sp.bHi is ei.toNat) em)))
      (K 1 [.ro _ sk, .i wk, .l is, .l (rg.set es.toNat [.i (max (Sp.rLo rg es.toNat) (Sp.bhLo (Sp.bHi is ei.toNat) em)), .i (min (Sp.rHi rg es.toNat) (Sp.bhHi (Sp.bLo is ei.toNat) em))])])
      (K 0 [.ro _ sk, .i wk, .l is, .l (rg.set es.toNat [.i (max (Sp.rLo rg es.toNat) (Sp.bhLo (Sp.bHi is ei.toNat) em)), .i (min (Sp.rHi rg es.toNat) (Sp.bhHi (Sp.bLo is ei.toNat) em))])]))
  | _ => False
noncomputable def cc_mkdO : CC where
  g := 100
  args := [(.ptr 1 0), .agg [.int .i64, .int .i64, .int .i64, .int .i64, .int .i64]]
  H := [(1, .blk 120 [.rs [.str, .int .i64, .int .i64, .int .i64, .int .i64], (.row 16), (.row 6), .int .i64]), (16, .arr 81 [.str, .int .i64, .int .i64]), (6, .arr 32 [.int .i64, .int .i64])]
  outs := [⟨false, .tup [], [(1, .blk 120 [.rs [.str, .int .i64, .int .i64, .int .i64, .int .i64], (.row 16), (.row 12), .int .i64]), (16, .arr 81 [.str, .int .i64, .int .i64]), (12, .arr 32 [.int .i64, .int .i64])], false⟩, ⟨true, (.lit (.iface 28 (.int .i64 9))), [(1, .blk 120 [.rs [.str, .int .i64, .int .i64, .int .i64, .int .i64], (.row 16), (.row 12), .int .i64]), (16, .arr 81 [.str, .int .i64, .int .i64]), (12, .arr 32 [.int .i64, .int .i64])], false⟩]
  spec := sp_mkdO
def VCC_mkdO [W : InW] (ew ek es ei em : Int) (sk : Ro [.str, .int .i64, .int .i64, .int .i64, .int .i64]) (wk : Int) (is rg : Dt) (K : Nat → List Ed → Prop) : Prop :=
  Need (decide ((0 : Int) ≤ es) && decide (es < (↑(rg.length) : Int))) (Need (decide ((0 : Int) ≤ ei) && decide (ei < (↑(is.length) : Int))) (Need (decide (ei.toNat < is.length)) (Pre (Sp.Small (cel is ei.toNat (0+1 : Nat)).int ∧ Sp.Small (cel is ei.toNat (0+1+1 : Nat)).int ∧ Sp.Small em) (Need (decide (es.toNat < rg.length)) (Need (decide (es.toNat < rg.length)) (Need (decide (es.toNat < rg.length)) (Need (decide (es.toNat < (List.set rg es.toNat (setCls (List.getD rg es.toNat []) (0 : Nat) [Cl.i (max (cel rg es.toNat (0 : Nat)).int (Sp.bhLo (cel is ei.toNat (0+1+1 : Nat)).int em))])).length)) (Need (decide (es.toNat < ((List.set rg es.toNat (setCls (List.getD rg es.toNat []) (0 : Nat) [Cl.i (max (cel rg es.toNat (0 : Nat)).int (Sp.bhLo (cel is ei.toNat (0+1+1 : Nat)).int em))])).set es.toNat (setCls ((List.set rg es.toNat (setCls (List.getD rg es.toNat []) (0 : Nat) [Cl.i (max (cel rg es.toNat (0 : Nat)).int (Sp.bhLo (cel is ei.toNat (0+1+1 : Nat)).int em))])).getD es.toNat []) (0+1 : Nat) [Cl.i (min (cel rg es.toNat (0+1 : Nat)).int (Sp.bhHi (cel is ei.toNat (0+1 : Nat)).int em))])).length)) (Need (decide (es.toNat < ((List.set rg es.toNat (setCls (List.getD rg es.toNat []) (0 : Nat) [Cl.i (max (cel rg es.toNat (0 : Nat)).int (Sp.bhLo (cel is ei.toNat (0+1+1 : Nat)).int em))])).set es.toNat (setCls ((List.set rg es.toNat (setCls (List.getD rg es.toNat []) (0 : Nat) [Cl.i (max (cel rg es.toNat (0 : Nat)).int (Sp.bhLo (cel is ei.toNat (0+1+1 : Nat)).int em))])).getD es.toNat []) (0+1 : Nat) [Cl.i (min (cel rg es.toNat (0+1 : Nat)).int (Sp.bhHi (cel is ei.toNat (0+1 : Nat)).int em))])).length)) (Vif (decide ((cel ((List.set rg es.toNat (setCls (List.getD rg es.toNat []) (0 : Nat) [Cl.i (max (cel rg es.toNat (0 : Nat)).int (Sp.bhLo (cel is ei.toNat (0+1+1 : Nat)).int em))])).set es.toNat (setCls ((List.set rg es.toNat (setCls (List.getD rg es.toNat []) (0 : Nat) [Cl.i (max (cel rg es.toNat (0 : Nat)).int (Sp.bhLo (cel is ei.toNat (0+1+1 : Nat)).int em))])).getD es.toNat []) (0+1 : Nat) [Cl.i (min (cel rg es.toNat (0+1 : Nat)).int (Sp.bhHi (cel is ei.toNat (0+1 : Nat)).int em))])) es.toNat (0+1 : Nat)).int < (cel ((List.set rg es.toNat (setCls (List.getD rg es.toNat []) (0 : Nat) [Cl.i (max (cel rg es.toNat (0 : Nat)).int (Sp.bhLo (cel is ei.toNat (0+1+1 : Nat)).int em))])).set es.toNat (setCls ((List.set rg es.toNat (setCls (List.getD rg es.toNat []) (0 : Nat) [Cl.i (max (cel rg es.toNat (0 : Nat)).int (Sp.bhLo (cel is ei.toNat (0+1+1 : Nat)).int em))])).getD es.toNat []) (0+1 : Nat) [Cl.i (min (cel rg es.toNat (0+1 : Nat)).int (Sp.bhHi (cel is ei.toNat (0+1 : Nat)).int em))])) es.toNat (0 : Nat)).int)) (K (0+1 : Nat) [.ro _ sk, .i wk, .l is, .l ((List.set rg es.toNat (setCls (List.getD rg es.toNat []) (0 : Nat) [Cl.i (max (cel rg es.toNat (0 : Nat)).int (Sp.bhLo (cel is ei.toNat (0+1+1 : Nat)).int em))])).set es.toNat (setCls ((List.set rg es.toNat (setCls (List.getD rg es.toNat []) (0 : Nat) [Cl.i (max (cel rg es.toNat (0 : Nat)).int (Sp.bhLo (cel is ei.toNat (0+1+1 : Nat)).int em))])).getD es.toNat []) (0+1 : Nat) [Cl.i (min (cel rg es.toNat (0+1 : Nat)).int (Sp.bhHi (cel is ei.toNat (0+1 : Nat)).int em))]))]) (K (0 : Nat) [.ro _ sk, .i wk, .l is, .l ((List.set rg es.toNat (setCls (List.getD rg es.toNat []) (0 : Nat) [Cl.i (max (cel rg es.toNat (0 : Nat)).int (Sp.bhLo (cel is ei.toNat (0+1+1 : Nat)).int em))])).set es.toNat (setCls ((List.set rg es.toNat (setCls (List.getD rg es.toNat []) (0 : Nat) [Cl.i (max (cel rg es.toNat (0 : Nat)).int (Sp.bhLo (cel is ei.toNat (0+1+1 : Nat)).int em))])).getD es.toNat []) (0+1 : Nat) [Cl.i (min (cel rg es.toNat (0+1 : Nat)).int (Sp.bhHi (cel is ei.toNat (0+1 : Nat)).int em))]))])))))))))))
theorem vcc_mkdO (W : InW) (ew ek es ei em sk wk is rg K) : coreK (cxT Try.prog TT TqO 1000 50) 1000 100 [.ptr 1 0, .agg [.si .i64 ew, .si .i64 ek, .si .i64 es, .si .i64 ei, .si .i64 em]] [(1, .blk 120 [.rs _ sk, .rw 16, .rw 6, .si .i64 wk]), (16, .arr 81 [.str, .int .i64, .int .i64] is), (6, .arr 32 [.int .i64, .int .i64] rg)] (fun v h => outC cc_mkdO.H [.ro _ sk, .i wk, .l is, .l rg] cc_mkdO.outs 0 false v h K) (fun v h => outC cc_mkdO.H [.ro _ sk, .i wk, .l is, .l rg] cc_mkdO.outs 0 true v h K) = VCC_mkdO ew ek es ei em sk wk is rg K := by kernel_rfl
theorem okc_mkdO (hyp_ : ∀ (W : InW) (ew : Int) (ek : Int) (es : Int) (ei : Int) (em : Int) (sk : Ro [.str, .int .i64, .int .i64, .int .i64, .int .i64]) (wk : Int) (is : Dt) (rg : Dt) (K : Nat → List Ed → Prop), sp_mkdO [.i ew, .i ek, .i es, .i ei, .i em, .ro _ sk, .i wk, .l is, .l rg] K → VCC_mkdO ew ek es ei em sk wk is rg K) : ∀ W : InW, @CallC W Try.prog cc_mkdO :=
  CC.okOf (fun W => @TT W) (fun W => @TT_ok W) mixed_ok TqO 1000 50 cc_mkdO fun W ew ek es ei em sk wk is rg K hs => (vcc_mkdO W ew ek es ei em sk wk is rg K).mpr (hyp_ W ew ek es ei em sk wk is rg K hs)
theorem okCtgtO : ∀ W : InW, @CallC W Try.prog cc_tgtO := okc_tgtO fun W ew ek es ei em sk wk is rg K hs => by
  obtain ⟨⟨h0, h1, hl, hS, hR, hT⟩, hk⟩ := hs
  unfold VCC_tgtO
  have hi : es.toNat < rg.length := by omega
  have hg := hS.skG es.toNat (by omega)
  have hr := hR es.toNat hi
  simp only [Nat.zero_add, Nat.reduceAdd, List.length_set, set_two hT hi]
  unfold Sp.gLo Sp.gHi at hk hg
  unfold Sp.rLo Sp.rHi at hk hr
  clear hS hR hT
  exact need_in (by omega) (need_in (by omega) (nedd (by omega) (nedd (by omega) (ar64 (by omega) ⟨trivial, nedd (by omega) (ar64 (by omega) ⟨trivial, nedd (by omega) (nedd (by omega) hk)⟩)⟩))))
theorem okCmkdO : ∀ W : InW, @CallC W Try.prog cc_mkdO := okc_mkdO fun W ew ek es ei em sk wk is rg K hs => by
  obtain ⟨⟨h0, h1, h2, h3, h4, h5, hl, hS, hT⟩, hk⟩ := hs
  unfold VCC_mkdO
  have hi : es.toNat < rg.length := by omega
  have hb := hS.isB ei.toNat (by omega)
  simp only [Nat.zero_add, Nat.reduceAdd, set_two hT hi, List.length_set, cel_s0 hi, cel_s1 hi]
  unfold Sp.bLo Sp.bHi at hk hb
  unfold Sp.rLo Sp.rHi at hk
  clear hS hT
  exact need_in (by omega) (need_in (by omega) (nedd (by omega) ⟨⟨by unfold Sp.Small; omega, by unfold Sp.Small; omega, by unfold Sp.Small; omega⟩, nedd (by omega) (nedd (by omega) (nedd (by omega) (nedd (by omega) (nedd (by omega) (nedd (by omega) hk)))))⟩))
noncomputable def Tq0O : Tab Try.prog := ⟨[], [], [ceOf cc_waitO okCwaitO, ceOf cc_tgtO okCtgtO, ceOf cc_mkdO okCmkdO]⟩
def sp_lvO [InW] (e : List Ed) (K : Nat → List Ed → Prop) : Prop := match e with
  | [.ro _ ev, .i n, .i i, .i er, .ro _ sk, .i wk, .l is, .l rg] => Pre (n = (ev.xs.length : Int) ∧ 0 ≤ i ∧ i ≤ n ∧ Sp.SchOk sk.xs is ∧ Sp.EvOk sk.xs is ev.xs ∧ rg.length = sk.xs.length ∧ 0 ≤ wk ∧ wk ≤ 200 ∧ (i < n → wk ≤ Sp.evW ev.xs i.toNat) ∧ Sp.RgOk rg ∧ Sp.Two rg)
    (Vif (Sp.lvS sk.xs is ev.xs (n - i).toNat i.toNat wk rg).1 (K 0 [.i er, .ro _ sk, .i (Sp.lvS sk.xs is ev.xs (n - i).toNat i.toNat wk rg).2.1, .l is, .l (Sp.lvS sk.xs is ev.xs (n - i).toNat i.toNat wk rg).2.2]) (K 1 [.i er, .ro _ sk, .i (Sp.lvS sk.xs is ev.xs (n - i).toNat i.toNat wk rg).2.1, .l is, .l (Sp.lvS sk.xs is ev.xs (n - i).toNat i.toNat wk rg).2.2]))
  | _ => False
noncomputable def lc_lvO : LC where
  len := 41
  T := [(6, (.ptr 4 0)), (7, (.ptr 7 0)), (8, (.ptr 10 0)), (22, .rs Iv5), (23, .int .i64), (24, .int .i64), (40, (.held ((.fn (.func 98) [] [(.ptr 4 0), (.ptr 7 0)]))))]
  H := [(4, .blk 115 [(.ptr 1 0)]), (7, .blk 28 [.int .i64]), (1, .blk 120 [.rs [.str, .int .i64, .int .i64, .int .i64, .int .i64], (.row 16), (.row 6), .int .i64]), (16, .arr 81 [.str, .int .i64, .int .i64]), (10, .blk 145 [(.fn (.func 99) [(.ptr 1 0)] []), (.fn (.func 100) [(.ptr 1 0)] [])]), (6, .arr 32 [.int .i64, .int .i64])]
  W := [10, 25, 26, 27, 28, 29, 30, 31, 32, 33, 34, 35, 36, 37, 38]
  outs := [⟨.exit 0, [(6, (.ptr 4 0)), (7, (.ptr 7 0)), (40, (.held ((.fn (.func 98) [] [(.ptr 4 0), (.ptr 7 0)]))))], [(4, .blk 115 [(.ptr 1 0)]), (7, .blk 28 [.int .i64]), (1, .blk 120 [.rs [.str, .int .i64, .int .i64, .int .i64, .int .i64], (.row 16), (.row 12), .int .i64]), (16, .arr 81 [.str, .int .i64, .int .i64]), (12, .arr 32 [.int .i64, .int .i64])], [8, 10, 22, 23, 24, 25, 26, 27, 28, 29, 30, 31, 32, 33, 34, 35, 36, 37, 38]⟩, ⟨.pan (Value.iface 28 (Value.int .i64 9)), [(6, (.ptr 4 0)), (7, (.ptr 7 0)), (40, (.held ((.fn (.func 98) [] [(.ptr 4 0), (.ptr 7 0)]))))], [(4, .blk 115 [(.ptr 1 0)]), (7, .blk 28 [.int .i64]), (1, .blk 120 [.rs [.str, .int .i64, .int .i64, .int .i64, .int .i64], (.row 16), (.row 15), .int .i64]), (16, .arr 81 [.str, .int .i64, .int .i64]), (15, .arr 32 [.int .i64, .int .i64])], [8, 10, 22, 23, 24, 25, 26, 27, 28, 29, 30, 31, 32, 33, 34, 35, 36, 37, 38]⟩]
  spec := sp_lvO
def VCL_lvO [W : InW] (ev : Ro Iv5) (n i er : Int) (sk : Ro [.str, .int .i64, .int .i64, .int .i64, .int .i64]) (wk : Int) (is rg : Dt) (A : List Ed → Prop) (K : Nat → List Ed → Prop) : Prop :=
  Vif (decide (i < n)) (Need (decide ((0 : Int) ≤ i) && decide (i < (↑(ev.xs.length) : Int))) (Need (decide (i.toNat < ev.xs.length)) (Pre (rg.length = sk.xs.length ∧ Sp.FdOk sk.xs ∧ wk ≤ (cel ev.xs i.toNat (0 : Nat)).int ∧ (-100000 : Int) ≤ wk ∧ (cel ev.xs i.toNat (0 : Nat)).int ≤ (100000 : Int) ∧ Sp.RgOk rg ∧ Sp.Two rg) (Need (decide ((0 : Int) ≤ (cel ev.xs i.toNat (0+1 : Nat)).int) && decide ((cel ev.xs i.toNat (0+1 : Nat)).int < (↑(2 : Nat) : Int))) (Vif (decide ((cel ev.xs i.toNat (0+1 : Nat)).int = (↑(0 : Nat) : Int))) (Pre ((0 : Int) ≤ (cel ev.xs i.toNat (0+1+1 : Nat)).int ∧ (cel ev.xs i.toNat (0+1+1 : Nat)).int < (↑(sk.xs.length) : Int) ∧ List.length (Sp.fadeD sk.xs rg ((cel ev.xs i.toNat (0 : Nat)).int - wk)) = sk.xs.length ∧ Sp.SchOk sk.xs is ∧ Sp.RgOk (Sp.fadeD sk.xs rg ((cel ev.xs i.toNat (0 : Nat)).int - wk)) ∧ Sp.Two (Sp.fadeD sk.xs rg ((cel ev.xs i.toNat (0 : Nat)).int - wk))) (Ar .i64 (i + (1 : Int)) fun z => A [.ro _ ev, .i n, .i z, .i er, .ro _ sk, .i (cel ev.xs i.toNat (0 : Nat)).int, .l is, .l (List.set (Sp.fadeD sk.xs rg ((cel ev.xs i.toNat (0 : Nat)).int - wk)) (cel ev.xs i.toNat (0+1+1 : Nat)).int.toNat [Cl.i (Sp.lev (Sp.rLo (Sp.fadeD sk.xs rg ((cel ev.xs i.toNat (0 : Nat)).int - wk)) (cel ev.xs i.toNat (0+1+1 : Nat)).int.toNat + Sp.gLo sk.xs (cel ev.xs i.toNat (0+1+1 : Nat)).int.toNat)), Cl.i (Sp.lev (Sp.rHi (Sp.fadeD sk.xs rg ((cel ev.xs i.toNat (0 : Nat)).int - wk)) (cel ev.xs i.toNat (0+1+1 : Nat)).int.toNat + Sp.gHi sk.xs (cel ev.xs i.toNat (0+1+1 : Nat)).int.toNat))])])) (Pre ((0 : Int) ≤ (cel ev.xs i.toNat (0+1+1 : Nat)).int ∧ (cel ev.xs i.toNat (0+1+1 : Nat)).int < (↑(sk.xs.length) : Int) ∧ (0 : Int) ≤ (cel ev.xs i.toNat (0+1+1+1 : Nat)).int ∧ (cel ev.xs i.toNat (0+1+1+1 : Nat)).int < (↑(is.length) : Int) ∧ (0 : Int) ≤ (cel ev.xs i.toNat (0+1+1+1+1 : Nat)).int ∧ (cel ev.xs i.toNat (0+1+1+1+1 : Nat)).int ≤ (1000 : Int) ∧ List.length (Sp.fadeD sk.xs rg ((cel ev.xs i.toNat (0 : Nat)).int - wk)) = sk.xs.length ∧ Sp.SchOk sk.xs is ∧ Sp.Two (Sp.fadeD sk.xs rg ((cel ev.xs i.toNat (0 : Nat)).int - wk))) (Vif (decide (min (Sp.rHi (Sp.fadeD sk.xs rg ((cel ev.xs i.toNat (0 : Nat)).int - wk)) (cel ev.xs i.toNat (0+1+1 : Nat)).int.toNat) (Sp.bhHi (Sp.bLo is (cel ev.xs i.toNat (0+1+1+1 : Nat)).int.toNat) (cel ev.xs i.toNat (0+1+1+1+1 : Nat)).int) < max (Sp.rLo (Sp.fadeD sk.xs rg ((cel ev.xs i.toNat (0 : Nat)).int - wk)) (cel ev.xs i.toNat (0+1+1 : Nat)).int.toNat) (Sp.bhLo (Sp.bHi is (cel ev.xs i.toNat (0+1+1+1 : Nat)).int.toNat) (cel ev.xs i.toNat (0+1+1+1+1 : Nat)).int))) (K (0+1 : Nat) [.i er, .ro _ sk, .i (cel ev.xs i.toNat (0 : Nat)).int, .l is, .l (List.set (Sp.fadeD sk.xs rg ((cel ev.xs i.toNat (0 : Nat)).int - wk)) (cel ev.xs i.toNat (0+1+1 : Nat)).int.toNat [Cl.i (max (Sp.rLo (Sp.fadeD sk.xs rg ((cel ev.xs i.toNat (0 : Nat)).int - wk)) (cel ev.xs i.toNat (0+1+1 : Nat)).int.toNat) (Sp.bhLo (Sp.bHi is (cel ev.xs i.toNat (0+1+1+1 : Nat)).int.toNat) (cel ev.xs i.toNat (0+1+1+1+1 : Nat)).int)), Cl.i (min (Sp.rHi (Sp.fadeD sk.xs rg ((cel ev.xs i.toNat (0 : Nat)).int - wk)) (cel ev.xs i.toNat (0+1+1 : Nat)).int.toNat) (Sp.bhHi (Sp.bLo is (cel ev.xs i.toNat (0+1+1+1 : Nat)).int.toNat) (cel ev.xs i.toNat (0+1+1+1+1 : Nat)).int))])]) (Ar .i64 (i + (1 : Int)) fun z => A [.ro _ ev, .i n, .i z, .i er, .ro _ sk, .i (cel ev.xs i.toNat (0 : Nat)).int, .l is, .l (List.set (Sp.fadeD sk.xs rg ((cel ev.xs i.toNat (0 : Nat)).int - wk)) (cel ev.xs i.toNat (0+1+1 : Nat)).int.toNat [Cl.i (max (Sp.rLo (Sp.fadeD sk.xs rg ((cel ev.xs i.toNat (0 : Nat)).int - wk)) (cel ev.xs i.toNat (0+1+1 : Nat)).int.toNat) (Sp.bhLo (Sp.bHi is (cel ev.xs i.toNat (0+1+1+1 : Nat)).int.toNat) (cel ev.xs i.toNat (0+1+1+1+1 : Nat)).int)), Cl.i (min (Sp.rHi (Sp.fadeD sk.xs rg ((cel ev.xs i.toNat (0 : Nat)).int - wk)) (cel ev.xs i.toNat (0+1+1 : Nat)).int.toNat) (Sp.bhHi (Sp.bLo is (cel ev.xs i.toNat (0+1+1+1 : Nat)).int.toNat) (cel ev.xs i.toNat (0+1+1+1+1 : Nat)).int))])])))))))) (K (0 : Nat) [.i er, .ro _ sk, .i wk, .l is, .l rg])
theorem vcl_lvO (W : InW) (ev n i er sk wk is rg A K) : vcTop { cxT Try.prog TT Tq0O 1000 50 with fn := 68 } 1000 (loopAt Try.prog 68 6) (tmOut 41 [(6, .ptr 4 0), (7, .ptr 7 0), (8, .ptr 10 0), (22, .rs _ ev), (23, .si .i64 n), (24, .si .i64 i), (40, .held (.fn (.func 98) [] [.ptr 4 0, .ptr 7 0]))] [10, 25, 26, 27, 28, 29, 30, 31, 32, 33, 34, 35, 36, 37, 38]) [(4, .blk 115 [.ptr 1 0]), (7, .blk 28 [.si .i64 er]), (1, .blk 120 [.rs _ sk, .rw 16, .rw 6, .si .i64 wk]), (16, .arr 81 [.str, .int .i64, .int .i64] is), (10, .blk 145 [.fn (.func 99) [.ptr 1 0] [], .fn (.func 100) [.ptr 1 0] []]), (6, .arr 32 [.int .i64, .int .i64] rg)] (roundL lc_lvO A K) = VCL_lvO ev n i er sk wk is rg A K := by kernel_rfl
def okLt_lvO : Prop := ∀ (W : InW) (body a : Code), (Try.prog.funcs[68]?).bind (·.body) = some body → a ∈ loopsIn body → keyOf a = 6 → @LoopOk W Try.prog a (@loopRun W lc_lvO)
theorem okl_lvO (meas : [InW] → List Ed → Nat) (hyp_ : ∀ (W : InW) (ev : Ro Iv5) (n : Int) (i : Int) (er : Int) (sk : Ro [.str, .int .i64, .int .i64, .int .i64, .int .i64]) (wk : Int) (is : Dt) (rg : Dt) (K : Nat → List Ed → Prop), sp_lvO [.ro _ ev, .i n, .i i, .i er, .ro _ sk, .i wk, .l is, .l rg] K → ∀ A : List Ed → Prop, (∀ e, meas e < meas [.ro _ ev, .i n, .i i, .i er, .ro _ sk, .i wk, .l is, .l rg] → sp_lvO e K → A e) → VCL_lvO ev n i er sk wk is rg A K) : okLt_lvO :=
  LE.okOf' (fun W => @TT W) (fun W => @TT_ok W) mixed_ok Tq0O 1000 50 (by kernel_rfl) lc_lvO (fun W => @meas W) fun W ev n i er sk wk is rg K hs =>
    (vcl_lvO W ev n i er sk wk is rg (fun e => meas e < meas [.ro _ ev, .i n, .i i, .i er, .ro _ sk, .i wk, .l is, .l rg] ∧ sp_lvO e K) K).mpr (hyp_ W ev n i er sk wk is rg K hs _ fun e h1 h2 => ⟨h1, h2⟩)
theorem okLlvO : okLt_lvO := okl_lvO (fun e => match e with | .ro _ ev :: _ :: .i i :: _ => (ev.xs.length - i).toNat | _ => 0) fun W ev n i er sk wk is rg K hs A hA => by
  obtain ⟨⟨rfl, h0, h1, hS, hE, hl, w0, w1, hw, hR, hT⟩, hk⟩ := hs
  unfold VCL_lvO
  have hm := ev.len
  simp only [maxLen] at hm
  refine vifd (fun e => ?_) fun e => ?_
  · have e1 : (i + 1).toNat = i.toNat + 1 := by omega
    have hi : i.toNat < ev.xs.length := by omega
    have qw := hE.wk i.toNat hi
    have qk := hE.kd i.toNat hi
    have qs := hE.sk i.toNat hi
    have hw' := hw e
    have hF : Sp.FdOk sk.xs := fun j hj => hS.skF j hj
    have f1 := fd_ok hR hF (show 0 ≤ Sp.evW ev.xs i.toNat - wk by omega) hl
    have f2 := fd_two sk.xs rg (Sp.evW ev.xs i.toNat - wk)
    have f3 := fd_len sk.xs rg (Sp.evW ev.xs i.toNat - wk)
    rw [show ((ev.xs.length : Int) - i).toNat = ((ev.xs.length : Int) - (i + 1)).toNat + 1 by omega] at hk
    have st := lv_step (sk := sk.xs) (is := is) (ev := ev.xs) (rg := rg) (n := ((ev.xs.length : Int) - (i + 1)).toNat) (i := i.toNat) (w := wk)
    have go : ¬ Sp.hpHi sk.xs is (Sp.fadeD sk.xs rg (Sp.evW ev.xs i.toNat - wk)) ev.xs i.toNat < Sp.hpLo sk.xs is (Sp.fadeD sk.xs rg (Sp.evW ev.xs i.toNat - wk)) ev.xs i.toNat → A [.ro _ ev, .i ev.xs.length, .i (i + 1), .i er, .ro _ sk, .i (Sp.evW ev.xs i.toNat), .l is, .l (Sp.hpD sk.xs is (Sp.fadeD sk.xs rg (Sp.evW ev.xs i.toNat - wk)) ev.xs i.toNat)] := fun hd => hA _ (by show ((ev.xs.length : Int) - (i + 1)).toNat < ((ev.xs.length : Int) - i).toNat; omega)
      ⟨⟨rfl, by omega, by omega, hS, hE, by rw [Sp.hpD, List.length_set, f3]; exact hl, qw.1, qw.2, fun hj => by rw [e1]; exact hE.up i.toNat (by omega), hp_ok hS hE hi (by rw [f3]; exact hl) f1 hd, hp_two f2⟩, by
        rw [st.2 hd] at hk
        rw [e1]
        exact hk⟩
    refine need_in (by omega) (nedd (by omega) ⟨⟨hl, hF, hw', by omega, by show Sp.evW ev.xs i.toNat ≤ 100000; omega, hR, hT⟩, need_in (by show 0 ≤ Sp.evK ev.xs i.toNat ∧ Sp.evK ev.xs i.toNat < 2; omega) (vifd (fun ek => ?_) fun ek => ?_)⟩)
    · have hd := hp_up hS hE hi (show (Sp.fadeD sk.xs rg (Sp.evW ev.xs i.toNat - wk)).length = sk.xs.length by rw [f3]; exact hl) f1 ek
      have g := go hd
      unfold Sp.hpD Sp.hpLo Sp.hpHi at g
      rw [if_pos (show Sp.evK ev.xs i.toNat = 0 from ek), if_pos (show Sp.evK ev.xs i.toNat = 0 from ek)] at g
      exact ⟨⟨qs.1, qs.2, f3.trans hl, hS, f1, f2⟩, ar64 (by omega) g⟩
    · have ek1 : ¬ Sp.evK ev.xs i.toNat = 0 := ek
      have qi := hE.is i.toNat hi (by omega)
      refine ⟨⟨qs.1, qs.2, qi.1, qi.2.1, qi.2.2.1, qi.2.2.2, f3.trans hl, hS, f2⟩, vifd (fun hd => ?_) fun hd => ar64 (by omega) ?_⟩
      · have hd' : Sp.hpHi sk.xs is (Sp.fadeD sk.xs rg (Sp.evW ev.xs i.toNat - wk)) ev.xs i.toNat < Sp.hpLo sk.xs is (Sp.fadeD sk.xs rg (Sp.evW ev.xs i.toNat - wk)) ev.xs i.toNat := by
          unfold Sp.hpHi Sp.hpLo
          rw [if_neg ek1, if_neg ek1]
          exact hd
        rw [st.1 hd'] at hk
        have := hk.2 rfl
        unfold Sp.hpD Sp.hpLo Sp.hpHi at this
        rw [if_neg ek1, if_neg ek1] at this
        exact this
      · have hd' : ¬ Sp.hpHi sk.xs is (Sp.fadeD sk.xs rg (Sp.evW ev.xs i.toNat - wk)) ev.xs i.toNat < Sp.hpLo sk.xs is (Sp.fadeD sk.xs rg (Sp.evW ev.xs i.toNat - wk)) ev.xs i.toNat := by
          unfold Sp.hpHi Sp.hpLo
          rw [if_neg ek1, if_neg ek1]
          exact hd
        have g := go hd'
        unfold Sp.hpD Sp.hpLo Sp.hpHi at g
        rw [if_neg ek1, if_neg ek1] at g
        exact g
  · rw [show ((ev.xs.length : Int) - i).toNat = 0 by omega] at hk
    exact hk.1 rfl
noncomputable def le_lvO : LE Try.prog := ⟨68, 6, fun W => @loopRun W lc_lvO, okLlvO⟩
noncomputable def Tq2O : Tab Try.prog := ⟨[], [le_lvO], []⟩
def sp_livO [InW] (e : List Ed) (K : Nat → List Ed → Prop) : Prop := match e with
  | [.ro _ sk, .ro _ st, .ro _ ev, .l is] => Pre (Sp.HisOk sk.xs is st.xs ev.xs ∧ Sp.Two st.xs) (Vif (Sp.lvA sk.xs is st.xs ev.xs).1 (K 0 [.ro _ sk, .i (Sp.lvA sk.xs is st.xs ev.xs).2.1, .l is, .l (Sp.lvA sk.xs is st.xs ev.xs).2.2]) (K 1 [.l is]))
  | _ => False
noncomputable def cc_livO : CC where
  g := 68
  args := [.agg [.rs [.str, .int .i64, .int .i64, .int .i64, .int .i64], (.row 16)], .rs [.int .i64, .int .i64], .rs Iv5]
  H := [(16, .arr 81 [.str, .int .i64, .int .i64])]
  outs := [⟨false, .tup [(.ptr 6 0), (.lit (.int .i64 0))], [(6, .blk 120 [.rs [.str, .int .i64, .int .i64, .int .i64, .int .i64], (.row 16), (.row 12), .int .i64]), (16, .arr 81 [.str, .int .i64, .int .i64]), (12, .arr 32 [.int .i64, .int .i64])], false⟩, ⟨false, .tup [(.lit (.pointer none)), (.lit (.int .i64 9))], [(16, .arr 81 [.str, .int .i64, .int .i64])], false⟩]
  spec := sp_livO
def VCC_livO [W : InW] (sk : Ro [.str, .int .i64, .int .i64, .int .i64, .int .i64]) (st : Ro [.int .i64, .int .i64]) (ev : Ro Iv5) (is : Dt) (K : Nat → List Ed → Prop) : Prop :=
  Vif (match st.v with | Value.slice none len cap => true | x => false) (Pre ((↑(ev.xs.length) : Int) = (↑(ev.xs.length) : Int) ∧ (0 : Int) ≤ (0 : Int) ∧ (0 : Int) ≤ (↑(ev.xs.length) : Int) ∧ Sp.SchOk sk.xs is ∧ Sp.EvOk sk.xs is ev.xs ∧ (0 : Nat) = sk.xs.length ∧ (0 : Int) ≤ (0 : Int) ∧ (0 : Int) ≤ (200 : Int) ∧ ((0 : Int) < (↑(ev.xs.length) : Int) → (0 : Int) ≤ Sp.evW ev.xs (Int.toNat (0 : Int))) ∧ Sp.RgOk [] ∧ Sp.Two []) (Vif (Sp.lvS sk.xs is ev.xs ((↑(ev.xs.length) : Int) - (0 : Int)).toNat (Int.toNat (0 : Int)) (0 : Int) []).1 (K (0 : Nat) [Ed.ro _ sk, Ed.i (Sp.lvS sk.xs is ev.xs ((↑(ev.xs.length) : Int) - (0 : Int)).toNat (Int.toNat (0 : Int)) (0 : Int) []).snd.1, Ed.l is, Ed.l (Sp.lvS sk.xs is ev.xs ((↑(ev.xs.length) : Int) - (0 : Int)).toNat (Int.toNat (0 : Int)) (0 : Int) []).snd.2]) (K (0+1 : Nat) [Ed.l is]))) (Need (decide (((0 : Nat) + st.xs.length) * (16 : Nat) ≤ (140737488355328 : Nat))) (Pre ((↑(ev.xs.length) : Int) = (↑(ev.xs.length) : Int) ∧ (0 : Int) ≤ (0 : Int) ∧ (0 : Int) ≤ (↑(ev.xs.length) : Int) ∧ Sp.SchOk sk.xs is ∧ Sp.EvOk sk.xs is ev.xs ∧ st.xs.length = sk.xs.length ∧ (0 : Int) ≤ (0 : Int) ∧ (0 : Int) ≤ (200 : Int) ∧ ((0 : Int) < (↑(ev.xs.length) : Int) → (0 : Int) ≤ Sp.evW ev.xs (Int.toNat (0 : Int))) ∧ Sp.RgOk st.xs ∧ Sp.Two st.xs) (Vif (Sp.lvS sk.xs is ev.xs ((↑(ev.xs.length) : Int) - (0 : Int)).toNat (Int.toNat (0 : Int)) (0 : Int) ([] ++ st.xs)).1 (K (0 : Nat) [Ed.ro _ sk, Ed.i (Sp.lvS sk.xs is ev.xs ((↑(ev.xs.length) : Int) - (0 : Int)).toNat (Int.toNat (0 : Int)) (0 : Int) ([] ++ st.xs)).snd.1, Ed.l is, Ed.l (Sp.lvS sk.xs is ev.xs ((↑(ev.xs.length) : Int) - (0 : Int)).toNat (Int.toNat (0 : Int)) (0 : Int) ([] ++ st.xs)).snd.2]) (K (0+1 : Nat) [Ed.l is]))))
theorem vcc_livO (W : InW) (sk st ev is K) : coreK (cxT Try.prog TT Tq2O 1000 50) 1000 68 [.agg [.rs _ sk, .rw 16], .rs _ st, .rs _ ev] [(16, .arr 81 [.str, .int .i64, .int .i64] is)] (fun v h => outC cc_livO.H [.l is] cc_livO.outs 0 false v h K) (fun v h => outC cc_livO.H [.l is] cc_livO.outs 0 true v h K) = VCC_livO sk st ev is K := by kernel_rfl
theorem okc_livO (hyp_ : ∀ (W : InW) (sk : Ro [.str, .int .i64, .int .i64, .int .i64, .int .i64]) (st : Ro [.int .i64, .int .i64]) (ev : Ro Iv5) (is : Dt) (K : Nat → List Ed → Prop), sp_livO [.ro _ sk, .ro _ st, .ro _ ev, .l is] K → VCC_livO sk st ev is K) : ∀ W : InW, @CallC W Try.prog cc_livO :=
  CC.okOf (fun W => @TT W) (fun W => @TT_ok W) mixed_ok Tq2O 1000 50 cc_livO fun W sk st ev is K hs => (vcc_livO W sk st ev is K).mpr (hyp_ W sk st ev is K hs)
theorem okClivO : ∀ W : InW, @CallC W Try.prog cc_livO := okc_livO fun W sk st ev is K hs => by
  obtain ⟨⟨hH, hT⟩, hk⟩ := hs
  unfold VCC_livO
  have n1 := hH.sch.n1
  have n5 := hH.sch.n5
  have hl := hH.len
  have e0 : ((ev.xs.length : Int) - 0).toNat = ev.xs.length := by omega
  refine vif (fun e => ?_) fun e => nedd (by omega) ⟨⟨rfl, by omega, by omega, hH.sch, hH.ev, hl, by omega, by omega, fun h => (hH.ev.wk 0 (by omega)).1, hH.rg, hT⟩, ?_⟩
  · have := isNilV_of (r := st) e
    rw [this] at hl
    exact absurd hl (by simp; omega)
  · rw [e0]
    exact hk
end Go.Proofs.Ytdokbocmgdhmmaa
namespace Go.Proofs.Ytdokbocmgdhmmaa
open Go.RowKit
set_option linter.unusedVariables false
set_option maxRecDepth 100000
set_option maxHeartbeats 1600000
structure Wide (is is2 : Dt) (i : Nat) (lo hi : Int) : Prop where
  len : is2.length = is.length
  cell : ∀ j m, cel is2 j m = if i = j ∧ 1 ≤ m ∧ m < 3 then [Cl.i lo, Cl.i hi].getD (m - 1) .z else cel is j m
theorem wide_of {is : Dt} {i : Nat} (h : i < is.length) (lo hi : Int) : Wide is (is.set i (setCls (is.getD i []) 1 [.i lo, .i hi])) i lo hi :=
  ⟨by simp, fun j m => cel_setCls h j m⟩
theorem dup_congr {a b : Dt} {s : ByteArray} (h : ∀ j, Sp.nm a j = Sp.nm b j) : ∀ n k, Sp.dup a s k n = Sp.dup b s k n
  | 0, _ => rfl
  | n + 1, k => by simp only [Sp.dup, h, dup_congr h n]
theorem nameErr_congr {a b : Dt} (h : ∀ j, Sp.nm a j = Sp.nm b j) (i : Nat) : Sp.nameErr a i = Sp.nameErr b i := by
  simp only [Sp.nameErr, h, dup_congr h]
theorem Wide.nm {is is2 : Dt} {i : Nat} {lo hi : Int} (w : Wide is is2 i lo hi) (j : Nat) : Sp.nm is2 j = Sp.nm is j := by
  unfold Sp.nm
  rw [w.cell j 0, if_neg (by omega)]
theorem Wide.lo {is is2 : Dt} {i : Nat} {lo hi : Int} (w : Wide is is2 i lo hi) (j : Nat) : Sp.bLo is2 j = if i = j then lo else Sp.bLo is j := by
  unfold Sp.bLo
  rw [w.cell j 1]
  by_cases e : i = j
  · rw [if_pos ⟨e, by omega⟩, if_pos e]; rfl
  · rw [if_neg (fun x => e x.1), if_neg e]
theorem Wide.hi {is is2 : Dt} {i : Nat} {lo hi : Int} (w : Wide is is2 i lo hi) (j : Nat) : Sp.bHi is2 j = if i = j then hi else Sp.bHi is j := by
  unfold Sp.bHi
  rw [w.cell j 2]
  by_cases e : i = j
  · rw [if_pos ⟨e, by omega⟩, if_pos e]; rfl
  · rw [if_neg (fun x => e x.1), if_neg e]
theorem Wide.ok {sk is is2 : Dt} {i : Nat} {lo hi : Int} (w : Wide is is2 i lo hi) (h : Sp.SchOk sk is) (h1 : -300 ≤ lo) (h2 : lo ≤ hi) (h3 : hi ≤ 300) : Sp.SchOk sk is2 where
  n1 := h.n1
  n5 := h.n5
  i6 := by rw [w.len]; exact h.i6
  skN := h.skN
  skG := h.skG
  skF := h.skF
  isN := fun j hj => by rw [nameErr_congr w.nm]; exact h.isN j (by rw [← w.len]; exact hj)
  isB := fun j hj => by
    have := h.isB j (by rw [← w.len]; exact hj)
    rw [w.lo, w.hi]
    split <;> omega
end Go.Proofs.Ytdokbocmgdhmmaa
namespace Go.Proofs.Ytdokbocmgdhmmaa
open Go.RowKit
set_option linter.unusedVariables false
set_option maxRecDepth 100000
set_option maxHeartbeats 1600000
namespace Sp
def wB (is : Dt) (k : Nat) (b : Int) : Dt := is.set k (setCls (is.getD k []) 1 [.i b, .i b])
def canL (sk is st ev : Dt) (k : Nat) : Nat → Int → List Int
  | 0, _ => []
  | n + 1, b => if (lvA sk (wB is k b) st ev).1 then b :: canL sk is st ev k n (b + 1) else canL sk is st ev k n (b + 1)
def rowI (l : List Int) : Dt := l.map fun n => [.i n]
def bn (is : Dt) (k : Nat) : Nat := (bHi is k + 1 - bLo is k).toNat
def cans (sk is st ev : Dt) (k : Nat) : List Int := canL sk is st ev k (bn is k) (bLo is k)
def sevE (sk is st ev : Dt) (k : Int) : Int := if hisE sk is st ev = 0 then (if inr k 0 (is.length - 1) then (if cans sk is st ev k.toNat = [] then 9 else 0) else 4) else hisE sk is st ev
def sevLo (sk is st ev : Dt) (k : Int) : Int := if sevE sk is st ev k = 0 then (cans sk is st ev k.toNat).headD 0 else 0
def sevHi (sk is st ev : Dt) (k : Int) : Int := if sevE sk is st ev k = 0 then (cans sk is st ev k.toNat).getLastD 0 else 0
end Sp
noncomputable def Tu0 : Tab Try.prog := ⟨[], [], [ceOf cc_livO okClivO]⟩
def sp_sev [InW] (e : List Ed) (K : Nat → List Ed → Prop) : Prop := match e with
  | [.ro _ st, .ro _ ev, .i k, .i b, .ro _ sk, .l is, .i lo, .i hi, .l out] => Pre (Sp.HisOk sk.xs is st.xs ev.xs ∧ Sp.Two st.xs ∧ 0 ≤ k ∧ k < is.length ∧ -300 ≤ b ∧ b ≤ hi + 1 ∧ hi ≤ 300 ∧ (out.length : Int) ≤ b + 300) (K 0 [.l (out ++ Sp.rowI (Sp.canL sk.xs is st.xs ev.xs k.toNat (hi + 1 - b).toNat b))])
  | _ => False
noncomputable def lc_sev : LC where
  len := 85
  T := [(1, .rs [.int .i64, .int .i64]), (2, .rs Iv5), (3, .int .i64), (4, (.ptr 1 0)), (11, (.row 6)), (12, (.ptr 4 0)), (13, .int .i64)]
  H := [(1, .blk 25 [.rs [.str, .int .i64, .int .i64, .int .i64, .int .i64], (.row 9)]), (9, .arr 81 [.str, .int .i64, .int .i64]), (4, .blk 32 [.int .i64, .int .i64]), (6, .arr 3 [.int .i64])]
  W := [14, 15, 44, 45, 46, 47, 48, 49, 50, 51, 52, 53, 54, 55, 56, 57, 58, 59, 60, 61, 62, 63, 64, 65, 66, 67, 68, 69, 70]
  outs := [⟨.exit 0, [(11, (.row 12))], [(12, .arr 3 [.int .i64])], [1, 2, 3, 4, 12, 13, 14, 15, 44, 45, 46, 47, 48, 49, 50, 51, 52, 53, 54, 55, 56, 57, 58, 59, 60, 61, 62, 63, 64, 65, 66, 67, 68, 69, 70]⟩]
  spec := sp_sev
def VCL_sev [W : InW] (st : Ro [.int .i64, .int .i64]) (ev : Ro Iv5) (k b : Int) (sk : Ro [.str, .int .i64, .int .i64, .int .i64, .int .i64]) (is : Dt) (lo hi : Int) (out : Dt) (A : List Ed → Prop) (K : Nat → List Ed → Prop) : Prop :=
  Vif (decide (b ≤ hi)) (Need (decide ((0 : Int) ≤ k) && decide (k < (↑(is.length) : Int))) (Need (decide (k.toNat < is.length)) (Pre (Sp.HisOk sk.xs (List.set is k.toNat (setCls (List.getD is k.toNat []) (0+1 : Nat) [Cl.i b, Cl.i b])) st.xs ev.xs ∧ Sp.Two st.xs) (Vif (Sp.lvA sk.xs (List.set is k.toNat (setCls (List.getD is k.toNat []) (0+1 : Nat) [Cl.i b, Cl.i b])) st.xs ev.xs).1 (Need (decide ((out.length + [[Cl.i b]].length) * (8 : Nat) ≤ (140737488355328 : Nat))) (Ar .i64 (b + (1 : Int)) fun z => A [.ro _ st, .ro _ ev, .i k, .i z, .ro _ sk, .l (List.set is k.toNat (setCls (List.getD is k.toNat []) (0+1 : Nat) [Cl.i b, Cl.i b])), .i lo, .i hi, .l (out ++ [[Cl.i b]])])) (Ar .i64 (b + (1 : Int)) fun z => A [.ro _ st, .ro _ ev, .i k, .i z, .ro _ sk, .l (List.set is k.toNat (setCls (List.getD is k.toNat []) (0+1 : Nat) [Cl.i b, Cl.i b])), .i lo, .i hi, .l out]))))) (K (0 : Nat) [.l out])
theorem vcl_sev (W : InW) (st ev k b sk is lo hi out A K) : vcTop { cxT Try.prog TT Tu0 1000 50 with fn := 28 } 1000 (loopAt Try.prog 28 11) (tmOut 85 [(1, .rs _ st), (2, .rs _ ev), (3, .si .i64 k), (4, .ptr 1 0), (11, .rw 6), (12, .ptr 4 0), (13, .si .i64 b)] [14, 15, 44, 45, 46, 47, 48, 49, 50, 51, 52, 53, 54, 55, 56, 57, 58, 59, 60, 61, 62, 63, 64, 65, 66, 67, 68, 69, 70]) [(1, .blk 25 [.rs _ sk, .rw 9]), (9, .arr 81 [.str, .int .i64, .int .i64] is), (4, .blk 32 [.si .i64 lo, .si .i64 hi]), (6, .arr 3 [.int .i64] out)] (roundL lc_sev A K) = VCL_sev st ev k b sk is lo hi out A K := by kernel_rfl
def okLt_sev : Prop := ∀ (W : InW) (body a : Code), (Try.prog.funcs[28]?).bind (·.body) = some body → a ∈ loopsIn body → keyOf a = 11 → @LoopOk W Try.prog a (@loopRun W lc_sev)
theorem okl_sev (meas : [InW] → List Ed → Nat) (hyp_ : ∀ (W : InW) (st : Ro [.int .i64, .int .i64]) (ev : Ro Iv5) (k : Int) (b : Int) (sk : Ro [.str, .int .i64, .int .i64, .int .i64, .int .i64]) (is : Dt) (lo : Int) (hi : Int) (out : Dt) (K : Nat → List Ed → Prop), sp_sev [.ro _ st, .ro _ ev, .i k, .i b, .ro _ sk, .l is, .i lo, .i hi, .l out] K → ∀ A : List Ed → Prop, (∀ e, meas e < meas [.ro _ st, .ro _ ev, .i k, .i b, .ro _ sk, .l is, .i lo, .i hi, .l out] → sp_sev e K → A e) → VCL_sev st ev k b sk is lo hi out A K) : okLt_sev :=
  LE.okOf' (fun W => @TT W) (fun W => @TT_ok W) mixed_ok Tu0 1000 50 (by kernel_rfl) lc_sev (fun W => @meas W) fun W st ev k b sk is lo hi out K hs =>
    (vcl_sev W st ev k b sk is lo hi out (fun e => meas e < meas [.ro _ st, .ro _ ev, .i k, .i b, .ro _ sk, .l is, .i lo, .i hi, .l out] ∧ sp_sev e K) K).mpr (hyp_ W st ev k b sk is lo hi out K hs _ fun e h1 h2 => ⟨h1, h2⟩)
theorem wB_len (is : Dt) (k : Nat) (b : Int) : (Sp.wB is k b).length = is.length := by simp [Sp.wB]
theorem wB_wB {is : Dt} {k : Nat} (h : k < is.length) (a b : Int) : Sp.wB (Sp.wB is k a) k b = Sp.wB is k b := by
  unfold Sp.wB
  rw [List.set_set, getD_set, if_pos ⟨rfl, h⟩]
  rfl
theorem wB_ok {sk is : Dt} {k : Nat} {b : Int} (h : Sp.SchOk sk is) (hk : k < is.length) (h1 : -300 ≤ b) (h2 : b ≤ 300) : Sp.SchOk sk (Sp.wB is k b) := (wide_of hk b b).ok h h1 (Int.le_refl _) h2
theorem ev_len {sk is is2 ev : Dt} (h : Sp.EvOk sk is ev) (hl : is2.length = is.length) : Sp.EvOk sk is2 ev := ⟨h.l60, h.wk, h.up, h.kd, h.sk, fun i hi e => by rw [hl]; exact h.is i hi e⟩
theorem his_wB {sk is st ev : Dt} {k : Nat} {b : Int} (h : Sp.HisOk sk is st ev) (hk : k < is.length) (h1 : -300 ≤ b) (h2 : b ≤ 300) : Sp.HisOk sk (Sp.wB is k b) st ev := ⟨wB_ok h.sch hk h1 h2, h.len, h.rg, ev_len h.ev (wB_len _ _ _)⟩
theorem can_wB {sk is st ev : Dt} {k : Nat} (h : k < is.length) (a : Int) : ∀ n c, Sp.canL sk (Sp.wB is k a) st ev k n c = Sp.canL sk is st ev k n c
  | 0, _ => rfl
  | n + 1, c => by rw [Sp.canL, Sp.canL, wB_wB h, can_wB h a n]
theorem can_step {sk is st ev : Dt} {k n : Nat} {b : Int} : ((Sp.lvA sk (Sp.wB is k b) st ev).1 = true → Sp.canL sk is st ev k (n + 1) b = b :: Sp.canL sk is st ev k n (b + 1)) ∧ ((Sp.lvA sk (Sp.wB is k b) st ev).1 = false → Sp.canL sk is st ev k (n + 1) b = Sp.canL sk is st ev k n (b + 1)) :=
  ⟨fun h => by rw [Sp.canL, if_pos h], fun h => by rw [Sp.canL, if_neg (by rw [h]; decide)]⟩
theorem okLsev : okLt_sev := okl_sev (fun e => match e with | [_, _, _, .i b, _, _, _, .i hi, _] => (hi + 1 - b).toNat | _ => 0) fun W st ev k b sk is lo hi out K hs A hA => by
  obtain ⟨⟨hH, hT, k0, k1, b0, b1, h3, ho⟩, hk⟩ := hs
  unfold VCL_sev
  refine vifd (fun e => ?_) fun e => ?_
  · rw [show (hi + 1 - b).toNat = (hi + 1 - (b + 1)).toNat + 1 by omega] at hk
    have st1 := can_step (sk := sk.xs) (is := is) (st := st.xs) (ev := ev.xs) (k := k.toNat) (n := (hi + 1 - (b + 1)).toNat) (b := b)
    have hW := his_wB (b := b) hH (show k.toNat < is.length by omega) b0 (by omega)
    have hl := wB_len is k.toNat b
    have hc := can_wB (sk := sk.xs) (st := st.xs) (ev := ev.xs) (show k.toNat < is.length by omega) b (hi + 1 - (b + 1)).toNat (b + 1)
    have hm : ∀ o : Dt, (hi + 1 - (b + 1)).toNat < (hi + 1 - b).toNat := fun _ => by omega
    refine need_in (by omega) (nedd (by omega) ⟨⟨hW, hT⟩, vif (fun e2 => ?_) fun e2 => ?_⟩)
    · have e2 : (Sp.lvA sk.xs (Sp.wB is k.toNat b) st.xs ev.xs).1 = true := e2
      refine nedd (by simp only [List.length_singleton]; omega) (ar64 (by omega) (hA _ (hm out) ⟨⟨hW, hT, k0, by show k < ((Sp.wB is k.toNat b).length : Int); omega, by omega, by omega, h3, by rw [List.length_append, List.length_singleton]; omega⟩, ?_⟩))
      rw [st1.1 e2, ← hc] at hk
      rw [List.append_assoc]
      exact hk
    · have e2 : (Sp.lvA sk.xs (Sp.wB is k.toNat b) st.xs ev.xs).1 = false := e2
      refine ar64 (by omega) (hA _ (hm out) ⟨⟨hW, hT, k0, by show k < ((Sp.wB is k.toNat b).length : Int); omega, by omega, by omega, h3, by omega⟩, ?_⟩)
      rw [st1.2 e2, ← hc] at hk
      exact hk
  · rw [show (hi + 1 - b).toNat = 0 by omega] at hk
    rw [show Sp.rowI (Sp.canL sk.xs is st.xs ev.xs k.toNat 0 b) = [] from rfl, List.append_nil] at hk
    exact hk
noncomputable def le_sev : LE Try.prog := ⟨28, 11, fun W => @loopRun W lc_sev, okLsev⟩
noncomputable def Tu1 : Tab Try.prog := ⟨[pc_history, pc_out], [le_sev], []⟩
def VC_Severity [W : InW] (s_Skills : Ro [.str, .int .i64, .int .i64, .int .i64, .int .i64]) (s_Instrs : Ro [.str, .int .i64, .int .i64]) (st : Ro [.int .i64, .int .i64]) (ev : Ro Iv5) (k : Int) (Q : DS → Prop) : Prop :=
  Pre True (Vif (!decide (Sp.hisE s_Skills.xs s_Instrs.xs st.xs ev.xs = (0 : Int))) (Q [[Cl.i (0 : Int), Cl.i (0 : Int)], [Cl.i (Sp.hisE s_Skills.xs s_Instrs.xs st.xs ev.xs)]]) (Ar .i64 ((↑(s_Instrs.xs.length) : Int) - (1 : Int)) fun z => Pre True (Vif (Sp.out (0 : Int) z [[Cl.i k]]) (Q [[Cl.i (0 : Int), Cl.i (0 : Int)], [Cl.i (4 : Int)]]) (Need (decide ((0 : Int) ≤ k) && decide (k < (↑(s_Instrs.xs.length) : Int))) (Need (decide (k.toNat < s_Instrs.xs.length)) (Vif (match s_Instrs.v with | Value.slice none len cap => true | x => false) (Pre (Sp.HisOk s_Skills.xs [] st.xs ev.xs ∧ Sp.Two st.xs ∧ (0 : Int) ≤ k ∧ k < (↑(0 : Nat) : Int) ∧ (-300 : Int) ≤ (cel s_Instrs.xs k.toNat (0+1 : Nat)).int ∧ (cel s_Instrs.xs k.toNat (0+1 : Nat)).int ≤ (cel s_Instrs.xs k.toNat (0+1+1 : Nat)).int + (1 : Int) ∧ (cel s_Instrs.xs k.toNat (0+1+1 : Nat)).int ≤ (300 : Int) ∧ (↑(0 : Nat) : Int) ≤ (cel s_Instrs.xs k.toNat (0+1 : Nat)).int + (300 : Int)) (Vif (decide ((↑(List.length (Sp.rowI (Sp.canL s_Skills.xs [] st.xs ev.xs k.toNat ((cel s_Instrs.xs k.toNat (0+1+1 : Nat)).int + (1 : Int) - (cel s_Instrs.xs k.toNat (0+1 : Nat)).int).toNat (cel s_Instrs.xs k.toNat (0+1 : Nat)).int))) : Int) = (0 : Int))) (Q [[Cl.i (0 : Int), Cl.i (0 : Int)], [Cl.i (9 : Int)]]) (Need (decide ((0 : Int) ≤ (0 : Int)) && decide ((0 : Int) < (↑(List.length (Sp.rowI (Sp.canL s_Skills.xs [] st.xs ev.xs k.toNat ((cel s_Instrs.xs k.toNat (0+1+1 : Nat)).int + (1 : Int) - (cel s_Instrs.xs k.toNat (0+1 : Nat)).int).toNat (cel s_Instrs.xs k.toNat (0+1 : Nat)).int))) : Int))) (Need (decide (Int.toNat (0 : Int) < List.length (Sp.rowI (Sp.canL s_Skills.xs [] st.xs ev.xs k.toNat ((cel s_Instrs.xs k.toNat (0+1+1 : Nat)).int + (1 : Int) - (cel s_Instrs.xs k.toNat (0+1 : Nat)).int).toNat (cel s_Instrs.xs k.toNat (0+1 : Nat)).int)))) (Ar .i64 ((↑(List.length (Sp.rowI (Sp.canL s_Skills.xs [] st.xs ev.xs k.toNat ((cel s_Instrs.xs k.toNat (0+1+1 : Nat)).int + (1 : Int) - (cel s_Instrs.xs k.toNat (0+1 : Nat)).int).toNat (cel s_Instrs.xs k.toNat (0+1 : Nat)).int))) : Int) - (1 : Int)) fun z => Need (decide ((0 : Int) ≤ z) && decide (z < (↑(List.length (Sp.rowI (Sp.canL s_Skills.xs [] st.xs ev.xs k.toNat ((cel s_Instrs.xs k.toNat (0+1+1 : Nat)).int + (1 : Int) - (cel s_Instrs.xs k.toNat (0+1 : Nat)).int).toNat (cel s_Instrs.xs k.toNat (0+1 : Nat)).int))) : Int))) (Need (decide (z.toNat < List.length (Sp.rowI (Sp.canL s_Skills.xs [] st.xs ev.xs k.toNat ((cel s_Instrs.xs k.toNat (0+1+1 : Nat)).int + (1 : Int) - (cel s_Instrs.xs k.toNat (0+1 : Nat)).int).toNat (cel s_Instrs.xs k.toNat (0+1 : Nat)).int)))) (Q [[Cl.i (cel (Sp.rowI (Sp.canL s_Skills.xs [] st.xs ev.xs k.toNat ((cel s_Instrs.xs k.toNat (0+1+1 : Nat)).int + (1 : Int) - (cel s_Instrs.xs k.toNat (0+1 : Nat)).int).toNat (cel s_Instrs.xs k.toNat (0+1 : Nat)).int)) (Int.toNat (0 : Int)) (0 : Nat)).int, Cl.i (cel (Sp.rowI (Sp.canL s_Skills.xs [] st.xs ev.xs k.toNat ((cel s_Instrs.xs k.toNat (0+1+1 : Nat)).int + (1 : Int) - (cel s_Instrs.xs k.toNat (0+1 : Nat)).int).toNat (cel s_Instrs.xs k.toNat (0+1 : Nat)).int)) z.toNat (0 : Nat)).int], [Cl.i (0 : Int)]]))))))) (Need (decide (((0 : Nat) + s_Instrs.xs.length) * (32 : Nat) ≤ (140737488355328 : Nat))) (Pre (Sp.HisOk s_Skills.xs s_Instrs.xs st.xs ev.xs ∧ Sp.Two st.xs ∧ (0 : Int) ≤ k ∧ k < (↑(s_Instrs.xs.length) : Int) ∧ (-300 : Int) ≤ (cel s_Instrs.xs k.toNat (0+1 : Nat)).int ∧ (cel s_Instrs.xs k.toNat (0+1 : Nat)).int ≤ (cel s_Instrs.xs k.toNat (0+1+1 : Nat)).int + (1 : Int) ∧ (cel s_Instrs.xs k.toNat (0+1+1 : Nat)).int ≤ (300 : Int) ∧ (↑(0 : Nat) : Int) ≤ (cel s_Instrs.xs k.toNat (0+1 : Nat)).int + (300 : Int)) (Vif (decide ((↑(List.length (Sp.rowI (Sp.canL s_Skills.xs s_Instrs.xs st.xs ev.xs k.toNat ((cel s_Instrs.xs k.toNat (0+1+1 : Nat)).int + (1 : Int) - (cel s_Instrs.xs k.toNat (0+1 : Nat)).int).toNat (cel s_Instrs.xs k.toNat (0+1 : Nat)).int))) : Int) = (0 : Int))) (Q [[Cl.i (0 : Int), Cl.i (0 : Int)], [Cl.i (9 : Int)]]) (Need (decide ((0 : Int) ≤ (0 : Int)) && decide ((0 : Int) < (↑(List.length (Sp.rowI (Sp.canL s_Skills.xs s_Instrs.xs st.xs ev.xs k.toNat ((cel s_Instrs.xs k.toNat (0+1+1 : Nat)).int + (1 : Int) - (cel s_Instrs.xs k.toNat (0+1 : Nat)).int).toNat (cel s_Instrs.xs k.toNat (0+1 : Nat)).int))) : Int))) (Need (decide (Int.toNat (0 : Int) < List.length (Sp.rowI (Sp.canL s_Skills.xs s_Instrs.xs st.xs ev.xs k.toNat ((cel s_Instrs.xs k.toNat (0+1+1 : Nat)).int + (1 : Int) - (cel s_Instrs.xs k.toNat (0+1 : Nat)).int).toNat (cel s_Instrs.xs k.toNat (0+1 : Nat)).int)))) (Ar .i64 ((↑(List.length (Sp.rowI (Sp.canL s_Skills.xs s_Instrs.xs st.xs ev.xs k.toNat ((cel s_Instrs.xs k.toNat (0+1+1 : Nat)).int + (1 : Int) - (cel s_Instrs.xs k.toNat (0+1 : Nat)).int).toNat (cel s_Instrs.xs k.toNat (0+1 : Nat)).int))) : Int) - (1 : Int)) fun z => Need (decide ((0 : Int) ≤ z) && decide (z < (↑(List.length (Sp.rowI (Sp.canL s_Skills.xs s_Instrs.xs st.xs ev.xs k.toNat ((cel s_Instrs.xs k.toNat (0+1+1 : Nat)).int + (1 : Int) - (cel s_Instrs.xs k.toNat (0+1 : Nat)).int).toNat (cel s_Instrs.xs k.toNat (0+1 : Nat)).int))) : Int))) (Need (decide (z.toNat < List.length (Sp.rowI (Sp.canL s_Skills.xs s_Instrs.xs st.xs ev.xs k.toNat ((cel s_Instrs.xs k.toNat (0+1+1 : Nat)).int + (1 : Int) - (cel s_Instrs.xs k.toNat (0+1 : Nat)).int).toNat (cel s_Instrs.xs k.toNat (0+1 : Nat)).int)))) (Q [[Cl.i (cel (Sp.rowI (Sp.canL s_Skills.xs s_Instrs.xs st.xs ev.xs k.toNat ((cel s_Instrs.xs k.toNat (0+1+1 : Nat)).int + (1 : Int) - (cel s_Instrs.xs k.toNat (0+1 : Nat)).int).toNat (cel s_Instrs.xs k.toNat (0+1 : Nat)).int)) (Int.toNat (0 : Int)) (0 : Nat)).int, Cl.i (cel (Sp.rowI (Sp.canL s_Skills.xs s_Instrs.xs st.xs ev.xs k.toNat ((cel s_Instrs.xs k.toNat (0+1+1 : Nat)).int + (1 : Int) - (cel s_Instrs.xs k.toNat (0+1 : Nat)).int).toNat (cel s_Instrs.xs k.toNat (0+1 : Nat)).int)) z.toNat (0 : Nat)).int], [Cl.i (0 : Int)]]))))))))))))))
theorem vc_Severity (W : InW) (s_Skills s_Instrs st ev k Q) : bodyK (cxT Try.prog TT Tu1 1000 50) 1000 28 [.agg [.rs _ s_Skills, .rs _ s_Instrs], .rs _ st, .rs _ ev, .si .i64 k] [] 0 (leafK [(true, [.int .i64, .int .i64]), (false, [.int .i64])] Q) (fun _ _ _ _ => Stuck 421) = VC_Severity s_Skills s_Instrs st ev k Q := by kernel_rfl
abbrev ats_Severity : List AT := [.agg [.sl [.str, .int .i64, .int .i64, .int .i64, .int .i64], .sl [.str, .int .i64, .int .i64]], .one (.sl [.int .i64, .int .i64]), .one (.sl Iv5), .one (.int .i64)]
theorem ok_Severity {pre : DS → Prop} {res : DS → DS} (hyp_ : ∀ (W : InW) (s_Skills : Ro [.str, .int .i64, .int .i64, .int .i64, .int .i64]) (s_Instrs : Ro [.str, .int .i64, .int .i64]) (st : Ro [.int .i64, .int .i64]) (ev : Ro Iv5) (k : Int), pre [[.l s_Skills.xs, .l s_Instrs.xs], [.l st.xs], [.l ev.xs], [.i k]] → ∀ Q : DS → Prop, Q (res [[.l s_Skills.xs, .l s_Instrs.xs], [.l st.xs], [.l ev.xs], [.i k]]) → VC_Severity s_Skills s_Instrs st ev k Q) : PureOk Try.prog 28 ats_Severity [(true, [.int .i64, .int .i64]), (false, [.int .i64])] pre res :=
  PureOk.of' (fun W => @TT W) (fun W => @TT_ok W) mixed_ok Tu1 1000 50 fun W s_Skills s_Instrs st ev k hp =>
    (vc_Severity W s_Skills s_Instrs st ev k (fun o => o = res [[.l s_Skills.xs, .l s_Instrs.xs], [.l st.xs], [.l ev.xs], [.i k]])).mpr (hyp_ W s_Skills s_Instrs st ev k hp _ rfl)
abbrev res_Severity (ds : DS) : DS := match ds with | [[.l sk, .l is], [.l st], [.l ev], [.i k]] => [[.i (Sp.sevLo sk is st ev k), .i (Sp.sevHi sk is st ev k)], [.i (Sp.sevE sk is st ev k)]] | _ => []
abbrev pre_Severity (ds : DS) : Prop := match ds with | [_, [.l st], _, _] => Sp.Two st | _ => False
theorem rowI_len (l : List Int) : (Sp.rowI l).length = l.length := by simp [Sp.rowI]
theorem rowI_at {l : List Int} {i : Nat} (h : i < l.length) : (cel (Sp.rowI l) i 0).int = l[i] := by
  unfold Sp.rowI cel
  simp [List.getD_eq_getElem?_getD, List.getElem?_eq_getElem h, Cl.int]
theorem head_at {l : List Int} (h : 0 < l.length) : l[0] = l.headD 0 := by
  cases l with
  | nil => simp at h
  | cons x l => rfl
theorem last_at {l : List Int} (h : 0 < l.length) : l[l.length - 1] = l.getLastD 0 := by
  cases l with
  | nil => simp at h
  | cons x l => rw [List.getLastD_eq_getLast?, List.getLast?_eq_getElem?, List.getElem?_eq_getElem (by simp)]; rfl
theorem can_len {sk is st ev : Dt} {k : Nat} : ∀ n b, (Sp.canL sk is st ev k n b).length ≤ n
  | 0, _ => Nat.le_refl _
  | n + 1, b => by
    have := can_len (sk := sk) (is := is) (st := st) (ev := ev) (k := k) n (b + 1)
    rw [Sp.canL]
    split
    · rw [List.length_cons]; omega
    · omega
theorem okSeverity : PureOk Try.prog 28 ats_Severity [(true, [.int .i64, .int .i64]), (false, [.int .i64])] pre_Severity res_Severity :=
  ok_Severity fun W sk is st ev k hT Q h => by
    unfold VC_Severity
    simp only [res_Severity, Sp.sevLo, Sp.sevHi] at h
    have hm := is.len
    simp only [maxLen] at hm
    refine ⟨trivial, vifn (fun e1 => ?_) fun e1 => ar64 (by omega) ⟨trivial, vif (fun e2 => ?_) fun e2 => ?_⟩⟩
    · rw [Sp.sevE, if_neg e1, if_neg e1, if_neg e1] at h; exact h
    · rw [out1] at e2
      rw [Sp.sevE, if_pos e1, if_neg (show ¬ Sp.inr k 0 (is.xs.length - 1) = true by rw [notT e2]; decide), if_neg (show ¬ (4 : Int) = 0 by decide), if_neg (show ¬ (4 : Int) = 0 by decide)] at h; exact h
    · rw [out1] at e2
      have e2 := notF e2
      have k0 := inr_iff.1 e2
      have hH := his_iff.1 e1
      have i6 := hH.sch.i6
      have hb := hH.sch.isB k.toNat (by omega)
      have hE : Sp.sevE sk.xs is.xs st.xs ev.xs k = if Sp.cans sk.xs is.xs st.xs ev.xs k.toNat = [] then 9 else 0 := by rw [Sp.sevE, if_pos e1, if_pos e2]
      refine need_in (by omega) (nedd (by omega) (vif (fun e3 => ?_) fun e3 => nedd (by omega) ?_))
      · have := isNilV_of (r := is) e3
        rw [this] at k0
        exact absurd k0 (by simp; omega)
      · simp only [Nat.zero_add, Nat.reduceAdd]
        rw [show Sp.canL sk.xs is.xs st.xs ev.xs k.toNat ((cel is.xs k.toNat 2).int + 1 - (cel is.xs k.toNat 1).int).toNat (cel is.xs k.toNat 1).int = Sp.cans sk.xs is.xs st.xs ev.xs k.toNat from rfl, rowI_len]
        rw [hE] at h
        have hcl : (Sp.cans sk.xs is.xs st.xs ev.xs k.toNat).length ≤ 601 := Nat.le_trans (can_len _ _) (by unfold Sp.bn; omega)
        unfold Sp.bLo Sp.bHi at hb
        refine ⟨⟨hH, hT, k0.1, by omega, by omega, by omega, by omega, by simp; omega⟩, ?_⟩
        generalize Sp.cans sk.xs is.xs st.xs ev.xs k.toNat = l at *
        by_cases hc : l = []
        · subst hc
          exact vifd (fun _ => h) fun x => absurd rfl x
        · have hl : 0 < l.length := List.length_pos_iff.2 hc
          rw [if_neg hc, if_pos rfl, if_pos rfl] at h
          refine vifd (fun x => absurd x (by omega)) fun _ => need_in (by omega) (nedd (by omega) ?_)
          refine ar64 (by omega) (need_in (by omega) (nedd (by omega) ?_))
          have ez : ((l.length : Int) - 1).toNat = l.length - 1 := by omega
          rw [ez, show (cel (Sp.rowI l) (Int.toNat 0) 0).int = l.headD 0 from (rowI_at hl).trans (head_at hl), (rowI_at (show l.length - 1 < l.length by omega)).trans (last_at hl)]
          exact h
noncomputable def pc_Severity : PC Try.prog := ⟨28, ats_Severity, [(true, [.int .i64, .int .i64]), (false, [.int .i64])], pre_Severity, res_Severity, okSeverity⟩
end Go.Proofs.Ytdokbocmgdhmmaa
namespace Go.Proofs.Ytdokbocmgdhmmaa
open Go.RowKit
set_option linter.unusedVariables false
set_option maxRecDepth 100000
set_option maxHeartbeats 1600000
end Go.Proofs.Ytdokbocmgdhmmaa
namespace Go.Proofs.Ytdokbocmgdhmmaa
open Go.RowKit
set_option linter.unusedVariables false
set_option maxRecDepth 100000
set_option maxHeartbeats 1600000
noncomputable def TK11 : Tab Try.prog := ⟨[pc_Check, pc_Severity, pc_lived, pc_Awake], [], []⟩
def VC_lawSevere [W : InW] (s_Skills : Ro [.str, .int .i64, .int .i64, .int .i64, .int .i64]) (s_Instrs : Ro [.str, .int .i64, .int .i64]) (x_what x_nums : Ro [.int .u16]) (x_wa x_wb : Int) (x_same : Bool) (which : Int) (Q : DS → Prop) : Prop :=
  Pre (Sp.NamesOk s_Skills.xs ∧ Sp.NamesOk s_Instrs.xs) (Vif (!decide (Sp.chkE s_Skills.xs s_Instrs.xs = (0 : Int))) (Pre True (Q [[Cl.b true]])) (Vif (decide ((↑(s_Instrs.xs.length) : Int) = (0 : Int))) (Pre True (Q [[Cl.b true]])) (Pre (Sp.SchOk s_Skills.xs s_Instrs.xs ∧ Sp.U16 x_what.xs ∧ Sp.U16 x_nums.xs ∧ (0 : Int) ≤ x_wa ∧ x_wa ≤ (255 : Int) ∧ (0 : Int) ≤ x_wb ∧ x_wb ≤ (255 : Int)) (Ar .i64 which fun z => Need (!decide ((↑(s_Instrs.xs.length) : Int) = (0 : Int))) (Pre (Sp.Two (Sp.st0 x_nums.xs x_wa x_wb (s_Skills.xs.length))) (Vif (decide (Sp.sevE s_Skills.xs s_Instrs.xs (Sp.st0 x_nums.xs x_wa x_wb (s_Skills.xs.length)) (Sp.livG s_Skills.xs s_Instrs.xs x_what.xs x_nums.xs true).1 (z.tmod (↑(s_Instrs.xs.length) : Int)) = (0 : Int))) (Need (decide ((0 : Int) ≤ z.tmod (↑(s_Instrs.xs.length) : Int)) && decide (z.tmod (↑(s_Instrs.xs.length) : Int) < (↑(List.length (Sp.al0 s_Instrs.xs x_nums.xs (s_Instrs.xs.length))) : Int))) (Need (decide ((z.tmod (↑(s_Instrs.xs.length) : Int)).toNat < List.length (Sp.al0 s_Instrs.xs x_nums.xs (s_Instrs.xs.length)))) (Vif (decide (Sp.sevLo s_Skills.xs s_Instrs.xs (Sp.st0 x_nums.xs x_wa x_wb (s_Skills.xs.length)) (Sp.livG s_Skills.xs s_Instrs.xs x_what.xs x_nums.xs true).1 (z.tmod (↑(s_Instrs.xs.length) : Int)) ≤ (cel (Sp.al0 s_Instrs.xs x_nums.xs (s_Instrs.xs.length)) (z.tmod (↑(s_Instrs.xs.length) : Int)).toNat (0 : Nat)).int)) (Need (decide ((0 : Int) ≤ z.tmod (↑(s_Instrs.xs.length) : Int)) && decide (z.tmod (↑(s_Instrs.xs.length) : Int) < (↑(List.length (Sp.al0 s_Instrs.xs x_nums.xs (s_Instrs.xs.length))) : Int))) (Need (decide ((z.tmod (↑(s_Instrs.xs.length) : Int)).toNat < List.length (Sp.al0 s_Instrs.xs x_nums.xs (s_Instrs.xs.length)))) (Vif (decide ((cel (Sp.al0 s_Instrs.xs x_nums.xs (s_Instrs.xs.length)) (z.tmod (↑(s_Instrs.xs.length) : Int)).toNat (0 : Nat)).int ≤ Sp.sevHi s_Skills.xs s_Instrs.xs (Sp.st0 x_nums.xs x_wa x_wb (s_Skills.xs.length)) (Sp.livG s_Skills.xs s_Instrs.xs x_what.xs x_nums.xs true).1 (z.tmod (↑(s_Instrs.xs.length) : Int)))) (Need (decide ((0 : Int) ≤ z.tmod (↑(s_Instrs.xs.length) : Int)) && decide (z.tmod (↑(s_Instrs.xs.length) : Int) < (↑(s_Instrs.xs.length) : Int))) (Need (decide ((z.tmod (↑(s_Instrs.xs.length) : Int)).toNat < s_Instrs.xs.length)) (Vif (decide ((cel s_Instrs.xs (z.tmod (↑(s_Instrs.xs.length) : Int)).toNat (0+1 : Nat)).int ≤ Sp.sevLo s_Skills.xs s_Instrs.xs (Sp.st0 x_nums.xs x_wa x_wb (s_Skills.xs.length)) (Sp.livG s_Skills.xs s_Instrs.xs x_what.xs x_nums.xs true).1 (z.tmod (↑(s_Instrs.xs.length) : Int)))) (Need (decide ((0 : Int) ≤ z.tmod (↑(s_Instrs.xs.length) : Int)) && decide (z.tmod (↑(s_Instrs.xs.length) : Int) < (↑(s_Instrs.xs.length) : Int))) (Need (decide ((z.tmod (↑(s_Instrs.xs.length) : Int)).toNat < s_Instrs.xs.length)) (Vif (decide (Sp.sevHi s_Skills.xs s_Instrs.xs (Sp.st0 x_nums.xs x_wa x_wb (s_Skills.xs.length)) (Sp.livG s_Skills.xs s_Instrs.xs x_what.xs x_nums.xs true).1 (z.tmod (↑(s_Instrs.xs.length) : Int)) ≤ (cel s_Instrs.xs (z.tmod (↑(s_Instrs.xs.length) : Int)).toNat (1+1 : Nat)).int)) (Pre True (Q [[Cl.b true]])) (Q [[Cl.b false]])))) (Q [[Cl.b false]])))) (Q [[Cl.b false]])))) (Q [[Cl.b false]])))) (Q [[Cl.b false]])))))))
theorem vc_lawSevere (W : InW) (s_Skills s_Instrs x_what x_nums x_wa x_wb x_same which Q) : bodyK (cxT Try.prog TT TK11 1000 50) 1000 11 [.agg [.rs _ s_Skills, .rs _ s_Instrs], .agg [.rs _ x_what, .rs _ x_nums, .si .u8 x_wa, .si .u8 x_wb, .sb x_same], .si .u8 which] [] 0 (leafK [(false, [.bool])] Q) (fun _ _ _ _ => Stuck 421) = VC_lawSevere s_Skills s_Instrs x_what x_nums x_wa x_wb x_same which Q := by kernel_rfl
abbrev ats_lawSevere : List AT := [.agg [.sl [.str, .int .i64, .int .i64, .int .i64, .int .i64], .sl [.str, .int .i64, .int .i64]], .agg [.sl [.int .u16], .sl [.int .u16], .int .u8, .int .u8, .bool], .one (.int .u8)]
theorem ok_lawSevere {pre : DS → Prop} {res : DS → DS} (hyp_ : ∀ (W : InW) (s_Skills : Ro [.str, .int .i64, .int .i64, .int .i64, .int .i64]) (s_Instrs : Ro [.str, .int .i64, .int .i64]) (x_what : Ro [.int .u16]) (x_nums : Ro [.int .u16]) (x_wa : Int) (x_wb : Int) (x_same : Bool) (which : Int), pre [[.l s_Skills.xs, .l s_Instrs.xs], [.l x_what.xs, .l x_nums.xs, .i x_wa, .i x_wb, .b x_same], [.i which]] → ∀ Q : DS → Prop, Q (res [[.l s_Skills.xs, .l s_Instrs.xs], [.l x_what.xs, .l x_nums.xs, .i x_wa, .i x_wb, .b x_same], [.i which]]) → VC_lawSevere s_Skills s_Instrs x_what x_nums x_wa x_wb x_same which Q) : PureOk Try.prog 11 ats_lawSevere [(false, [.bool])] pre res :=
  PureOk.of' (fun W => @TT W) (fun W => @TT_ok W) mixed_ok TK11 1000 50 fun W s_Skills s_Instrs x_what x_nums x_wa x_wb x_same which hp =>
    (vc_lawSevere W s_Skills s_Instrs x_what x_nums x_wa x_wb x_same which (fun o => o = res [[.l s_Skills.xs, .l s_Instrs.xs], [.l x_what.xs, .l x_nums.xs, .i x_wa, .i x_wb, .b x_same], [.i which]])).mpr (hyp_ W s_Skills s_Instrs x_what x_nums x_wa x_wb x_same which hp _ rfl)
theorem can_bd {sk is st ev : Dt} {k : Nat} : ∀ {n : Nat} {b x : Int}, x ∈ Sp.canL sk is st ev k n b → b ≤ x ∧ x < b + n
  | 0, b, x, h => by simp [Sp.canL] at h
  | n + 1, b, x, h => by
    rw [Sp.canL] at h
    split at h
    · rcases List.mem_cons.1 h with rfl | h
      · omega
      · have := can_bd h; omega
    · have := can_bd h; omega
theorem can_mem {sk is st ev : Dt} {k : Nat} : ∀ {n : Nat} {b x : Int}, b ≤ x → x < b + n → (Sp.lvA sk (Sp.wB is k x) st ev).1 = true → x ∈ Sp.canL sk is st ev k n b
  | 0, b, x, h0, h1, _ => by omega
  | n + 1, b, x, h0, h1, h => by
    rw [Sp.canL]
    by_cases e : x = b
    · subst e
      rw [if_pos h]
      exact List.mem_cons_self
    · have := can_mem (n := n) (b := b + 1) (x := x) (by omega) (by omega) h
      split
      · exact List.mem_cons_of_mem _ this
      · exact this
theorem can_hd {sk is st ev : Dt} {k : Nat} : ∀ {n : Nat} {b x : Int}, x ∈ Sp.canL sk is st ev k n b → (Sp.canL sk is st ev k n b).headD 0 ≤ x ∧ (Sp.canL sk is st ev k n b).headD 0 ∈ Sp.canL sk is st ev k n b
  | 0, b, x, h => by simp [Sp.canL] at h
  | n + 1, b, x, h => by
    have hb := can_bd h
    rw [Sp.canL] at h ⊢
    split
    · exact ⟨hb.1, List.mem_cons_self⟩
    · rename_i c
      rw [if_neg c] at h
      exact can_hd h
theorem lastD_mem : ∀ {l : List Int} {d : Int}, l ≠ [] → l.getLastD d ∈ l
  | [x], d, _ => by simp
  | x :: y :: l, d, _ => by rw [List.getLastD_cons]; exact List.mem_cons_of_mem _ (lastD_mem (by simp))
theorem lastD_any : ∀ {l : List Int} {c d : Int}, l ≠ [] → l.getLastD c = l.getLastD d
  | x :: l, c, d, _ => by rw [List.getLastD_cons, List.getLastD_cons]
theorem can_lst {sk is st ev : Dt} {k : Nat} : ∀ {n : Nat} {b x : Int}, x ∈ Sp.canL sk is st ev k n b → x ≤ (Sp.canL sk is st ev k n b).getLastD 0
  | 0, b, x, h => by simp [Sp.canL] at h
  | n + 1, b, x, h => by
    rw [Sp.canL] at h ⊢
    split
    · rename_i c
      rw [if_pos c] at h
      rw [List.getLastD_cons]
      by_cases hl : Sp.canL sk is st ev k n (b + 1) = []
      · rw [hl] at h ⊢
        rcases List.mem_cons.1 h with rfl | h
        · exact Int.le_refl _
        · cases h
      · have hm := can_bd (lastD_mem (d := b) hl)
        rcases List.mem_cons.1 h with rfl | h
        · omega
        · rw [lastD_any (d := 0) hl]; exact can_lst h
    · rename_i c
      rw [if_neg c] at h
      exact can_lst h
theorem severe_law {sk is what nums : Dt} {wa wb k : Int} (hS : Sp.SchOk sk is) (hU : Sp.U16 nums) (hW : Sp.U16 what) (a0 : 0 ≤ wa) (b0 : 0 ≤ wb) (k0 : 0 ≤ k) (k1 : k < is.length) :
    Sp.sevE sk is (Sp.st0 nums wa wb sk.length) (Sp.livG sk is what nums true).1 k = 0 ∧
    Sp.sevLo sk is (Sp.st0 nums wa wb sk.length) (Sp.livG sk is what nums true).1 k ≤ Sp.fLv (Sp.al0 is nums is.length) k.toNat ∧ Sp.fLv (Sp.al0 is nums is.length) k.toNat ≤ Sp.sevHi sk is (Sp.st0 nums wa wb sk.length) (Sp.livG sk is what nums true).1 k ∧
    Sp.bLo is k.toNat ≤ Sp.sevLo sk is (Sp.st0 nums wa wb sk.length) (Sp.livG sk is what nums true).1 k ∧ Sp.sevHi sk is (Sp.st0 nums wa wb sk.length) (Sp.livG sk is what nums true).1 k ≤ Sp.bHi is k.toNat := by
  have hk : k.toNat < is.length := by omega
  have hb := hS.isB k.toNat hk
  have ha := al0_in hS hU hk
  obtain ⟨q1, _⟩ := liv_ok (wa := wa) (wb := wb) (what := what) (same := true) hS hS rfl hU hW a0 b0 (by_own hS hU)
  have w := wide_of hk (Sp.fLv (Sp.al0 is nums is.length) k.toNat) (Sp.fLv (Sp.al0 is nums is.length) k.toNat)
  obtain ⟨_, p2, _⟩ := liv_ok (is2 := Sp.wB is k.toNat (Sp.fLv (Sp.al0 is nums is.length) k.toNat)) (wa := wa) (wb := wb) (what := what) (same := true) hS (wB_ok hS hk (by omega) (by omega)) (wB_len _ _ _) hU hW a0 b0 fun j u hj => by
    have hj2 := al0_in hS hU hj
    unfold Sp.byF
    rw [if_pos rfl]
    show Sp.bLo (is.set _ _) j ≤ _ ∧ _ ≤ Sp.bHi (is.set _ _) j
    rw [w.lo, w.hi]
    by_cases e : k.toNat = j
    · rw [if_pos e, if_pos e, e]; exact ⟨Int.le_refl _, Int.le_refl _⟩
    · rw [if_neg e, if_neg e]; exact hj2
  have hm : Sp.fLv (Sp.al0 is nums is.length) k.toNat ∈ Sp.cans sk is (Sp.st0 nums wa wb sk.length) (Sp.livG sk is what nums true).1 k.toNat := can_mem ha.1 (by unfold Sp.bn; omega) p2
  have hE : Sp.sevE sk is (Sp.st0 nums wa wb sk.length) (Sp.livG sk is what nums true).1 k = 0 := by
    rw [Sp.sevE, if_pos (his_iff.2 q1.his), if_pos (inr_iff.2 (by omega)), if_neg (List.ne_nil_of_mem hm)]
  rw [Sp.sevLo, Sp.sevHi, if_pos hE, if_pos hE]
  have h1 := can_hd hm
  have h2 := can_lst hm
  have h3 := can_bd h1.2
  have h4 := can_bd (lastD_mem (d := 0) (List.ne_nil_of_mem hm))
  unfold Sp.cans at *
  unfold Sp.bn at *
  exact ⟨hE, h1.1, h2, h3.1, by omega⟩
theorem severe_pure : PureOk Try.prog 11 ats_lawSevere [(false, [.bool])] (WfD ats_lawSevere) fun _ => [[.b true]] :=
  ok_lawSevere fun W sk is what nums wa wb same which hp Q h => by
    obtain ⟨hp1, hp⟩ := hp.head
    obtain ⟨hp2, hp⟩ := hp.head
    obtain ⟨hp3, _⟩ := hp.head
    have hn := school_names hp1
    obtain ⟨g1, hp2⟩ := WfL.head hp2
    obtain ⟨g2, hp2⟩ := WfL.head hp2
    obtain ⟨g3, hp2⟩ := WfL.head hp2
    obtain ⟨g4, hp2⟩ := WfL.head hp2
    obtain ⟨g5, hp3⟩ := WfL.head hp3
    have hW := u16_of g1
    have hU := u16_of g2
    have g3 := wf_u8 g3
    have g4 := wf_u8 g4
    have g5 := wf_u8 g5
    unfold VC_lawSevere
    refine ⟨hn, vifn (fun _ => ⟨trivial, h⟩) fun e => vifd (fun _ => ⟨trivial, h⟩) fun e2 => ?_⟩
    have hS := chk_iff.1 e
    have ti := tm_in g5.1 (show (0 : Int) < is.xs.length by omega)
    obtain ⟨s1, s2, s3⟩ := st0_ok (n := sk.xs.length) hU g3.1 g4.1
    obtain ⟨q1, q2, q3, q4, q5⟩ := severe_law (what := what.xs) (wa := wa) (wb := wb) hS hU hW g3.1 g4.1 ti.1 ti.2
    have la := al0_len is.xs nums.xs is.xs.length
    simp only [Nat.zero_add, Nat.reduceAdd, la]
    exact ⟨⟨hS, hW, hU, g3.1, g3.2, g4.1, g4.2⟩, ar64 (by omega) (need_not e2 ⟨s2, vifd (fun _ => need_in (by omega) (nedd (by omega) (vifd (fun _ => need_in (by omega) (nedd (by omega) (vifd (fun _ => need_in (by omega) (nedd (by omega) (vifd (fun _ => need_in (by omega) (nedd (by omega) (vifd (fun _ => ⟨trivial, h⟩) fun x => absurd q5 x))) fun x => absurd q4 x))) fun x => absurd q3 x))) fun x => absurd q2 x))) fun x => absurd q1 x⟩)⟩
end Go.Proofs.Ytdokbocmgdhmmaa
namespace Go.Proofs.Ytdokbocmgdhmmaa.skillSevere
open Go.ChangeShapes Go.WideShapes Go.ChangeAt Go.RowKit
set_option linter.unusedVariables false
set_option maxRecDepth 100000
theorem own : ownKnob Try.prog.godebug = none := by kernel_rfl
theorem laid : laidOutB Try.prog = true := by kernel_rfl
theorem lifted (os : Os) (started : os.Started) (H : Type) (enc : TypeId × Value → H) :
    ReturnsInHanded {} Try.checked os 11 .any (Rows.skillSevereSpec.pre6 enc Try.prog Try.f11 Rows.skillSevereRow.domain false) (Rows.skillSevereSpec.post enc Try.prog Try.f11 false true false false) := by
  refine returnsInHanded_of_change (C := Try.checked) own started (by kernel_rfl) Try.func11
    (ChangeSpec.witness6 (enc := enc) (C := Try.checked) false ⟨#[], #[(.agg #[.slice none 0 0, .slice none 0 0]), (.agg #[.slice none 0 0, .slice none 0 0, .int .u8 0, .int .u8 0, .bool false]), (.int .u8 0)], []⟩ 8 (by kernel_rfl) (by kernel_rfl) (by kernel_rfl) (by kernel_rfl)) ?_
  intro W base args ds gs before hval hW _ _
  exact law_end (f := Try.f11) (s := Rows.skillSevereSpec) (by kernel_rfl) Try.underlying4 (by kernel_rfl) rfl laid (by kernel_rfl)
    (fun ds h => by match ds, (show ds.length = 3 from h) with | [_, _, _], _ => exact ⟨rfl, rfl, rfl⟩) severe_pure hval hW
theorem over : Rows.skillSevereRow.holds Try.pinned (OpenSpec.ofChange Rows.skillSevereSpec) :=
  OpenClaim.holds_of_wide 11 Try.f11 rfl rfl rfl rfl rfl rfl rfl ⟨rfl, rfl, rfl, rfl, rfl⟩ rfl rfl rfl rfl rfl (by kernel_rfl) Try.func11 (by kernel_rfl)
    (of_decide_eq_true (by kernel_rfl)) (by unfold Func.isWrapper; first | (rw [if_pos (by decide +kernel)]; kernel_rfl) | (rw [if_neg (by decide +kernel)]; exact ⟨rfl, rfl⟩))
    (fun os started H enc _ => lifted os started H enc)
theorem proved : Rows.SkillSevereSaid := over
end Go.Proofs.Ytdokbocmgdhmmaa.skillSevere
