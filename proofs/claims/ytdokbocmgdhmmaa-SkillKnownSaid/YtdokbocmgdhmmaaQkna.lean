/-
  'SkillKnown': for every input the law returns true, and what is handed in reads as before. No condition.
-/
import Derived.Test.YtdokbocmgdhmmaaQf
set_option linter.unusedVariables false
set_option linter.unusedSectionVars false
set_option linter.unusedSimpArgs false
namespace Go.Proofs.Ytdokbocmgdhmmaa
open Go.RowKit
set_option linter.unusedVariables false
set_option maxRecDepth 100000
abbrev lM2 (n : Int) : Pt := .lit (.int .i64 n)
abbrev vM2 [W : InW] (n : Int) : AV := .v (.int .i64 n)
abbrev pM2xa : Nat × PI := (1, .row 76 5 2 [.lit (Value.string { data := { toList := [ 115 , 116 , 101 , 101 , 114 ] } }), lM2 20, lM2 40, lM2 5, lM2 10, .lit (Value.string { data := { toList := [ 119 , 97 , 116 , 99 , 104 ] } }), lM2 10, lM2 30, lM2 0, lM2 5])
abbrev pM2xb : Nat × PI := (4, .row 81 3 2 [.lit (Value.string { data := { toList := [ 97 , 100 , 97 ] } }), lM2 (Int.negSucc 19), lM2 0, .lit (Value.string { data := { toList := [ 98 , 111 ] } }), lM2 0, lM2 30])
abbrev pM2xc : Nat × PI := (10, .row 78 5 2 [lM2 0, lM2 0, lM2 0, lM2 0, lM2 0, lM2 2, lM2 1, lM2 0, lM2 0, lM2 500])
def xsM2 [W : InW] (c : CC) : List AV := match insL c.args [] with | some x => x.1 | none => []
def ysM2 [W : InW] (c : CC) : Heap := match insH c.H [] with | some x => x.1 | none => []
def cc_mcxb : CC where
  g := 20
  args := [.agg [.sl 1 0 0 2, .sl 4 0 0 2], lM2 0, lM2 500]
  H := [pM2xa, pM2xb]
  outs := [⟨false, .tup [.agg [lM2 480, lM2 500], lM2 0], [pM2xa, pM2xb], false⟩]
  spec := fun _ K => K 0 []
noncomputable def TM_mcxb : Tab Try.prog := ⟨[], [], [ce_mbxj, ce_mbxi, ce_mbxh, ce_mbxg, ce_mbxf, ce_mbxe, ce_mbxd, ce_mbxc, ce_mbxb]⟩
theorem vc_mcxb (W : InW) (K : Nat → List Ed → Prop) : coreK (cxT Try.prog TT TM_mcxb 1000 50) 1000 20 (xsM2 cc_mcxb) (ysM2 cc_mcxb) (fun v h => outC cc_mcxb.H [] cc_mcxb.outs 0 false v h K) (fun v h => outC cc_mcxb.H [] cc_mcxb.outs 0 true v h K) = K 0 [] := by kernel_rfl
theorem ok_mcxb : ∀ W : InW, @CallC W Try.prog cc_mcxb :=
  CC.okOf (fun W => @TT W) (fun W => @TT_ok W) mixed_ok TM_mcxb 1000 50 cc_mcxb fun W K h => (vc_mcxb W K).mpr h
noncomputable def ce_mcxb : CE Try.prog := ceOf cc_mcxb ok_mcxb
def cc_mcxc : CC where
  g := 22
  args := [.agg [.sl 1 0 0 2, .sl 4 0 0 2], lM2 1, lM2 1000]
  H := [pM2xa, pM2xb]
  outs := [⟨false, .tup [.agg [lM2 970, lM2 1000], lM2 0], [pM2xa, pM2xb], false⟩]
  spec := fun _ K => K 0 []
noncomputable def TM_mcxc : Tab Try.prog := ⟨[], [], [ce_mcxb, ce_mbxj, ce_mbxi, ce_mbxh, ce_mbxg, ce_mbxf, ce_mbxe, ce_mbxd, ce_mbxc, ce_mbxb]⟩
theorem vc_mcxc (W : InW) (K : Nat → List Ed → Prop) : coreK (cxT Try.prog TT TM_mcxc 1000 50) 1000 22 (xsM2 cc_mcxc) (ysM2 cc_mcxc) (fun v h => outC cc_mcxc.H [] cc_mcxc.outs 0 false v h K) (fun v h => outC cc_mcxc.H [] cc_mcxc.outs 0 true v h K) = K 0 [] := by kernel_rfl
theorem ok_mcxc : ∀ W : InW, @CallC W Try.prog cc_mcxc :=
  CC.okOf (fun W => @TT W) (fun W => @TT_ok W) mixed_ok TM_mcxc 1000 50 cc_mcxc fun W K h => (vc_mcxc W K).mpr h
noncomputable def ce_mcxc : CE Try.prog := ceOf cc_mcxc ok_mcxc
def cc_mcxd : CC where
  g := 22
  args := [.agg [.sl 1 0 0 2, .sl 4 0 0 2], lM2 0, lM2 1000]
  H := [pM2xa, pM2xb]
  outs := [⟨false, .tup [.agg [lM2 1000, lM2 1000], lM2 0], [pM2xa, pM2xb], false⟩]
  spec := fun _ K => K 0 []
noncomputable def TM_mcxd : Tab Try.prog := ⟨[], [], [ce_mcxc, ce_mcxb, ce_mbxj, ce_mbxi, ce_mbxh, ce_mbxg, ce_mbxf, ce_mbxe, ce_mbxd, ce_mbxc, ce_mbxb]⟩
theorem vc_mcxd (W : InW) (K : Nat → List Ed → Prop) : coreK (cxT Try.prog TT TM_mcxd 1000 50) 1000 22 (xsM2 cc_mcxd) (ysM2 cc_mcxd) (fun v h => outC cc_mcxd.H [] cc_mcxd.outs 0 false v h K) (fun v h => outC cc_mcxd.H [] cc_mcxd.outs 0 true v h K) = K 0 [] := by kernel_rfl
theorem ok_mcxd : ∀ W : InW, @CallC W Try.prog cc_mcxd :=
  CC.okOf (fun W => @TT W) (fun W => @TT_ok W) mixed_ok TM_mcxd 1000 50 cc_mcxd fun W K h => (vc_mcxd W K).mpr h
noncomputable def ce_mcxd : CE Try.prog := ceOf cc_mcxd ok_mcxd
def cc_mcxe : CC where
  g := 25
  args := [.agg [.sl 1 0 0 2, .sl 4 0 0 2], .sl 7 0 0 2, .sl 10 0 0 2, lM2 2]
  H := [pM2xa, pM2xb, (7, .row 32 2 2 [lM2 400, lM2 500, lM2 400, lM2 500]), pM2xc]
  outs := [⟨false, .tup [.sl 6 0 0 2, lM2 0], [pM2xa, pM2xb, (7, .row 32 2 2 [lM2 400, lM2 500, lM2 400, lM2 500]), pM2xc, (6, .row 32 2 2 [lM2 500, lM2 520, lM2 390, lM2 500])], false⟩]
  spec := fun _ K => K 0 []
noncomputable def TM_mcxe : Tab Try.prog := ⟨[], [], [ce_mcxd, ce_mcxc, ce_mcxb, ce_mbxj, ce_mbxi, ce_mbxh, ce_mbxg, ce_mbxf, ce_mbxe, ce_mbxd, ce_mbxc, ce_mbxb]⟩
theorem vc_mcxe (W : InW) (K : Nat → List Ed → Prop) : coreK (cxT Try.prog TT TM_mcxe 1000 50) 1000 25 (xsM2 cc_mcxe) (ysM2 cc_mcxe) (fun v h => outC cc_mcxe.H [] cc_mcxe.outs 0 false v h K) (fun v h => outC cc_mcxe.H [] cc_mcxe.outs 0 true v h K) = K 0 [] := by kernel_rfl
theorem ok_mcxe : ∀ W : InW, @CallC W Try.prog cc_mcxe :=
  CC.okOf (fun W => @TT W) (fun W => @TT_ok W) mixed_ok TM_mcxe 1000 50 cc_mcxe fun W K h => (vc_mcxe W K).mpr h
noncomputable def ce_mcxe : CE Try.prog := ceOf cc_mcxe ok_mcxe
def cc_mcxf : CC where
  g := 28
  args := [.agg [.sl 1 0 0 2, .sl 4 0 0 2], .sl 7 0 0 2, .sl 10 0 0 2, lM2 0]
  H := [pM2xa, pM2xb, (7, .row 32 2 2 [lM2 400, lM2 500, lM2 400, lM2 500]), pM2xc]
  outs := [⟨false, .tup [.agg [lM2 (Int.negSucc 19), lM2 0], lM2 0], [pM2xa, pM2xb, (7, .row 32 2 2 [lM2 400, lM2 500, lM2 400, lM2 500]), pM2xc], false⟩]
  spec := fun _ K => K 0 []
noncomputable def TM_mcxf : Tab Try.prog := ⟨[], [], [ce_mcxe, ce_mcxd, ce_mcxc, ce_mcxb, ce_mbxj, ce_mbxi, ce_mbxh, ce_mbxg, ce_mbxf, ce_mbxe, ce_mbxd, ce_mbxc, ce_mbxb]⟩
theorem vc_mcxf (W : InW) (K : Nat → List Ed → Prop) : coreK (cxT Try.prog TT TM_mcxf 1000 50) 1000 28 (xsM2 cc_mcxf) (ysM2 cc_mcxf) (fun v h => outC cc_mcxf.H [] cc_mcxf.outs 0 false v h K) (fun v h => outC cc_mcxf.H [] cc_mcxf.outs 0 true v h K) = K 0 [] := by kernel_rfl
theorem ok_mcxf : ∀ W : InW, @CallC W Try.prog cc_mcxf :=
  CC.okOf (fun W => @TT W) (fun W => @TT_ok W) mixed_ok TM_mcxf 1000 50 cc_mcxf fun W K h => (vc_mcxf W K).mpr h
noncomputable def ce_mcxf : CE Try.prog := ceOf cc_mcxf ok_mcxf
def cc_mcxg : CC where
  g := 30
  args := [.agg [.sl 1 0 0 2, .sl 4 0 0 2], .agg [.sl 7 0 0 2, lM2 0], .sl 10 0 0 2]
  H := [pM2xa, pM2xb, (7, .row 100 2 2 [lM2 0, lM2 400, lM2 1, lM2 300]), (10, .row 3 1 2 [lM2 490, lM2 385])]
  outs := [⟨false, .tup [lM2 345150, lM2 0], [pM2xa, pM2xb, (7, .row 100 2 2 [lM2 0, lM2 400, lM2 1, lM2 300]), (10, .row 3 1 2 [lM2 490, lM2 385])], false⟩]
  spec := fun _ K => K 0 []
noncomputable def TM_mcxg : Tab Try.prog := ⟨[], [], [ce_mcxf, ce_mcxe, ce_mcxd, ce_mcxc, ce_mcxb, ce_mbxj, ce_mbxi, ce_mbxh, ce_mbxg, ce_mbxf, ce_mbxe, ce_mbxd, ce_mbxc, ce_mbxb]⟩
theorem vc_mcxg (W : InW) (K : Nat → List Ed → Prop) : coreK (cxT Try.prog TT TM_mcxg 1000 50) 1000 30 (xsM2 cc_mcxg) (ysM2 cc_mcxg) (fun v h => outC cc_mcxg.H [] cc_mcxg.outs 0 false v h K) (fun v h => outC cc_mcxg.H [] cc_mcxg.outs 0 true v h K) = K 0 [] := by kernel_rfl
theorem ok_mcxg : ∀ W : InW, @CallC W Try.prog cc_mcxg :=
  CC.okOf (fun W => @TT W) (fun W => @TT_ok W) mixed_ok TM_mcxg 1000 50 cc_mcxg fun W K h => (vc_mcxg W K).mpr h
noncomputable def ce_mcxg : CE Try.prog := ceOf cc_mcxg ok_mcxg
def cc_mcxh : CC where
  g := 32
  args := [.agg [.sl 1 0 0 2, .sl 4 0 0 2], .agg [.sl 7 0 0 2, lM2 0], .sl 10 0 0 2, lM2 800]
  H := [pM2xa, pM2xb, (7, .row 100 2 2 [lM2 0, lM2 400, lM2 1, lM2 300]), (10, .row 32 2 2 [lM2 490, lM2 515, lM2 385, lM2 500])]
  outs := [⟨false, .tup [.lit (Value.bool false), lM2 345150, lM2 430500, lM2 0], [pM2xa, pM2xb, (7, .row 100 2 2 [lM2 0, lM2 400, lM2 1, lM2 300]), (10, .row 32 2 2 [lM2 490, lM2 515, lM2 385, lM2 500])], false⟩]
  spec := fun _ K => K 0 []
noncomputable def TM_mcxh : Tab Try.prog := ⟨[], [], [ce_mcxg, ce_mcxf, ce_mcxe, ce_mcxd, ce_mcxc, ce_mcxb, ce_mbxj, ce_mbxi, ce_mbxh, ce_mbxg, ce_mbxf, ce_mbxe, ce_mbxd, ce_mbxc, ce_mbxb]⟩
theorem vc_mcxh (W : InW) (K : Nat → List Ed → Prop) : coreK (cxT Try.prog TT TM_mcxh 1000 50) 1000 32 (xsM2 cc_mcxh) (ysM2 cc_mcxh) (fun v h => outC cc_mcxh.H [] cc_mcxh.outs 0 false v h K) (fun v h => outC cc_mcxh.H [] cc_mcxh.outs 0 true v h K) = K 0 [] := by kernel_rfl
theorem ok_mcxh : ∀ W : InW, @CallC W Try.prog cc_mcxh :=
  CC.okOf (fun W => @TT W) (fun W => @TT_ok W) mixed_ok TM_mcxh 1000 50 cc_mcxh fun W K h => (vc_mcxh W K).mpr h
noncomputable def ce_mcxh : CE Try.prog := ceOf cc_mcxh ok_mcxh
def cc_mcxi : CC where
  g := 7
  args := []
  H := []
  outs := [⟨false, .lit (Value.bool true), [], false⟩]
  spec := fun _ K => K 0 []
noncomputable def TM_mcxi : Tab Try.prog := ⟨[], [], [ce_mcxh, ce_mcxg, ce_mcxf, ce_mcxe, ce_mcxd, ce_mcxc, ce_mcxb, ce_mbxj, ce_mbxi, ce_mbxh, ce_mbxg, ce_mbxf, ce_mbxe, ce_mbxd, ce_mbxc, ce_mbxb]⟩
theorem vc_mcxi (W : InW) (K : Nat → List Ed → Prop) : coreK (cxT Try.prog TT TM_mcxi 1000 50) 1000 7 (xsM2 cc_mcxi) (ysM2 cc_mcxi) (fun v h => outC cc_mcxi.H [] cc_mcxi.outs 0 false v h K) (fun v h => outC cc_mcxi.H [] cc_mcxi.outs 0 true v h K) = K 0 [] := by kernel_rfl
theorem ok_mcxi : ∀ W : InW, @CallC W Try.prog cc_mcxi :=
  CC.okOf (fun W => @TT W) (fun W => @TT_ok W) mixed_ok TM_mcxi 1000 50 cc_mcxi fun W K h => (vc_mcxi W K).mpr h
abbrev cc_M2 : CC := cc_mcxi
theorem ok_M2 : ∀ W : InW, @CallC W Try.prog cc_M2 := ok_mcxi
end Go.Proofs.Ytdokbocmgdhmmaa
