/-
  A machine over abstract states, proved sound: the help of the proof of a law.
-/
import Derived.Test.YtdokbocmgdhmmaaQd
set_option linter.unusedVariables false
set_option linter.unusedSectionVars false
set_option linter.unusedSimpArgs false
namespace Go.Proofs.Ytdokbocmgdhmmaa
open Go.RowKit
set_option linter.unusedVariables false
set_option maxRecDepth 100000
abbrev lM1 (n : Int) : Pt := .lit (.int .i64 n)
abbrev vM1 [W : InW] (n : Int) : AV := .v (.int .i64 n)
abbrev pM1xa : Nat × PI := (1, .row 76 5 2 [.lit (Value.string { data := { toList := [ 115 , 116 , 101 , 101 , 114 ] } }), lM1 20, lM1 40, lM1 5, lM1 10, .lit (Value.string { data := { toList := [ 119 , 97 , 116 , 99 , 104 ] } }), lM1 10, lM1 30, lM1 0, lM1 5])
abbrev pM1xb : Nat × PI := (4, .row 81 3 2 [.lit (Value.string { data := { toList := [ 97 , 100 , 97 ] } }), lM1 (Int.negSucc 19), lM1 0, .lit (Value.string { data := { toList := [ 98 , 111 ] } }), lM1 0, lM1 30])
abbrev pM1xc : Nat × PI := (10, .row 78 5 2 [lM1 0, lM1 0, lM1 0, lM1 0, lM1 0, lM1 2, lM1 1, lM1 0, lM1 0, lM1 500])
abbrev pM1xd : Nat × PI := (10, .row 78 5 2 [lM1 0, lM1 0, lM1 0, lM1 0, lM1 0, lM1 2, lM1 1, lM1 0, lM1 0, lM1 520])
abbrev pM1xe : Nat × PI := (10, .row 78 5 2 [lM1 0, lM1 0, lM1 0, lM1 0, lM1 0, lM1 2, lM1 1, lM1 0, lM1 0, lM1 560])
def xsM1 [W : InW] (c : CC) : List AV := match insL c.args [] with | some x => x.1 | none => []
def ysM1 [W : InW] (c : CC) : Heap := match insH c.H [] with | some x => x.1 | none => []
def cc_mbxb : CC where
  g := 20
  args := [.agg [.sl 1 0 0 2, .sl 4 0 0 2], lM1 1, lM1 990]
  H := [pM1xa, pM1xb]
  outs := [⟨false, .tup [.agg [lM1 990, lM1 1000], lM1 0], [pM1xa, pM1xb], false⟩]
  spec := fun _ K => K 0 []
noncomputable def TM_mbxb : Tab Try.prog := ⟨[], [], []⟩
theorem vc_mbxb (W : InW) (K : Nat → List Ed → Prop) : coreK (cxT Try.prog TT TM_mbxb 1000 50) 1000 20 (xsM1 cc_mbxb) (ysM1 cc_mbxb) (fun v h => outC cc_mbxb.H [] cc_mbxb.outs 0 false v h K) (fun v h => outC cc_mbxb.H [] cc_mbxb.outs 0 true v h K) = K 0 [] := by kernel_rfl
theorem ok_mbxb : ∀ W : InW, @CallC W Try.prog cc_mbxb :=
  CC.okOf (fun W => @TT W) (fun W => @TT_ok W) mixed_ok TM_mbxb 1000 50 cc_mbxb fun W K h => (vc_mbxb W K).mpr h
noncomputable def ce_mbxb : CE Try.prog := ceOf cc_mbxb ok_mbxb
def cc_mbxc : CC where
  g := 22
  args := [.agg [.sl 1 0 0 2, .sl 4 0 0 2], lM1 0, lM1 500]
  H := [pM1xa, pM1xb]
  outs := [⟨false, .tup [.agg [lM1 500, lM1 520], lM1 0], [pM1xa, pM1xb], false⟩]
  spec := fun _ K => K 0 []
noncomputable def TM_mbxc : Tab Try.prog := ⟨[], [], [ce_mbxb]⟩
theorem vc_mbxc (W : InW) (K : Nat → List Ed → Prop) : coreK (cxT Try.prog TT TM_mbxc 1000 50) 1000 22 (xsM1 cc_mbxc) (ysM1 cc_mbxc) (fun v h => outC cc_mbxc.H [] cc_mbxc.outs 0 false v h K) (fun v h => outC cc_mbxc.H [] cc_mbxc.outs 0 true v h K) = K 0 [] := by kernel_rfl
theorem ok_mbxc : ∀ W : InW, @CallC W Try.prog cc_mbxc :=
  CC.okOf (fun W => @TT W) (fun W => @TT_ok W) mixed_ok TM_mbxc 1000 50 cc_mbxc fun W K h => (vc_mbxc W K).mpr h
noncomputable def ce_mbxc : CE Try.prog := ceOf cc_mbxc ok_mbxc
def cc_mbxd : CC where
  g := 25
  args := [.agg [.sl 1 0 0 2, .sl 4 0 0 2], .sl 7 0 0 2, .sl 10 0 0 2, lM1 3]
  H := [pM1xa, pM1xb, (7, .row 32 2 2 [lM1 400, lM1 500, lM1 400, lM1 500]), pM1xc]
  outs := [⟨false, .tup [.sl 6 0 0 2, lM1 0], [pM1xa, pM1xb, (7, .row 32 2 2 [lM1 400, lM1 500, lM1 400, lM1 500]), pM1xc, (6, .row 32 2 2 [lM1 490, lM1 515, lM1 385, lM1 500])], false⟩]
  spec := fun _ K => K 0 []
noncomputable def TM_mbxd : Tab Try.prog := ⟨[], [], [ce_mbxc, ce_mbxb]⟩
theorem vc_mbxd (W : InW) (K : Nat → List Ed → Prop) : coreK (cxT Try.prog TT TM_mbxd 1000 50) 1000 25 (xsM1 cc_mbxd) (ysM1 cc_mbxd) (fun v h => outC cc_mbxd.H [] cc_mbxd.outs 0 false v h K) (fun v h => outC cc_mbxd.H [] cc_mbxd.outs 0 true v h K) = K 0 [] := by kernel_rfl
theorem ok_mbxd : ∀ W : InW, @CallC W Try.prog cc_mbxd :=
  CC.okOf (fun W => @TT W) (fun W => @TT_ok W) mixed_ok TM_mbxd 1000 50 cc_mbxd fun W K h => (vc_mbxd W K).mpr h
noncomputable def ce_mbxd : CE Try.prog := ceOf cc_mbxd ok_mbxd
def cc_mbxe : CC where
  g := 28
  args := [.agg [.sl 1 0 0 2, .sl 4 0 0 2], .sl 7 0 0 2, .sl 10 0 0 2, lM1 0]
  H := [pM1xa, pM1xb, (7, .row 32 2 2 [lM1 400, lM1 500, lM1 400, lM1 500]), pM1xd]
  outs := [⟨false, .tup [.agg [lM1 (Int.negSucc 9), lM1 0], lM1 0], [pM1xa, pM1xb, (7, .row 32 2 2 [lM1 400, lM1 500, lM1 400, lM1 500]), pM1xd], false⟩]
  spec := fun _ K => K 0 []
noncomputable def TM_mbxe : Tab Try.prog := ⟨[], [], [ce_mbxd, ce_mbxc, ce_mbxb]⟩
theorem vc_mbxe (W : InW) (K : Nat → List Ed → Prop) : coreK (cxT Try.prog TT TM_mbxe 1000 50) 1000 28 (xsM1 cc_mbxe) (ysM1 cc_mbxe) (fun v h => outC cc_mbxe.H [] cc_mbxe.outs 0 false v h K) (fun v h => outC cc_mbxe.H [] cc_mbxe.outs 0 true v h K) = K 0 [] := by kernel_rfl
theorem ok_mbxe : ∀ W : InW, @CallC W Try.prog cc_mbxe :=
  CC.okOf (fun W => @TT W) (fun W => @TT_ok W) mixed_ok TM_mbxe 1000 50 cc_mbxe fun W K h => (vc_mbxe W K).mpr h
noncomputable def ce_mbxe : CE Try.prog := ceOf cc_mbxe ok_mbxe
def cc_mbxf : CC where
  g := 30
  args := [.agg [.sl 1 0 0 2, .sl 4 0 0 2], .agg [.sl 7 0 0 2, lM1 1], .sl 10 0 0 2]
  H := [pM1xa, pM1xb, (7, .row 100 2 2 [lM1 0, lM1 400, lM1 1, lM1 300]), (10, .row 3 1 2 [lM1 490, lM1 385])]
  outs := [⟨false, .tup [lM1 829850, lM1 0], [pM1xa, pM1xb, (7, .row 100 2 2 [lM1 0, lM1 400, lM1 1, lM1 300]), (10, .row 3 1 2 [lM1 490, lM1 385])], false⟩]
  spec := fun _ K => K 0 []
noncomputable def TM_mbxf : Tab Try.prog := ⟨[], [], [ce_mbxe, ce_mbxd, ce_mbxc, ce_mbxb]⟩
theorem vc_mbxf (W : InW) (K : Nat → List Ed → Prop) : coreK (cxT Try.prog TT TM_mbxf 1000 50) 1000 30 (xsM1 cc_mbxf) (ysM1 cc_mbxf) (fun v h => outC cc_mbxf.H [] cc_mbxf.outs 0 false v h K) (fun v h => outC cc_mbxf.H [] cc_mbxf.outs 0 true v h K) = K 0 [] := by kernel_rfl
theorem ok_mbxf : ∀ W : InW, @CallC W Try.prog cc_mbxf :=
  CC.okOf (fun W => @TT W) (fun W => @TT_ok W) mixed_ok TM_mbxf 1000 50 cc_mbxf fun W K h => (vc_mbxf W K).mpr h
noncomputable def ce_mbxf : CE Try.prog := ceOf cc_mbxf ok_mbxf
def cc_mbxg : CC where
  g := 32
  args := [.agg [.sl 1 0 0 2, .sl 4 0 0 2], .agg [.sl 7 0 0 2, lM1 1], .sl 10 0 0 2, lM1 800]
  H := [pM1xa, pM1xb, (7, .row 100 2 2 [lM1 0, lM1 400, lM1 1, lM1 300]), (10, .row 32 2 2 [lM1 490, lM1 515, lM1 385, lM1 500])]
  outs := [⟨false, .tup [.lit (Value.bool true), lM1 829850, lM1 884500, lM1 0], [pM1xa, pM1xb, (7, .row 100 2 2 [lM1 0, lM1 400, lM1 1, lM1 300]), (10, .row 32 2 2 [lM1 490, lM1 515, lM1 385, lM1 500])], false⟩]
  spec := fun _ K => K 0 []
noncomputable def TM_mbxg : Tab Try.prog := ⟨[], [], [ce_mbxf, ce_mbxe, ce_mbxd, ce_mbxc, ce_mbxb]⟩
theorem vc_mbxg (W : InW) (K : Nat → List Ed → Prop) : coreK (cxT Try.prog TT TM_mbxg 1000 50) 1000 32 (xsM1 cc_mbxg) (ysM1 cc_mbxg) (fun v h => outC cc_mbxg.H [] cc_mbxg.outs 0 false v h K) (fun v h => outC cc_mbxg.H [] cc_mbxg.outs 0 true v h K) = K 0 [] := by kernel_rfl
theorem ok_mbxg : ∀ W : InW, @CallC W Try.prog cc_mbxg :=
  CC.okOf (fun W => @TT W) (fun W => @TT_ok W) mixed_ok TM_mbxg 1000 50 cc_mbxg fun W K h => (vc_mbxg W K).mpr h
noncomputable def ce_mbxg : CE Try.prog := ceOf cc_mbxg ok_mbxg
def cc_mbxh : CC where
  g := 34
  args := [.agg [.sl 1 0 0 2, .sl 4 0 0 2], .agg [.sl 7 0 0 2, lM1 0], .sl 10 0 0 2, lM1 400]
  H := [pM1xa, pM1xb, (7, .row 100 2 2 [lM1 0, lM1 400, lM1 1, lM1 300]), (10, .row 32 2 2 [lM1 490, lM1 515, lM1 385, lM1 500])]
  outs := [⟨false, .tup [.sl 6 0 0 2, lM1 0], [pM1xa, pM1xb, (7, .row 100 2 2 [lM1 0, lM1 400, lM1 1, lM1 300]), (10, .row 32 2 2 [lM1 490, lM1 515, lM1 385, lM1 500]), (6, .row 3 1 2 [lM1 5, lM1 0])], false⟩]
  spec := fun _ K => K 0 []
noncomputable def TM_mbxh : Tab Try.prog := ⟨[], [], [ce_mbxg, ce_mbxf, ce_mbxe, ce_mbxd, ce_mbxc, ce_mbxb]⟩
theorem vc_mbxh (W : InW) (K : Nat → List Ed → Prop) : coreK (cxT Try.prog TT TM_mbxh 1000 50) 1000 34 (xsM1 cc_mbxh) (ysM1 cc_mbxh) (fun v h => outC cc_mbxh.H [] cc_mbxh.outs 0 false v h K) (fun v h => outC cc_mbxh.H [] cc_mbxh.outs 0 true v h K) = K 0 [] := by kernel_rfl
theorem ok_mbxh : ∀ W : InW, @CallC W Try.prog cc_mbxh :=
  CC.okOf (fun W => @TT W) (fun W => @TT_ok W) mixed_ok TM_mbxh 1000 50 cc_mbxh fun W K h => (vc_mbxh W K).mpr h
noncomputable def ce_mbxh : CE Try.prog := ceOf cc_mbxh ok_mbxh
def cc_mbxi : CC where
  g := 25
  args := [.agg [.sl 1 0 0 2, .sl 4 0 0 2], .sl 7 0 0 2, .sl 10 0 0 2, lM1 3]
  H := [pM1xa, pM1xb, (7, .row 32 2 2 [lM1 400, lM1 500, lM1 400, lM1 500]), pM1xe]
  outs := [⟨false, .tup [.lit (Value.slice none 0 0), lM1 9], [pM1xa, pM1xb, (7, .row 32 2 2 [lM1 400, lM1 500, lM1 400, lM1 500]), pM1xe], false⟩]
  spec := fun _ K => K 0 []
noncomputable def TM_mbxi : Tab Try.prog := ⟨[], [], [ce_mbxh, ce_mbxg, ce_mbxf, ce_mbxe, ce_mbxd, ce_mbxc, ce_mbxb]⟩
theorem vc_mbxi (W : InW) (K : Nat → List Ed → Prop) : coreK (cxT Try.prog TT TM_mbxi 1000 50) 1000 25 (xsM1 cc_mbxi) (ysM1 cc_mbxi) (fun v h => outC cc_mbxi.H [] cc_mbxi.outs 0 false v h K) (fun v h => outC cc_mbxi.H [] cc_mbxi.outs 0 true v h K) = K 0 [] := by kernel_rfl
theorem ok_mbxi : ∀ W : InW, @CallC W Try.prog cc_mbxi :=
  CC.okOf (fun W => @TT W) (fun W => @TT_ok W) mixed_ok TM_mbxi 1000 50 cc_mbxi fun W K h => (vc_mbxi W K).mpr h
noncomputable def ce_mbxi : CE Try.prog := ceOf cc_mbxi ok_mbxi
def cc_mbxj : CC where
  g := 24
  args := []
  H := []
  outs := [⟨false, .lit (Value.bool true), [], false⟩]
  spec := fun _ K => K 0 []
noncomputable def TM_mbxj : Tab Try.prog := ⟨[], [], [ce_mbxi, ce_mbxh, ce_mbxg, ce_mbxf, ce_mbxe, ce_mbxd, ce_mbxc, ce_mbxb]⟩
theorem vc_mbxj (W : InW) (K : Nat → List Ed → Prop) : coreK (cxT Try.prog TT TM_mbxj 1000 50) 1000 24 (xsM1 cc_mbxj) (ysM1 cc_mbxj) (fun v h => outC cc_mbxj.H [] cc_mbxj.outs 0 false v h K) (fun v h => outC cc_mbxj.H [] cc_mbxj.outs 0 true v h K) = K 0 [] := by kernel_rfl
theorem ok_mbxj : ∀ W : InW, @CallC W Try.prog cc_mbxj :=
  CC.okOf (fun W => @TT W) (fun W => @TT_ok W) mixed_ok TM_mbxj 1000 50 cc_mbxj fun W K h => (vc_mbxj W K).mpr h
abbrev cc_M1 : CC := cc_mbxj
theorem ok_M1 : ∀ W : InW, @CallC W Try.prog cc_M1 := ok_mbxj
end Go.Proofs.Ytdokbocmgdhmmaa
