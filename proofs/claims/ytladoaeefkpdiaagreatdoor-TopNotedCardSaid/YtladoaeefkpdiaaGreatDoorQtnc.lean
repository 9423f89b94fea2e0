/-
  'TopNoted', the tied card: for every input the law returns true, and what is handed in reads as before.
-/
import Derived.Test.YtladoaeefkpdiaaGreatDoorQtnb
set_option linter.unusedVariables false
set_option linter.unusedSectionVars false
set_option linter.unusedSimpArgs false
noncomputable section
namespace Go.Proofs.YtladoaeefkpdiaaGreatDoor
open Go.RowKit
set_option maxRecDepth 100000
abbrev lM2 (n : Int) : Pt := .lit (.int .i64 n)
abbrev vM2 [W : InW] (n : Int) : AV := .v (.int .i64 n)
abbrev Xbh : Nat × PI := (1, .row 64 5 2 [.lit (Value.string { data := { toList := [ 115 , 116 , 101 , 101 , 114 ] } }), lM2 20, lM2 40, lM2 5, lM2 10, .lit (Value.string { data := { toList := [ 119 , 97 , 116 , 99 , 104 ] } }), lM2 10, lM2 30, lM2 0, lM2 5])
abbrev Xbg : Nat × PI := (4, .row 68 3 2 [.lit (Value.string { data := { toList := [ 97 , 100 , 97 ] } }), lM2 (Int.negSucc 19), lM2 0, .lit (Value.string { data := { toList := [ 98 , 111 ] } }), lM2 0, lM2 30])
abbrev Xsk : Nat × PI := (10, .row 126 5 2 [lM2 0, lM2 0, lM2 0, lM2 0, lM2 0, lM2 2, lM2 1, lM2 0, lM2 0, lM2 500])
abbrev Xsj : Nat × PI := (10, .row 126 5 2 [lM2 0, lM2 0, lM2 0, lM2 0, lM2 0, lM2 2, lM2 1, lM2 0, lM2 0, lM2 520])
abbrev Xsi : Nat × PI := (10, .row 126 5 2 [lM2 0, lM2 0, lM2 0, lM2 0, lM2 0, lM2 2, lM2 1, lM2 0, lM2 0, lM2 560])
def xsM2 [W : InW] (c : CC) : List AV := match insL c.args [] with | some x => x.1 | none => []
def ysM2 [W : InW] (c : CC) : Heap := match insH c.H [] with | some x => x.1 | none => []
def Xba : CC where
 g := 23
 args := [.agg [.sl 1 0 0 2, .sl 4 0 0 2], lM2 1, lM2 990]
 H := [Xbh, Xbg]
 outs := [⟨false, .tup [.agg [lM2 990, lM2 1000], lM2 0], [Xbh, Xbg], false⟩]
 spec := fun _ K => K 0 []
def Xl3 : Tab Tryz.prog := ⟨[], [], []⟩
theorem Xpe (W : InW) (K : Nat -> List Ed -> Prop) : Yzo (cxT Tryz.prog TT Xl3 1000 50) 1000 23 (xsM2 Xba) (ysM2 Xba) (fun v h => outC Xba.H [] Xba.outs 0 false v h K) (fun v h => outC Xba.H [] Xba.outs 0 true v h K) = K 0 [] := by kernel_rfl
theorem Xq0 : ∀ W : InW, @CallC W Tryz.prog Xba :=
 CC.okOf (fun W => @TT W) (fun W => @Xc W) Xa Xl3 1000 50 Xba fun W K h => (Xpe W K).mpr h
def Xbb : CE Tryz.prog := ceOf Xba Xq0
def X9 : CC where
 g := 15
 args := [.agg [.sl 1 0 0 2, .sl 4 0 0 2], lM2 0, lM2 500]
 H := [Xbh, Xbg]
 outs := [⟨false, .tup [.agg [lM2 500, lM2 520], lM2 0], [Xbh, Xbg], false⟩]
 spec := fun _ K => K 0 []
def Xl2 : Tab Tryz.prog := ⟨[], [], [Xbb]⟩
theorem Xpd (W : InW) (K : Nat -> List Ed -> Prop) : Yzo (cxT Tryz.prog TT Xl2 1000 50) 1000 15 (xsM2 X9) (ysM2 X9) (fun v h => outC X9.H [] X9.outs 0 false v h K) (fun v h => outC X9.H [] X9.outs 0 true v h K) = K 0 [] := by kernel_rfl
theorem Xqz : ∀ W : InW, @CallC W Tryz.prog X9 :=
 CC.okOf (fun W => @TT W) (fun W => @Xc W) Xa Xl2 1000 50 X9 fun W K h => (Xpd W K).mpr h
def Xbk : CE Tryz.prog := ceOf X9 Xqz
def X8 : CC where
 g := 25
 args := [.agg [.sl 1 0 0 2, .sl 4 0 0 2], .sl 7 0 0 2, .sl 10 0 0 2, lM2 3]
 H := [Xbh, Xbg, (7, .row 57 2 2 [lM2 400, lM2 500, lM2 400, lM2 500]), Xsk]
 outs := [⟨false, .tup [.sl 6 0 0 2, lM2 0], [Xbh, Xbg, (7, .row 57 2 2 [lM2 400, lM2 500, lM2 400, lM2 500]), Xsk, (6, .row 57 2 2 [lM2 490, lM2 515, lM2 385, lM2 500])], false⟩]
 spec := fun _ K => K 0 []
def Xl1 : Tab Tryz.prog := ⟨[], [], [Xbk, Xbb]⟩
theorem Xpc (W : InW) (K : Nat -> List Ed -> Prop) : Yzo (cxT Tryz.prog TT Xl1 1000 50) 1000 25 (xsM2 X8) (ysM2 X8) (fun v h => outC X8.H [] X8.outs 0 false v h K) (fun v h => outC X8.H [] X8.outs 0 true v h K) = K 0 [] := by kernel_rfl
theorem Xqy : ∀ W : InW, @CallC W Tryz.prog X8 :=
 CC.okOf (fun W => @TT W) (fun W => @Xc W) Xa Xl1 1000 50 X8 fun W K h => (Xpc W K).mpr h
def Xbt : CE Tryz.prog := ceOf X8 Xqy
def X7 : CC where
 g := 28
 args := [.agg [.sl 1 0 0 2, .sl 4 0 0 2], .sl 7 0 0 2, .sl 10 0 0 2, lM2 0]
 H := [Xbh, Xbg, (7, .row 57 2 2 [lM2 400, lM2 500, lM2 400, lM2 500]), Xsj]
 outs := [⟨false, .tup [.agg [lM2 (Int.negSucc 9), lM2 0], lM2 0], [Xbh, Xbg, (7, .row 57 2 2 [lM2 400, lM2 500, lM2 400, lM2 500]), Xsj], false⟩]
 spec := fun _ K => K 0 []
def Xl0 : Tab Tryz.prog := ⟨[], [], [Xbt, Xbk, Xbb]⟩
theorem Xpb (W : InW) (K : Nat -> List Ed -> Prop) : Yzo (cxT Tryz.prog TT Xl0 1000 50) 1000 28 (xsM2 X7) (ysM2 X7) (fun v h => outC X7.H [] X7.outs 0 false v h K) (fun v h => outC X7.H [] X7.outs 0 true v h K) = K 0 [] := by kernel_rfl
theorem Xqx : ∀ W : InW, @CallC W Tryz.prog X7 :=
 CC.okOf (fun W => @TT W) (fun W => @Xc W) Xa Xl0 1000 50 X7 fun W K h => (Xpb W K).mpr h
def Xb5 : CE Tryz.prog := ceOf X7 Xqx
def X6 : CC where
 g := 29
 args := [.agg [.sl 1 0 0 2, .sl 4 0 0 2], .agg [.sl 7 0 0 2, lM2 1], .sl 10 0 0 2]
 H := [Xbh, Xbg, (7, .row 137 2 2 [lM2 0, lM2 400, lM2 1, lM2 300]), (10, .row 3 1 2 [lM2 490, lM2 385])]
 outs := [⟨false, .tup [lM2 829850, lM2 0], [Xbh, Xbg, (7, .row 137 2 2 [lM2 0, lM2 400, lM2 1, lM2 300]), (10, .row 3 1 2 [lM2 490, lM2 385])], false⟩]
 spec := fun _ K => K 0 []
def Xlz : Tab Tryz.prog := ⟨[], [], [Xb5, Xbt, Xbk, Xbb]⟩
theorem Xpa (W : InW) (K : Nat -> List Ed -> Prop) : Yzo (cxT Tryz.prog TT Xlz 1000 50) 1000 29 (xsM2 X6) (ysM2 X6) (fun v h => outC X6.H [] X6.outs 0 false v h K) (fun v h => outC X6.H [] X6.outs 0 true v h K) = K 0 [] := by kernel_rfl
theorem Xqw : ∀ W : InW, @CallC W Tryz.prog X6 :=
 CC.okOf (fun W => @TT W) (fun W => @Xc W) Xa Xlz 1000 50 X6 fun W K h => (Xpa W K).mpr h
def Xcr : CE Tryz.prog := ceOf X6 Xqw
def X5 : CC where
 g := 31
 args := [.agg [.sl 1 0 0 2, .sl 4 0 0 2], .agg [.sl 7 0 0 2, lM2 1], .sl 10 0 0 2, lM2 800]
 H := [Xbh, Xbg, (7, .row 137 2 2 [lM2 0, lM2 400, lM2 1, lM2 300]), (10, .row 57 2 2 [lM2 490, lM2 515, lM2 385, lM2 500])]
 outs := [⟨false, .tup [.lit (Value.bool true), lM2 829850, lM2 884500, lM2 0], [Xbh, Xbg, (7, .row 137 2 2 [lM2 0, lM2 400, lM2 1, lM2 300]), (10, .row 57 2 2 [lM2 490, lM2 515, lM2 385, lM2 500])], false⟩]
 spec := fun _ K => K 0 []
def Xly : Tab Tryz.prog := ⟨[], [], [Xcr, Xb5, Xbt, Xbk, Xbb]⟩
theorem Xo9 (W : InW) (K : Nat -> List Ed -> Prop) : Yzo (cxT Tryz.prog TT Xly 1000 50) 1000 31 (xsM2 X5) (ysM2 X5) (fun v h => outC X5.H [] X5.outs 0 false v h K) (fun v h => outC X5.H [] X5.outs 0 true v h K) = K 0 [] := by kernel_rfl
theorem Xqv : ∀ W : InW, @CallC W Tryz.prog X5 :=
 CC.okOf (fun W => @TT W) (fun W => @Xc W) Xa Xly 1000 50 X5 fun W K h => (Xo9 W K).mpr h
def Xdw : CE Tryz.prog := ceOf X5 Xqv
def X4 : CC where
 g := 32
 args := [.agg [.sl 1 0 0 2, .sl 4 0 0 2], .agg [.sl 7 0 0 2, lM2 0], .sl 10 0 0 2, lM2 400]
 H := [Xbh, Xbg, (7, .row 137 2 2 [lM2 0, lM2 400, lM2 1, lM2 300]), (10, .row 57 2 2 [lM2 490, lM2 515, lM2 385, lM2 500])]
 outs := [⟨false, .tup [.sl 6 0 0 2, lM2 0], [Xbh, Xbg, (7, .row 137 2 2 [lM2 0, lM2 400, lM2 1, lM2 300]), (10, .row 57 2 2 [lM2 490, lM2 515, lM2 385, lM2 500]), (6, .row 3 1 2 [lM2 5, lM2 0])], false⟩]
 spec := fun _ K => K 0 []
def Xlx : Tab Tryz.prog := ⟨[], [], [Xdw, Xcr, Xb5, Xbt, Xbk, Xbb]⟩
theorem Xo8 (W : InW) (K : Nat -> List Ed -> Prop) : Yzo (cxT Tryz.prog TT Xlx 1000 50) 1000 32 (xsM2 X4) (ysM2 X4) (fun v h => outC X4.H [] X4.outs 0 false v h K) (fun v h => outC X4.H [] X4.outs 0 true v h K) = K 0 [] := by kernel_rfl
theorem Xqu : ∀ W : InW, @CallC W Tryz.prog X4 :=
 CC.okOf (fun W => @TT W) (fun W => @Xc W) Xa Xlx 1000 50 X4 fun W K h => (Xo8 W K).mpr h
def Xk4 : CE Tryz.prog := ceOf X4 Xqu
def X3 : CC where
 g := 25
 args := [.agg [.sl 1 0 0 2, .sl 4 0 0 2], .sl 7 0 0 2, .sl 10 0 0 2, lM2 3]
 H := [Xbh, Xbg, (7, .row 57 2 2 [lM2 400, lM2 500, lM2 400, lM2 500]), Xsi]
 outs := [⟨false, .tup [.lit (Value.slice none 0 0), lM2 9], [Xbh, Xbg, (7, .row 57 2 2 [lM2 400, lM2 500, lM2 400, lM2 500]), Xsi], false⟩]
 spec := fun _ K => K 0 []
def Xlw : Tab Tryz.prog := ⟨[], [], [Xk4, Xdw, Xcr, Xb5, Xbt, Xbk, Xbb]⟩
theorem Xo7 (W : InW) (K : Nat -> List Ed -> Prop) : Yzo (cxT Tryz.prog TT Xlw 1000 50) 1000 25 (xsM2 X3) (ysM2 X3) (fun v h => outC X3.H [] X3.outs 0 false v h K) (fun v h => outC X3.H [] X3.outs 0 true v h K) = K 0 [] := by kernel_rfl
theorem Xqt : ∀ W : InW, @CallC W Tryz.prog X3 :=
 CC.okOf (fun W => @TT W) (fun W => @Xc W) Xa Xlw 1000 50 X3 fun W K h => (Xo7 W K).mpr h
def Xq9 : CE Tryz.prog := ceOf X3 Xqt
def X2 : CC where
 g := 6
 args := []
 H := []
 outs := [⟨false, .lit (Value.bool true), [], false⟩]
 spec := fun _ K => K 0 []
def Xlv : Tab Tryz.prog := ⟨[], [], [Xq9, Xk4, Xdw, Xcr, Xb5, Xbt, Xbk, Xbb]⟩
theorem Xo6 (W : InW) (K : Nat -> List Ed -> Prop) : Yzo (cxT Tryz.prog TT Xlv 1000 50) 1000 6 (xsM2 X2) (ysM2 X2) (fun v h => outC X2.H [] X2.outs 0 false v h K) (fun v h => outC X2.H [] X2.outs 0 true v h K) = K 0 [] := by kernel_rfl
theorem Xqs : ∀ W : InW, @CallC W Tryz.prog X2 :=
 CC.okOf (fun W => @TT W) (fun W => @Xc W) Xa Xlv 1000 50 X2 fun W K h => (Xo6 W K).mpr h
abbrev cc_M2 : CC := X2
theorem ok_M2 : ∀ W : InW, @CallC W Tryz.prog cc_M2 := Xqs
end Go.Proofs.YtladoaeefkpdiaaGreatDoor
