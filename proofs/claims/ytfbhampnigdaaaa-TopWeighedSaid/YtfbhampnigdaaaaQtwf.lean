/-
  'TopWeighed': for every input the law returns true, and what is handed in reads as before. No condition.
-/
import Derived.Test.YtfbhampnigdaaaaQtwe
set_option linter.unusedVariables false
set_option linter.unusedSectionVars false
set_option linter.unusedSimpArgs false
noncomputable section
namespace Go.Proofs.Ytfbhampnigdaaaa
open Go.RowKit
set_option maxRecDepth 100000
abbrev lM6 (n : Int) : Pt := .lit (.int .i64 n)
abbrev vM6 [W : InW] (n : Int) : AV := .v (.int .i64 n)
abbrev Xb5 : Nat × PI := (1, .row 93 3 5 [lM6 0, lM6 10, lM6 2, lM6 0, lM6 0, lM6 0, lM6 1, lM6 10, lM6 3, lM6 1, lM6 5, lM6 3, lM6 1, lM6 5, lM6 2])
def xsM6 [W : InW] (c : CC) : List AV := match insL c.args [] with | some x => x.1 | none => []
def ysM6 [W : InW] (c : CC) : Heap := match insH c.H [] with | some x => x.1 | none => []
def Xbv : CC where
 g := 10
 args := [.agg [.sl 1 0 0 5, .sl 4 0 0 2, lM6 1000, lM6 1300]]
 H := [Xb5, (4, .row 3 1 2 [lM6 1, lM6 2])]
 outs := [⟨false, .tup [.sl 6 0 0 5, lM6 0], [Xb5, (4, .row 3 1 2 [lM6 1, lM6 2]), (6, .row 3 1 5 [lM6 200, lM6 500, lM6 300, lM6 600, lM6 400])], false⟩]
 spec := fun _ K => K 0 []
def Xla : Tab Try.prog := ⟨[], [], []⟩
theorem Xo9 (W : InW) (K : Nat -> List Ed -> Prop) : Yxz (cxT Try.prog TT Xla 1000 50) 1000 10 (xsM6 Xbv) (ysM6 Xbv) (fun v h => outC Xbv.H [] Xbv.outs 0 false v h K) (fun v h => outC Xbv.H [] Xbv.outs 0 true v h K) = K 0 [] := by kernel_rfl
theorem Xra : ∀ W : InW, @CallC W Try.prog Xbv :=
 CC.okOf (fun W => @TT W) (fun W => @Xc W) Xa Xla 1000 50 Xbv fun W K h => (Xo9 W K).mpr h
def Xbz : CE Try.prog := ceOf Xbv Xra
def Xbu : CC where
 g := 12
 args := [.agg [.sl 1 0 0 5, .sl 4 0 0 2, lM6 1000, lM6 1300]]
 H := [Xb5, (4, .row 3 1 2 [lM6 1, lM6 2])]
 outs := [⟨false, .tup [lM6 3, lM6 0], [Xb5, (4, .row 3 1 2 [lM6 1, lM6 2])], false⟩]
 spec := fun _ K => K 0 []
def Xk9 : Tab Try.prog := ⟨[], [], [Xbz]⟩
theorem Xo8 (W : InW) (K : Nat -> List Ed -> Prop) : Yxz (cxT Try.prog TT Xk9 1000 50) 1000 12 (xsM6 Xbu) (ysM6 Xbu) (fun v h => outC Xbu.H [] Xbu.outs 0 false v h K) (fun v h => outC Xbu.H [] Xbu.outs 0 true v h K) = K 0 [] := by kernel_rfl
theorem Xq9 : ∀ W : InW, @CallC W Try.prog Xbu :=
 CC.okOf (fun W => @TT W) (fun W => @Xc W) Xa Xk9 1000 50 Xbu fun W K h => (Xo8 W K).mpr h
def Xb7 : CE Try.prog := ceOf Xbu Xq9
def Xbt : CC where
 g := 42
 args := [.agg [.sl 1 0 0 5, .sl 4 0 0 2, lM6 1000, lM6 1300], lM6 2]
 H := [Xb5, (4, .row 3 1 2 [lM6 1, lM6 2])]
 outs := [⟨false, .tup [.sl 6 0 0 3, lM6 0], [Xb5, (4, .row 3 1 2 [lM6 1, lM6 2]), (6, .row 3 1 3 [lM6 1, lM6 2, lM6 4])], false⟩]
 spec := fun _ K => K 0 []
def Xk8 : Tab Try.prog := ⟨[], [], [Xb7, Xbz]⟩
theorem Xo7 (W : InW) (K : Nat -> List Ed -> Prop) : Yxz (cxT Try.prog TT Xk8 1000 50) 1000 42 (xsM6 Xbt) (ysM6 Xbt) (fun v h => outC Xbt.H [] Xbt.outs 0 false v h K) (fun v h => outC Xbt.H [] Xbt.outs 0 true v h K) = K 0 [] := by kernel_rfl
theorem Xq8 : ∀ W : InW, @CallC W Try.prog Xbt :=
 CC.okOf (fun W => @TT W) (fun W => @Xc W) Xa Xk8 1000 50 Xbt fun W K h => (Xo7 W K).mpr h
def Xcc : CE Try.prog := ceOf Xbt Xq8
def Xbs : CC where
 g := 43
 args := [.agg [.sl 1 0 0 5, .sl 4 0 0 2, lM6 1000, lM6 1300], .sl 7 0 0 3]
 H := [Xb5, (4, .row 3 1 2 [lM6 1, lM6 2]), (7, .row 3 1 3 [lM6 0, lM6 3, lM6 4])]
 outs := [⟨false, .tup [lM6 1, lM6 0], [Xb5, (4, .row 3 1 2 [lM6 1, lM6 2]), (7, .row 3 1 3 [lM6 0, lM6 3, lM6 4])], false⟩]
 spec := fun _ K => K 0 []
def Xk7 : Tab Try.prog := ⟨[], [], [Xcc, Xb7, Xbz]⟩
theorem Xo6 (W : InW) (K : Nat -> List Ed -> Prop) : Yxz (cxT Try.prog TT Xk7 1000 50) 1000 43 (xsM6 Xbs) (ysM6 Xbs) (fun v h => outC Xbs.H [] Xbs.outs 0 false v h K) (fun v h => outC Xbs.H [] Xbs.outs 0 true v h K) = K 0 [] := by kernel_rfl
theorem Xq7 : ∀ W : InW, @CallC W Try.prog Xbs :=
 CC.okOf (fun W => @TT W) (fun W => @Xc W) Xa Xk7 1000 50 Xbs fun W K h => (Xo6 W K).mpr h
def Xcx : CE Try.prog := ceOf Xbs Xq7
def Xbr : CC where
 g := 44
 args := [.agg [.sl 1 0 0 5, .sl 4 0 0 2, lM6 1000, lM6 1300], .agg [lM6 1, lM6 3, lM6 1], .sl 7 0 0 3]
 H := [Xb5, (4, .row 3 1 2 [lM6 1, lM6 2]), (7, .row 3 1 3 [lM6 0, lM6 0, lM6 0])]
 outs := [⟨false, .tup [.sl 6 0 0 3, lM6 0], [Xb5, (4, .row 3 1 2 [lM6 1, lM6 2]), (7, .row 3 1 3 [lM6 0, lM6 0, lM6 0]), (6, .row 23 1 3 [.sl 9 0 0 3, .sl 12 0 0 3, .sl 15 0 0 3]), (9, .row 3 1 3 [lM6 0, lM6 2, lM6 3]), (12, .row 3 1 3 [lM6 1, lM6 2, lM6 4]), (15, .row 3 1 3 [lM6 0, lM6 2, lM6 3])], false⟩]
 spec := fun _ K => K 0 []
def Xk6 : Tab Try.prog := ⟨[], [], [Xcx, Xcc, Xb7, Xbz]⟩
theorem Xo5 (W : InW) (K : Nat -> List Ed -> Prop) : Yxz (cxT Try.prog TT Xk6 1000 50) 1000 44 (xsM6 Xbr) (ysM6 Xbr) (fun v h => outC Xbr.H [] Xbr.outs 0 false v h K) (fun v h => outC Xbr.H [] Xbr.outs 0 true v h K) = K 0 [] := by kernel_rfl
theorem Xq6 : ∀ W : InW, @CallC W Try.prog Xbr :=
 CC.okOf (fun W => @TT W) (fun W => @Xc W) Xa Xk6 1000 50 Xbr fun W K h => (Xo5 W K).mpr h
def Xds : CE Try.prog := ceOf Xbr Xq6
def Xbq : CC where
 g := 46
 args := [.agg [.sl 1 0 0 5, .sl 4 0 0 2, lM6 1000, lM6 1300], .agg [lM6 1, lM6 3, lM6 0], .sl 7 0 0 3]
 H := [Xb5, (4, .row 3 1 2 [lM6 1, lM6 2]), (7, .row 23 1 3 [.sl 10 0 0 3, .sl 13 0 0 3, .sl 16 0 0 3]), (10, .row 3 1 3 [lM6 0, lM6 2, lM6 3]), (13, .row 3 1 3 [lM6 1, lM6 2, lM6 4]), (16, .row 3 1 3 [lM6 0, lM6 2, lM6 3])]
 outs := [⟨false, .tup [lM6 1, lM6 5], [Xb5, (4, .row 3 1 2 [lM6 1, lM6 2]), (7, .row 23 1 3 [.sl 10 0 0 3, .sl 13 0 0 3, .sl 16 0 0 3]), (10, .row 3 1 3 [lM6 0, lM6 2, lM6 3]), (13, .row 3 1 3 [lM6 1, lM6 2, lM6 4]), (16, .row 3 1 3 [lM6 0, lM6 2, lM6 3])], false⟩]
 spec := fun _ K => K 0 []
def Xk5 : Tab Try.prog := ⟨[], [], [Xds, Xcx, Xcc, Xb7, Xbz]⟩
theorem Xo4 (W : InW) (K : Nat -> List Ed -> Prop) : Yxz (cxT Try.prog TT Xk5 1000 50) 1000 46 (xsM6 Xbq) (ysM6 Xbq) (fun v h => outC Xbq.H [] Xbq.outs 0 false v h K) (fun v h => outC Xbq.H [] Xbq.outs 0 true v h K) = K 0 [] := by kernel_rfl
theorem Xq5 : ∀ W : InW, @CallC W Try.prog Xbq :=
 CC.okOf (fun W => @TT W) (fun W => @Xc W) Xa Xk5 1000 50 Xbq fun W K h => (Xo4 W K).mpr h
def Xe1 : CE Try.prog := ceOf Xbq Xq5
def Xbp : CC where
 g := 47
 args := [.agg [.sl 1 0 0 5, .sl 4 0 0 2, lM6 1000, lM6 1300], lM6 2]
 H := [Xb5, (4, .row 3 1 2 [lM6 1, lM6 2])]
 outs := [⟨false, .tup [.agg [lM6 1200, lM6 1200], lM6 0], [Xb5, (4, .row 3 1 2 [lM6 1, lM6 2])], false⟩]
 spec := fun _ K => K 0 []
def Xk4 : Tab Try.prog := ⟨[], [], [Xe1, Xds, Xcx, Xcc, Xb7, Xbz]⟩
theorem Xo3 (W : InW) (K : Nat -> List Ed -> Prop) : Yxz (cxT Try.prog TT Xk4 1000 50) 1000 47 (xsM6 Xbp) (ysM6 Xbp) (fun v h => outC Xbp.H [] Xbp.outs 0 false v h K) (fun v h => outC Xbp.H [] Xbp.outs 0 true v h K) = K 0 [] := by kernel_rfl
theorem Xq4 : ∀ W : InW, @CallC W Try.prog Xbp :=
 CC.okOf (fun W => @TT W) (fun W => @Xc W) Xa Xk4 1000 50 Xbp fun W K h => (Xo3 W K).mpr h
def Xkf : CE Try.prog := ceOf Xbp Xq4
def Xbo : CC where
 g := 44
 args := [.agg [.sl 1 0 0 5, .sl 4 0 0 2, lM6 1000, lM6 1300], .agg [lM6 1, lM6 3, lM6 0], .sl 7 0 0 3]
 H := [Xb5, (4, .row 3 1 2 [lM6 1, lM6 2]), (7, .row 3 1 3 [lM6 0, lM6 0, lM6 0])]
 outs := [⟨false, .tup [.lit (Value.slice none 0 0), lM6 9], [Xb5, (4, .row 3 1 2 [lM6 1, lM6 2]), (7, .row 3 1 3 [lM6 0, lM6 0, lM6 0])], false⟩]
 spec := fun _ K => K 0 []
def Xk3 : Tab Try.prog := ⟨[], [], [Xkf, Xe1, Xds, Xcx, Xcc, Xb7, Xbz]⟩
theorem Xo2 (W : InW) (K : Nat -> List Ed -> Prop) : Yxz (cxT Try.prog TT Xk3 1000 50) 1000 44 (xsM6 Xbo) (ysM6 Xbo) (fun v h => outC Xbo.H [] Xbo.outs 0 false v h K) (fun v h => outC Xbo.H [] Xbo.outs 0 true v h K) = K 0 [] := by kernel_rfl
theorem Xq3 : ∀ W : InW, @CallC W Try.prog Xbo :=
 CC.okOf (fun W => @TT W) (fun W => @Xc W) Xa Xk3 1000 50 Xbo fun W K h => (Xo2 W K).mpr h
def Xrq : CE Try.prog := ceOf Xbo Xq3
def Xbn : CC where
 g := 14
 args := []
 H := []
 outs := [⟨false, .lit (Value.bool true), [], false⟩]
 spec := fun _ K => K 0 []
def Xk2 : Tab Try.prog := ⟨[], [], [Xrq, Xkf, Xe1, Xds, Xcx, Xcc, Xb7, Xbz]⟩
theorem Xo1 (W : InW) (K : Nat -> List Ed -> Prop) : Yxz (cxT Try.prog TT Xk2 1000 50) 1000 14 (xsM6 Xbn) (ysM6 Xbn) (fun v h => outC Xbn.H [] Xbn.outs 0 false v h K) (fun v h => outC Xbn.H [] Xbn.outs 0 true v h K) = K 0 [] := by kernel_rfl
theorem Xq2 : ∀ W : InW, @CallC W Try.prog Xbn :=
 CC.okOf (fun W => @TT W) (fun W => @Xc W) Xa Xk2 1000 50 Xbn fun W K h => (Xo1 W K).mpr h
abbrev cc_M6 : CC := Xbn
theorem ok_M6 : ∀ W : InW, @CallC W Try.prog cc_M6 := Xq2
end Go.Proofs.Ytfbhampnigdaaaa
