/-
  'TopWeighed': for every input the law returns true, and what is handed in reads as before. No condition.
-/
import Derived.Test.YtfbhampnigdaaaaQtwc
set_option linter.unusedVariables false
set_option linter.unusedSectionVars false
set_option linter.unusedSimpArgs false
noncomputable section
namespace Go.Proofs.Ytfbhampnigdaaaa
open Go.RowKit
set_option maxRecDepth 100000
abbrev lM7 (n : Int) : Pt := .lit (.int .i64 n)
abbrev vM7 [W : InW] (n : Int) : AV := .v (.int .i64 n)
abbrev Xby : Nat × PI := (22, .row 43 5 3 [lM7 0, lM7 3, lM7 1, lM7 4, lM7 1, lM7 0, lM7 2, lM7 0, lM7 3, lM7 0, lM7 1, lM7 3, lM7 2, lM7 5, lM7 2])
abbrev Xt : Nat × PI := (1, .row 43 5 3 [lM7 0, lM7 3, lM7 1, lM7 4, lM7 1, lM7 0, lM7 2, lM7 0, lM7 3, lM7 0, lM7 1, lM7 3, lM7 2, lM7 5, lM7 2])
abbrev Xbx : Nat × PI := (16, .row 4 1 4 [.lit (Value.bool true), .lit (Value.bool true), .lit (Value.bool true), .lit (Value.bool false)])
abbrev Xr7 : Nat × PI := (6, .blk 114 [.sl 1 0 0 3, .sl 4 0 0 2, lM7 7, .sl 7 0 0 3, .lit (Value.slice none 0 0)])
abbrev Xbw : Nat × PI := (19, .blk 114 [.sl 22 0 0 3, .sl 25 0 0 2, lM7 7, .sl 28 0 0 3, .sl 31 0 0 2])
abbrev Xr6 : Nat × PI := (6, .blk 114 [.sl 1 0 0 3, .sl 4 0 0 2, lM7 7, .sl 7 0 0 3, .sl 9 0 0 2])
abbrev Xr5 : Nat × PI := (6, .blk 114 [.sl 1 0 0 3, .sl 4 0 0 2, lM7 8, .sl 7 0 0 3, .sl 9 0 0 2])
def xsM7 [W : InW] (c : CC) : List AV := match insL c.args [] with | some x => x.1 | none => []
def ysM7 [W : InW] (c : CC) : Heap := match insH c.H [] with | some x => x.1 | none => []
def Xbm : CC where
 g := 15
 args := [.agg [.sl 1 0 0 3, .sl 4 0 0 2, lM7 7]]
 H := [Xt, (4, .row 3 1 2 [lM7 3, lM7 0])]
 outs := [⟨false, .tup [lM7 0, lM7 0, lM7 0], [Xt, (4, .row 3 1 2 [lM7 3, lM7 0])], false⟩]
 spec := fun _ K => K 0 []
def Xk1 : Tab Try.prog := ⟨[], [], []⟩
theorem Xo0 (W : InW) (K : Nat -> List Ed -> Prop) : Yxz (cxT Try.prog TT Xk1 1000 50) 1000 15 (xsM7 Xbm) (ysM7 Xbm) (fun v h => outC Xbm.H [] Xbm.outs 0 false v h K) (fun v h => outC Xbm.H [] Xbm.outs 0 true v h K) = K 0 [] := by kernel_rfl
theorem Xq1 : ∀ W : InW, @CallC W Try.prog Xbm :=
 CC.okOf (fun W => @TT W) (fun W => @Xc W) Xa Xk1 1000 50 Xbm fun W K h => (Xo0 W K).mpr h
def Xg : CE Try.prog := ceOf Xbm Xq1
def Xbl : CC where
 g := 16
 args := [.agg [.sl 1 0 0 3, .sl 4 0 0 2, lM7 7], .sl 7 0 0 3]
 H := [Xt, (4, .row 3 1 2 [lM7 3, lM7 0]), (7, .row 23 1 3 [.sl 10 0 0 3, .sl 13 0 0 2, .sl 16 0 0 3]), (10, .row 3 1 3 [lM7 0, lM7 1, lM7 0]), (13, .row 3 1 2 [lM7 1, lM7 0]), (16, .row 3 1 3 [lM7 0, lM7 0, lM7 1])]
 outs := [⟨false, .tup [.ptr 6 0, lM7 0], [Xt, (4, .row 3 1 2 [lM7 3, lM7 0]), (7, .row 23 1 3 [.sl 10 0 0 3, .sl 13 0 0 2, .sl 16 0 0 3]), (10, .row 3 1 3 [lM7 0, lM7 1, lM7 0]), (13, .row 3 1 2 [lM7 1, lM7 0]), (16, .row 3 1 3 [lM7 0, lM7 0, lM7 1]), Xr7], false⟩]
 spec := fun _ K => K 0 []
def Xk0 : Tab Try.prog := ⟨[], [], [Xg]⟩
theorem Xoz (W : InW) (K : Nat -> List Ed -> Prop) : Yxz (cxT Try.prog TT Xk0 1000 50) 1000 16 (xsM7 Xbl) (ysM7 Xbl) (fun v h => outC Xbl.H [] Xbl.outs 0 false v h K) (fun v h => outC Xbl.H [] Xbl.outs 0 true v h K) = K 0 [] := by kernel_rfl
theorem Xq0 : ∀ W : InW, @CallC W Try.prog Xbl :=
 CC.okOf (fun W => @TT W) (fun W => @Xc W) Xa Xk0 1000 50 Xbl fun W K h => (Xoz W K).mpr h
def Xh : CE Try.prog := ceOf Xbl Xq0
def Xbk : CC where
 g := 54
 args := [.agg [.sl 1 0 0 3, .sl 4 0 0 2, lM7 7], .sl 7 0 0 3]
 H := [Xt, (4, .row 3 1 2 [lM7 3, lM7 0]), (7, .row 23 1 3 [.sl 10 0 0 3, .sl 13 0 0 2, .sl 16 0 0 3]), (10, .row 3 1 3 [lM7 0, lM7 1, lM7 0]), (13, .row 3 1 2 [lM7 1, lM7 0]), (16, .row 3 1 3 [lM7 0, lM7 0, lM7 1])]
 outs := [⟨false, .tup [.ptr 6 0, lM7 0], [Xt, (4, .row 3 1 2 [lM7 3, lM7 0]), (7, .row 23 1 3 [.sl 10 0 0 3, .sl 13 0 0 2, .sl 16 0 0 3]), (10, .row 3 1 3 [lM7 0, lM7 1, lM7 0]), (13, .row 3 1 2 [lM7 1, lM7 0]), (16, .row 3 1 3 [lM7 0, lM7 0, lM7 1]), Xr7], false⟩]
 spec := fun _ K => K 0 []
def Xkz : Tab Try.prog := ⟨[], [], [Xh, Xg]⟩
theorem Xoy (W : InW) (K : Nat -> List Ed -> Prop) : Yxz (cxT Try.prog TT Xkz 1000 50) 1000 54 (xsM7 Xbk) (ysM7 Xbk) (fun v h => outC Xbk.H [] Xbk.outs 0 false v h K) (fun v h => outC Xbk.H [] Xbk.outs 0 true v h K) = K 0 [] := by kernel_rfl
theorem Xqz : ∀ W : InW, @CallC W Try.prog Xbk :=
 CC.okOf (fun W => @TT W) (fun W => @Xc W) Xa Xkz 1000 50 Xbk fun W K h => (Xoy W K).mpr h
def Xi : CE Try.prog := ceOf Xbk Xqz
def Xbj : CC where
 g := 22
 args := [.agg [.sl 1 0 0 3, .sl 4 0 0 2, lM7 7], .sl 7 0 0 3]
 H := [Xt, (4, .row 3 1 2 [lM7 3, lM7 0]), (7, .row 23 1 3 [.sl 10 0 0 3, .sl 13 0 0 2, .sl 16 0 0 3]), (10, .row 3 1 3 [lM7 0, lM7 1, lM7 0]), (13, .row 3 1 2 [lM7 1, lM7 0]), (16, .row 3 1 3 [lM7 0, lM7 0, lM7 1])]
 outs := [⟨false, .tup [.sl 6 0 0 2, .lit (Value.bool true), lM7 0], [Xt, (4, .row 3 1 2 [lM7 3, lM7 0]), (7, .row 23 1 3 [.sl 10 0 0 3, .sl 13 0 0 2, .sl 16 0 0 3]), (10, .row 3 1 3 [lM7 0, lM7 1, lM7 0]), (13, .row 3 1 2 [lM7 1, lM7 0]), (16, .row 3 1 3 [lM7 0, lM7 0, lM7 1]), (6, .row 3 1 2 [lM7 7, lM7 5])], false⟩]
 spec := fun _ K => K 0 []
def Xky : Tab Try.prog := ⟨[], [], [Xi, Xh, Xg]⟩
theorem Xox (W : InW) (K : Nat -> List Ed -> Prop) : Yxz (cxT Try.prog TT Xky 1000 50) 1000 22 (xsM7 Xbj) (ysM7 Xbj) (fun v h => outC Xbj.H [] Xbj.outs 0 false v h K) (fun v h => outC Xbj.H [] Xbj.outs 0 true v h K) = K 0 [] := by kernel_rfl
theorem Xqy : ∀ W : InW, @CallC W Try.prog Xbj :=
 CC.okOf (fun W => @TT W) (fun W => @Xc W) Xa Xky 1000 50 Xbj fun W K h => (Xox W K).mpr h
def Xj : CE Try.prog := ceOf Xbj Xqy
def Xbi : CC where
 g := 16
 args := [.agg [.sl 1 0 0 3, .sl 4 0 0 2, lM7 7], .sl 7 0 0 3]
 H := [Xt, (4, .row 3 1 2 [lM7 3, lM7 0]), (7, .row 23 1 3 [.sl 10 0 0 3, .sl 13 0 0 2, .sl 16 0 0 3]), (10, .row 3 1 3 [lM7 0, lM7 1, lM7 2]), (13, .row 3 1 2 [lM7 1, lM7 0]), (16, .row 3 1 3 [lM7 2, lM7 0, lM7 1])]
 outs := [⟨false, .tup [.ptr 6 0, lM7 0], [Xt, (4, .row 3 1 2 [lM7 3, lM7 0]), (7, .row 23 1 3 [.sl 10 0 0 3, .sl 13 0 0 2, .sl 16 0 0 3]), (10, .row 3 1 3 [lM7 0, lM7 1, lM7 2]), (13, .row 3 1 2 [lM7 1, lM7 0]), (16, .row 3 1 3 [lM7 2, lM7 0, lM7 1]), Xr6, (9, .row 74 2 2 [lM7 0, lM7 2, lM7 2, lM7 0])], false⟩]
 spec := fun _ K => K 0 []
def Xkx : Tab Try.prog := ⟨[], [], [Xj, Xi, Xh, Xg]⟩
theorem Xow (W : InW) (K : Nat -> List Ed -> Prop) : Yxz (cxT Try.prog TT Xkx 1000 50) 1000 16 (xsM7 Xbi) (ysM7 Xbi) (fun v h => outC Xbi.H [] Xbi.outs 0 false v h K) (fun v h => outC Xbi.H [] Xbi.outs 0 true v h K) = K 0 [] := by kernel_rfl
theorem Xqx : ∀ W : InW, @CallC W Try.prog Xbi :=
 CC.okOf (fun W => @TT W) (fun W => @Xc W) Xa Xkx 1000 50 Xbi fun W K h => (Xow W K).mpr h
def Xk : CE Try.prog := ceOf Xbi Xqx
def Xbh : CC where
 g := 54
 args := [.agg [.sl 1 0 0 3, .sl 4 0 0 2, lM7 7], .sl 7 0 0 3]
 H := [Xt, (4, .row 3 1 2 [lM7 3, lM7 0]), (7, .row 23 1 3 [.sl 10 0 0 3, .sl 13 0 0 2, .sl 16 0 0 3]), (10, .row 3 1 3 [lM7 0, lM7 1, lM7 2]), (13, .row 3 1 2 [lM7 1, lM7 0]), (16, .row 3 1 3 [lM7 2, lM7 0, lM7 1])]
 outs := [⟨false, .tup [.ptr 6 0, lM7 0], [Xt, (4, .row 3 1 2 [lM7 3, lM7 0]), (7, .row 23 1 3 [.sl 10 0 0 3, .sl 13 0 0 2, .sl 16 0 0 3]), (10, .row 3 1 3 [lM7 0, lM7 1, lM7 2]), (13, .row 3 1 2 [lM7 1, lM7 0]), (16, .row 3 1 3 [lM7 2, lM7 0, lM7 1]), Xr6, (9, .row 74 2 2 [lM7 0, lM7 2, lM7 2, lM7 0])], false⟩]
 spec := fun _ K => K 0 []
def Xkw : Tab Try.prog := ⟨[], [], [Xk, Xj, Xi, Xh, Xg]⟩
theorem Xov (W : InW) (K : Nat -> List Ed -> Prop) : Yxz (cxT Try.prog TT Xkw 1000 50) 1000 54 (xsM7 Xbh) (ysM7 Xbh) (fun v h => outC Xbh.H [] Xbh.outs 0 false v h K) (fun v h => outC Xbh.H [] Xbh.outs 0 true v h K) = K 0 [] := by kernel_rfl
theorem Xqw : ∀ W : InW, @CallC W Try.prog Xbh :=
 CC.okOf (fun W => @TT W) (fun W => @Xc W) Xa Xkw 1000 50 Xbh fun W K h => (Xov W K).mpr h
def Xl : CE Try.prog := ceOf Xbh Xqw
def Xbg : CC where
 g := 24
 args := [.agg [.sl 1 0 0 3, .sl 4 0 0 2, lM7 7], .sl 7 0 0 3]
 H := [Xt, (4, .row 3 1 2 [lM7 3, lM7 0]), (7, .row 23 1 3 [.sl 10 0 0 3, .sl 13 0 0 2, .sl 16 0 0 3]), (10, .row 3 1 3 [lM7 0, lM7 1, lM7 2]), (13, .row 3 1 2 [lM7 1, lM7 0]), (16, .row 3 1 3 [lM7 2, lM7 0, lM7 1])]
 outs := [⟨false, .tup [lM7 2, lM7 0], [Xt, (4, .row 3 1 2 [lM7 3, lM7 0]), (7, .row 23 1 3 [.sl 10 0 0 3, .sl 13 0 0 2, .sl 16 0 0 3]), (10, .row 3 1 3 [lM7 0, lM7 1, lM7 2]), (13, .row 3 1 2 [lM7 1, lM7 0]), (16, .row 3 1 3 [lM7 2, lM7 0, lM7 1])], false⟩]
 spec := fun _ K => K 0 []
def Xkv : Tab Try.prog := ⟨[], [], [Xl, Xk, Xj, Xi, Xh, Xg]⟩
theorem Xou (W : InW) (K : Nat -> List Ed -> Prop) : Yxz (cxT Try.prog TT Xkv 1000 50) 1000 24 (xsM7 Xbg) (ysM7 Xbg) (fun v h => outC Xbg.H [] Xbg.outs 0 false v h K) (fun v h => outC Xbg.H [] Xbg.outs 0 true v h K) = K 0 [] := by kernel_rfl
theorem Xqv : ∀ W : InW, @CallC W Try.prog Xbg :=
 CC.okOf (fun W => @TT W) (fun W => @Xc W) Xa Xkv 1000 50 Xbg fun W K h => (Xou W K).mpr h
def Xn : CE Try.prog := ceOf Xbg Xqv
def Xbf : CC where
 g := 26
 args := [.agg [.sl 1 0 0 3, .sl 4 0 0 2, lM7 7], .sl 7 0 0 3]
 H := [Xt, (4, .row 3 1 2 [lM7 3, lM7 0]), (7, .row 23 1 3 [.sl 10 0 0 3, .sl 13 0 0 2, .sl 16 0 0 3]), (10, .row 3 1 3 [lM7 0, lM7 1, lM7 2]), (13, .row 3 1 2 [lM7 1, lM7 0]), (16, .row 3 1 3 [lM7 2, lM7 0, lM7 1])]
 outs := [⟨false, .tup [.sl 6 0 0 4, lM7 0], [Xt, (4, .row 3 1 2 [lM7 3, lM7 0]), (7, .row 23 1 3 [.sl 10 0 0 3, .sl 13 0 0 2, .sl 16 0 0 3]), (10, .row 3 1 3 [lM7 0, lM7 1, lM7 2]), (13, .row 3 1 2 [lM7 1, lM7 0]), (16, .row 3 1 3 [lM7 2, lM7 0, lM7 1]), (6, .row 3 1 4 [lM7 3, lM7 7, lM7 8, lM7 12])], false⟩]
 spec := fun _ K => K 0 []
def Xku : Tab Try.prog := ⟨[], [], [Xn, Xl, Xk, Xj, Xi, Xh, Xg]⟩
theorem Xot (W : InW) (K : Nat -> List Ed -> Prop) : Yxz (cxT Try.prog TT Xku 1000 50) 1000 26 (xsM7 Xbf) (ysM7 Xbf) (fun v h => outC Xbf.H [] Xbf.outs 0 false v h K) (fun v h => outC Xbf.H [] Xbf.outs 0 true v h K) = K 0 [] := by kernel_rfl
theorem Xqu : ∀ W : InW, @CallC W Try.prog Xbf :=
 CC.okOf (fun W => @TT W) (fun W => @Xc W) Xa Xku 1000 50 Xbf fun W K h => (Xot W K).mpr h
def Xp : CE Try.prog := ceOf Xbf Xqu
def Xbe : CC where
 g := 15
 args := [.agg [.sl 1 0 0 3, .sl 4 0 0 2, lM7 8]]
 H := [Xt, (4, .row 3 1 2 [lM7 3, lM7 0])]
 outs := [⟨false, .tup [lM7 0, lM7 0, lM7 0], [Xt, (4, .row 3 1 2 [lM7 3, lM7 0])], false⟩]
 spec := fun _ K => K 0 []
def Xkt : Tab Try.prog := ⟨[], [], [Xp, Xn, Xl, Xk, Xj, Xi, Xh, Xg]⟩
theorem Xos (W : InW) (K : Nat -> List Ed -> Prop) : Yxz (cxT Try.prog TT Xkt 1000 50) 1000 15 (xsM7 Xbe) (ysM7 Xbe) (fun v h => outC Xbe.H [] Xbe.outs 0 false v h K) (fun v h => outC Xbe.H [] Xbe.outs 0 true v h K) = K 0 [] := by kernel_rfl
theorem Xqt : ∀ W : InW, @CallC W Try.prog Xbe :=
 CC.okOf (fun W => @TT W) (fun W => @Xc W) Xa Xkt 1000 50 Xbe fun W K h => (Xos W K).mpr h
def Xq : CE Try.prog := ceOf Xbe Xqt
def X7 : CC where
 g := 16
 args := [.agg [.sl 1 0 0 3, .sl 4 0 0 2, lM7 8], .sl 7 0 0 3]
 H := [Xt, (4, .row 3 1 2 [lM7 3, lM7 0]), (7, .row 23 1 3 [.sl 10 0 0 3, .sl 13 0 0 2, .sl 16 0 0 3]), (10, .row 3 1 3 [lM7 0, lM7 1, lM7 2]), (13, .row 3 1 2 [lM7 1, lM7 0]), (16, .row 3 1 3 [lM7 2, lM7 0, lM7 1])]
 outs := [⟨false, .tup [.ptr 6 0, lM7 0], [Xt, (4, .row 3 1 2 [lM7 3, lM7 0]), (7, .row 23 1 3 [.sl 10 0 0 3, .sl 13 0 0 2, .sl 16 0 0 3]), (10, .row 3 1 3 [lM7 0, lM7 1, lM7 2]), (13, .row 3 1 2 [lM7 1, lM7 0]), (16, .row 3 1 3 [lM7 2, lM7 0, lM7 1]), Xr5, (9, .row 74 2 2 [lM7 0, lM7 2, lM7 2, lM7 0])], false⟩]
 spec := fun _ K => K 0 []
def Xjf : Tab Try.prog := ⟨[], [], [Xq, Xp, Xn, Xl, Xk, Xj, Xi, Xh, Xg]⟩
theorem Xly (W : InW) (K : Nat -> List Ed -> Prop) : Yxz (cxT Try.prog TT Xjf 1000 50) 1000 16 (xsM7 X7) (ysM7 X7) (fun v h => outC X7.H [] X7.outs 0 false v h K) (fun v h => outC X7.H [] X7.outs 0 true v h K) = K 0 [] := by kernel_rfl
theorem Xmy : ∀ W : InW, @CallC W Try.prog X7 :=
 CC.okOf (fun W => @TT W) (fun W => @Xc W) Xa Xjf 1000 50 X7 fun W K h => (Xly W K).mpr h
def Xm : CE Try.prog := ceOf X7 Xmy
def X6 : CC where
 g := 54
 args := [.agg [.sl 1 0 0 3, .sl 4 0 0 2, lM7 8], .sl 7 0 0 3]
 H := [Xt, (4, .row 3 1 2 [lM7 3, lM7 0]), (7, .row 23 1 3 [.sl 10 0 0 3, .sl 13 0 0 2, .sl 16 0 0 3]), (10, .row 3 1 3 [lM7 0, lM7 1, lM7 2]), (13, .row 3 1 2 [lM7 1, lM7 0]), (16, .row 3 1 3 [lM7 2, lM7 0, lM7 1])]
 outs := [⟨false, .tup [.ptr 6 0, lM7 0], [Xt, (4, .row 3 1 2 [lM7 3, lM7 0]), (7, .row 23 1 3 [.sl 10 0 0 3, .sl 13 0 0 2, .sl 16 0 0 3]), (10, .row 3 1 3 [lM7 0, lM7 1, lM7 2]), (13, .row 3 1 2 [lM7 1, lM7 0]), (16, .row 3 1 3 [lM7 2, lM7 0, lM7 1]), Xr5, (9, .row 74 2 2 [lM7 0, lM7 2, lM7 2, lM7 0])], false⟩]
 spec := fun _ K => K 0 []
def Xje : Tab Try.prog := ⟨[], [], [Xm, Xq, Xp, Xn, Xl, Xk, Xj, Xi, Xh, Xg]⟩
theorem Xlx (W : InW) (K : Nat -> List Ed -> Prop) : Yxz (cxT Try.prog TT Xje 1000 50) 1000 54 (xsM7 X6) (ysM7 X6) (fun v h => outC X6.H [] X6.outs 0 false v h K) (fun v h => outC X6.H [] X6.outs 0 true v h K) = K 0 [] := by kernel_rfl
theorem Xmx : ∀ W : InW, @CallC W Try.prog X6 :=
 CC.okOf (fun W => @TT W) (fun W => @Xc W) Xa Xje 1000 50 X6 fun W K h => (Xlx W K).mpr h
def Xo : CE Try.prog := ceOf X6 Xmx
def X5 : CC where
 g := 27
 args := [.agg [.sl 1 0 0 3, .sl 4 0 0 2, lM7 8], .sl 7 0 0 3]
 H := [Xt, (4, .row 3 1 2 [lM7 3, lM7 0]), (7, .row 23 1 3 [.sl 10 0 0 3, .sl 13 0 0 2, .sl 16 0 0 3]), (10, .row 3 1 3 [lM7 0, lM7 1, lM7 2]), (13, .row 3 1 2 [lM7 1, lM7 0]), (16, .row 3 1 3 [lM7 2, lM7 0, lM7 1])]
 outs := [⟨false, .tup [.sl 6 0 0 1, lM7 0], [Xt, (4, .row 3 1 2 [lM7 3, lM7 0]), (7, .row 23 1 3 [.sl 10 0 0 3, .sl 13 0 0 2, .sl 16 0 0 3]), (10, .row 3 1 3 [lM7 0, lM7 1, lM7 2]), (13, .row 3 1 2 [lM7 1, lM7 0]), (16, .row 3 1 3 [lM7 2, lM7 0, lM7 1]), (6, .row 74 2 1 [lM7 2, lM7 0])], false⟩]
 spec := fun _ K => K 0 []
def Xjd : Tab Try.prog := ⟨[], [], [Xo, Xm, Xq, Xp, Xn, Xl, Xk, Xj, Xi, Xh, Xg]⟩
theorem Xlw (W : InW) (K : Nat -> List Ed -> Prop) : Yxz (cxT Try.prog TT Xjd 1000 50) 1000 27 (xsM7 X5) (ysM7 X5) (fun v h => outC X5.H [] X5.outs 0 false v h K) (fun v h => outC X5.H [] X5.outs 0 true v h K) = K 0 [] := by kernel_rfl
theorem Xmw : ∀ W : InW, @CallC W Try.prog X5 :=
 CC.okOf (fun W => @TT W) (fun W => @Xc W) Xa Xjd 1000 50 X5 fun W K h => (Xlw W K).mpr h
def Xr : CE Try.prog := ceOf X5 Xmw
def X4 : CC where
 g := 61
 args := [lM7 1, lM7 0, .ptr 1 0, .ptr 4 0, .ptr 7 0, .ptr 10 0]
 H := [(1, .blk 121 [.mp 13]), (4, .blk 120 [.sl 16 0 0 4]), (7, .blk 53 [.ptr 19 0]), (10, .blk 122 [.fn (Fn.func 61) [] [.ptr 1 0, .ptr 4 0, .ptr 7 0, .ptr 10 0]]), (13, .obj (OI.mpV [] 0)), Xbx, Xbw, Xby, (25, .row 3 1 2 [lM7 3, lM7 0]), (28, .row 23 1 3 [.sl 34 0 0 3, .sl 37 0 0 2, .sl 40 0 0 3]), (31, .row 74 2 2 [lM7 0, lM7 2, lM7 2, lM7 0]), (34, .row 3 1 3 [lM7 0, lM7 1, lM7 2]), (37, .row 3 1 2 [lM7 1, lM7 0]), (40, .row 3 1 3 [lM7 2, lM7 0, lM7 1])]
 outs := [⟨false, .agg [lM7 0, lM7 (Int.negSucc 0)], [(1, .blk 121 [.mp 13]), (4, .blk 120 [.sl 16 0 0 4]), (7, .blk 53 [.ptr 19 0]), (10, .blk 122 [.fn (Fn.func 61) [] [.ptr 1 0, .ptr 4 0, .ptr 7 0, .ptr 10 0]]), (13, .obj (OI.mpV [{ key := Value.agg { toList := [ .int .i64 1 , .int .i64 0 ] } , val := Value.agg { toList := [ .int .i64 0 , .int .i64 ( Int.negSucc 0 ) ] } , born := 0 }] 1)), Xbx, Xbw, Xby, (25, .row 3 1 2 [lM7 3, lM7 0]), (28, .row 23 1 3 [.sl 34 0 0 3, .sl 37 0 0 2, .sl 40 0 0 3]), (31, .row 74 2 2 [lM7 0, lM7 2, lM7 2, lM7 0]), (34, .row 3 1 3 [lM7 0, lM7 1, lM7 2]), (37, .row 3 1 2 [lM7 1, lM7 0]), (40, .row 3 1 3 [lM7 2, lM7 0, lM7 1])], false⟩]
 spec := fun _ K => K 0 []
def Xjc : Tab Try.prog := ⟨[], [], [Xr, Xo, Xm, Xq, Xp, Xn, Xl, Xk, Xj, Xi, Xh, Xg]⟩
theorem Xlv (W : InW) (K : Nat -> List Ed -> Prop) : Yxz (cxT Try.prog TT Xjc 1000 50) 1000 61 (xsM7 X4) (ysM7 X4) (fun v h => outC X4.H [] X4.outs 0 false v h K) (fun v h => outC X4.H [] X4.outs 0 true v h K) = K 0 [] := by kernel_rfl
theorem Xmv : ∀ W : InW, @CallC W Try.prog X4 :=
 CC.okOf (fun W => @TT W) (fun W => @Xc W) Xa Xjc 1000 50 X4 fun W K h => (Xlv W K).mpr h
def Xs : CE Try.prog := ceOf X4 Xmv
def X3 : CC where
 g := 61
 args := [lM7 3, lM7 1, .ptr 1 0, .ptr 4 0, .ptr 7 0, .ptr 10 0]
 H := [(1, .blk 121 [.mp 13]), (4, .blk 120 [.sl 16 0 0 4]), (7, .blk 53 [.ptr 19 0]), (10, .blk 122 [.fn (Fn.func 61) [] [.ptr 1 0, .ptr 4 0, .ptr 7 0, .ptr 10 0]]), (13, .obj (OI.mpV [{ key := Value.agg { toList := [ .int .i64 1 , .int .i64 0 ] } , val := Value.agg { toList := [ .int .i64 0 , .int .i64 ( Int.negSucc 0 ) ] } , born := 0 }] 1)), Xbx, Xbw, Xby, (25, .row 3 1 2 [lM7 3, lM7 0]), (28, .row 23 1 3 [.sl 34 0 0 3, .sl 37 0 0 2, .sl 40 0 0 3]), (31, .row 74 2 2 [lM7 0, lM7 2, lM7 2, lM7 0]), (34, .row 3 1 3 [lM7 0, lM7 1, lM7 2]), (37, .row 3 1 2 [lM7 1, lM7 0]), (40, .row 3 1 3 [lM7 2, lM7 0, lM7 1])]
 outs := [⟨false, .agg [lM7 0, lM7 (Int.negSucc 0)], [(1, .blk 121 [.mp 13]), (4, .blk 120 [.sl 16 0 0 4]), (7, .blk 53 [.ptr 19 0]), (10, .blk 122 [.fn (Fn.func 61) [] [.ptr 1 0, .ptr 4 0, .ptr 7 0, .ptr 10 0]]), (13, .obj (OI.mpV [{ key := Value.agg { toList := [ .int .i64 1 , .int .i64 0 ] } , val := Value.agg { toList := [ .int .i64 0 , .int .i64 ( Int.negSucc 0 ) ] } , born := 0 }, { key := Value.agg { toList := [ .int .i64 3 , .int .i64 1 ] } , val := Value.agg { toList := [ .int .i64 0 , .int .i64 ( Int.negSucc 0 ) ] } , born := 1 }] 2)), Xbx, Xbw, Xby, (25, .row 3 1 2 [lM7 3, lM7 0]), (28, .row 23 1 3 [.sl 34 0 0 3, .sl 37 0 0 2, .sl 40 0 0 3]), (31, .row 74 2 2 [lM7 0, lM7 2, lM7 2, lM7 0]), (34, .row 3 1 3 [lM7 0, lM7 1, lM7 2]), (37, .row 3 1 2 [lM7 1, lM7 0]), (40, .row 3 1 3 [lM7 2, lM7 0, lM7 1])], false⟩]
 spec := fun _ K => K 0 []
def Xjb : Tab Try.prog := ⟨[], [], [Xs, Xr, Xo, Xm, Xq, Xp, Xn, Xl, Xk, Xj, Xi, Xh, Xg]⟩
theorem Xlu (W : InW) (K : Nat -> List Ed -> Prop) : Yxz (cxT Try.prog TT Xjb 1000 50) 1000 61 (xsM7 X3) (ysM7 X3) (fun v h => outC X3.H [] X3.outs 0 false v h K) (fun v h => outC X3.H [] X3.outs 0 true v h K) = K 0 [] := by kernel_rfl
theorem Xmu : ∀ W : InW, @CallC W Try.prog X3 :=
 CC.okOf (fun W => @TT W) (fun W => @Xc W) Xa Xjb 1000 50 X3 fun W K h => (Xlu W K).mpr h
def Xu : CE Try.prog := ceOf X3 Xmu
def X2 : CC where
 g := 61
 args := [lM7 3, lM7 3, .ptr 1 0, .ptr 4 0, .ptr 7 0, .ptr 10 0]
 H := [(1, .blk 121 [.mp 13]), (4, .blk 120 [.sl 16 0 0 4]), (7, .blk 53 [.ptr 19 0]), (10, .blk 122 [.fn (Fn.func 61) [] [.ptr 1 0, .ptr 4 0, .ptr 7 0, .ptr 10 0]]), (13, .obj (OI.mpV [{ key := Value.agg { toList := [ .int .i64 1 , .int .i64 0 ] } , val := Value.agg { toList := [ .int .i64 0 , .int .i64 ( Int.negSucc 0 ) ] } , born := 0 }, { key := Value.agg { toList := [ .int .i64 3 , .int .i64 1 ] } , val := Value.agg { toList := [ .int .i64 0 , .int .i64 ( Int.negSucc 0 ) ] } , born := 1 }] 2)), Xbx, Xbw, Xby, (25, .row 3 1 2 [lM7 3, lM7 0]), (28, .row 23 1 3 [.sl 34 0 0 3, .sl 37 0 0 2, .sl 40 0 0 3]), (31, .row 74 2 2 [lM7 0, lM7 2, lM7 2, lM7 0]), (34, .row 3 1 3 [lM7 0, lM7 1, lM7 2]), (37, .row 3 1 2 [lM7 1, lM7 0]), (40, .row 3 1 3 [lM7 2, lM7 0, lM7 1])]
 outs := [⟨false, .agg [lM7 0, lM7 (Int.negSucc 0)], [(1, .blk 121 [.mp 13]), (4, .blk 120 [.sl 16 0 0 4]), (7, .blk 53 [.ptr 19 0]), (10, .blk 122 [.fn (Fn.func 61) [] [.ptr 1 0, .ptr 4 0, .ptr 7 0, .ptr 10 0]]), (13, .obj (OI.mpV [{ key := Value.agg { toList := [ .int .i64 1 , .int .i64 0 ] } , val := Value.agg { toList := [ .int .i64 0 , .int .i64 ( Int.negSucc 0 ) ] } , born := 0 }, { key := Value.agg { toList := [ .int .i64 3 , .int .i64 1 ] } , val := Value.agg { toList := [ .int .i64 0 , .int .i64 ( Int.negSucc 0 ) ] } , born := 1 }, { key := Value.agg { toList := [ .int .i64 3 , .int .i64 3 ] } , val := Value.agg { toList := [ .int .i64 0 , .int .i64 ( Int.negSucc 0 ) ] } , born := 2 }] 3)), Xbx, Xbw, Xby, (25, .row 3 1 2 [lM7 3, lM7 0]), (28, .row 23 1 3 [.sl 34 0 0 3, .sl 37 0 0 2, .sl 40 0 0 3]), (31, .row 74 2 2 [lM7 0, lM7 2, lM7 2, lM7 0]), (34, .row 3 1 3 [lM7 0, lM7 1, lM7 2]), (37, .row 3 1 2 [lM7 1, lM7 0]), (40, .row 3 1 3 [lM7 2, lM7 0, lM7 1])], false⟩]
 spec := fun _ K => K 0 []
def Xja : Tab Try.prog := ⟨[], [], [Xu, Xs, Xr, Xo, Xm, Xq, Xp, Xn, Xl, Xk, Xj, Xi, Xh, Xg]⟩
theorem Xlt (W : InW) (K : Nat -> List Ed -> Prop) : Yxz (cxT Try.prog TT Xja 1000 50) 1000 61 (xsM7 X2) (ysM7 X2) (fun v h => outC X2.H [] X2.outs 0 false v h K) (fun v h => outC X2.H [] X2.outs 0 true v h K) = K 0 [] := by kernel_rfl
theorem Xmt : ∀ W : InW, @CallC W Try.prog X2 :=
 CC.okOf (fun W => @TT W) (fun W => @Xc W) Xa Xja 1000 50 X2 fun W K h => (Xlt W K).mpr h
def Xba : CE Try.prog := ceOf X2 Xmt
def X1 : CC where
 g := 61
 args := [lM7 1, lM7 1, .ptr 1 0, .ptr 4 0, .ptr 7 0, .ptr 10 0]
 H := [(1, .blk 121 [.mp 13]), (4, .blk 120 [.sl 16 0 0 4]), (7, .blk 53 [.ptr 19 0]), (10, .blk 122 [.fn (Fn.func 61) [] [.ptr 1 0, .ptr 4 0, .ptr 7 0, .ptr 10 0]]), (13, .obj (OI.mpV [{ key := Value.agg { toList := [ .int .i64 1 , .int .i64 0 ] } , val := Value.agg { toList := [ .int .i64 0 , .int .i64 ( Int.negSucc 0 ) ] } , born := 0 }] 1)), Xbx, Xbw, Xby, (25, .row 3 1 2 [lM7 3, lM7 0]), (28, .row 23 1 3 [.sl 34 0 0 3, .sl 37 0 0 2, .sl 40 0 0 3]), (31, .row 74 2 2 [lM7 0, lM7 2, lM7 2, lM7 0]), (34, .row 3 1 3 [lM7 0, lM7 1, lM7 2]), (37, .row 3 1 2 [lM7 1, lM7 0]), (40, .row 3 1 3 [lM7 2, lM7 0, lM7 1])]
 outs := [⟨false, .agg [lM7 1, lM7 1], [(1, .blk 121 [.mp 13]), (4, .blk 120 [.sl 16 0 0 4]), (7, .blk 53 [.ptr 19 0]), (10, .blk 122 [.fn (Fn.func 61) [] [.ptr 1 0, .ptr 4 0, .ptr 7 0, .ptr 10 0]]), (13, .obj (OI.mpV [{ key := Value.agg { toList := [ .int .i64 1 , .int .i64 0 ] } , val := Value.agg { toList := [ .int .i64 0 , .int .i64 ( Int.negSucc 0 ) ] } , born := 0 }, { key := Value.agg { toList := [ .int .i64 3 , .int .i64 1 ] } , val := Value.agg { toList := [ .int .i64 0 , .int .i64 ( Int.negSucc 0 ) ] } , born := 1 }, { key := Value.agg { toList := [ .int .i64 3 , .int .i64 3 ] } , val := Value.agg { toList := [ .int .i64 0 , .int .i64 ( Int.negSucc 0 ) ] } , born := 2 }, { key := Value.agg { toList := [ .int .i64 1 , .int .i64 1 ] } , val := Value.agg { toList := [ .int .i64 ( Int.ofNat ( 0 + 1 ) ) , .int .i64 ( Int.ofNat ( 0 + 1 ) ) ] } , born := 3 }] 4)), Xbx, Xbw, Xby, (25, .row 3 1 2 [lM7 3, lM7 0]), (28, .row 23 1 3 [.sl 34 0 0 3, .sl 37 0 0 2, .sl 40 0 0 3]), (31, .row 74 2 2 [lM7 0, lM7 2, lM7 2, lM7 0]), (34, .row 3 1 3 [lM7 0, lM7 1, lM7 2]), (37, .row 3 1 2 [lM7 1, lM7 0]), (40, .row 3 1 3 [lM7 2, lM7 0, lM7 1])], false⟩]
 spec := fun _ K => K 0 []
def Xi9 : Tab Try.prog := ⟨[], [], [Xba, Xu, Xs, Xr, Xo, Xm, Xq, Xp, Xn, Xl, Xk, Xj, Xi, Xh, Xg]⟩
theorem Xls (W : InW) (K : Nat -> List Ed -> Prop) : Yxz (cxT Try.prog TT Xi9 1000 50) 1000 61 (xsM7 X1) (ysM7 X1) (fun v h => outC X1.H [] X1.outs 0 false v h K) (fun v h => outC X1.H [] X1.outs 0 true v h K) = K 0 [] := by kernel_rfl
theorem Xms : ∀ W : InW, @CallC W Try.prog X1 :=
 CC.okOf (fun W => @TT W) (fun W => @Xc W) Xa Xi9 1000 50 X1 fun W K h => (Xls W K).mpr h
def Xbd : CE Try.prog := ceOf X1 Xms
def X0 : CC where
 g := 61
 args := [lM7 2, lM7 0, .ptr 1 0, .ptr 4 0, .ptr 7 0, .ptr 10 0]
 H := [(1, .blk 121 [.mp 13]), (4, .blk 120 [.sl 16 0 0 4]), (7, .blk 53 [.ptr 19 0]), (10, .blk 122 [.fn (Fn.func 61) [] [.ptr 1 0, .ptr 4 0, .ptr 7 0, .ptr 10 0]]), (13, .obj (OI.mpV [{ key := Value.agg { toList := [ .int .i64 1 , .int .i64 0 ] } , val := Value.agg { toList := [ .int .i64 0 , .int .i64 ( Int.negSucc 0 ) ] } , born := 0 }, { key := Value.agg { toList := [ .int .i64 3 , .int .i64 1 ] } , val := Value.agg { toList := [ .int .i64 0 , .int .i64 ( Int.negSucc 0 ) ] } , born := 1 }, { key := Value.agg { toList := [ .int .i64 3 , .int .i64 3 ] } , val := Value.agg { toList := [ .int .i64 0 , .int .i64 ( Int.negSucc 0 ) ] } , born := 2 }, { key := Value.agg { toList := [ .int .i64 1 , .int .i64 1 ] } , val := Value.agg { toList := [ .int .i64 ( Int.ofNat ( 0 + 1 ) ) , .int .i64 ( Int.ofNat ( 0 + 1 ) ) ] } , born := 3 }] 4)), Xbx, Xbw, Xby, (25, .row 3 1 2 [lM7 3, lM7 0]), (28, .row 23 1 3 [.sl 34 0 0 3, .sl 37 0 0 2, .sl 40 0 0 3]), (31, .row 74 2 2 [lM7 0, lM7 2, lM7 2, lM7 0]), (34, .row 3 1 3 [lM7 0, lM7 1, lM7 2]), (37, .row 3 1 2 [lM7 1, lM7 0]), (40, .row 3 1 3 [lM7 2, lM7 0, lM7 1])]
 outs := [⟨false, .agg [lM7 0, lM7 (Int.negSucc 0)], [(1, .blk 121 [.mp 13]), (4, .blk 120 [.sl 16 0 0 4]), (7, .blk 53 [.ptr 19 0]), (10, .blk 122 [.fn (Fn.func 61) [] [.ptr 1 0, .ptr 4 0, .ptr 7 0, .ptr 10 0]]), (13, .obj (OI.mpV [{ key := Value.agg { toList := [ .int .i64 1 , .int .i64 0 ] } , val := Value.agg { toList := [ .int .i64 0 , .int .i64 ( Int.negSucc 0 ) ] } , born := 0 }, { key := Value.agg { toList := [ .int .i64 3 , .int .i64 1 ] } , val := Value.agg { toList := [ .int .i64 0 , .int .i64 ( Int.negSucc 0 ) ] } , born := 1 }, { key := Value.agg { toList := [ .int .i64 3 , .int .i64 3 ] } , val := Value.agg { toList := [ .int .i64 0 , .int .i64 ( Int.negSucc 0 ) ] } , born := 2 }, { key := Value.agg { toList := [ .int .i64 1 , .int .i64 1 ] } , val := Value.agg { toList := [ .int .i64 ( Int.ofNat ( 0 + 1 ) ) , .int .i64 ( Int.ofNat ( 0 + 1 ) ) ] } , born := 3 }, { key := Value.agg { toList := [ .int .i64 2 , .int .i64 0 ] } , val := Value.agg { toList := [ .int .i64 0 , .int .i64 ( Int.negSucc 0 ) ] } , born := 4 }] 5)), Xbx, Xbw, Xby, (25, .row 3 1 2 [lM7 3, lM7 0]), (28, .row 23 1 3 [.sl 34 0 0 3, .sl 37 0 0 2, .sl 40 0 0 3]), (31, .row 74 2 2 [lM7 0, lM7 2, lM7 2, lM7 0]), (34, .row 3 1 3 [lM7 0, lM7 1, lM7 2]), (37, .row 3 1 2 [lM7 1, lM7 0]), (40, .row 3 1 3 [lM7 2, lM7 0, lM7 1])], false⟩]
 spec := fun _ K => K 0 []
def Xi8 : Tab Try.prog := ⟨[], [], [Xbd, Xba, Xu, Xs, Xr, Xo, Xm, Xq, Xp, Xn, Xl, Xk, Xj, Xi, Xh, Xg]⟩
theorem Xlr (W : InW) (K : Nat -> List Ed -> Prop) : Yxz (cxT Try.prog TT Xi8 1000 50) 1000 61 (xsM7 X0) (ysM7 X0) (fun v h => outC X0.H [] X0.outs 0 false v h K) (fun v h => outC X0.H [] X0.outs 0 true v h K) = K 0 [] := by kernel_rfl
theorem Xmr : ∀ W : InW, @CallC W Try.prog X0 :=
 CC.okOf (fun W => @TT W) (fun W => @Xc W) Xa Xi8 1000 50 X0 fun W K h => (Xlr W K).mpr h
def Xb4 : CE Try.prog := ceOf X0 Xmr
def Xz : CC where
 g := 61
 args := [lM7 3, lM7 2, .ptr 1 0, .ptr 4 0, .ptr 7 0, .ptr 10 0]
 H := [(1, .blk 121 [.mp 13]), (4, .blk 120 [.sl 16 0 0 4]), (7, .blk 53 [.ptr 19 0]), (10, .blk 122 [.fn (Fn.func 61) [] [.ptr 1 0, .ptr 4 0, .ptr 7 0, .ptr 10 0]]), (13, .obj (OI.mpV [{ key := Value.agg { toList := [ .int .i64 1 , .int .i64 0 ] } , val := Value.agg { toList := [ .int .i64 0 , .int .i64 ( Int.negSucc 0 ) ] } , born := 0 }, { key := Value.agg { toList := [ .int .i64 3 , .int .i64 1 ] } , val := Value.agg { toList := [ .int .i64 0 , .int .i64 ( Int.negSucc 0 ) ] } , born := 1 }, { key := Value.agg { toList := [ .int .i64 3 , .int .i64 3 ] } , val := Value.agg { toList := [ .int .i64 0 , .int .i64 ( Int.negSucc 0 ) ] } , born := 2 }, { key := Value.agg { toList := [ .int .i64 1 , .int .i64 1 ] } , val := Value.agg { toList := [ .int .i64 ( Int.ofNat ( 0 + 1 ) ) , .int .i64 ( Int.ofNat ( 0 + 1 ) ) ] } , born := 3 }, { key := Value.agg { toList := [ .int .i64 2 , .int .i64 0 ] } , val := Value.agg { toList := [ .int .i64 0 , .int .i64 ( Int.negSucc 0 ) ] } , born := 4 }] 5)), Xbx, Xbw, Xby, (25, .row 3 1 2 [lM7 3, lM7 0]), (28, .row 23 1 3 [.sl 34 0 0 3, .sl 37 0 0 2, .sl 40 0 0 3]), (31, .row 74 2 2 [lM7 0, lM7 2, lM7 2, lM7 0]), (34, .row 3 1 3 [lM7 0, lM7 1, lM7 2]), (37, .row 3 1 2 [lM7 1, lM7 0]), (40, .row 3 1 3 [lM7 2, lM7 0, lM7 1])]
 outs := [⟨false, .agg [lM7 0, lM7 (Int.negSucc 0)], [(1, .blk 121 [.mp 13]), (4, .blk 120 [.sl 16 0 0 4]), (7, .blk 53 [.ptr 19 0]), (10, .blk 122 [.fn (Fn.func 61) [] [.ptr 1 0, .ptr 4 0, .ptr 7 0, .ptr 10 0]]), (13, .obj (OI.mpV [{ key := Value.agg { toList := [ .int .i64 1 , .int .i64 0 ] } , val := Value.agg { toList := [ .int .i64 0 , .int .i64 ( Int.negSucc 0 ) ] } , born := 0 }, { key := Value.agg { toList := [ .int .i64 3 , .int .i64 1 ] } , val := Value.agg { toList := [ .int .i64 0 , .int .i64 ( Int.negSucc 0 ) ] } , born := 1 }, { key := Value.agg { toList := [ .int .i64 3 , .int .i64 3 ] } , val := Value.agg { toList := [ .int .i64 0 , .int .i64 ( Int.negSucc 0 ) ] } , born := 2 }, { key := Value.agg { toList := [ .int .i64 1 , .int .i64 1 ] } , val := Value.agg { toList := [ .int .i64 ( Int.ofNat ( 0 + 1 ) ) , .int .i64 ( Int.ofNat ( 0 + 1 ) ) ] } , born := 3 }, { key := Value.agg { toList := [ .int .i64 2 , .int .i64 0 ] } , val := Value.agg { toList := [ .int .i64 0 , .int .i64 ( Int.negSucc 0 ) ] } , born := 4 }, { key := Value.agg { toList := [ .int .i64 3 , .int .i64 2 ] } , val := Value.agg { toList := [ .int .i64 0 , .int .i64 ( Int.negSucc 0 ) ] } , born := 5 }] 6)), Xbx, Xbw, Xby, (25, .row 3 1 2 [lM7 3, lM7 0]), (28, .row 23 1 3 [.sl 34 0 0 3, .sl 37 0 0 2, .sl 40 0 0 3]), (31, .row 74 2 2 [lM7 0, lM7 2, lM7 2, lM7 0]), (34, .row 3 1 3 [lM7 0, lM7 1, lM7 2]), (37, .row 3 1 2 [lM7 1, lM7 0]), (40, .row 3 1 3 [lM7 2, lM7 0, lM7 1])], false⟩]
 spec := fun _ K => K 0 []
def Xi7 : Tab Try.prog := ⟨[], [], [Xb4, Xbd, Xba, Xu, Xs, Xr, Xo, Xm, Xq, Xp, Xn, Xl, Xk, Xj, Xi, Xh, Xg]⟩
theorem Xlq (W : InW) (K : Nat -> List Ed -> Prop) : Yxz (cxT Try.prog TT Xi7 1000 50) 1000 61 (xsM7 Xz) (ysM7 Xz) (fun v h => outC Xz.H [] Xz.outs 0 false v h K) (fun v h => outC Xz.H [] Xz.outs 0 true v h K) = K 0 [] := by kernel_rfl
theorem Xmq : ∀ W : InW, @CallC W Try.prog Xz :=
 CC.okOf (fun W => @TT W) (fun W => @Xc W) Xa Xi7 1000 50 Xz fun W K h => (Xlq W K).mpr h
def Xca : CE Try.prog := ceOf Xz Xmq
def Xy : CC where
 g := 61
 args := [lM7 3, lM7 3, .ptr 1 0, .ptr 4 0, .ptr 7 0, .ptr 10 0]
 H := [(1, .blk 121 [.mp 13]), (4, .blk 120 [.sl 16 0 0 4]), (7, .blk 53 [.ptr 19 0]), (10, .blk 122 [.fn (Fn.func 61) [] [.ptr 1 0, .ptr 4 0, .ptr 7 0, .ptr 10 0]]), (13, .obj (OI.mpV [{ key := Value.agg { toList := [ .int .i64 1 , .int .i64 0 ] } , val := Value.agg { toList := [ .int .i64 0 , .int .i64 ( Int.negSucc 0 ) ] } , born := 0 }, { key := Value.agg { toList := [ .int .i64 3 , .int .i64 1 ] } , val := Value.agg { toList := [ .int .i64 0 , .int .i64 ( Int.negSucc 0 ) ] } , born := 1 }, { key := Value.agg { toList := [ .int .i64 3 , .int .i64 3 ] } , val := Value.agg { toList := [ .int .i64 0 , .int .i64 ( Int.negSucc 0 ) ] } , born := 2 }, { key := Value.agg { toList := [ .int .i64 1 , .int .i64 1 ] } , val := Value.agg { toList := [ .int .i64 ( Int.ofNat ( 0 + 1 ) ) , .int .i64 ( Int.ofNat ( 0 + 1 ) ) ] } , born := 3 }, { key := Value.agg { toList := [ .int .i64 2 , .int .i64 0 ] } , val := Value.agg { toList := [ .int .i64 0 , .int .i64 ( Int.negSucc 0 ) ] } , born := 4 }, { key := Value.agg { toList := [ .int .i64 3 , .int .i64 2 ] } , val := Value.agg { toList := [ .int .i64 0 , .int .i64 ( Int.negSucc 0 ) ] } , born := 5 }] 6)), Xbx, Xbw, Xby, (25, .row 3 1 2 [lM7 3, lM7 0]), (28, .row 23 1 3 [.sl 34 0 0 3, .sl 37 0 0 2, .sl 40 0 0 3]), (31, .row 74 2 2 [lM7 0, lM7 2, lM7 2, lM7 0]), (34, .row 3 1 3 [lM7 0, lM7 1, lM7 2]), (37, .row 3 1 2 [lM7 1, lM7 0]), (40, .row 3 1 3 [lM7 2, lM7 0, lM7 1])]
 outs := [⟨false, .agg [lM7 0, lM7 (Int.negSucc 0)], [(1, .blk 121 [.mp 13]), (4, .blk 120 [.sl 16 0 0 4]), (7, .blk 53 [.ptr 19 0]), (10, .blk 122 [.fn (Fn.func 61) [] [.ptr 1 0, .ptr 4 0, .ptr 7 0, .ptr 10 0]]), (13, .obj (OI.mpV [{ key := Value.agg { toList := [ .int .i64 1 , .int .i64 0 ] } , val := Value.agg { toList := [ .int .i64 0 , .int .i64 ( Int.negSucc 0 ) ] } , born := 0 }, { key := Value.agg { toList := [ .int .i64 3 , .int .i64 1 ] } , val := Value.agg { toList := [ .int .i64 0 , .int .i64 ( Int.negSucc 0 ) ] } , born := 1 }, { key := Value.agg { toList := [ .int .i64 3 , .int .i64 3 ] } , val := Value.agg { toList := [ .int .i64 0 , .int .i64 ( Int.negSucc 0 ) ] } , born := 2 }, { key := Value.agg { toList := [ .int .i64 1 , .int .i64 1 ] } , val := Value.agg { toList := [ .int .i64 ( Int.ofNat ( 0 + 1 ) ) , .int .i64 ( Int.ofNat ( 0 + 1 ) ) ] } , born := 3 }, { key := Value.agg { toList := [ .int .i64 2 , .int .i64 0 ] } , val := Value.agg { toList := [ .int .i64 0 , .int .i64 ( Int.negSucc 0 ) ] } , born := 4 }, { key := Value.agg { toList := [ .int .i64 3 , .int .i64 2 ] } , val := Value.agg { toList := [ .int .i64 0 , .int .i64 ( Int.negSucc 0 ) ] } , born := 5 }] 6)), Xbx, Xbw, Xby, (25, .row 3 1 2 [lM7 3, lM7 0]), (28, .row 23 1 3 [.sl 34 0 0 3, .sl 37 0 0 2, .sl 40 0 0 3]), (31, .row 74 2 2 [lM7 0, lM7 2, lM7 2, lM7 0]), (34, .row 3 1 3 [lM7 0, lM7 1, lM7 2]), (37, .row 3 1 2 [lM7 1, lM7 0]), (40, .row 3 1 3 [lM7 2, lM7 0, lM7 1])], false⟩]
 spec := fun _ K => K 0 []
def Xi6 : Tab Try.prog := ⟨[], [], [Xca, Xb4, Xbd, Xba, Xu, Xs, Xr, Xo, Xm, Xq, Xp, Xn, Xl, Xk, Xj, Xi, Xh, Xg]⟩
theorem Xlp (W : InW) (K : Nat -> List Ed -> Prop) : Yxz (cxT Try.prog TT Xi6 1000 50) 1000 61 (xsM7 Xy) (ysM7 Xy) (fun v h => outC Xy.H [] Xy.outs 0 false v h K) (fun v h => outC Xy.H [] Xy.outs 0 true v h K) = K 0 [] := by kernel_rfl
theorem Xmp : ∀ W : InW, @CallC W Try.prog Xy :=
 CC.okOf (fun W => @TT W) (fun W => @Xc W) Xa Xi6 1000 50 Xy fun W K h => (Xlp W K).mpr h
def Xcs : CE Try.prog := ceOf Xy Xmp
def Xx : CC where
 g := 61
 args := [lM7 2, lM7 2, .ptr 1 0, .ptr 4 0, .ptr 7 0, .ptr 10 0]
 H := [(1, .blk 121 [.mp 13]), (4, .blk 120 [.sl 16 0 0 4]), (7, .blk 53 [.ptr 19 0]), (10, .blk 122 [.fn (Fn.func 61) [] [.ptr 1 0, .ptr 4 0, .ptr 7 0, .ptr 10 0]]), (13, .obj (OI.mpV [{ key := Value.agg { toList := [ .int .i64 1 , .int .i64 0 ] } , val := Value.agg { toList := [ .int .i64 0 , .int .i64 ( Int.negSucc 0 ) ] } , born := 0 }, { key := Value.agg { toList := [ .int .i64 3 , .int .i64 1 ] } , val := Value.agg { toList := [ .int .i64 0 , .int .i64 ( Int.negSucc 0 ) ] } , born := 1 }, { key := Value.agg { toList := [ .int .i64 3 , .int .i64 3 ] } , val := Value.agg { toList := [ .int .i64 0 , .int .i64 ( Int.negSucc 0 ) ] } , born := 2 }, { key := Value.agg { toList := [ .int .i64 1 , .int .i64 1 ] } , val := Value.agg { toList := [ .int .i64 ( Int.ofNat ( 0 + 1 ) ) , .int .i64 ( Int.ofNat ( 0 + 1 ) ) ] } , born := 3 }, { key := Value.agg { toList := [ .int .i64 2 , .int .i64 0 ] } , val := Value.agg { toList := [ .int .i64 0 , .int .i64 ( Int.negSucc 0 ) ] } , born := 4 }] 5)), Xbx, Xbw, Xby, (25, .row 3 1 2 [lM7 3, lM7 0]), (28, .row 23 1 3 [.sl 34 0 0 3, .sl 37 0 0 2, .sl 40 0 0 3]), (31, .row 74 2 2 [lM7 0, lM7 2, lM7 2, lM7 0]), (34, .row 3 1 3 [lM7 0, lM7 1, lM7 2]), (37, .row 3 1 2 [lM7 1, lM7 0]), (40, .row 3 1 3 [lM7 2, lM7 0, lM7 1])]
 outs := [⟨false, .agg [lM7 1, lM7 0], [(1, .blk 121 [.mp 13]), (4, .blk 120 [.sl 16 0 0 4]), (7, .blk 53 [.ptr 19 0]), (10, .blk 122 [.fn (Fn.func 61) [] [.ptr 1 0, .ptr 4 0, .ptr 7 0, .ptr 10 0]]), (13, .obj (OI.mpV [{ key := Value.agg { toList := [ .int .i64 1 , .int .i64 0 ] } , val := Value.agg { toList := [ .int .i64 0 , .int .i64 ( Int.negSucc 0 ) ] } , born := 0 }, { key := Value.agg { toList := [ .int .i64 3 , .int .i64 1 ] } , val := Value.agg { toList := [ .int .i64 0 , .int .i64 ( Int.negSucc 0 ) ] } , born := 1 }, { key := Value.agg { toList := [ .int .i64 3 , .int .i64 3 ] } , val := Value.agg { toList := [ .int .i64 0 , .int .i64 ( Int.negSucc 0 ) ] } , born := 2 }, { key := Value.agg { toList := [ .int .i64 1 , .int .i64 1 ] } , val := Value.agg { toList := [ .int .i64 ( Int.ofNat ( 0 + 1 ) ) , .int .i64 ( Int.ofNat ( 0 + 1 ) ) ] } , born := 3 }, { key := Value.agg { toList := [ .int .i64 2 , .int .i64 0 ] } , val := Value.agg { toList := [ .int .i64 0 , .int .i64 ( Int.negSucc 0 ) ] } , born := 4 }, { key := Value.agg { toList := [ .int .i64 3 , .int .i64 2 ] } , val := Value.agg { toList := [ .int .i64 0 , .int .i64 ( Int.negSucc 0 ) ] } , born := 5 }, { key := Value.agg { toList := [ .int .i64 2 , .int .i64 2 ] } , val := Value.agg { toList := [ .int .i64 ( Int.ofNat ( 0 + 1 ) ) , .int .i64 0 ] } , born := 6 }] 7)), Xbx, Xbw, Xby, (25, .row 3 1 2 [lM7 3, lM7 0]), (28, .row 23 1 3 [.sl 34 0 0 3, .sl 37 0 0 2, .sl 40 0 0 3]), (31, .row 74 2 2 [lM7 0, lM7 2, lM7 2, lM7 0]), (34, .row 3 1 3 [lM7 0, lM7 1, lM7 2]), (37, .row 3 1 2 [lM7 1, lM7 0]), (40, .row 3 1 3 [lM7 2, lM7 0, lM7 1])], false⟩]
 spec := fun _ K => K 0 []
def Xi5 : Tab Try.prog := ⟨[], [], [Xcs, Xca, Xb4, Xbd, Xba, Xu, Xs, Xr, Xo, Xm, Xq, Xp, Xn, Xl, Xk, Xj, Xi, Xh, Xg]⟩
theorem Xlo (W : InW) (K : Nat -> List Ed -> Prop) : Yxz (cxT Try.prog TT Xi5 1000 50) 1000 61 (xsM7 Xx) (ysM7 Xx) (fun v h => outC Xx.H [] Xx.outs 0 false v h K) (fun v h => outC Xx.H [] Xx.outs 0 true v h K) = K 0 [] := by kernel_rfl
theorem Xmo : ∀ W : InW, @CallC W Try.prog Xx :=
 CC.okOf (fun W => @TT W) (fun W => @Xc W) Xa Xi5 1000 50 Xx fun W K h => (Xlo W K).mpr h
def Xdr : CE Try.prog := ceOf Xx Xmo
def Xw : CC where
 g := 61
 args := [lM7 0, lM7 0, .ptr 1 0, .ptr 4 0, .ptr 7 0, .ptr 10 0]
 H := [(1, .blk 121 [.mp 13]), (4, .blk 120 [.sl 16 0 0 4]), (7, .blk 53 [.ptr 19 0]), (10, .blk 122 [.fn (Fn.func 61) [] [.ptr 1 0, .ptr 4 0, .ptr 7 0, .ptr 10 0]]), (13, .obj (OI.mpV [] 0)), Xbx, Xbw, Xby, (25, .row 3 1 2 [lM7 3, lM7 0]), (28, .row 23 1 3 [.sl 34 0 0 3, .sl 37 0 0 2, .sl 40 0 0 3]), (31, .row 74 2 2 [lM7 0, lM7 2, lM7 2, lM7 0]), (34, .row 3 1 3 [lM7 0, lM7 1, lM7 2]), (37, .row 3 1 2 [lM7 1, lM7 0]), (40, .row 3 1 3 [lM7 2, lM7 0, lM7 1])]
 outs := [⟨false, .agg [lM7 2, lM7 0], [(1, .blk 121 [.mp 13]), (4, .blk 120 [.sl 16 0 0 4]), (7, .blk 53 [.ptr 19 0]), (10, .blk 122 [.fn (Fn.func 61) [] [.ptr 1 0, .ptr 4 0, .ptr 7 0, .ptr 10 0]]), (13, .obj (OI.mpV [{ key := Value.agg { toList := [ .int .i64 1 , .int .i64 0 ] } , val := Value.agg { toList := [ .int .i64 0 , .int .i64 ( Int.negSucc 0 ) ] } , born := 0 }, { key := Value.agg { toList := [ .int .i64 3 , .int .i64 1 ] } , val := Value.agg { toList := [ .int .i64 0 , .int .i64 ( Int.negSucc 0 ) ] } , born := 1 }, { key := Value.agg { toList := [ .int .i64 3 , .int .i64 3 ] } , val := Value.agg { toList := [ .int .i64 0 , .int .i64 ( Int.negSucc 0 ) ] } , born := 2 }, { key := Value.agg { toList := [ .int .i64 1 , .int .i64 1 ] } , val := Value.agg { toList := [ .int .i64 ( Int.ofNat ( 0 + 1 ) ) , .int .i64 ( Int.ofNat ( 0 + 1 ) ) ] } , born := 3 }, { key := Value.agg { toList := [ .int .i64 2 , .int .i64 0 ] } , val := Value.agg { toList := [ .int .i64 0 , .int .i64 ( Int.negSucc 0 ) ] } , born := 4 }, { key := Value.agg { toList := [ .int .i64 3 , .int .i64 2 ] } , val := Value.agg { toList := [ .int .i64 0 , .int .i64 ( Int.negSucc 0 ) ] } , born := 5 }, { key := Value.agg { toList := [ .int .i64 2 , .int .i64 2 ] } , val := Value.agg { toList := [ .int .i64 ( Int.ofNat ( 0 + 1 ) ) , .int .i64 0 ] } , born := 6 }, { key := Value.agg { toList := [ .int .i64 0 , .int .i64 0 ] } , val := Value.agg { toList := [ .int .i64 ( Int.ofNat ( 1 + 1 ) ) , .int .i64 0 ] } , born := 7 }] 8)), Xbx, Xbw, Xby, (25, .row 3 1 2 [lM7 3, lM7 0]), (28, .row 23 1 3 [.sl 34 0 0 3, .sl 37 0 0 2, .sl 40 0 0 3]), (31, .row 74 2 2 [lM7 0, lM7 2, lM7 2, lM7 0]), (34, .row 3 1 3 [lM7 0, lM7 1, lM7 2]), (37, .row 3 1 2 [lM7 1, lM7 0]), (40, .row 3 1 3 [lM7 2, lM7 0, lM7 1])], false⟩]
 spec := fun _ K => K 0 []
def Xi4 : Tab Try.prog := ⟨[], [], [Xdr, Xcs, Xca, Xb4, Xbd, Xba, Xu, Xs, Xr, Xo, Xm, Xq, Xp, Xn, Xl, Xk, Xj, Xi, Xh, Xg]⟩
theorem Xln (W : InW) (K : Nat -> List Ed -> Prop) : Yxz (cxT Try.prog TT Xi4 1000 50) 1000 61 (xsM7 Xw) (ysM7 Xw) (fun v h => outC Xw.H [] Xw.outs 0 false v h K) (fun v h => outC Xw.H [] Xw.outs 0 true v h K) = K 0 [] := by kernel_rfl
theorem Xmn : ∀ W : InW, @CallC W Try.prog Xw :=
 CC.okOf (fun W => @TT W) (fun W => @Xc W) Xa Xi4 1000 50 Xw fun W K h => (Xln W K).mpr h
def Xi1 : CE Try.prog := ceOf Xw Xmn
def Xv : CC where
 g := 28
 args := [.agg [.sl 1 0 0 3, .sl 4 0 0 2, lM7 7], .sl 7 0 0 3]
 H := [Xt, (4, .row 3 1 2 [lM7 3, lM7 0]), (7, .row 23 1 3 [.sl 10 0 0 3, .sl 13 0 0 2, .sl 16 0 0 3]), (10, .row 3 1 3 [lM7 0, lM7 1, lM7 2]), (13, .row 3 1 2 [lM7 1, lM7 0]), (16, .row 3 1 3 [lM7 2, lM7 0, lM7 1])]
 outs := [⟨false, .tup [.agg [lM7 0, lM7 2], lM7 2, lM7 0], [Xt, (4, .row 3 1 2 [lM7 3, lM7 0]), (7, .row 23 1 3 [.sl 10 0 0 3, .sl 13 0 0 2, .sl 16 0 0 3]), (10, .row 3 1 3 [lM7 0, lM7 1, lM7 2]), (13, .row 3 1 2 [lM7 1, lM7 0]), (16, .row 3 1 3 [lM7 2, lM7 0, lM7 1])], false⟩]
 spec := fun _ K => K 0 []
def Xi3 : Tab Try.prog := ⟨[], [], [Xi1, Xdr, Xcs, Xca, Xb4, Xbd, Xba, Xu, Xs, Xr, Xo, Xm, Xq, Xp, Xn, Xl, Xk, Xj, Xi, Xh, Xg]⟩
theorem Xlm (W : InW) (K : Nat -> List Ed -> Prop) : Yxz (cxT Try.prog TT Xi3 1000 50) 1000 28 (xsM7 Xv) (ysM7 Xv) (fun v h => outC Xv.H [] Xv.outs 0 false v h K) (fun v h => outC Xv.H [] Xv.outs 0 true v h K) = K 0 [] := by kernel_rfl
theorem Xmm : ∀ W : InW, @CallC W Try.prog Xv :=
 CC.okOf (fun W => @TT W) (fun W => @Xc W) Xa Xi3 1000 50 Xv fun W K h => (Xlm W K).mpr h
def Xna : CE Try.prog := ceOf Xv Xmm
end Go.Proofs.Ytfbhampnigdaaaa
