/-
  'TopTaught': for every input the law returns true, and what is handed in reads as before. No condition.
-/
import Derived.Test.YtbhlmkgliflhaaaGreatQttc
set_option linter.unusedVariables false
set_option linter.unusedSectionVars false
set_option linter.unusedSimpArgs false
namespace Go.Proofs.YtbhlmkgliflhaaaGreat
open Go.RowKit
set_option maxRecDepth 100000
abbrev lM2 (n : Int) : Pt := .lit (.int .i64 n)
abbrev vM2 [W : InW] (n : Int) : AV := .v (.int .i64 n)
abbrev Xch : Nat × PI := (1, .row 66 5 2 [.lit (Value.string { data := { toList := [ 115 , 116 , 101 , 101 , 114 ] } }), lM2 20, lM2 40, lM2 5, lM2 10, .lit (Value.string { data := { toList := [ 119 , 97 , 116 , 99 , 104 ] } }), lM2 10, lM2 30, lM2 0, lM2 5])
abbrev Xcg : Nat × PI := (4, .row 70 3 2 [.lit (Value.string { data := { toList := [ 97 , 100 , 97 ] } }), lM2 (Int.negSucc 19), lM2 0, .lit (Value.string { data := { toList := [ 98 , 111 ] } }), lM2 0, lM2 30])
abbrev Xvb : Nat × PI := (10, .row 53 5 2 [lM2 0, lM2 0, lM2 0, lM2 0, lM2 0, lM2 2, lM2 1, lM2 0, lM2 0, lM2 500])
abbrev Xva : Nat × PI := (10, .row 53 5 2 [lM2 0, lM2 0, lM2 0, lM2 0, lM2 0, lM2 2, lM2 1, lM2 0, lM2 0, lM2 520])
abbrev Xu9 : Nat × PI := (10, .row 53 5 2 [lM2 0, lM2 0, lM2 0, lM2 0, lM2 0, lM2 2, lM2 1, lM2 0, lM2 0, lM2 560])
def xsM2 [W : InW] (c : CC) : List AV := match insL c.args [] with | some x => x.1 | none => []
def ysM2 [W : InW] (c : CC) : Heap := match insH c.H [] with | some x => x.1 | none => []
def Xbp : CC where
 g := 17
 args := [.agg [.sl 1 0 0 2, .sl 4 0 0 2], lM2 1, lM2 990]
 H := [Xch, Xcg]
 outs := [⟨false, .tup [.agg [lM2 990, lM2 1000], lM2 0], [Xch, Xcg], false⟩]
 spec := fun _ K => K 0 []
noncomputable def Xlf : Tab Tryz.prog := ⟨[], [], []⟩
theorem Xpg (W : InW) (K : Nat -> List Ed -> Prop) : Yvm (cxT Tryz.prog TT Xlf 1000 50) 1000 17 (xsM2 Xbp) (ysM2 Xbp) (fun v h => outC Xbp.H [] Xbp.outs 0 false v h K) (fun v h => outC Xbp.H [] Xbp.outs 0 true v h K) = K 0 [] := by kernel_rfl
theorem Xqu : ∀ W : InW, @CallC W Tryz.prog Xbp :=
 CC.okOf (fun W => @TT W) (fun W => @Xb W) Xa Xlf 1000 50 Xbp fun W K h => (Xpg W K).mpr h
noncomputable def Xbt : CE Tryz.prog := ceOf Xbp Xqu
def Xbo : CC where
 g := 19
 args := [.agg [.sl 1 0 0 2, .sl 4 0 0 2], lM2 0, lM2 500]
 H := [Xch, Xcg]
 outs := [⟨false, .tup [.agg [lM2 500, lM2 520], lM2 0], [Xch, Xcg], false⟩]
 spec := fun _ K => K 0 []
noncomputable def Xle : Tab Tryz.prog := ⟨[], [], [Xbt]⟩
theorem Xpf (W : InW) (K : Nat -> List Ed -> Prop) : Yvm (cxT Tryz.prog TT Xle 1000 50) 1000 19 (xsM2 Xbo) (ysM2 Xbo) (fun v h => outC Xbo.H [] Xbo.outs 0 false v h K) (fun v h => outC Xbo.H [] Xbo.outs 0 true v h K) = K 0 [] := by kernel_rfl
theorem Xqt : ∀ W : InW, @CallC W Tryz.prog Xbo :=
 CC.okOf (fun W => @TT W) (fun W => @Xb W) Xa Xle 1000 50 Xbo fun W K h => (Xpf W K).mpr h
noncomputable def Xb2 : CE Tryz.prog := ceOf Xbo Xqt
def Xbn : CC where
 g := 9
 args := [.agg [.sl 1 0 0 2, .sl 4 0 0 2], .sl 7 0 0 2, .sl 10 0 0 2, lM2 3]
 H := [Xch, Xcg, (7, .row 29 2 2 [lM2 400, lM2 500, lM2 400, lM2 500]), Xvb]
 outs := [⟨false, .tup [.sl 6 0 0 2, lM2 0], [Xch, Xcg, (7, .row 29 2 2 [lM2 400, lM2 500, lM2 400, lM2 500]), Xvb, (6, .row 29 2 2 [lM2 490, lM2 515, lM2 385, lM2 500])], false⟩]
 spec := fun _ K => K 0 []
noncomputable def Xld : Tab Tryz.prog := ⟨[], [], [Xb2, Xbt]⟩
theorem Xpe (W : InW) (K : Nat -> List Ed -> Prop) : Yvm (cxT Tryz.prog TT Xld 1000 50) 1000 9 (xsM2 Xbn) (ysM2 Xbn) (fun v h => outC Xbn.H [] Xbn.outs 0 false v h K) (fun v h => outC Xbn.H [] Xbn.outs 0 true v h K) = K 0 [] := by kernel_rfl
theorem Xqs : ∀ W : InW, @CallC W Tryz.prog Xbn :=
 CC.okOf (fun W => @TT W) (fun W => @Xb W) Xa Xld 1000 50 Xbn fun W K h => (Xpe W K).mpr h
noncomputable def Xcd : CE Tryz.prog := ceOf Xbn Xqs
def Xbm : CC where
 g := 22
 args := [.agg [.sl 1 0 0 2, .sl 4 0 0 2], .sl 7 0 0 2, .sl 10 0 0 2, lM2 0]
 H := [Xch, Xcg, (7, .row 29 2 2 [lM2 400, lM2 500, lM2 400, lM2 500]), Xva]
 outs := [⟨false, .tup [.agg [lM2 (Int.negSucc 9), lM2 0], lM2 0], [Xch, Xcg, (7, .row 29 2 2 [lM2 400, lM2 500, lM2 400, lM2 500]), Xva], false⟩]
 spec := fun _ K => K 0 []
noncomputable def Xlc : Tab Tryz.prog := ⟨[], [], [Xcd, Xb2, Xbt]⟩
theorem Xpd (W : InW) (K : Nat -> List Ed -> Prop) : Yvm (cxT Tryz.prog TT Xlc 1000 50) 1000 22 (xsM2 Xbm) (ysM2 Xbm) (fun v h => outC Xbm.H [] Xbm.outs 0 false v h K) (fun v h => outC Xbm.H [] Xbm.outs 0 true v h K) = K 0 [] := by kernel_rfl
theorem Xqr : ∀ W : InW, @CallC W Tryz.prog Xbm :=
 CC.okOf (fun W => @TT W) (fun W => @Xb W) Xa Xlc 1000 50 Xbm fun W K h => (Xpd W K).mpr h
noncomputable def Xct : CE Tryz.prog := ceOf Xbm Xqr
def Xbl : CC where
 g := 23
 args := [.agg [.sl 1 0 0 2, .sl 4 0 0 2], .agg [.sl 7 0 0 2, lM2 1], .sl 10 0 0 2]
 H := [Xch, Xcg, (7, .row 127 2 2 [lM2 0, lM2 400, lM2 1, lM2 300]), (10, .row 3 1 2 [lM2 490, lM2 385])]
 outs := [⟨false, .tup [lM2 829850, lM2 0], [Xch, Xcg, (7, .row 127 2 2 [lM2 0, lM2 400, lM2 1, lM2 300]), (10, .row 3 1 2 [lM2 490, lM2 385])], false⟩]
 spec := fun _ K => K 0 []
noncomputable def Xlb : Tab Tryz.prog := ⟨[], [], [Xct, Xcd, Xb2, Xbt]⟩
theorem Xpc (W : InW) (K : Nat -> List Ed -> Prop) : Yvm (cxT Tryz.prog TT Xlb 1000 50) 1000 23 (xsM2 Xbl) (ysM2 Xbl) (fun v h => outC Xbl.H [] Xbl.outs 0 false v h K) (fun v h => outC Xbl.H [] Xbl.outs 0 true v h K) = K 0 [] := by kernel_rfl
theorem Xqq : ∀ W : InW, @CallC W Tryz.prog Xbl :=
 CC.okOf (fun W => @TT W) (fun W => @Xb W) Xa Xlb 1000 50 Xbl fun W K h => (Xpc W K).mpr h
noncomputable def Xdg : CE Tryz.prog := ceOf Xbl Xqq
def Xbk : CC where
 g := 25
 args := [.agg [.sl 1 0 0 2, .sl 4 0 0 2], .agg [.sl 7 0 0 2, lM2 1], .sl 10 0 0 2, lM2 800]
 H := [Xch, Xcg, (7, .row 127 2 2 [lM2 0, lM2 400, lM2 1, lM2 300]), (10, .row 29 2 2 [lM2 490, lM2 515, lM2 385, lM2 500])]
 outs := [⟨false, .tup [.lit (Value.bool true), lM2 829850, lM2 884500, lM2 0], [Xch, Xcg, (7, .row 127 2 2 [lM2 0, lM2 400, lM2 1, lM2 300]), (10, .row 29 2 2 [lM2 490, lM2 515, lM2 385, lM2 500])], false⟩]
 spec := fun _ K => K 0 []
noncomputable def Xla : Tab Tryz.prog := ⟨[], [], [Xdg, Xct, Xcd, Xb2, Xbt]⟩
theorem Xpb (W : InW) (K : Nat -> List Ed -> Prop) : Yvm (cxT Tryz.prog TT Xla 1000 50) 1000 25 (xsM2 Xbk) (ysM2 Xbk) (fun v h => outC Xbk.H [] Xbk.outs 0 false v h K) (fun v h => outC Xbk.H [] Xbk.outs 0 true v h K) = K 0 [] := by kernel_rfl
theorem Xqp : ∀ W : InW, @CallC W Tryz.prog Xbk :=
 CC.okOf (fun W => @TT W) (fun W => @Xb W) Xa Xla 1000 50 Xbk fun W K h => (Xpb W K).mpr h
noncomputable def Xfk : CE Tryz.prog := ceOf Xbk Xqp
def Xbj : CC where
 g := 26
 args := [.agg [.sl 1 0 0 2, .sl 4 0 0 2], .agg [.sl 7 0 0 2, lM2 0], .sl 10 0 0 2, lM2 400]
 H := [Xch, Xcg, (7, .row 127 2 2 [lM2 0, lM2 400, lM2 1, lM2 300]), (10, .row 29 2 2 [lM2 490, lM2 515, lM2 385, lM2 500])]
 outs := [⟨false, .tup [.sl 6 0 0 2, lM2 0], [Xch, Xcg, (7, .row 127 2 2 [lM2 0, lM2 400, lM2 1, lM2 300]), (10, .row 29 2 2 [lM2 490, lM2 515, lM2 385, lM2 500]), (6, .row 3 1 2 [lM2 5, lM2 0])], false⟩]
 spec := fun _ K => K 0 []
noncomputable def Xk9 : Tab Tryz.prog := ⟨[], [], [Xfk, Xdg, Xct, Xcd, Xb2, Xbt]⟩
theorem Xpa (W : InW) (K : Nat -> List Ed -> Prop) : Yvm (cxT Tryz.prog TT Xk9 1000 50) 1000 26 (xsM2 Xbj) (ysM2 Xbj) (fun v h => outC Xbj.H [] Xbj.outs 0 false v h K) (fun v h => outC Xbj.H [] Xbj.outs 0 true v h K) = K 0 [] := by kernel_rfl
theorem Xqo : ∀ W : InW, @CallC W Tryz.prog Xbj :=
 CC.okOf (fun W => @TT W) (fun W => @Xb W) Xa Xk9 1000 50 Xbj fun W K h => (Xpa W K).mpr h
noncomputable def Xkx : CE Tryz.prog := ceOf Xbj Xqo
def Xbi : CC where
 g := 9
 args := [.agg [.sl 1 0 0 2, .sl 4 0 0 2], .sl 7 0 0 2, .sl 10 0 0 2, lM2 3]
 H := [Xch, Xcg, (7, .row 29 2 2 [lM2 400, lM2 500, lM2 400, lM2 500]), Xu9]
 outs := [⟨false, .tup [.lit (Value.slice none 0 0), lM2 9], [Xch, Xcg, (7, .row 29 2 2 [lM2 400, lM2 500, lM2 400, lM2 500]), Xu9], false⟩]
 spec := fun _ K => K 0 []
noncomputable def Xk8 : Tab Tryz.prog := ⟨[], [], [Xkx, Xfk, Xdg, Xct, Xcd, Xb2, Xbt]⟩
theorem Xo9 (W : InW) (K : Nat -> List Ed -> Prop) : Yvm (cxT Tryz.prog TT Xk8 1000 50) 1000 9 (xsM2 Xbi) (ysM2 Xbi) (fun v h => outC Xbi.H [] Xbi.outs 0 false v h K) (fun v h => outC Xbi.H [] Xbi.outs 0 true v h K) = K 0 [] := by kernel_rfl
theorem Xqn : ∀ W : InW, @CallC W Tryz.prog Xbi :=
 CC.okOf (fun W => @TT W) (fun W => @Xb W) Xa Xk8 1000 50 Xbi fun W K h => (Xo9 W K).mpr h
noncomputable def Xq4 : CE Tryz.prog := ceOf Xbi Xqn
def Xbh : CC where
 g := 7
 args := []
 H := []
 outs := [⟨false, .lit (Value.bool true), [], false⟩]
 spec := fun _ K => K 0 []
noncomputable def Xk7 : Tab Tryz.prog := ⟨[], [], [Xq4, Xkx, Xfk, Xdg, Xct, Xcd, Xb2, Xbt]⟩
theorem Xo8 (W : InW) (K : Nat -> List Ed -> Prop) : Yvm (cxT Tryz.prog TT Xk7 1000 50) 1000 7 (xsM2 Xbh) (ysM2 Xbh) (fun v h => outC Xbh.H [] Xbh.outs 0 false v h K) (fun v h => outC Xbh.H [] Xbh.outs 0 true v h K) = K 0 [] := by kernel_rfl
theorem Xqm : ∀ W : InW, @CallC W Tryz.prog Xbh :=
 CC.okOf (fun W => @TT W) (fun W => @Xb W) Xa Xk7 1000 50 Xbh fun W K h => (Xo8 W K).mpr h
abbrev Xw5 : CC := Xbh
theorem Xvr : ∀ W : InW, @CallC W Tryz.prog Xw5 := Xqm
end Go.Proofs.YtbhlmkgliflhaaaGreat
