/-
  'TopNoted', the tied card: for every input the law returns true, and what is handed in reads as before.
-/
import Derived.Test.YtladoaeefkpdiaaGreatDoorQtnc
set_option linter.unusedVariables false
set_option linter.unusedSectionVars false
set_option linter.unusedSimpArgs false
noncomputable section
namespace Go.Proofs.YtladoaeefkpdiaaGreatDoor
open Go.RowKit
set_option maxRecDepth 100000
abbrev lM10 (n : Int) : Pt := .lit (.int .i64 n)
abbrev vM10 [W : InW] (n : Int) : AV := .v (.int .i64 n)
abbrev Xh : Nat × PI := (1, .row 72 3 3 [.lit (Value.string { data := { toList := [ 115 , 105 , 103 , 110 , 97 , 108 ] } }), lM10 1, lM10 3, .lit (Value.string { data := { toList := [ 115 , 112 , 101 , 101 , 100 ] } }), lM10 2, lM10 1, .lit (Value.string { data := { toList := [ 114 , 101 , 100 , 108 , 105 , 103 , 104 , 116 ] } }), lM10 5, lM10 0])
abbrev Xg : Nat × PI := (4, .row 9 1 1 [.lit (Value.string { data := { toList := [ 112 , 97 , 114 , 107 ] } })])
abbrev Xbi : Nat × PI := (7, .row 116 3 2 [lM10 1, lM10 0, lM10 1, lM10 3, lM10 3, lM10 3])
def Xc1 [W : InW] (c : CC) : List AV := match insL c.args [] with | some x => x.1 | none => []
def Xc0 [W : InW] (c : CC) : Heap := match insH c.H [] with | some x => x.1 | none => []
def Xt : CC where
 g := 9
 args := [.agg [.sl 1 0 0 3, .sl 4 0 0 1, lM10 4], .sl 7 0 0 4]
 H := [Xh, Xg, (7, .row 3 1 4 [lM10 0, lM10 1, lM10 3, lM10 0])]
 outs := [⟨false, .tup [lM10 4, .lit (Value.bool true), lM10 0], [Xh, Xg, (7, .row 3 1 4 [lM10 0, lM10 1, lM10 3, lM10 0])], false⟩]
 spec := fun _ K => K 0 []
def Xjb : Tab Tryz.prog := ⟨[], [], []⟩
theorem Xmk (W : InW) (K : Nat -> List Ed -> Prop) : Yzo (cxT Tryz.prog TT Xjb 1000 50) 1000 9 (Xc1 Xt) (Xc0 Xt) (fun v h => outC Xt.H [] Xt.outs 0 false v h K) (fun v h => outC Xt.H [] Xt.outs 0 true v h K) = K 0 [] := by kernel_rfl
theorem Xnb : ∀ W : InW, @CallC W Tryz.prog Xt :=
 CC.okOf (fun W => @TT W) (fun W => @Xc W) Xa Xjb 1000 50 Xt fun W K h => (Xmk W K).mpr h
def Xf : CE Tryz.prog := ceOf Xt Xnb
def Xs : CC where
 g := 10
 args := [.agg [.sl 1 0 0 3, .sl 4 0 0 1, lM10 4], .sl 7 0 0 4, .sl 10 0 0 2]
 H := [Xh, Xg, (7, .row 3 1 4 [lM10 0, lM10 1, lM10 3, lM10 0]), (10, .row 3 1 2 [lM10 2, lM10 4])]
 outs := [⟨false, .tup [.agg [.lit (.int .i64 ↑4), .sl 6 0 0 2], lM10 0], [Xh, Xg, (7, .row 3 1 4 [lM10 0, lM10 1, lM10 3, lM10 0]), (10, .row 3 1 2 [lM10 2, lM10 4]), (6, .row 116 3 2 [lM10 1, lM10 0, lM10 1, lM10 3, lM10 3, lM10 3])], false⟩]
 spec := fun _ K => K 0 []
def Xja : Tab Tryz.prog := ⟨[], [], [Xf]⟩
theorem Xmj (W : InW) (K : Nat -> List Ed -> Prop) : Yzo (cxT Tryz.prog TT Xja 1000 50) 1000 10 (Xc1 Xs) (Xc0 Xs) (fun v h => outC Xs.H [] Xs.outs 0 false v h K) (fun v h => outC Xs.H [] Xs.outs 0 true v h K) = K 0 [] := by kernel_rfl
theorem Xna : ∀ W : InW, @CallC W Tryz.prog Xs :=
 CC.okOf (fun W => @TT W) (fun W => @Xc W) Xa Xja 1000 50 Xs fun W K h => (Xmj W K).mpr h
def Xi : CE Tryz.prog := ceOf Xs Xna
def Xr : CC where
 g := 37
 args := [.agg [.sl 1 0 0 3, .sl 4 0 0 1, lM10 4], .agg [lM10 4, .sl 7 0 0 2]]
 H := [Xh, Xg, Xbi]
 outs := [⟨false, .tup [lM10 4, lM10 0], [Xh, Xg, Xbi], false⟩]
 spec := fun _ K => K 0 []
def Xi9 : Tab Tryz.prog := ⟨[], [], [Xi, Xf]⟩
theorem Xmi (W : InW) (K : Nat -> List Ed -> Prop) : Yzo (cxT Tryz.prog TT Xi9 1000 50) 1000 37 (Xc1 Xr) (Xc0 Xr) (fun v h => outC Xr.H [] Xr.outs 0 false v h K) (fun v h => outC Xr.H [] Xr.outs 0 true v h K) = K 0 [] := by kernel_rfl
theorem Xm9 : ∀ W : InW, @CallC W Tryz.prog Xr :=
 CC.okOf (fun W => @TT W) (fun W => @Xc W) Xa Xi9 1000 50 Xr fun W K h => (Xmi W K).mpr h
def Xv : CE Tryz.prog := ceOf Xr Xm9
def Xq : CC where
 g := 39
 args := [.agg [.sl 1 0 0 3, .sl 4 0 0 1, lM10 4], .agg [lM10 4, .sl 7 0 0 2]]
 H := [Xh, Xg, Xbi]
 outs := [⟨false, .tup [lM10 2, lM10 0], [Xh, Xg, Xbi], false⟩]
 spec := fun _ K => K 0 []
def Xi8 : Tab Tryz.prog := ⟨[], [], [Xv, Xi, Xf]⟩
theorem Xmh (W : InW) (K : Nat -> List Ed -> Prop) : Yzo (cxT Tryz.prog TT Xi8 1000 50) 1000 39 (Xc1 Xq) (Xc0 Xq) (fun v h => outC Xq.H [] Xq.outs 0 false v h K) (fun v h => outC Xq.H [] Xq.outs 0 true v h K) = K 0 [] := by kernel_rfl
theorem Xm8 : ∀ W : InW, @CallC W Tryz.prog Xq :=
 CC.okOf (fun W => @TT W) (fun W => @Xc W) Xa Xi8 1000 50 Xq fun W K h => (Xmh W K).mpr h
def X1 : CE Tryz.prog := ceOf Xq Xm8
def Xp : CC where
 g := 40
 args := [.agg [.sl 1 0 0 3, .sl 4 0 0 1, lM10 4], .agg [lM10 4, .sl 7 0 0 2], .lit (Value.bool false)]
 H := [Xh, Xg, Xbi]
 outs := [⟨false, .tup [.sl 6 0 0 4, lM10 0], [Xh, Xg, Xbi, (6, .row 3 1 4 [lM10 0, lM10 1, lM10 3, lM10 1])], false⟩]
 spec := fun _ K => K 0 []
def Xi7 : Tab Tryz.prog := ⟨[], [], [X1, Xv, Xi, Xf]⟩
theorem Xmg (W : InW) (K : Nat -> List Ed -> Prop) : Yzo (cxT Tryz.prog TT Xi7 1000 50) 1000 40 (Xc1 Xp) (Xc0 Xp) (fun v h => outC Xp.H [] Xp.outs 0 false v h K) (fun v h => outC Xp.H [] Xp.outs 0 true v h K) = K 0 [] := by kernel_rfl
theorem Xm7 : ∀ W : InW, @CallC W Tryz.prog Xp :=
 CC.okOf (fun W => @TT W) (fun W => @Xc W) Xa Xi7 1000 50 Xp fun W K h => (Xmg W K).mpr h
def Xbf : CE Tryz.prog := ceOf Xp Xm7
def Xo : CC where
 g := 41
 args := [.agg [.sl 1 0 0 3, .sl 4 0 0 1, lM10 4], .agg [lM10 4, .sl 7 0 0 2], .sl 10 0 0 1]
 H := [Xh, Xg, Xbi, (10, .row 3 1 1 [lM10 4])]
 outs := [⟨false, .tup [.lit (Value.bool true), lM10 0], [Xh, Xg, Xbi, (10, .row 3 1 1 [lM10 4])], false⟩]
 spec := fun _ K => K 0 []
def Xi6 : Tab Tryz.prog := ⟨[], [], [Xbf, X1, Xv, Xi, Xf]⟩
theorem Xmf (W : InW) (K : Nat -> List Ed -> Prop) : Yzo (cxT Tryz.prog TT Xi6 1000 50) 1000 41 (Xc1 Xo) (Xc0 Xo) (fun v h => outC Xo.H [] Xo.outs 0 false v h K) (fun v h => outC Xo.H [] Xo.outs 0 true v h K) = K 0 [] := by kernel_rfl
theorem Xm6 : ∀ W : InW, @CallC W Tryz.prog Xo :=
 CC.okOf (fun W => @TT W) (fun W => @Xc W) Xa Xi6 1000 50 Xo fun W K h => (Xmf W K).mpr h
def Xbn : CE Tryz.prog := ceOf Xo Xm6
def Xn : CC where
 g := 42
 args := [.agg [.sl 1 0 0 3, .sl 4 0 0 1, lM10 4], .agg [lM10 4, .sl 7 0 0 2]]
 H := [Xh, Xg, Xbi]
 outs := [⟨false, .tup [.sl 6 0 0 1, lM10 0], [Xh, Xg, Xbi, (6, .row 3 1 1 [lM10 4])], false⟩]
 spec := fun _ K => K 0 []
def Xi5 : Tab Tryz.prog := ⟨[], [], [Xbn, Xbf, X1, Xv, Xi, Xf]⟩
theorem Xme (W : InW) (K : Nat -> List Ed -> Prop) : Yzo (cxT Tryz.prog TT Xi5 1000 50) 1000 42 (Xc1 Xn) (Xc0 Xn) (fun v h => outC Xn.H [] Xn.outs 0 false v h K) (fun v h => outC Xn.H [] Xn.outs 0 true v h K) = K 0 [] := by kernel_rfl
theorem Xm5 : ∀ W : InW, @CallC W Tryz.prog Xn :=
 CC.okOf (fun W => @TT W) (fun W => @Xc W) Xa Xi5 1000 50 Xn fun W K h => (Xme W K).mpr h
def Xb1 : CE Tryz.prog := ceOf Xn Xm5
def Xm : CC where
 g := 43
 args := [.agg [.sl 1 0 0 3, .sl 4 0 0 1, lM10 4], .sl 7 0 0 5]
 H := [Xh, Xg, (7, .row 3 1 5 [lM10 0, lM10 1, lM10 1, lM10 3, lM10 0])]
 outs := [⟨false, .tup [.sl 6 0 0 1, lM10 0], [Xh, Xg, (7, .row 3 1 5 [lM10 0, lM10 1, lM10 1, lM10 3, lM10 0]), (6, .row 3 1 1 [lM10 2])], false⟩]
 spec := fun _ K => K 0 []
def Xi4 : Tab Tryz.prog := ⟨[], [], [Xb1, Xbn, Xbf, X1, Xv, Xi, Xf]⟩
theorem Xmd (W : InW) (K : Nat -> List Ed -> Prop) : Yzo (cxT Tryz.prog TT Xi4 1000 50) 1000 43 (Xc1 Xm) (Xc0 Xm) (fun v h => outC Xm.H [] Xm.outs 0 false v h K) (fun v h => outC Xm.H [] Xm.outs 0 true v h K) = K 0 [] := by kernel_rfl
theorem Xm4 : ∀ W : InW, @CallC W Tryz.prog Xm :=
 CC.okOf (fun W => @TT W) (fun W => @Xc W) Xa Xi4 1000 50 Xm fun W K h => (Xmd W K).mpr h
def Xcs : CE Tryz.prog := ceOf Xm Xm4
end Go.Proofs.YtladoaeefkpdiaaGreatDoor
