/-
  'TopTaught': for every input the law returns true, and what is handed in reads as before. No condition.
-/
import Derived.Test.YtbhlmkgliflhaaaGreatQttd
set_option linter.unusedVariables false
set_option linter.unusedSectionVars false
set_option linter.unusedSimpArgs false
namespace Go.Proofs.YtbhlmkgliflhaaaGreat
open Go.RowKit
set_option maxRecDepth 100000
abbrev lM5 (n : Int) : Pt := .lit (.int .i64 n)
abbrev vM5 [W : InW] (n : Int) : AV := .v (.int .i64 n)
abbrev Xpq : Nat × PI := (10, .row 116 11 6 [lM5 0, lM5 0, lM5 0, lM5 0, lM5 0, lM5 33, lM5 2, lM5 0, lM5 0, lM5 0, lM5 0, lM5 0, lM5 0, lM5 1, lM5 0, lM5 0, lM5 34, lM5 1, lM5 0, lM5 0, lM5 0, lM5 0, lM5 0, lM5 0, lM5 1, lM5 1, lM5 0, lM5 34, lM5 1, lM5 0, lM5 0, lM5 0, lM5 0, lM5 1, lM5 5, lM5 0, lM5 0, lM5 0, lM5 0, lM5 0, lM5 0, lM5 0, lM5 0, lM5 0, lM5 3, lM5 35, lM5 0, lM5 0, lM5 1, lM5 0, lM5 0, lM5 0, lM5 0, lM5 150, lM5 0, lM5 5, lM5 36, lM5 0, lM5 0, lM5 1, lM5 0, lM5 0, lM5 0, lM5 0, lM5 0, lM5 50000])
abbrev Xpp : Nat × PI := (10, .row 116 11 5 [lM5 0, lM5 0, lM5 0, lM5 0, lM5 0, lM5 33, lM5 2, lM5 0, lM5 0, lM5 0, lM5 0, lM5 0, lM5 0, lM5 1, lM5 0, lM5 0, lM5 34, lM5 1, lM5 0, lM5 0, lM5 0, lM5 0, lM5 0, lM5 0, lM5 1, lM5 1, lM5 0, lM5 34, lM5 1, lM5 0, lM5 0, lM5 0, lM5 0, lM5 2, lM5 4, lM5 0, lM5 0, lM5 0, lM5 0, lM5 0, lM5 1, lM5 1, lM5 0, lM5 0, lM5 1, lM5 5, lM5 0, lM5 0, lM5 0, lM5 0, lM5 0, lM5 0, lM5 0, lM5 0, lM5 0])
abbrev Xlo : Nat × PI := (10, .row 116 11 4 [lM5 0, lM5 0, lM5 0, lM5 0, lM5 0, lM5 33, lM5 2, lM5 0, lM5 0, lM5 0, lM5 0, lM5 0, lM5 0, lM5 1, lM5 0, lM5 0, lM5 34, lM5 1, lM5 0, lM5 0, lM5 0, lM5 0, lM5 0, lM5 0, lM5 1, lM5 1, lM5 0, lM5 34, lM5 1, lM5 0, lM5 0, lM5 0, lM5 0, lM5 1, lM5 5, lM5 0, lM5 0, lM5 0, lM5 0, lM5 0, lM5 0, lM5 0, lM5 0, lM5 0])
abbrev Xb6 : Nat × PI := (4, .row 119 4 2 [.lit (Value.string { data := { toList := [ 109 , 105 , 110 , 105 ] } }), lM5 0, lM5 100, lM5 2, .lit (Value.string { data := { toList := [ 118 , 97 , 110 ] } }), lM5 500, lM5 200, lM5 0])
abbrev Xcf : Nat × PI := (7, .row 119 4 2 [.lit (Value.string { data := { toList := [ 109 , 105 , 110 , 105 ] } }), lM5 0, lM5 100, lM5 2, .lit (Value.string { data := { toList := [ 118 , 97 , 110 ] } }), lM5 500, lM5 200, lM5 0])
abbrev Xu8 : Nat × PI := (1, .blk 63 [.sl 4 0 0 2, .sl 7 0 0 2, lM5 4000, lM5 30000, lM5 8, lM5 20, .sl 10 0 0 2, .sl 13 0 0 1, .sl 16 0 0 2, .sl 19 0 0 2, .sl 22 0 0 6, .mp 25, .lit (Value.slice none 0 0), lM5 0, lM5 1])
abbrev Xu7 : Nat × PI := (1, .blk 63 [.sl 4 0 0 2, .sl 7 0 0 2, lM5 4000, lM5 30000, lM5 8, lM5 20, .sl 10 0 0 2, .sl 13 0 0 2, .sl 16 0 0 2, .sl 19 0 0 2, .sl 22 0 0 6, .mp 25, .lit (Value.slice none 0 0), lM5 0, lM5 2])
abbrev Xu6 : Nat × PI := (1, .blk 63 [.sl 4 0 0 2, .sl 7 0 0 2, lM5 4000, lM5 30000, lM5 8, lM5 20, .sl 10 0 0 2, .sl 13 0 0 2, .sl 16 0 0 2, .sl 19 0 0 2, .sl 22 0 0 6, .mp 25, .lit (Value.slice none 0 0), lM5 4, lM5 3])
abbrev Xb5 : Nat × PI := (1, .row 9 1 2 [.lit (Value.string { data := { toList := [ 97 , 110 , 110 ] } }), .lit (Value.string { data := { toList := [ 98 , 101 , 110 ] } })])
abbrev Xce : Nat × PI := (4, .row 9 1 2 [.lit (Value.string { data := { toList := [ 97 , 110 , 110 ] } }), .lit (Value.string { data := { toList := [ 98 , 101 , 110 ] } })])
abbrev Xro : Nat × PI := (22, .row 3 1 6 [lM5 (Int.negSucc 3999), lM5 (Int.negSucc 3999), lM5 8000, lM5 0, lM5 0, lM5 0])
abbrev Xrn : Nat × PI := (13, .row 51 5 2 [lM5 0, lM5 0, lM5 33, lM5 2, lM5 0, lM5 1, lM5 1, lM5 34, lM5 1, lM5 0])
abbrev Xrm : Nat × PI := (13, .row 51 5 2 [lM5 0, lM5 0, lM5 33, lM5 2, lM5 1, lM5 1, lM5 1, lM5 34, lM5 1, lM5 0])
abbrev Xrl : Nat × PI := (13, .row 51 5 2 [lM5 0, lM5 0, lM5 33, lM5 2, lM5 1, lM5 1, lM5 1, lM5 34, lM5 1, lM5 2])
abbrev Xrk : Nat × PI := (13, .row 51 5 2 [lM5 0, lM5 0, lM5 57, lM5 2, lM5 0, lM5 1, lM5 1, lM5 34, lM5 1, lM5 0])
abbrev Xrj : Nat × PI := (22, .row 3 1 6 [lM5 (Int.negSucc 3999), lM5 0, lM5 4000, lM5 0, lM5 0, lM5 0])
def xsM5 [W : InW] (c : CC) : List AV := match insL c.args [] with | some x => x.1 | none => []
def ysM5 [W : InW] (c : CC) : Heap := match insH c.H [] with | some x => x.1 | none => []
def Xbg : CC where
 g := 60
 args := [.agg [.sl 1 0 0 2, .sl 4 0 0 2, lM5 4000, lM5 30000, lM5 8, lM5 20, .sl 7 0 0 2]]
 H := [Xb5, Xb6, (7, .row 74 2 2 [lM5 48, lM5 0, lM5 24, lM5 500])]
 outs := [⟨false, .tup [lM5 0, lM5 0, lM5 0], [Xb5, Xb6, (7, .row 74 2 2 [lM5 48, lM5 0, lM5 24, lM5 500])], false⟩]
 spec := fun _ K => K 0 []
noncomputable def Xk6 : Tab Tryz.prog := ⟨[], [], []⟩
theorem Xo7 (W : InW) (K : Nat -> List Ed -> Prop) : Yvm (cxT Tryz.prog TT Xk6 1000 50) 1000 60 (xsM5 Xbg) (ysM5 Xbg) (fun v h => outC Xbg.H [] Xbg.outs 0 false v h K) (fun v h => outC Xbg.H [] Xbg.outs 0 true v h K) = K 0 [] := by kernel_rfl
theorem Xql : ∀ W : InW, @CallC W Tryz.prog Xbg :=
 CC.okOf (fun W => @TT W) (fun W => @Xb W) Xa Xk6 1000 50 Xbg fun W K h => (Xo7 W K).mpr h
noncomputable def Xc : CE Tryz.prog := ceOf Xbg Xql
def Xbf : CC where
 g := 30
 args := [.agg [.sl 1 0 0 2, .sl 4 0 0 2, lM5 4000, lM5 30000, lM5 8, lM5 20, .sl 7 0 0 2], lM5 2, lM5 28]
 H := [Xb5, Xb6, (7, .row 74 2 2 [lM5 48, lM5 0, lM5 24, lM5 500])]
 outs := [⟨false, .tup [lM5 4000, lM5 0], [Xb5, Xb6, (7, .row 74 2 2 [lM5 48, lM5 0, lM5 24, lM5 500])], false⟩]
 spec := fun _ K => K 0 []
noncomputable def Xk5 : Tab Tryz.prog := ⟨[], [], [Xc]⟩
theorem Xo6 (W : InW) (K : Nat -> List Ed -> Prop) : Yvm (cxT Tryz.prog TT Xk5 1000 50) 1000 30 (xsM5 Xbf) (ysM5 Xbf) (fun v h => outC Xbf.H [] Xbf.outs 0 false v h K) (fun v h => outC Xbf.H [] Xbf.outs 0 true v h K) = K 0 [] := by kernel_rfl
theorem Xqk : ∀ W : InW, @CallC W Tryz.prog Xbf :=
 CC.okOf (fun W => @TT W) (fun W => @Xb W) Xa Xk5 1000 50 Xbf fun W K h => (Xo6 W K).mpr h
noncomputable def Xd : CE Tryz.prog := ceOf Xbf Xqk
def Xbe : CC where
 g := 46
 args := [.ptr 1 0, lM5 0, .agg [lM5 0, lM5 0, lM5 0, lM5 0, lM5 0, lM5 33, lM5 2, lM5 0, lM5 0, lM5 0, lM5 0]]
 H := [(1, .blk 63 [.sl 4 0 0 2, .sl 7 0 0 2, lM5 4000, lM5 30000, lM5 8, lM5 20, .sl 10 0 0 2, .lit (Value.slice none 0 0), .sl 13 0 0 2, .sl 16 0 0 2, .sl 19 0 0 6, .mp 22, .lit (Value.slice none 0 0), lM5 0, lM5 0]), Xce, Xcf, (10, .row 74 2 2 [lM5 48, lM5 0, lM5 24, lM5 500]), (13, .row 3 1 2 [lM5 0, lM5 500]), (16, .row 3 1 2 [lM5 0, lM5 0]), (19, .row 3 1 6 [lM5 0, lM5 0, lM5 0, lM5 0, lM5 0, lM5 0]), (22, .obj (OI.mpV [] 0))]
 outs := [⟨false, lM5 0, [(1, .blk 63 [.sl 4 0 0 2, .sl 7 0 0 2, lM5 4000, lM5 30000, lM5 8, lM5 20, .sl 10 0 0 2, .sl 6 0 0 1, .sl 13 0 0 2, .sl 16 0 0 2, .sl 19 0 0 6, .mp 22, .lit (Value.slice none 0 0), lM5 0, lM5 0]), Xce, Xcf, (10, .row 74 2 2 [lM5 48, lM5 0, lM5 24, lM5 500]), (13, .row 3 1 2 [lM5 0, lM5 500]), (16, .row 3 1 2 [lM5 0, lM5 0]), (19, .row 3 1 6 [lM5 0, lM5 0, lM5 0, lM5 0, lM5 0, lM5 0]), (22, .obj (OI.mpV [] 0)), (6, .row 51 5 1 [lM5 0, lM5 0, lM5 33, lM5 2, lM5 0])], false⟩]
 spec := fun _ K => K 0 []
noncomputable def Xk4 : Tab Tryz.prog := ⟨[], [], [Xd, Xc]⟩
theorem Xo5 (W : InW) (K : Nat -> List Ed -> Prop) : Yvm (cxT Tryz.prog TT Xk4 1000 50) 1000 46 (xsM5 Xbe) (ysM5 Xbe) (fun v h => outC Xbe.H [] Xbe.outs 0 false v h K) (fun v h => outC Xbe.H [] Xbe.outs 0 true v h K) = K 0 [] := by kernel_rfl
theorem Xqj : ∀ W : InW, @CallC W Tryz.prog Xbe :=
 CC.okOf (fun W => @TT W) (fun W => @Xb W) Xa Xk4 1000 50 Xbe fun W K h => (Xo5 W K).mpr h
noncomputable def Xe : CE Tryz.prog := ceOf Xbe Xqj
def Xbd : CC where
 g := 46
 args := [.ptr 1 0, lM5 1, .agg [lM5 0, lM5 0, lM5 1, lM5 0, lM5 0, lM5 34, lM5 1, lM5 0, lM5 0, lM5 0, lM5 0]]
 H := [(1, .blk 63 [.sl 4 0 0 2, .sl 7 0 0 2, lM5 4000, lM5 30000, lM5 8, lM5 20, .sl 10 0 0 2, .sl 13 0 0 1, .sl 16 0 0 2, .sl 19 0 0 2, .sl 22 0 0 6, .mp 25, .lit (Value.slice none 0 0), lM5 0, lM5 0]), Xce, Xcf, (10, .row 74 2 2 [lM5 48, lM5 0, lM5 24, lM5 500]), (13, .row 51 5 1 [lM5 0, lM5 0, lM5 33, lM5 2, lM5 0]), (16, .row 3 1 2 [lM5 0, lM5 500]), (19, .row 3 1 2 [lM5 0, lM5 0]), (22, .row 3 1 6 [lM5 0, lM5 0, lM5 0, lM5 0, lM5 0, lM5 0]), (25, .obj (OI.mpV [] 0))]
 outs := [⟨false, lM5 5, [Xu8, Xce, Xcf, (10, .row 74 2 2 [lM5 48, lM5 0, lM5 24, lM5 500]), (13, .row 51 5 1 [lM5 0, lM5 0, lM5 33, lM5 2, lM5 0]), (16, .row 3 1 2 [lM5 0, lM5 500]), (19, .row 3 1 2 [lM5 0, lM5 0]), (22, .row 3 1 6 [lM5 0, lM5 0, lM5 0, lM5 0, lM5 0, lM5 0]), (25, .obj (OI.mpV [] 0))], false⟩]
 spec := fun _ K => K 0 []
noncomputable def Xk3 : Tab Tryz.prog := ⟨[], [], [Xe, Xd, Xc]⟩
theorem Xo4 (W : InW) (K : Nat -> List Ed -> Prop) : Yvm (cxT Tryz.prog TT Xk3 1000 50) 1000 46 (xsM5 Xbd) (ysM5 Xbd) (fun v h => outC Xbd.H [] Xbd.outs 0 false v h K) (fun v h => outC Xbd.H [] Xbd.outs 0 true v h K) = K 0 [] := by kernel_rfl
theorem Xqi : ∀ W : InW, @CallC W Tryz.prog Xbd :=
 CC.okOf (fun W => @TT W) (fun W => @Xb W) Xa Xk3 1000 50 Xbd fun W K h => (Xo4 W K).mpr h
noncomputable def Xf : CE Tryz.prog := ceOf Xbd Xqi
def Xbc : CC where
 g := 46
 args := [.ptr 1 0, lM5 2, .agg [lM5 0, lM5 0, lM5 1, lM5 1, lM5 0, lM5 34, lM5 1, lM5 0, lM5 0, lM5 0, lM5 0]]
 H := [Xu8, Xce, Xcf, (10, .row 74 2 2 [lM5 48, lM5 0, lM5 24, lM5 500]), (13, .row 51 5 1 [lM5 0, lM5 0, lM5 33, lM5 2, lM5 0]), (16, .row 3 1 2 [lM5 0, lM5 500]), (19, .row 3 1 2 [lM5 0, lM5 0]), (22, .row 3 1 6 [lM5 0, lM5 0, lM5 0, lM5 0, lM5 0, lM5 0]), (25, .obj (OI.mpV [] 0))]
 outs := [⟨false, lM5 0, [(1, .blk 63 [.sl 4 0 0 2, .sl 7 0 0 2, lM5 4000, lM5 30000, lM5 8, lM5 20, .sl 10 0 0 2, .sl 6 0 0 2, .sl 16 0 0 2, .sl 19 0 0 2, .sl 22 0 0 6, .mp 25, .lit (Value.slice none 0 0), lM5 0, lM5 2]), Xce, Xcf, (10, .row 74 2 2 [lM5 48, lM5 0, lM5 24, lM5 500]), (16, .row 3 1 2 [lM5 0, lM5 500]), (19, .row 3 1 2 [lM5 0, lM5 0]), (22, .row 3 1 6 [lM5 0, lM5 0, lM5 0, lM5 0, lM5 0, lM5 0]), (25, .obj (OI.mpV [] 0)), (6, .row 51 5 2 [lM5 0, lM5 0, lM5 33, lM5 2, lM5 0, lM5 1, lM5 1, lM5 34, lM5 1, lM5 0])], false⟩]
 spec := fun _ K => K 0 []
noncomputable def Xk2 : Tab Tryz.prog := ⟨[], [], [Xf, Xe, Xd, Xc]⟩
theorem Xo3 (W : InW) (K : Nat -> List Ed -> Prop) : Yvm (cxT Tryz.prog TT Xk2 1000 50) 1000 46 (xsM5 Xbc) (ysM5 Xbc) (fun v h => outC Xbc.H [] Xbc.outs 0 false v h K) (fun v h => outC Xbc.H [] Xbc.outs 0 true v h K) = K 0 [] := by kernel_rfl
theorem Xqh : ∀ W : InW, @CallC W Tryz.prog Xbc :=
 CC.okOf (fun W => @TT W) (fun W => @Xb W) Xa Xk2 1000 50 Xbc fun W K h => (Xo3 W K).mpr h
noncomputable def Xg : CE Tryz.prog := ceOf Xbc Xqh
def Xbb : CC where
 g := 46
 args := [.ptr 1 0, lM5 3, .agg [lM5 1, lM5 5, lM5 0, lM5 0, lM5 0, lM5 0, lM5 0, lM5 0, lM5 0, lM5 0, lM5 0]]
 H := [Xu7, Xce, Xcf, (10, .row 74 2 2 [lM5 48, lM5 0, lM5 24, lM5 500]), Xrn, (16, .row 3 1 2 [lM5 0, lM5 500]), (19, .row 3 1 2 [lM5 0, lM5 0]), (22, .row 3 1 6 [lM5 0, lM5 0, lM5 0, lM5 0, lM5 0, lM5 0]), (25, .obj (OI.mpV [] 0))]
 outs := [⟨false, lM5 0, [(1, .blk 63 [.sl 4 0 0 2, .sl 7 0 0 2, lM5 4000, lM5 30000, lM5 8, lM5 20, .sl 10 0 0 2, .sl 13 0 0 2, .sl 16 0 0 2, .sl 19 0 0 2, .sl 22 0 0 6, .mp 25, .sl 6 0 0 1, lM5 5, lM5 3]), Xce, Xcf, (10, .row 74 2 2 [lM5 48, lM5 0, lM5 24, lM5 500]), Xrm, (16, .row 3 1 2 [lM5 0, lM5 500]), (19, .row 3 1 2 [lM5 0, lM5 0]), Xrj, (25, .obj (OI.mpV [] 0)), (6, .row 104 4 1 [lM5 3, lM5 0, .lit (.int .i64 ↑2), lM5 4000])], false⟩]
 spec := fun _ K => K 0 []
noncomputable def Xk1 : Tab Tryz.prog := ⟨[], [], [Xg, Xf, Xe, Xd, Xc]⟩
theorem Xo2 (W : InW) (K : Nat -> List Ed -> Prop) : Yvm (cxT Tryz.prog TT Xk1 1000 50) 1000 46 (xsM5 Xbb) (ysM5 Xbb) (fun v h => outC Xbb.H [] Xbb.outs 0 false v h K) (fun v h => outC Xbb.H [] Xbb.outs 0 true v h K) = K 0 [] := by kernel_rfl
theorem Xqg : ∀ W : InW, @CallC W Tryz.prog Xbb :=
 CC.okOf (fun W => @TT W) (fun W => @Xb W) Xa Xk1 1000 50 Xbb fun W K h => (Xo2 W K).mpr h
noncomputable def Xh : CE Tryz.prog := ceOf Xbb Xqg
def Xba : CC where
 g := 46
 args := [.ptr 1 0, lM5 4, .agg [lM5 3, lM5 35, lM5 0, lM5 0, lM5 1, lM5 0, lM5 0, lM5 0, lM5 0, lM5 150, lM5 0]]
 H := [(1, .blk 63 [.sl 4 0 0 2, .sl 7 0 0 2, lM5 4000, lM5 30000, lM5 8, lM5 20, .sl 10 0 0 2, .sl 13 0 0 2, .sl 16 0 0 2, .sl 19 0 0 2, .sl 22 0 0 6, .mp 25, .sl 28 0 0 1, lM5 5, lM5 3]), Xce, Xcf, (10, .row 74 2 2 [lM5 48, lM5 0, lM5 24, lM5 500]), Xrm, (16, .row 3 1 2 [lM5 0, lM5 500]), (19, .row 3 1 2 [lM5 0, lM5 0]), Xrj, (25, .obj (OI.mpV [] 0)), (28, .row 104 4 1 [lM5 3, lM5 0, lM5 2, lM5 4000])]
 outs := [⟨false, lM5 0, [(1, .blk 63 [.sl 4 0 0 2, .sl 7 0 0 2, lM5 4000, lM5 30000, lM5 8, lM5 20, .sl 10 0 0 2, .sl 13 0 0 2, .sl 16 0 0 2, .sl 19 0 0 2, .sl 22 0 0 6, .mp 25, .sl 6 0 0 2, lM5 35, lM5 4]), Xce, Xcf, (10, .row 74 2 2 [lM5 48, lM5 0, lM5 24, lM5 500]), Xrl, (16, .row 3 1 2 [lM5 0, lM5 650]), (19, .row 3 1 2 [lM5 0, lM5 150]), Xro, (25, .obj (OI.mpV [] 0)), (6, .row 104 4 2 [lM5 3, lM5 0, lM5 2, lM5 4000, lM5 4, lM5 1, .lit (.int .i64 ↑2), lM5 4000])], false⟩]
 spec := fun _ K => K 0 []
noncomputable def Xk0 : Tab Tryz.prog := ⟨[], [], [Xh, Xg, Xf, Xe, Xd, Xc]⟩
theorem Xo1 (W : InW) (K : Nat -> List Ed -> Prop) : Yvm (cxT Tryz.prog TT Xk0 1000 50) 1000 46 (xsM5 Xba) (ysM5 Xba) (fun v h => outC Xba.H [] Xba.outs 0 false v h K) (fun v h => outC Xba.H [] Xba.outs 0 true v h K) = K 0 [] := by kernel_rfl
theorem Xqf : ∀ W : InW, @CallC W Tryz.prog Xba :=
 CC.okOf (fun W => @TT W) (fun W => @Xb W) Xa Xk0 1000 50 Xba fun W K h => (Xo1 W K).mpr h
noncomputable def Xi : CE Tryz.prog := ceOf Xba Xqf
def X9 : CC where
 g := 46
 args := [.ptr 1 0, lM5 5, .agg [lM5 5, lM5 36, lM5 0, lM5 0, lM5 1, lM5 0, lM5 0, lM5 0, lM5 0, lM5 0, lM5 50000]]
 H := [(1, .blk 63 [.sl 4 0 0 2, .sl 7 0 0 2, lM5 4000, lM5 30000, lM5 8, lM5 20, .sl 10 0 0 2, .sl 13 0 0 2, .sl 16 0 0 2, .sl 19 0 0 2, .sl 22 0 0 6, .mp 25, .sl 28 0 0 2, lM5 35, lM5 4]), Xce, Xcf, (10, .row 74 2 2 [lM5 48, lM5 0, lM5 24, lM5 500]), Xrl, (16, .row 3 1 2 [lM5 0, lM5 650]), (19, .row 3 1 2 [lM5 0, lM5 150]), Xro, (25, .obj (OI.mpV [] 0)), (28, .row 104 4 2 [lM5 3, lM5 0, lM5 2, lM5 4000, lM5 4, lM5 1, lM5 2, lM5 4000])]
 outs := [⟨false, lM5 0, [(1, .blk 63 [.sl 4 0 0 2, .sl 7 0 0 2, lM5 4000, lM5 30000, lM5 8, lM5 20, .sl 10 0 0 2, .sl 13 0 0 2, .sl 16 0 0 2, .sl 19 0 0 2, .sl 22 0 0 6, .mp 25, .sl 6 0 0 4, lM5 36, lM5 5]), Xce, Xcf, (10, .row 74 2 2 [lM5 48, lM5 0, lM5 24, lM5 500]), (13, .row 51 5 2 [lM5 0, lM5 0, lM5 33, lM5 2, lM5 1, lM5 1, lM5 1, lM5 34, lM5 1, lM5 3]), (16, .row 3 1 2 [lM5 0, lM5 650]), (19, .row 3 1 2 [lM5 0, lM5 150]), (22, .row 3 1 6 [lM5 (Int.negSucc 3999), lM5 (Int.negSucc 3999), lM5 (Int.negSucc 21999), lM5 50000, lM5 (Int.negSucc 19999), lM5 0]), (25, .obj (OI.mpV [] 0)), (6, .row 104 4 4 [lM5 3, lM5 0, lM5 2, lM5 4000, lM5 4, lM5 1, lM5 2, lM5 4000, lM5 5, .lit (.int .i64 ↑2), lM5 3, lM5 30000, lM5 5, lM5 4, lM5 3, lM5 20000])], false⟩]
 spec := fun _ K => K 0 []
noncomputable def Xkz : Tab Tryz.prog := ⟨[], [], [Xi, Xh, Xg, Xf, Xe, Xd, Xc]⟩
theorem Xo0 (W : InW) (K : Nat -> List Ed -> Prop) : Yvm (cxT Tryz.prog TT Xkz 1000 50) 1000 46 (xsM5 X9) (ysM5 X9) (fun v h => outC X9.H [] X9.outs 0 false v h K) (fun v h => outC X9.H [] X9.outs 0 true v h K) = K 0 [] := by kernel_rfl
theorem Xqe : ∀ W : InW, @CallC W Tryz.prog X9 :=
 CC.okOf (fun W => @TT W) (fun W => @Xb W) Xa Xkz 1000 50 X9 fun W K h => (Xo0 W K).mpr h
noncomputable def Xk : CE Tryz.prog := ceOf X9 Xqe
def X8 : CC where
 g := 10
 args := [.agg [.sl 1 0 0 2, .sl 4 0 0 2, lM5 4000, lM5 30000, lM5 8, lM5 20, .sl 7 0 0 2], .sl 10 0 0 6]
 H := [Xb5, Xb6, (7, .row 74 2 2 [lM5 48, lM5 0, lM5 24, lM5 500]), Xpq]
 outs := [⟨false, .tup [.ptr 6 0, .sl 9 0 0 6, lM5 0], [Xb5, Xb6, (7, .row 74 2 2 [lM5 48, lM5 0, lM5 24, lM5 500]), Xpq, (6, .blk 63 [.sl 1 0 0 2, .sl 4 0 0 2, lM5 4000, lM5 30000, lM5 8, lM5 20, .sl 7 0 0 2, .sl 12 0 0 2, .sl 15 0 0 2, .sl 18 0 0 2, .sl 21 0 0 6, .mp 24, .sl 27 0 0 4, lM5 36, lM5 5]), (9, .row 41 1 6 [lM5 0, lM5 5, lM5 0, lM5 0, lM5 0, lM5 0]), (12, .row 51 5 2 [lM5 0, lM5 0, lM5 33, lM5 2, lM5 1, lM5 1, lM5 1, lM5 34, lM5 1, lM5 3]), (15, .row 3 1 2 [lM5 0, lM5 650]), (18, .row 3 1 2 [lM5 0, lM5 150]), (21, .row 3 1 6 [lM5 (Int.negSucc 3999), lM5 (Int.negSucc 3999), lM5 (Int.negSucc 21999), lM5 50000, lM5 (Int.negSucc 19999), lM5 0]), (24, .obj (OI.mpV [] 0)), (27, .row 104 4 4 [lM5 3, lM5 0, lM5 2, lM5 4000, lM5 4, lM5 1, lM5 2, lM5 4000, lM5 5, lM5 2, lM5 3, lM5 30000, lM5 5, lM5 4, lM5 3, lM5 20000])], false⟩]
 spec := fun _ K => K 0 []
noncomputable def Xky : Tab Tryz.prog := ⟨[], [], [Xk, Xi, Xh, Xg, Xf, Xe, Xd, Xc]⟩
theorem Xoz (W : InW) (K : Nat -> List Ed -> Prop) : Yvm (cxT Tryz.prog TT Xky 1000 50) 1000 10 (xsM5 X8) (ysM5 X8) (fun v h => outC X8.H [] X8.outs 0 false v h K) (fun v h => outC X8.H [] X8.outs 0 true v h K) = K 0 [] := by kernel_rfl
theorem Xqd : ∀ W : InW, @CallC W Tryz.prog X8 :=
 CC.okOf (fun W => @TT W) (fun W => @Xb W) Xa Xky 1000 50 X8 fun W K h => (Xoz W K).mpr h
noncomputable def Xp : CE Tryz.prog := ceOf X8 Xqd
def X1 : CC where
 g := 4
 args := [.agg [.sl 1 0 0 2, .sl 4 0 0 2, lM5 4000, lM5 30000, lM5 8, lM5 20, .sl 7 0 0 2], .sl 10 0 0 6]
 H := [Xb5, Xb6, (7, .row 74 2 2 [lM5 48, lM5 0, lM5 24, lM5 500]), Xpq]
 outs := [⟨false, .tup [.sl 6 0 0 6, .agg [.sl 9 0 0 2, .sl 12 0 0 2, .sl 15 0 0 2, .sl 18 0 0 6], lM5 0], [Xb5, Xb6, (7, .row 74 2 2 [lM5 48, lM5 0, lM5 24, lM5 500]), Xpq, (6, .row 41 1 6 [lM5 0, lM5 5, lM5 0, lM5 0, lM5 0, lM5 0]), (9, .row 51 5 2 [lM5 0, lM5 0, lM5 33, lM5 2, lM5 1, lM5 1, lM5 1, lM5 34, lM5 1, lM5 3]), (12, .row 3 1 2 [lM5 0, lM5 650]), (15, .row 3 1 2 [lM5 0, lM5 150]), (18, .row 3 1 6 [lM5 (Int.negSucc 3999), lM5 (Int.negSucc 3999), lM5 (Int.negSucc 21999), lM5 50000, lM5 (Int.negSucc 19999), lM5 0])], false⟩]
 spec := fun _ K => K 0 []
noncomputable def Xg9 : Tab Tryz.prog := ⟨[], [], [Xp, Xk, Xi, Xh, Xg, Xf, Xe, Xd, Xc]⟩
theorem Xma (W : InW) (K : Nat -> List Ed -> Prop) : Yvm (cxT Tryz.prog TT Xg9 1000 50) 1000 4 (xsM5 X1) (ysM5 X1) (fun v h => outC X1.H [] X1.outs 0 false v h K) (fun v h => outC X1.H [] X1.outs 0 true v h K) = K 0 [] := by kernel_rfl
theorem Xnh : ∀ W : InW, @CallC W Tryz.prog X1 :=
 CC.okOf (fun W => @TT W) (fun W => @Xb W) Xa Xg9 1000 50 X1 fun W K h => (Xma W K).mpr h
noncomputable def Xj : CE Tryz.prog := ceOf X1 Xnh
def X0 : CC where
 g := 10
 args := [.agg [.sl 1 0 0 2, .sl 4 0 0 2, lM5 4000, lM5 30000, lM5 8, lM5 20, .sl 7 0 0 2], .sl 10 0 0 4]
 H := [Xb5, Xb6, (7, .row 74 2 2 [lM5 48, lM5 0, lM5 24, lM5 500]), Xlo]
 outs := [⟨false, .tup [.ptr 6 0, .sl 9 0 0 4, lM5 0], [Xb5, Xb6, (7, .row 74 2 2 [lM5 48, lM5 0, lM5 24, lM5 500]), Xlo, (6, .blk 63 [.sl 1 0 0 2, .sl 4 0 0 2, lM5 4000, lM5 30000, lM5 8, lM5 20, .sl 7 0 0 2, .sl 12 0 0 2, .sl 15 0 0 2, .sl 18 0 0 2, .sl 21 0 0 6, .mp 24, .sl 27 0 0 1, lM5 5, lM5 3]), (9, .row 41 1 4 [lM5 0, lM5 5, lM5 0, lM5 0]), (12, .row 51 5 2 [lM5 0, lM5 0, lM5 33, lM5 2, lM5 1, lM5 1, lM5 1, lM5 34, lM5 1, lM5 0]), (15, .row 3 1 2 [lM5 0, lM5 500]), (18, .row 3 1 2 [lM5 0, lM5 0]), (21, .row 3 1 6 [lM5 (Int.negSucc 3999), lM5 0, lM5 4000, lM5 0, lM5 0, lM5 0]), (24, .obj (OI.mpV [] 0)), (27, .row 104 4 1 [lM5 3, lM5 0, lM5 2, lM5 4000])], false⟩]
 spec := fun _ K => K 0 []
noncomputable def Xg8 : Tab Tryz.prog := ⟨[], [], [Xj, Xp, Xk, Xi, Xh, Xg, Xf, Xe, Xd, Xc]⟩
theorem Xl9 (W : InW) (K : Nat -> List Ed -> Prop) : Yvm (cxT Tryz.prog TT Xg8 1000 50) 1000 10 (xsM5 X0) (ysM5 X0) (fun v h => outC X0.H [] X0.outs 0 false v h K) (fun v h => outC X0.H [] X0.outs 0 true v h K) = K 0 [] := by kernel_rfl
theorem Xng : ∀ W : InW, @CallC W Tryz.prog X0 :=
 CC.okOf (fun W => @TT W) (fun W => @Xb W) Xa Xg8 1000 50 X0 fun W K h => (Xl9 W K).mpr h
noncomputable def Xq : CE Tryz.prog := ceOf X0 Xng
def Xz : CC where
 g := 33
 args := [.agg [.sl 1 0 0 2, .sl 4 0 0 2, lM5 4000, lM5 30000, lM5 8, lM5 20, .sl 7 0 0 2], .sl 10 0 0 4]
 H := [Xb5, Xb6, (7, .row 74 2 2 [lM5 48, lM5 0, lM5 24, lM5 500]), Xlo]
 outs := [⟨false, .tup [.sl 6 0 0 1, lM5 0], [Xb5, Xb6, (7, .row 74 2 2 [lM5 48, lM5 0, lM5 24, lM5 500]), Xlo, (6, .row 104 4 1 [lM5 3, lM5 0, lM5 2, lM5 4000])], false⟩]
 spec := fun _ K => K 0 []
noncomputable def Xg7 : Tab Tryz.prog := ⟨[], [], [Xq, Xj, Xp, Xk, Xi, Xh, Xg, Xf, Xe, Xd, Xc]⟩
theorem Xl8 (W : InW) (K : Nat -> List Ed -> Prop) : Yvm (cxT Tryz.prog TT Xg7 1000 50) 1000 33 (xsM5 Xz) (ysM5 Xz) (fun v h => outC Xz.H [] Xz.outs 0 false v h K) (fun v h => outC Xz.H [] Xz.outs 0 true v h K) = K 0 [] := by kernel_rfl
theorem Xnf : ∀ W : InW, @CallC W Tryz.prog Xz :=
 CC.okOf (fun W => @TT W) (fun W => @Xb W) Xa Xg7 1000 50 Xz fun W K h => (Xl8 W K).mpr h
noncomputable def X3 : CE Tryz.prog := ceOf Xz Xnf
def Xy : CC where
 g := 35
 args := [.agg [.sl 1 0 0 2, .sl 4 0 0 2, lM5 4000, lM5 30000, lM5 8, lM5 20, .sl 7 0 0 2], .sl 10 0 0 4, lM5 1, lM5 0, lM5 43, lM5 2]
 H := [Xb5, Xb6, (7, .row 74 2 2 [lM5 48, lM5 0, lM5 24, lM5 500]), Xlo]
 outs := [⟨false, .tup [lM5 56, lM5 0], [Xb5, Xb6, (7, .row 74 2 2 [lM5 48, lM5 0, lM5 24, lM5 500]), Xlo], false⟩]
 spec := fun _ K => K 0 []
noncomputable def Xg6 : Tab Tryz.prog := ⟨[], [], [X3, Xq, Xj, Xp, Xk, Xi, Xh, Xg, Xf, Xe, Xd, Xc]⟩
theorem Xl7 (W : InW) (K : Nat -> List Ed -> Prop) : Yvm (cxT Tryz.prog TT Xg6 1000 50) 1000 35 (xsM5 Xy) (ysM5 Xy) (fun v h => outC Xy.H [] Xy.outs 0 false v h K) (fun v h => outC Xy.H [] Xy.outs 0 true v h K) = K 0 [] := by kernel_rfl
theorem Xne : ∀ W : InW, @CallC W Tryz.prog Xy :=
 CC.okOf (fun W => @TT W) (fun W => @Xb W) Xa Xg6 1000 50 Xy fun W K h => (Xl7 W K).mpr h
noncomputable def Xbr : CE Tryz.prog := ceOf Xy Xne
def Xx : CC where
 g := 46
 args := [.ptr 1 0, lM5 3, .agg [lM5 2, lM5 4, lM5 0, lM5 0, lM5 0, lM5 0, lM5 0, lM5 1, lM5 1, lM5 0, lM5 0]]
 H := [Xu7, Xce, Xcf, (10, .row 74 2 2 [lM5 48, lM5 0, lM5 24, lM5 500]), Xrn, (16, .row 3 1 2 [lM5 0, lM5 500]), (19, .row 3 1 2 [lM5 0, lM5 0]), (22, .row 3 1 6 [lM5 0, lM5 0, lM5 0, lM5 0, lM5 0, lM5 0]), (25, .obj (OI.mpV [] 0))]
 outs := [⟨false, lM5 0, [Xu6, Xce, Xcf, (10, .row 74 2 2 [lM5 48, lM5 0, lM5 24, lM5 500]), Xrk, (16, .row 3 1 2 [lM5 0, lM5 500]), (19, .row 3 1 2 [lM5 0, lM5 0]), (22, .row 3 1 6 [lM5 0, lM5 0, lM5 0, lM5 0, lM5 0, lM5 0]), (25, .obj (OI.mpV [{ key := .int .i64 1 , val := .int .i64 ( Int.ofNat ( 1 + 1 ) ) , born := 0 }] 1))], false⟩]
 spec := fun _ K => K 0 []
noncomputable def Xg5 : Tab Tryz.prog := ⟨[], [], [Xbr, X3, Xq, Xj, Xp, Xk, Xi, Xh, Xg, Xf, Xe, Xd, Xc]⟩
theorem Xl6 (W : InW) (K : Nat -> List Ed -> Prop) : Yvm (cxT Tryz.prog TT Xg5 1000 50) 1000 46 (xsM5 Xx) (ysM5 Xx) (fun v h => outC Xx.H [] Xx.outs 0 false v h K) (fun v h => outC Xx.H [] Xx.outs 0 true v h K) = K 0 [] := by kernel_rfl
theorem Xnd : ∀ W : InW, @CallC W Tryz.prog Xx :=
 CC.okOf (fun W => @TT W) (fun W => @Xb W) Xa Xg5 1000 50 Xx fun W K h => (Xl6 W K).mpr h
noncomputable def Xbz : CE Tryz.prog := ceOf Xx Xnd
def Xw : CC where
 g := 46
 args := [.ptr 1 0, lM5 4, .agg [lM5 1, lM5 5, lM5 0, lM5 0, lM5 0, lM5 0, lM5 0, lM5 0, lM5 0, lM5 0, lM5 0]]
 H := [Xu6, Xce, Xcf, (10, .row 74 2 2 [lM5 48, lM5 0, lM5 24, lM5 500]), Xrk, (16, .row 3 1 2 [lM5 0, lM5 500]), (19, .row 3 1 2 [lM5 0, lM5 0]), (22, .row 3 1 6 [lM5 0, lM5 0, lM5 0, lM5 0, lM5 0, lM5 0]), (25, .obj (OI.mpV [{ key := .int .i64 1 , val := .int .i64 ( Int.ofNat ( 1 + 1 ) ) , born := 0 }] 1))]
 outs := [⟨false, lM5 0, [(1, .blk 63 [.sl 4 0 0 2, .sl 7 0 0 2, lM5 4000, lM5 30000, lM5 8, lM5 20, .sl 10 0 0 2, .sl 13 0 0 2, .sl 16 0 0 2, .sl 19 0 0 2, .sl 22 0 0 6, .mp 25, .lit (Value.slice none 0 0), lM5 5, lM5 4]), Xce, Xcf, (10, .row 74 2 2 [lM5 48, lM5 0, lM5 24, lM5 500]), (13, .row 51 5 2 [lM5 0, lM5 0, lM5 57, lM5 2, lM5 1, lM5 1, lM5 1, lM5 34, lM5 1, lM5 0]), (16, .row 3 1 2 [lM5 0, lM5 500]), (19, .row 3 1 2 [lM5 0, lM5 0]), (22, .row 3 1 6 [lM5 0, lM5 0, lM5 0, lM5 0, lM5 0, lM5 0]), (25, .obj (OI.mpV [{ key := .int .i64 1 , val := .int .i64 ( Int.ofNat ( 1 + 1 ) ) , born := 0 }] 1))], false⟩]
 spec := fun _ K => K 0 []
noncomputable def Xg4 : Tab Tryz.prog := ⟨[], [], [Xbz, Xbr, X3, Xq, Xj, Xp, Xk, Xi, Xh, Xg, Xf, Xe, Xd, Xc]⟩
theorem Xl5 (W : InW) (K : Nat -> List Ed -> Prop) : Yvm (cxT Tryz.prog TT Xg4 1000 50) 1000 46 (xsM5 Xw) (ysM5 Xw) (fun v h => outC Xw.H [] Xw.outs 0 false v h K) (fun v h => outC Xw.H [] Xw.outs 0 true v h K) = K 0 [] := by kernel_rfl
theorem Xnc : ∀ W : InW, @CallC W Tryz.prog Xw :=
 CC.okOf (fun W => @TT W) (fun W => @Xb W) Xa Xg4 1000 50 Xw fun W K h => (Xl5 W K).mpr h
noncomputable def Xb7 : CE Tryz.prog := ceOf Xw Xnc
def Xv : CC where
 g := 10
 args := [.agg [.sl 1 0 0 2, .sl 4 0 0 2, lM5 4000, lM5 30000, lM5 8, lM5 20, .sl 7 0 0 2], .sl 10 0 0 5]
 H := [Xb5, Xb6, (7, .row 74 2 2 [lM5 48, lM5 0, lM5 24, lM5 500]), Xpp]
 outs := [⟨false, .tup [.ptr 6 0, .sl 9 0 0 5, lM5 0], [Xb5, Xb6, (7, .row 74 2 2 [lM5 48, lM5 0, lM5 24, lM5 500]), Xpp, (6, .blk 63 [.sl 1 0 0 2, .sl 4 0 0 2, lM5 4000, lM5 30000, lM5 8, lM5 20, .sl 7 0 0 2, .sl 12 0 0 2, .sl 15 0 0 2, .sl 18 0 0 2, .sl 21 0 0 6, .mp 24, .lit (Value.slice none 0 0), lM5 5, lM5 4]), (9, .row 41 1 5 [lM5 0, lM5 5, lM5 0, lM5 0, lM5 0]), (12, .row 51 5 2 [lM5 0, lM5 0, lM5 57, lM5 2, lM5 1, lM5 1, lM5 1, lM5 34, lM5 1, lM5 0]), (15, .row 3 1 2 [lM5 0, lM5 500]), (18, .row 3 1 2 [lM5 0, lM5 0]), (21, .row 3 1 6 [lM5 0, lM5 0, lM5 0, lM5 0, lM5 0, lM5 0]), (24, .obj (OI.mpV [{ key := .int .i64 1 , val := .int .i64 ( Int.ofNat ( 1 + 1 ) ) , born := 0 }] 1))], false⟩]
 spec := fun _ K => K 0 []
noncomputable def Xg3 : Tab Tryz.prog := ⟨[], [], [Xb7, Xbz, Xbr, X3, Xq, Xj, Xp, Xk, Xi, Xh, Xg, Xf, Xe, Xd, Xc]⟩
theorem Xl4 (W : InW) (K : Nat -> List Ed -> Prop) : Yvm (cxT Tryz.prog TT Xg3 1000 50) 1000 10 (xsM5 Xv) (ysM5 Xv) (fun v h => outC Xv.H [] Xv.outs 0 false v h K) (fun v h => outC Xv.H [] Xv.outs 0 true v h K) = K 0 [] := by kernel_rfl
theorem Xnb : ∀ W : InW, @CallC W Tryz.prog Xv :=
 CC.okOf (fun W => @TT W) (fun W => @Xb W) Xa Xg3 1000 50 Xv fun W K h => (Xl4 W K).mpr h
noncomputable def Xcs : CE Tryz.prog := ceOf Xv Xnb
def Xu : CC where
 g := 4
 args := [.agg [.sl 1 0 0 2, .sl 4 0 0 2, lM5 4000, lM5 30000, lM5 8, lM5 20, .sl 7 0 0 2], .sl 10 0 0 5]
 H := [Xb5, Xb6, (7, .row 74 2 2 [lM5 48, lM5 0, lM5 24, lM5 500]), Xpp]
 outs := [⟨false, .tup [.sl 6 0 0 5, .agg [.sl 9 0 0 2, .sl 12 0 0 2, .sl 15 0 0 2, .sl 18 0 0 6], lM5 0], [Xb5, Xb6, (7, .row 74 2 2 [lM5 48, lM5 0, lM5 24, lM5 500]), Xpp, (6, .row 41 1 5 [lM5 0, lM5 5, lM5 0, lM5 0, lM5 0]), (9, .row 51 5 2 [lM5 0, lM5 0, lM5 57, lM5 2, lM5 1, lM5 1, lM5 1, lM5 34, lM5 1, lM5 0]), (12, .row 3 1 2 [lM5 0, lM5 500]), (15, .row 3 1 2 [lM5 0, lM5 0]), (18, .row 3 1 6 [lM5 0, lM5 0, lM5 0, lM5 0, lM5 0, lM5 0])], false⟩]
 spec := fun _ K => K 0 []
noncomputable def Xg2 : Tab Tryz.prog := ⟨[], [], [Xcs, Xb7, Xbz, Xbr, X3, Xq, Xj, Xp, Xk, Xi, Xh, Xg, Xf, Xe, Xd, Xc]⟩
theorem Xl3 (W : InW) (K : Nat -> List Ed -> Prop) : Yvm (cxT Tryz.prog TT Xg2 1000 50) 1000 4 (xsM5 Xu) (ysM5 Xu) (fun v h => outC Xu.H [] Xu.outs 0 false v h K) (fun v h => outC Xu.H [] Xu.outs 0 true v h K) = K 0 [] := by kernel_rfl
theorem Xna : ∀ W : InW, @CallC W Tryz.prog Xu :=
 CC.okOf (fun W => @TT W) (fun W => @Xb W) Xa Xg2 1000 50 Xu fun W K h => (Xl3 W K).mpr h
noncomputable def Xdr : CE Tryz.prog := ceOf Xu Xna
def Xt : CC where
 g := 60
 args := [.agg [.lit (Value.slice none 0 0), .lit (Value.slice none 0 0), lM5 0, lM5 0, lM5 0, lM5 0, .lit (Value.slice none 0 0)]]
 H := []
 outs := [⟨false, .tup [lM5 1, lM5 0, lM5 3], [], false⟩]
 spec := fun _ K => K 0 []
noncomputable def Xg1 : Tab Tryz.prog := ⟨[], [], [Xdr, Xcs, Xb7, Xbz, Xbr, X3, Xq, Xj, Xp, Xk, Xi, Xh, Xg, Xf, Xe, Xd, Xc]⟩
theorem Xl2 (W : InW) (K : Nat -> List Ed -> Prop) : Yvm (cxT Tryz.prog TT Xg1 1000 50) 1000 60 (xsM5 Xt) (ysM5 Xt) (fun v h => outC Xt.H [] Xt.outs 0 false v h K) (fun v h => outC Xt.H [] Xt.outs 0 true v h K) = K 0 [] := by kernel_rfl
theorem Xm9 : ∀ W : InW, @CallC W Tryz.prog Xt :=
 CC.okOf (fun W => @TT W) (fun W => @Xb W) Xa Xg1 1000 50 Xt fun W K h => (Xl2 W K).mpr h
noncomputable def Xgy : CE Tryz.prog := ceOf Xt Xm9
def Xs : CC where
 g := 30
 args := [.agg [.lit (Value.slice none 0 0), .lit (Value.slice none 0 0), lM5 0, lM5 0, lM5 0, lM5 0, .lit (Value.slice none 0 0)], lM5 1, lM5 1]
 H := []
 outs := [⟨false, .tup [lM5 0, lM5 3], [], false⟩]
 spec := fun _ K => K 0 []
noncomputable def Xg0 : Tab Tryz.prog := ⟨[], [], [Xgy, Xdr, Xcs, Xb7, Xbz, Xbr, X3, Xq, Xj, Xp, Xk, Xi, Xh, Xg, Xf, Xe, Xd, Xc]⟩
theorem Xl1 (W : InW) (K : Nat -> List Ed -> Prop) : Yvm (cxT Tryz.prog TT Xg0 1000 50) 1000 30 (xsM5 Xs) (ysM5 Xs) (fun v h => outC Xs.H [] Xs.outs 0 false v h K) (fun v h => outC Xs.H [] Xs.outs 0 true v h K) = K 0 [] := by kernel_rfl
theorem Xm8 : ∀ W : InW, @CallC W Tryz.prog Xs :=
 CC.okOf (fun W => @TT W) (fun W => @Xb W) Xa Xg0 1000 50 Xs fun W K h => (Xl1 W K).mpr h
noncomputable def Xn6 : CE Tryz.prog := ceOf Xs Xm8
def Xr : CC where
 g := 8
 args := []
 H := []
 outs := [⟨false, .lit (Value.bool true), [], false⟩]
 spec := fun _ K => K 0 []
noncomputable def Xgz : Tab Tryz.prog := ⟨[], [], [Xn6, Xgy, Xdr, Xcs, Xb7, Xbz, Xbr, X3, Xq, Xj, Xp, Xk, Xi, Xh, Xg, Xf, Xe, Xd, Xc]⟩
theorem Xl0 (W : InW) (K : Nat -> List Ed -> Prop) : Yvm (cxT Tryz.prog TT Xgz 1000 50) 1000 8 (xsM5 Xr) (ysM5 Xr) (fun v h => outC Xr.H [] Xr.outs 0 false v h K) (fun v h => outC Xr.H [] Xr.outs 0 true v h K) = K 0 [] := by kernel_rfl
theorem Xm7 : ∀ W : InW, @CallC W Tryz.prog Xr :=
 CC.okOf (fun W => @TT W) (fun W => @Xb W) Xa Xgz 1000 50 Xr fun W K h => (Xl0 W K).mpr h
abbrev Xw4 : CC := Xr
theorem Xvq : ∀ W : InW, @CallC W Tryz.prog Xw4 := Xm7
end Go.Proofs.YtbhlmkgliflhaaaGreat
