/-
  'TopWeighed': for every input the law returns true, and what is handed in reads as before. No condition.
-/
import Derived.Test.YtfbhampnigdaaaaQtwd
set_option linter.unusedVariables false
set_option linter.unusedSectionVars false
set_option linter.unusedSimpArgs false
noncomputable section
namespace Go.Proofs.Ytfbhampnigdaaaa
open Go.RowKit
set_option maxRecDepth 100000
set_option maxHeartbeats 1600000
def TMF : Tab Try.prog := ⟨[Xpe, Xj0, Xe0, Xl8, Xl5, Xph], [], [Xg, Xh, Xi, Xj, Xk, Xl, Xn, Xp, Xq, Xm, Xo, Xr, Xs, Xu, Xba, Xbd, Xb4, Xca, Xcs, Xdr, Xi1, Xna]⟩
def Zfm := [[Cl.i 0, Cl.i 3, Cl.i 1, Cl.i 4, Cl.i 1], [Cl.i 0, Cl.i 2, Cl.i 0, Cl.i 3, Cl.i 0], [Cl.i 1, Cl.i 3, Cl.i 2, Cl.i 5, Cl.i 2]]
def Zfn := [[Cl.l [[Cl.l [[Cl.i 0], [Cl.i 1], [Cl.i 2]]], [Cl.l [[Cl.i 1], [Cl.i 0]]], [Cl.l [[Cl.i 2], [Cl.i 0], [Cl.i 1]]]]], [Cl.l [[Cl.l [[Cl.i 1], [Cl.i 0], [Cl.i 0]]], [Cl.l [[Cl.i 0], [Cl.i 1]]], [Cl.l [[Cl.i 0], [Cl.i 0], [Cl.i 1]]]]]]
def Zfo := [[Cl.b false]]
def Xcb [W : InW]  (Q : DS -> Prop) : Prop :=
 Pre True (Pre True (Vif (decide (Sp.strE Zfm [[Cl.i 3], [Cl.i 0]] (7 : Int) (2 : Int) = 0)) (Vif (decide (Sp.misE Zfm [[Cl.i 3], [Cl.i 0]] (7 : Int) Zfn = (0 : Int))) (Pre ([[Cl.i 7], [Cl.i 5]] = [[Cl.i 7], [Cl.i 5]]) (Vif true (Pre ([[Cl.i 3], [Cl.i 7], [Cl.i 8], [Cl.i 12]] = [[Cl.i 3], [Cl.i 7], [Cl.i 8], [Cl.i 12]]) (Vif true (Pre ([[Cl.i 2, Cl.i 0]] = [[Cl.i 2, Cl.i 0]]) (Vif true (Pre (Sp.strQ Zfm (Int.toNat (2 : Int)) = [[Cl.i 0, Cl.i 3, Cl.i 1, Cl.i 4, Cl.i 1], [Cl.i 0, Cl.i 2, Cl.i 0, Cl.i 3, Cl.i 0]] /\ Sp.strP Zfm [[Cl.i 3], [Cl.i 0]] (Int.toNat (2 : Int)) = [[Cl.i 3], [Cl.i (-5 : Int)]] /\ Sp.strA Zfm (7 : Int) (Int.toNat (2 : Int)) = 2) (Vif true (Pre (Sp.misV Zfm [[Cl.i 3], [Cl.i 0]] (7 : Int) Zfn = [[Cl.i 1, Cl.i 2], [Cl.i 1, Cl.i 1], [Cl.i 0, Cl.i 1]]) (Q [[Cl.b true]])) (Q Zfo))) (Q Zfo))) (Q Zfo))) (Q Zfo))) (Q Zfo)) (Q Zfo)))
theorem Xjp (W : InW)  (Q : DS -> Prop) : Yx2 (cxT Try.prog TT TMF 1000 50) 1000 5 [] [] 0 (Y2i [(false, [.bool])] Q) (fun _ _ _ _ => Stuck 421) = Xcb  Q := by kernel_rfl
abbrev Xjj : List AT := []
theorem Xj9 {pre : DS -> Prop} {res : DS -> DS} (hyp_ : ∀ (W : InW) , pre [] -> ∀ Q : DS -> Prop, Q (res []) -> Xcb  Q) : PureOk Try.prog 5 Xjj [(false, [.bool])] pre res :=
 PureOk.of' (fun W => @TT W) (fun W => @Xc W) Xa TMF 1000 50 fun W hp =>
  (Xjp W  (fun o => o = res [])).mpr (hyp_ W  hp _ rfl)
theorem vif_t [InW] {b : Bool} {A B : Prop} (hb : b = true) (ha : A) : Vif b A B := Vif_iff.2 ⟨fun _ => ha, fun h => absurd (hb.symm.trans h) (by decide)⟩
theorem Xki [W : InW] (Q : DS -> Prop) (h : Q [[.b true]]) : Xcb Q := by
 unfold Xcb;delta Zfo Zfn Zfm
 repeat first | refine vif_t (by kernel_rfl) ?_ | refine Pre_iff.2 ⟨trivial, ?_⟩ | refine Pre_iff.2 ⟨by kernel_rfl, ?_⟩ | refine Pre_iff.2 ⟨⟨by kernel_rfl, by kernel_rfl, by kernel_rfl⟩, ?_⟩
 exact (congrArg Q (by kernel_rfl)).mpr h
def Xj1 : PC Try.prog := ⟨5, [], [(false, [.bool])], fun _ => True, fun _ => [[.b true]], Xj9 fun W hp Q h => Xki Q h⟩
end Go.Proofs.Ytfbhampnigdaaaa
