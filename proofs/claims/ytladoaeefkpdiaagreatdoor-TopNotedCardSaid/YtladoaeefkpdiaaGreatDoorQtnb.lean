/-
  'TopNoted', the tied card: for every input the law returns true, and what is handed in reads as before.
-/
import Derived.Test.YtladoaeefkpdiaaGreatDoorQtna
set_option linter.unusedVariables false
set_option linter.unusedSectionVars false
set_option linter.unusedSimpArgs false
noncomputable section
namespace Go.Proofs.YtladoaeefkpdiaaGreatDoor
open Go.RowKit
abbrev Je : List Ty := [.int .i64, .int .i64, .int .i64]
set_option maxRecDepth 100000
set_option maxHeartbeats 1600000
namespace Tt
structure RsOk (l : Dt) (m : Nat) : Prop where
 n3 : l.length <= 3
 b : ∀ i, i < l.length -> 1 <= (cel l i 0).int /\ (cel l i 0).int <= m
 up : ∀ i, i + 1 < l.length -> (cel l i 0).int < (cel l (i + 1) 0).int
def hasI (xs : Dt) (v : Int) : Nat -> Nat -> Bool
 | _, 0 => false
 | i, n + 1 => decide (v = (cel xs i 0).int) || hasI xs v (i + 1) n
def idxI (xs : Dt) (v : Int) : Nat -> Nat -> Nat
 | i, 0 => i
 | i, n + 1 => if v = (cel xs i 0).int then i else idxI xs v (i + 1) n
def kpD (fs te lost : Dt) : Nat -> Nat -> Dt
 | _, 0 => []
 | i, n + 1 => (if hasI lost ((i : Int) + 1) 0 lost.length = true then [] else [[.i ((i : Int) + 1), .i (cel te i 0).int, .i (tot fs (te.take (i + 1)) 0 (i + 1))]]) ++ kpD fs te lost (i + 1) n
end Tt
def Xfs [InW] (e : List Ed) (K : Nat -> List Ed -> Prop) : Prop := match e with
 | [.ro _ xs, .ro _ x2, .i n, .i i, .ro _ te] => Pre (x2.xs = xs.xs /\ n = (xs.xs.length : Int) /\ 0 <= i /\ i <= n /\ Tt.RsOk xs.xs te.xs.length /\ te.xs.length <= 12) (K 0 [.ro _ te])
 | _ => False
def Xh2 : LC where
 len := 32
 T := [(0, .rs Jc), (1, (.fn (.func 52) [] [(.ptr 1 0)])), (7, .rs Jc), (8, .int .i64), (9, .int .i64)]
 H := [(1, .blk 41 [.rs Jc])]
 W := ([4, 5, 6] ++ rgg 10 22)
 outs := [⟨.exit 0, [(1, (.fn (.func 52) [] [(.ptr 1 0)]))], [(1, .blk 41 [.rs Jc])], ([0] ++ rgg 4 28)⟩]
 spec := Xfs
def Xes [W : InW] (xs x2 : Ro Jc) (n i : Int) (te : Ro Jc) (A : List Ed -> Prop) (K : Nat -> List Ed -> Prop) : Prop :=
 Vif (decide (i < n)) (Need (decide (0 <= i) && decide (i < (↑(x2.xs.length) : Int))) (Need (decide (i.toNat < x2.xs.length)) (Pre True (Vif (!!!Sp.inr (cel x2.xs i.toNat Zh).int (1 : Int) (↑(te.xs.length) : Int)) Zm (Vif (decide (0 < i)) (Ar .i64 (i - 1) fun z => Need (decide (0 <= z) && decide (z < (↑(xs.xs.length) : Int))) (Need (decide (z.toNat < xs.xs.length)) (Vif (decide ((cel x2.xs i.toNat Zh).int <= (cel xs.xs z.toNat Zh).int)) Zm (Ar .i64 (i + 1) fun z => A [.ro _ xs, .ro _ x2, .i n, .i z, .ro _ te])))) (Ar .i64 (i + 1) fun z => A [.ro _ xs, .ro _ x2, .i n, .i z, .ro _ te])))))) (K 0 [.ro _ te])
theorem Xoc (W : InW) (xs x2 n i te A K) : Ygb { cxT Tryz.prog TT Tp5 1000 50 with fn := 51 } 1000 (Ypx Tryz.prog 51 3) (Yeo 32 [(0, .rs _ xs), (1, .fn (.func 52) [] [.ptr 1 0]), (7, .rs _ x2), (8, .si .i64 n), (9, .si .i64 i)] ([4, 5, 6] ++ rgg 10 22)) [(1, .blk 41 [.rs _ te])] (Yw5 Xh2 A K) = Xes xs x2 n i te A K := by kernel_rfl
def Xg3 : Prop := ∀ (W : InW) (body a : Code), (Tryz.prog.funcs[51]?).bind (·.body) = some body -> a ∈ Y1 body -> Yg1 a = 3 -> @Yod W Tryz.prog a (@Yv5 W Xh2)
theorem Xpx (meas : [InW] -> List Ed -> Nat) (hyp_ : ∀ (W : InW) xs x2 n i te K, Xfs [.ro _ xs, .ro _ x2, .i n, .i i, .ro _ te] K -> ∀ A : List Ed -> Prop, (∀ e, meas e < meas [.ro _ xs, .ro _ x2, .i n, .i i, .ro _ te] -> Xfs e K -> A e) -> Xes xs x2 n i te A K) : Xg3 :=
 LE.okOf' (fun W => @TT W) (fun W => @Xc W) Xa Tp5 1000 50 (by kernel_rfl) Xh2 (fun W => @meas W) fun W xs x2 n i te K hs =>
  (Xoc W xs x2 n i te (fun e => meas e < meas [.ro _ xs, .ro _ x2, .i n, .i i, .ro _ te] /\ Xfs e K) K).mpr (hyp_ W xs x2 n i te K hs _ fun e h1 h2 => ⟨h1, h2⟩)
theorem Xtg : Xg3 := Xpx (fun e => match e with | _ :: _ :: .i n :: .i i :: _ => (n - i).toNat | _ => 0) fun W xs x2 n i te K hs A hA => by
 obtain ⟨⟨hcs, rfl, h0, h1, hr, h12⟩, hk⟩ := hs;unfold Xes;delta Zm Zh;have n3 := hr.n3;simp only [hcs];refine vifd (fun e => ?_) fun e => hk;have hb := hr.b i.toNat (by omega);have hin : Sp.inr (cel xs.xs i.toNat 0).int 1 te.xs.length = true := Xd.2 hb;have hu : 0 < i -> (cel xs.xs (i - 1).toNat 0).int < (cel xs.xs i.toNat 0).int := fun h => by
  have := hr.up (i - 1).toNat (by omega);rwa [show (i - 1).toNat + 1 = i.toNat by omega] at this
 have go := hA [.ro _ xs, .ro _ x2, .i xs.xs.length, .i (i + 1), .ro _ te] (by show ((xs.xs.length : Int) - (i + 1)).toNat < ((xs.xs.length : Int) - i).toNat; omega) ⟨⟨hcs, rfl, by omega, by omega, hr, h12⟩, hk⟩;clear hA hk;rw [hin]
 repeat' (first | omega|intro _|with_reducible first|apply vifd|apply vifn|apply vifq|apply vifq0|apply vifq1|apply vifb|apply vif|apply nedd|apply ned2|apply ned|apply ar64|apply Xb|exact True.intro|assumption|rfl|apply And.intro)
 all_goals first | exact go | contradiction | (simp only [Bool.not_true, Bool.not_false, Bool.true_eq_false, Bool.false_eq_true] at *; done) | (have := hu (by omega); omega) | skip
def Xue : LE Tryz.prog := ⟨51, 3, fun W => @Yv5 W Xh2, Xtg⟩
def Xgc [InW] (e : List Ed) (K : Nat -> List Ed -> Prop) : Prop := match e with
 | [.ro _ xs, .i v, .i n, .i i] => Pre (n = (xs.xs.length : Int) /\ 0 <= i /\ i <= n) (Vif (Tt.hasI xs.xs v i.toNat (xs.xs.length - i.toNat)) (K 1 [.i (Tt.idxI xs.xs v i.toNat (xs.xs.length - i.toNat))]) (K 0 []))
 | _ => False
def Xim : LC where
 len := 19
 T := [(0, .rs Jc), (1, .int .i64), (7, .int .i64), (8, .int .i64)]
 H := []
 W := ([4, 5] ++ rgg 9 10)
 outs := [⟨.exit 0, [], [], ([0, 1, 4, 5] ++ rgg 7 12)⟩, ⟨.ret, [(4, .int .i64)], [], ([0, 1, 5] ++ rgg 7 12)⟩]
 spec := Xgc
def Xfc [W : InW] (xs : Ro Jc) (v n i : Int) (A : List Ed -> Prop) (K : Nat -> List Ed -> Prop) : Prop :=
 Vif (decide (i < n)) (Need (decide (0 <= i) && decide (i < (↑(xs.xs.length) : Int))) (Need (decide (i.toNat < xs.xs.length)) (Vif (decide (v = (cel xs.xs i.toNat (0 : Nat)).int)) (K (0+1) [.i i]) (Ar .i64 (i + 1) fun z => A [.ro _ xs, .i v, .i n, .i z])))) (K 0 [])
theorem Xow (W : InW) (xs v n i A K) : Ygb { cxT Tryz.prog TT T0 1000 50 with fn := 101 } 1000 (Ypx Tryz.prog 101 3) (Yeo 19 [(0, .rs _ xs), (1, .si .i64 v), (7, .si .i64 n), (8, .si .i64 i)] ([4, 5] ++ rgg 9 10)) [] (Yw5 Xim A K) = Xfc xs v n i A K := by kernel_rfl
def Xhn : Prop := ∀ (W : InW) (body a : Code), (Tryz.prog.funcs[101]?).bind (·.body) = some body -> a ∈ Y1 body -> Yg1 a = 3 -> @Yod W Tryz.prog a (@Yv5 W Xim)
theorem Xqh (meas : [InW] -> List Ed -> Nat) (hyp_ : ∀ (W : InW) xs v n i K, Xgc [.ro _ xs, .i v, .i n, .i i] K -> ∀ A : List Ed -> Prop, (∀ e, meas e < meas [.ro _ xs, .i v, .i n, .i i] -> Xgc e K -> A e) -> Xfc xs v n i A K) : Xhn :=
 LE.okOf' (fun W => @TT W) (fun W => @Xc W) Xa T0 1000 50 (by kernel_rfl) Xim (fun W => @meas W) fun W xs v n i K hs =>
  (Xow W xs v n i (fun e => meas e < meas [.ro _ xs, .i v, .i n, .i i] /\ Xgc e K) K).mpr (hyp_ W xs v n i K hs _ fun e h1 h2 => ⟨h1, h2⟩)
theorem Xt0 : Xhn := Xqh (fun e => match e with | _ :: _ :: .i n :: .i i :: _ => (n - i).toNat | _ => 0) fun W xs v n i K hs A hA => by
 obtain ⟨⟨rfl, h0, h1⟩, hk⟩ := hs;unfold Xfc;have hm := xs.len;simp only [maxLen] at hm;have ez : (i + 1).toNat = i.toNat + 1 := by omega
 by_cases hi : i < xs.xs.length
 ·rw [show xs.xs.length - i.toNat = (xs.xs.length - (i.toNat + 1)) + 1 by omega] at hk;simp only [Tt.hasI, Tt.idxI] at hk;have go : ¬ v = (cel xs.xs i.toNat 0).int -> A [.ro _ xs, .i v, .i xs.xs.length, .i (i + 1)] := fun f => hA _ (by show ((xs.xs.length : Int) - (i + 1)).toNat < ((xs.xs.length : Int) - i).toNat; omega) ⟨⟨rfl, by omega, by omega⟩, by
   rw [ez];rw [decide_eq_false f, Bool.false_or, if_neg f] at hk;exact hk⟩
  have got : v = (cel xs.xs i.toNat 0).int -> K 1 [.i i] := fun f => by
   rw [decide_eq_true f, Bool.true_or, if_pos f] at hk;have := hk.1 rfl;rwa [Int.toNat_of_nonneg h0] at this
  clear hA hk
  repeat' (first | omega|intro _|with_reducible first|apply vifd|apply vifn|apply vifq|apply vifq0|apply vifq1|apply vifb|apply vif|apply nedd|apply ned2|apply ned|apply ar64|apply Xb|exact True.intro|assumption|rfl|apply And.intro)
  all_goals first | (refine got ?_; assumption) | (refine go ?_; assumption) | omega | skip
 ·rw [show xs.xs.length - i.toNat = 0 by omega] at hk;exact vifd (fun e => by omega) fun _ => hk.2 rfl
def Xuy : LE Tryz.prog := ⟨101, 3, fun W => @Yv5 W Xim, Xt0⟩
def Tk2 : Tab Tryz.prog := ⟨[], [Xuy], []⟩
abbrev Xdn (ds : DS) : DS := match ds with | [[.l xs], [.i v]] => [[.b (Tt.hasI xs v 0 xs.length)]] | _ => []
def Xlr [W : InW] (xs : Ro Jc) (v : Int) (Q : DS -> Prop) : Prop :=
 Pre ((↑(xs.xs.length) : Int) = (↑(xs.xs.length) : Int) /\ Ze <= 0 /\ Ze <= (↑(xs.xs.length) : Int)) (Vif (Tt.hasI xs.xs v Zk (xs.xs.length - Int.toNat Ze)) (Q [[Cl.b (decide (Ze <= (↑(Tt.idxI xs.xs v Zk (xs.xs.length - Int.toNat Ze)) : Int)))]]) (Q [[Cl.b false]]))
theorem Xrx (W : InW) (xs v Q) : Yzs (cxT Tryz.prog TT Tk2 1000 50) 1000 54 [.rs _ xs, .si .i64 v] [] 0 (Y4g [(false, [.bool])] Q) (fun _ _ _ _ => Stuck 421) = Xlr xs v Q := by kernel_rfl
abbrev Xeh : List AT := [.one (.sl Jc), .one (.int .i64)]
theorem Xs7 {pre : DS -> Prop} {res : DS -> DS} (hyp_ : ∀ (W : InW) (xs : Ro Jc) (v : Int), pre [[.l xs.xs], [.i v]] -> ∀ Q : DS -> Prop, Q (res [[.l xs.xs], [.i v]]) -> Xlr xs v Q) : PureOk Tryz.prog 54 Xeh [(false, [.bool])] pre res :=
 PureOk.of' (fun W => @TT W) (fun W => @Xc W) Xa Tk2 1000 50 fun W xs v hp =>
  (Xrx W xs v (fun o => o = res [[.l xs.xs], [.i v]])).mpr (hyp_ W xs v hp _ rfl)
theorem okcti : PureOk Tryz.prog 54 Xeh [(false, [.bool])] (fun _ => True) Xdn :=
 Xs7 fun W xs v hp Q h => by
  unfold Xlr;delta Zk Ze;simp only [Xdn] at h;rw [show Int.toNat 0 = 0 from rfl, Nat.sub_zero];refine ⟨⟨rfl, by omega, by omega⟩, vif (fun e => ?_) fun e => ?_⟩
  ·rw [e] at h;rw [decide_eq_true (by omega)]; exact h
  ·rw [e] at h; exact h
def Xsg : PC Tryz.prog := ⟨54, Xeh, [(false, [.bool])], fun _ => True, Xdn, okcti⟩
def Tk3 : Tab Tryz.prog := ⟨[Xsg, Xns, Xnq], [], []⟩
def Xf9 [InW] (e : List Ed) (K : Nat -> List Ed -> Prop) : Prop := match e with
 | [.ro _ lo, .ro _ t2, .i n, .i i, .ro _ fs, .ro _ ms, .i all, .ro _ te, .i lines, .l kp] => Pre (t2.xs = te.xs /\ n = (te.xs.length : Int) /\ 0 <= i /\ i <= n /\ Tt.CodeOk fs.xs ms.xs all /\ Tt.TestOk fs.xs ms.xs te.xs /\ kp.length <= i.toNat) (K 0 [.i lines, .l (kp ++ Tt.kpD fs.xs te.xs lo.xs i.toNat (te.xs.length - i.toNat))])
 | _ => False
def Xij : LC where
 len := 67
 T := [(2, .rs Jc), (3, (.ptr 1 0)), (4, (.ptr 4 0)), (6, (.ptr 7 0)), (33, .rs Jc), (34, .int .i64), (35, .int .i64)]
 H := [(1, .blk 29 [.rs Jb, .rs Jd, .int .i64]), (4, .blk 41 [.rs Jc]), (7, .blk 48 [.int .i64, (.row 6)]), (6, .arr 116 Je)]
 W := (rgg 8 4 ++ rgg 36 30)
 outs := [⟨.exit 0, [(6, (.ptr 7 0))], [(7, .blk 48 [.int .i64, (.row 9)]), (9, .arr 116 Je)], ([2, 3, 4] ++ rgg 8 4 ++ rgg 33 33)⟩]
 spec := Xf9
def Xe9 [W : InW] (lo t2 : Ro Jc) (n i : Int) (fs : Ro Jb) (ms : Ro Jd) (all : Int) (te : Ro Jc) (lines : Int) (kp : Dt) (A : List Ed -> Prop) (K : Nat -> List Ed -> Prop) : Prop :=
 Vif (decide (i < n)) (Need (decide (0 <= i) && decide (i < (↑(t2.xs.length) : Int))) (Need (decide (i.toNat < t2.xs.length)) (Ar .i64 (i + 1) fun z => Pre True (Vif (!Tt.hasI lo.xs z Zh (lo.xs.length)) (Ar .i64 (i + 1) fun z => Need (decide (0 <= z)) (Need (decide (Zh <= z.toNat) && decide (z.toNat <= te.xs.length)) (Pre (Tt.WnOk (List.drop Zh (List.take z.toNat te.xs)) (9 : Int) /\ (List.drop Zh (List.take z.toNat te.xs)).length <= 12) (Pre (Tt.FOk fs.xs /\ ms.xs.length <= 3 /\ Tt.TyOk [Tt.cn (List.drop Zh (List.take z.toNat te.xs)) Ze Zh (List.drop Zh (List.take z.toNat te.xs)).length, Tt.cn (List.drop Zh (List.take z.toNat te.xs)) (1 : Int) Zh (List.drop Zh (List.take z.toNat te.xs)).length, Tt.cn (List.drop Zh (List.take z.toNat te.xs)) (2 : Int) Zh (List.drop Zh (List.take z.toNat te.xs)).length, Tt.cn (List.drop Zh (List.take z.toNat te.xs)) (3 : Int) Zh (List.drop Zh (List.take z.toNat te.xs)).length, Tt.cn (List.drop Zh (List.take z.toNat te.xs)) (4 : Int) Zh (List.drop Zh (List.take z.toNat te.xs)).length, Tt.cn (List.drop Zh (List.take z.toNat te.xs)) (5 : Int) Zh (List.drop Zh (List.take z.toNat te.xs)).length, Tt.cn (List.drop Zh (List.take z.toNat te.xs)) (6 : Int) Zh (List.drop Zh (List.take z.toNat te.xs)).length, Tt.cn (List.drop Zh (List.take z.toNat te.xs)) (7 : Int) Zh (List.drop Zh (List.take z.toNat te.xs)).length, Tt.cn (List.drop Zh (List.take z.toNat te.xs)) (8 : Int) Zh (List.drop Zh (List.take z.toNat te.xs)).length]) (Ar .i64 (i + 1) fun z_1 => Need (decide ((kp.length + [[Cl.i z_1, Cl.i (cel t2.xs i.toNat Zh).int, Cl.i (Tt.sF fs.xs [Tt.cn (List.drop Zh (List.take z.toNat te.xs)) Ze Zh (List.drop Zh (List.take z.toNat te.xs)).length, Tt.cn (List.drop Zh (List.take z.toNat te.xs)) (1 : Int) Zh (List.drop Zh (List.take z.toNat te.xs)).length, Tt.cn (List.drop Zh (List.take z.toNat te.xs)) (2 : Int) Zh (List.drop Zh (List.take z.toNat te.xs)).length, Tt.cn (List.drop Zh (List.take z.toNat te.xs)) (3 : Int) Zh (List.drop Zh (List.take z.toNat te.xs)).length, Tt.cn (List.drop Zh (List.take z.toNat te.xs)) (4 : Int) Zh (List.drop Zh (List.take z.toNat te.xs)).length, Tt.cn (List.drop Zh (List.take z.toNat te.xs)) (5 : Int) Zh (List.drop Zh (List.take z.toNat te.xs)).length, Tt.cn (List.drop Zh (List.take z.toNat te.xs)) (6 : Int) Zh (List.drop Zh (List.take z.toNat te.xs)).length, Tt.cn (List.drop Zh (List.take z.toNat te.xs)) (7 : Int) Zh (List.drop Zh (List.take z.toNat te.xs)).length, Tt.cn (List.drop Zh (List.take z.toNat te.xs)) (8 : Int) Zh (List.drop Zh (List.take z.toNat te.xs)).length] Zh (fs.xs.length))]].length) * 24 <= 140737488355328)) (Ar .i64 (i + 1) fun z_2 => A [.ro _ lo, .ro _ t2, .i n, .i z_2, .ro _ fs, .ro _ ms, .i all, .ro _ te, .i lines, .l (kp ++ [[Cl.i z_1, Cl.i (cel t2.xs i.toNat Zh).int, Cl.i (Tt.sF fs.xs [Tt.cn (List.drop Zh (List.take z.toNat te.xs)) Ze Zh (List.drop Zh (List.take z.toNat te.xs)).length, Tt.cn (List.drop Zh (List.take z.toNat te.xs)) (1 : Int) Zh (List.drop Zh (List.take z.toNat te.xs)).length, Tt.cn (List.drop Zh (List.take z.toNat te.xs)) (2 : Int) Zh (List.drop Zh (List.take z.toNat te.xs)).length, Tt.cn (List.drop Zh (List.take z.toNat te.xs)) (3 : Int) Zh (List.drop Zh (List.take z.toNat te.xs)).length, Tt.cn (List.drop Zh (List.take z.toNat te.xs)) (4 : Int) Zh (List.drop Zh (List.take z.toNat te.xs)).length, Tt.cn (List.drop Zh (List.take z.toNat te.xs)) (5 : Int) Zh (List.drop Zh (List.take z.toNat te.xs)).length, Tt.cn (List.drop Zh (List.take z.toNat te.xs)) (6 : Int) Zh (List.drop Zh (List.take z.toNat te.xs)).length, Tt.cn (List.drop Zh (List.take z.toNat te.xs)) (7 : Int) Zh (List.drop Zh (List.take z.toNat te.xs)).length, Tt.cn (List.drop Zh (List.take z.toNat te.xs)) (8 : Int) Zh (List.drop Zh (List.take z.toNat te.xs)).length] Zh (fs.xs.length))]])])))))) (Ar .i64 (i + 1) fun z => A [.ro _ lo, .ro _ t2, .i n, .i z, .ro _ fs, .ro _ ms, .i all, .ro _ te, .i lines, .l kp]))))) (K 0 [.i lines, .l kp])
theorem Xot (W : InW) (lo t2 n i fs ms all te lines kp A K) : Ygb { cxT Tryz.prog TT Tk3 1000 50 with fn := 10 } 1000 (Ypx Tryz.prog 10 12) (Yeo 67 [(2, .rs _ lo), (3, .ptr 1 0), (4, .ptr 4 0), (6, .ptr 7 0), (33, .rs _ t2), (34, .si .i64 n), (35, .si .i64 i)] (rgg 8 4 ++ rgg 36 30)) [(1, .blk 29 [.rs _ fs, .rs _ ms, .si .i64 all]), (4, .blk 41 [.rs _ te]), (7, .blk 48 [.si .i64 lines, .rw 6]), (6, .arr 116 Je kp)] (Yw5 Xij A K) = Xe9 lo t2 n i fs ms all te lines kp A K := by kernel_rfl
def Xhk : Prop := ∀ (W : InW) (body a : Code), (Tryz.prog.funcs[10]?).bind (·.body) = some body -> a ∈ Y1 body -> Yg1 a = 12 -> @Yod W Tryz.prog a (@Yv5 W Xij)
theorem Xqe (meas : [InW] -> List Ed -> Nat) (hyp_ : ∀ (W : InW) lo t2 n i fs ms all te lines kp K, Xf9 [.ro _ lo, .ro _ t2, .i n, .i i, .ro _ fs, .ro _ ms, .i all, .ro _ te, .i lines, .l kp] K -> ∀ A : List Ed -> Prop, (∀ e, meas e < meas [.ro _ lo, .ro _ t2, .i n, .i i, .ro _ fs, .ro _ ms, .i all, .ro _ te, .i lines, .l kp] -> Xf9 e K -> A e) -> Xe9 lo t2 n i fs ms all te lines kp A K) : Xhk :=
 LE.okOf' (fun W => @TT W) (fun W => @Xc W) Xa Tk3 1000 50 (by kernel_rfl) Xij (fun W => @meas W) fun W lo t2 n i fs ms all te lines kp K hs =>
  (Xot W lo t2 n i fs ms all te lines kp (fun e => meas e < meas [.ro _ lo, .ro _ t2, .i n, .i i, .ro _ fs, .ro _ ms, .i all, .ro _ te, .i lines, .l kp] /\ Xf9 e K) K).mpr (hyp_ W lo t2 n i fs ms all te lines kp K hs _ fun e h1 h2 => ⟨h1, h2⟩)
theorem Xtx : Xhk := Xqe (fun e => match e with | _ :: _ :: .i n :: .i i :: _ => (n - i).toNat | _ => 0) fun W lo t2 n i fs ms all te lines kp K hs A hA => by
 obtain ⟨⟨hcs, rfl, h0, h1, hc, ht, hl⟩, hk⟩ := hs;unfold Xe9;delta Zh Ze;have ez : (i + 1).toNat = i.toNat + 1 := by omega
 have t12 := ht.n12
 by_cases hi : i < te.xs.length
 ·have hlt : i.toNat < te.xs.length := by omega
  rw [show te.xs.length - i.toNat = (te.xs.length - (i.toNat + 1)) + 1 by omega] at hk;simp only [Tt.kpD] at hk;rw [Int.toNat_of_nonneg h0] at hk;have hPl : (te.xs.take (i.toNat + 1)).length = i.toNat + 1 := by rw [List.length_take]; omega
  have hw0 := Xjn hc ht;have hw : Tt.WnOk (te.xs.take (i.toNat + 1)) 9 := ⟨fun k hk => by
   rw [hPl] at hk;rw [Xb0 hk];exact hw0.w k (by omega)⟩
  have hy := Xnl (l := te.xs.take (i.toNat + 1)) (by omega);have e := Xnm hc.n6 (l := te.xs.take (i.toNat + 1)) fun k hk => (hw.w k hk).1;have hs : [Tt.cn (te.xs.take (i.toNat + 1)) 0 0 (te.xs.take (i.toNat + 1)).length, Tt.cn (te.xs.take (i.toNat + 1)) 1 0 (te.xs.take (i.toNat + 1)).length, Tt.cn (te.xs.take (i.toNat + 1)) 2 0 (te.xs.take (i.toNat + 1)).length, Tt.cn (te.xs.take (i.toNat + 1)) 3 0 (te.xs.take (i.toNat + 1)).length, Tt.cn (te.xs.take (i.toNat + 1)) 4 0 (te.xs.take (i.toNat + 1)).length, Tt.cn (te.xs.take (i.toNat + 1)) 5 0 (te.xs.take (i.toNat + 1)).length, Tt.cn (te.xs.take (i.toNat + 1)) 6 0 (te.xs.take (i.toNat + 1)).length, Tt.cn (te.xs.take (i.toNat + 1)) 7 0 (te.xs.take (i.toNat + 1)).length, Tt.cn (te.xs.take (i.toNat + 1)) 8 0 (te.xs.take (i.toNat + 1)).length] = Tt.tly (te.xs.take (i.toNat + 1)) := rfl;have go1 : Tt.hasI lo.xs (i + 1) 0 lo.xs.length = true -> A [.ro _ lo, .ro _ t2, .i te.xs.length, .i (i + 1), .ro _ fs, .ro _ ms, .i all, .ro _ te, .i lines, .l kp] := fun f => hA _ (by show ((te.xs.length : Int) - (i + 1)).toNat < ((te.xs.length : Int) - i).toNat; omega) ⟨⟨hcs, rfl, by omega, by omega, hc, ht, by omega⟩, by
   rw [ez];rw [if_pos f, List.nil_append] at hk;exact hk⟩
  have go2 : Tt.hasI lo.xs (i + 1) 0 lo.xs.length = false -> A [.ro _ lo, .ro _ t2, .i te.xs.length, .i (i + 1), .ro _ fs, .ro _ ms, .i all, .ro _ te, .i lines, .l (kp ++ [[.i (i + 1), .i (cel te.xs i.toNat 0).int, .i (Tt.tot fs.xs (te.xs.take (i.toNat + 1)) 0 (i.toNat + 1))]])] := fun f => hA _ (by show ((te.xs.length : Int) - (i + 1)).toNat < ((te.xs.length : Int) - i).toNat; omega) ⟨⟨hcs, rfl, by omega, by omega, hc, ht, by rw [List.length_append, List.length_singleton]; omega⟩, by
   rw [ez];rw [if_neg (by rw [f]; simp)] at hk;rw [List.append_assoc];exact hk⟩
  clear hA hk;simp only [hcs, List.drop_zero];refine vifd (fun _ => ned2 (by omega) (nedd (by omega) (ar64 (by omega) (Xb trivial ?_)))) fun x => by omega
  refine vif (fun f => ?_) fun f => ?_
  ·refine ar64 (by omega) (nedd (by omega) (ned (by simp; omega) ?_));rw [ez];rw [hs, e, hPl];refine Xb ⟨hw, by omega⟩ (Xb ⟨hc.f, hc.m3, hy⟩ (ar64 (by omega) (nedd (by simp only [List.length_cons, List.length_nil]; omega) (ar64 (by omega) (go2 (by simpa using f))))))
  ·exact ar64 (by omega) (go1 (by simpa using f))
 ·rw [show te.xs.length - i.toNat = 0 by omega] at hk;simp only [Tt.kpD, List.append_nil] at hk;exact vifd (fun x => by omega) fun _ => hk
def Xuv : LE Tryz.prog := ⟨10, 12, fun W => @Yv5 W Xij, Xtx⟩
def Tk4 : Tab Tryz.prog := ⟨[Xno], [Xue, Xuv], []⟩
abbrev Xgn : List (Bool × List RTy) := [(true, [.int .i64, .row 116 Je]), (false, [.int .i64])]
abbrev Xjx (ds : DS) : DS := match ds with | [[.l fs, .l ms, .i all], [.l te], [.l lo]] => [[.i te.length, .l (Tt.kpD fs te lo 0 te.length)], [.i 0]] | _ => []
abbrev Xj9 (ds : DS) : Prop := match ds with | [[.l fs, .l ms, .i all], [.l te], [.l lo]] => Tt.CodeOk fs ms all /\ Tt.TestOk fs ms te /\ Tt.RsOk lo te.length | _ => False
def Xel [W : InW] (c_Fs : Ro Jb) (c_Ms : Ro Jd) (c_All : Int) (te lo : Ro Jc) (Q : DS -> Prop) : Prop :=
 Pre (Tt.CodeOk c_Fs.xs c_Ms.xs c_All /\ Tt.TestOk c_Fs.xs c_Ms.xs te.xs) (Vif (!decide (Ze = 0)) (Q [[Cl.i 0, Cl.l []], [Cl.i 0]]) (Pre (lo.xs = lo.xs /\ (↑(lo.xs.length) : Int) = (↑(lo.xs.length) : Int) /\ Ze <= 0 /\ Ze <= (↑(lo.xs.length) : Int) /\ Tt.RsOk lo.xs (te.xs.length) /\ te.xs.length <= 12) (Vif (decide ((3 : Int) < (↑(lo.xs.length) : Int))) (Q [[Cl.i 0, Cl.l []], [Cl.i 3]]) (Pre (te.xs = te.xs /\ (↑(te.xs.length) : Int) = (↑(te.xs.length) : Int) /\ Ze <= 0 /\ Ze <= (↑(te.xs.length) : Int) /\ Tt.CodeOk c_Fs.xs c_Ms.xs c_All /\ Tt.TestOk c_Fs.xs c_Ms.xs te.xs /\ (0 : Nat) <= Int.toNat Ze) (Q [[Cl.i (↑(te.xs.length) : Int), Cl.l (Tt.kpD c_Fs.xs te.xs lo.xs (Int.toNat Ze) (te.xs.length - Int.toNat Ze))], [Cl.i 0]])))))
theorem Xpf (W : InW) (c_Fs c_Ms c_All te lo Q) : Yzs (cxT Tryz.prog TT Tk4 1000 50) 1000 10 [.agg [.rs _ c_Fs, .rs _ c_Ms, .si .i64 c_All], .rs _ te, .rs _ lo] [] 0 (Y4g Xgn Q) (fun _ _ _ _ => Stuck 421) = Xel c_Fs c_Ms c_All te lo Q := by kernel_rfl
abbrev Xcu : List AT := [.agg [.sl Jb, .sl Jd, .int .i64], .one (.sl Jc), .one (.sl Jc)]
theorem Xq1 {pre : DS -> Prop} {res : DS -> DS} (hyp_ : ∀ (W : InW) (c_Fs : Ro Jb) (c_Ms : Ro Jd) (c_All : Int) (te lo : Ro Jc), pre [[.l c_Fs.xs, .l c_Ms.xs, .i c_All], [.l te.xs], [.l lo.xs]] -> ∀ Q : DS -> Prop, Q (res [[.l c_Fs.xs, .l c_Ms.xs, .i c_All], [.l te.xs], [.l lo.xs]]) -> Xel c_Fs c_Ms c_All te lo Q) : PureOk Tryz.prog 10 Xcu Xgn pre res :=
 PureOk.of' (fun W => @TT W) (fun W => @Xc W) Xa Tk4 1000 50 fun W c_Fs c_Ms c_All te lo hp =>
  (Xpf W c_Fs c_Ms c_All te lo (fun o => o = res [[.l c_Fs.xs, .l c_Ms.xs, .i c_All], [.l te.xs], [.l lo.xs]])).mpr (hyp_ W c_Fs c_Ms c_All te lo hp _ rfl)
theorem Xsn : PureOk Tryz.prog 10 Xcu Xgn Xj9 Xjx :=
 Xq1 fun W fs ms all te lo hp Q h => by
  obtain ⟨hc, ht, hr⟩ : Tt.CodeOk fs.xs ms.xs all /\ Tt.TestOk fs.xs ms.xs te.xs /\ Tt.RsOk lo.xs te.xs.length := hp;unfold Xel;delta Ze;simp only [Xjx] at h;have n3 := hr.n3;have t12 := ht.n12;rw [show Int.toNat 0 = 0 from rfl, Nat.sub_zero];refine Xb ⟨hc, ht⟩ (vifn (fun g => absurd rfl g) fun _ => Xb ⟨rfl, rfl, by omega, by omega, hr, t12⟩ (vifd (fun g => by omega) fun _ => Xb ⟨rfl, rfl, by omega, by omega, hc, ht, by omega⟩ h))
namespace Tt
def anyN (ks : Dt) (n : Int) : Nat -> Nat -> Bool
 | _, 0 => false
 | i, k + 1 => decide ((cel ks i 0).int = n) || anyN ks n (i + 1) k
def loD (ks : Dt) : Nat -> Nat -> Dt
 | _, 0 => []
 | n, k + 1 => (if anyN ks (n : Int) 0 ks.length = true then [] else [[.i (n : Int)]]) ++ loD ks (n + 1) k
structure ShOk (fs ms ks : Dt) (lines : Int) : Prop where
 l1 : 1 <= lines
 l12 : lines <= 12
 few : ks.length <= 12
 no : ∀ i, i < ks.length -> 1 <= (cel ks i 0).int /\ (cel ks i 0).int <= lines
 up : ∀ i, i + 1 < ks.length -> (cel ks i 0).int < (cel ks (i + 1) 0).int
 wh : ∀ i, i < ks.length -> 0 <= (cel ks i 1).int /\ (cel ks i 1).int < fs.length + ms.length
 sm : ∀ i, i < ks.length -> 0 <= (cel ks i 2).int /\ (cel ks i 2).int <= 240
 lo : (loD ks 1 lines.toNat).length <= 3
def fitR (fs ks te : Dt) : Nat -> Nat -> Bool
 | _, 0 => true
 | i, k + 1 => (decide ((cel te ((cel ks i 0).int - 1).toNat 0).int = (cel ks i 1).int) && decide (tot fs (te.take (cel ks i 0).int.toNat) 0 (te.take (cel ks i 0).int.toNat).length = (cel ks i 2).int)) && fitR fs ks te (i + 1) k
end Tt
abbrev Xjs (ds : DS) : DS := match ds with | [[.l fs, .l ms, .i all]] => [[.i ((fs.length : Int) + ms.length)]] | _ => []
abbrev Xj2 (ds : DS) : Prop := match ds with | [[.l fs, .l ms, .i all]] => fs.length <= 6 /\ ms.length <= 3 | _ => False
def Xn1 [W : InW] (c_Fs : Ro Jb) (c_Ms : Ro Jd) (c_All : Int) (Q : DS -> Prop) : Prop :=
 Ar .i64 ((↑(c_Fs.xs.length) : Int) + (↑(c_Ms.xs.length) : Int)) fun z => Q [[Cl.i z]]
theorem Xrh (W : InW) (c_Fs c_Ms c_All Q) : Yzs (cxT Tryz.prog TT T0 1000 50) 1000 55 [.agg [.rs _ c_Fs, .rs _ c_Ms, .si .i64 c_All]] [] 0 (Y4g [(false, [.int .i64])] Q) (fun _ _ _ _ => Stuck 421) = Xn1 c_Fs c_Ms c_All Q := by kernel_rfl
abbrev Xd1 : List AT := [.agg [.sl Jb, .sl Jd, .int .i64]]
theorem Xsr {pre : DS -> Prop} {res : DS -> DS} (hyp_ : ∀ (W : InW) (c_Fs : Ro Jb) (c_Ms : Ro Jd) (c_All : Int), pre [[.l c_Fs.xs, .l c_Ms.xs, .i c_All]] -> ∀ Q : DS -> Prop, Q (res [[.l c_Fs.xs, .l c_Ms.xs, .i c_All]]) -> Xn1 c_Fs c_Ms c_All Q) : PureOk Tryz.prog 55 Xd1 [(false, [.int .i64])] pre res :=
 PureOk.of' (fun W => @TT W) (fun W => @Xc W) Xa T0 1000 50 fun W c_Fs c_Ms c_All hp =>
  (Xrh W c_Fs c_Ms c_All (fun o => o = res [[.l c_Fs.xs, .l c_Ms.xs, .i c_All]])).mpr (hyp_ W c_Fs c_Ms c_All hp _ rfl)
theorem okthg : PureOk Tryz.prog 55 Xd1 [(false, [.int .i64])] Xj2 Xjs :=
 Xsr fun W fs ms all hp Q h => by
  obtain ⟨h6, h3⟩ : fs.xs.length <= 6 /\ ms.xs.length <= 3 := hp;exact ar64 (by omega) h
def Xnp : PC Tryz.prog := ⟨55, Xd1, [(false, [.int .i64])], Xj2, Xjs, okthg⟩
def Xf8 [InW] (e : List Ed) (K : Nat -> List Ed -> Prop) : Prop := match e with
 | [.i n, .b kp, .i i, .i lines, .ro _ ks] => Pre (0 <= i /\ i <= ks.xs.length) (K 0 [.i n, .b (kp || Tt.anyN ks.xs n i.toNat (ks.xs.length - i.toNat)), .i lines, .ro _ ks])
 | _ => False
def Xii : LC where
 len := 38
 T := [(1, (.ptr 1 0)), (4, .int .i64), (5, .bool), (6, .int .i64)]
 H := [(1, .blk 48 [.int .i64, .rs Je])]
 W := (rgg 13 18)
 outs := [⟨.exit 2, [(1, (.ptr 1 0)), (4, .int .i64), (5, .bool)], [(1, .blk 48 [.int .i64, .rs Je])], ([6] ++ rgg 13 18)⟩]
 spec := Xf8
def Xe8 [W : InW] (n : Int) (kp : Bool) (i lines : Int) (ks : Ro Je) (A : List Ed -> Prop) (K : Nat -> List Ed -> Prop) : Prop :=
 Vif (decide (i < (↑(ks.xs.length) : Int))) (Vif kp (Ar .i64 (i + 1) fun z => A [.i n, .b true, .i z, .i lines, .ro _ ks]) (Need (decide (0 <= i) && decide (i < (↑(ks.xs.length) : Int))) (Need (decide (i.toNat < ks.xs.length)) (Ar .i64 (i + 1) fun z => A [.i n, .b (decide ((cel ks.xs i.toNat (0 : Nat)).int = n)), .i z, .i lines, .ro _ ks])))) (K 0 [.i n, .b kp, .i lines, .ro _ ks])
theorem Xos (W : InW) (n kp i lines ks A K) : Ygb { cxT Tryz.prog TT T0 1000 50 with fn := 56 } 1000 (Ypx Tryz.prog 56 8) (Yeo 38 [(1, .ptr 1 0), (4, .si .i64 n), (5, .sb kp), (6, .si .i64 i)] (rgg 13 18)) [(1, .blk 48 [.si .i64 lines, .rs _ ks])] (Yw5 Xii A K) = Xe8 n kp i lines ks A K := by kernel_rfl
def Xhj : Prop := ∀ (W : InW) (body a : Code), (Tryz.prog.funcs[56]?).bind (·.body) = some body -> a ∈ Y1 body -> Yg1 a = 8 -> @Yod W Tryz.prog a (@Yv5 W Xii)
theorem Xqd (meas : [InW] -> List Ed -> Nat) (hyp_ : ∀ (W : InW) n kp i lines ks K, Xf8 [.i n, .b kp, .i i, .i lines, .ro _ ks] K -> ∀ A : List Ed -> Prop, (∀ e, meas e < meas [.i n, .b kp, .i i, .i lines, .ro _ ks] -> Xf8 e K -> A e) -> Xe8 n kp i lines ks A K) : Xhj :=
 LE.okOf' (fun W => @TT W) (fun W => @Xc W) Xa T0 1000 50 (by kernel_rfl) Xii (fun W => @meas W) fun W n kp i lines ks K hs =>
  (Xos W n kp i lines ks (fun e => meas e < meas [.i n, .b kp, .i i, .i lines, .ro _ ks] /\ Xf8 e K) K).mpr (hyp_ W n kp i lines ks K hs _ fun e h1 h2 => ⟨h1, h2⟩)
theorem Xtw : Xhj := Xqd (fun e => match e with | [_, _, .i i, _, .ro _ ks] => ((ks.xs.length : Int) - i).toNat | _ => 0) fun W n kp i lines ks K hs A hA => by
 obtain ⟨⟨h0, h1⟩, hk⟩ := hs;unfold Xe8;have hm := ks.len;simp only [maxLen] at hm;have ez : (i + 1).toNat = i.toNat + 1 := by omega
 by_cases hi : i < ks.xs.length
 ·rw [show ks.xs.length - i.toNat = (ks.xs.length - (i.toNat + 1)) + 1 by omega] at hk;simp only [Tt.anyN] at hk;have go : ∀ b, b = (kp || decide ((cel ks.xs i.toNat 0).int = n)) -> A [.i n, .b b, .i (i + 1), .i lines, .ro _ ks] := fun b hb => hA _ (by show ((ks.xs.length : Int) - (i + 1)).toNat < ((ks.xs.length : Int) - i).toNat; omega) ⟨⟨by omega, by omega⟩, by rw [ez, hb, Bool.or_assoc]; exact hk⟩;clear hA hk
  repeat' (first | omega|intro _|with_reducible first|apply vifd|apply vifn|apply vifq|apply vifq0|apply vifq1|apply vifb|apply vif|apply nedd|apply ned2|apply ned|apply ar64|apply Xb|exact True.intro|assumption|rfl|apply And.intro)
  all_goals first | (refine go _ ?_; simp [*]; done) | skip
 ·rw [show ks.xs.length - i.toNat = 0 by omega] at hk;simp only [Tt.anyN, Bool.or_false] at hk;exact vifd (fun e => by omega) fun _ => hk
def Xuu : LE Tryz.prog := ⟨56, 8, fun W => @Yv5 W Xii, Xtw⟩
def Tl1 : Tab Tryz.prog := ⟨[], [Xuu], []⟩
def Xf7 [InW] (e : List Ed) (K : Nat -> List Ed -> Prop) : Prop := match e with
 | [.i n, .i lines, .ro _ ks, .l out] => Pre (1 <= n /\ n <= lines + 1 /\ lines <= 12 /\ out.length <= n) (K 0 [.l (out ++ Tt.loD ks.xs n.toNat (lines + 1 - n).toNat)])
 | _ => False
def Xih : LC where
 len := 38
 T := [(1, (.ptr 1 0)), (3, (.row 6)), (4, .int .i64)]
 H := [(1, .blk 48 [.int .i64, .rs Je]), (6, .arr 3 Jc)]
 W := (rgg 5 32)
 outs := [⟨.exit 0, [(3, (.row 9))], [(9, .arr 3 Jc)], ([1] ++ rgg 4 33)⟩]
 spec := Xf7
def Xe7 [W : InW] (n lines : Int) (ks : Ro Je) (out : Dt) (A : List Ed -> Prop) (K : Nat -> List Ed -> Prop) : Prop :=
 Vif (decide (n <= lines)) (Pre (Ze <= 0 /\ Ze <= (↑(ks.xs.length) : Int)) (Vif (!(false || Tt.anyN ks.xs n (Int.toNat Ze) (ks.xs.length - Int.toNat Ze))) (Need (decide ((out.length + [[Cl.i n]].length) * 8 <= 140737488355328)) (Ar .i64 (n + 1) fun z => A [.i z, .i lines, .ro _ ks, .l (out ++ [[Cl.i n]])])) (Ar .i64 (n + 1) fun z => A [.i z, .i lines, .ro _ ks, .l out]))) (K 0 [.l out])
theorem Xor (W : InW) (n lines ks out A K) : Ygb { cxT Tryz.prog TT Tl1 1000 50 with fn := 56 } 1000 (Ypx Tryz.prog 56 4) (Yeo 38 [(1, .ptr 1 0), (3, .rw 6), (4, .si .i64 n)] (rgg 5 32)) [(1, .blk 48 [.si .i64 lines, .rs _ ks]), (6, .arr 3 Jc out)] (Yw5 Xih A K) = Xe7 n lines ks out A K := by kernel_rfl
def Xhi : Prop := ∀ (W : InW) (body a : Code), (Tryz.prog.funcs[56]?).bind (·.body) = some body -> a ∈ Y1 body -> Yg1 a = 4 -> @Yod W Tryz.prog a (@Yv5 W Xih)
theorem Xqc (meas : [InW] -> List Ed -> Nat) (hyp_ : ∀ (W : InW) n lines ks out K, Xf7 [.i n, .i lines, .ro _ ks, .l out] K -> ∀ A : List Ed -> Prop, (∀ e, meas e < meas [.i n, .i lines, .ro _ ks, .l out] -> Xf7 e K -> A e) -> Xe7 n lines ks out A K) : Xhi :=
 LE.okOf' (fun W => @TT W) (fun W => @Xc W) Xa Tl1 1000 50 (by kernel_rfl) Xih (fun W => @meas W) fun W n lines ks out K hs =>
  (Xor W n lines ks out (fun e => meas e < meas [.i n, .i lines, .ro _ ks, .l out] /\ Xf7 e K) K).mpr (hyp_ W n lines ks out K hs _ fun e h1 h2 => ⟨h1, h2⟩)
theorem Xtv : Xhi := Xqc (fun e => match e with | .i n :: .i lines :: _ => (lines + 1 - n).toNat | _ => 0) fun W n lines ks out K hs A hA => by
 obtain ⟨⟨h0, h1, h12, hl⟩, hk⟩ := hs;unfold Xe7;delta Ze;have ez : (n + 1).toNat = n.toNat + 1 := by omega
 by_cases hi : n <= lines
 ·rw [show (lines + 1 - n).toNat = (lines + 1 - (n + 1)).toNat + 1 by omega] at hk;simp only [Tt.loD] at hk;rw [Int.toNat_of_nonneg (by omega)] at hk;have go1 : Tt.anyN ks.xs n 0 ks.xs.length = true -> A [.i (n + 1), .i lines, .ro _ ks, .l out] := fun f => hA _ (by show (lines + 1 - (n + 1)).toNat < (lines + 1 - n).toNat; omega) ⟨⟨by omega, by omega, h12, by omega⟩, by rw [ez]; rw [if_pos f, List.nil_append] at hk; exact hk⟩;have go2 : Tt.anyN ks.xs n 0 ks.xs.length = false -> A [.i (n + 1), .i lines, .ro _ ks, .l (out ++ [[.i n]])] := fun f => hA _ (by show (lines + 1 - (n + 1)).toNat < (lines + 1 - n).toNat; omega) ⟨⟨by omega, by omega, h12, by rw [List.length_append, List.length_singleton]; omega⟩, by rw [ez]; rw [if_neg (by rw [f]; simp)] at hk; rw [List.append_assoc]; exact hk⟩;clear hA hk;simp only [show Int.toNat 0 = 0 from rfl, Nat.sub_zero, Bool.false_or]
  repeat' (first | omega|intro _|with_reducible first|apply vifd|apply vifn|apply vifq|apply vifq0|apply vifq1|apply vifb|apply vif|apply nedd|apply ned2|apply ned|apply ar64|apply Xb|exact True.intro|assumption|rfl|apply And.intro)
  all_goals first | (refine go1 ?_; simp_all; done) | (refine go2 ?_; simp_all; done) | (simp only [List.length_cons, List.length_nil]; omega) | omega | skip
 ·rw [show (lines + 1 - n).toNat = 0 by omega] at hk;simp only [Tt.loD, List.append_nil] at hk;exact vifd (fun e => by omega) fun _ => hk
def Xut : LE Tryz.prog := ⟨56, 4, fun W => @Yv5 W Xih, Xtv⟩
def Tl2 : Tab Tryz.prog := ⟨[], [Xut], []⟩
abbrev Xdk (ds : DS) : DS := match ds with | [[.i lines, .l ks]] => [[.l (Tt.loD ks 1 lines.toNat)]] | _ => []
abbrev Xj8 (ds : DS) : Prop := match ds with | [[.i lines, .l ks]] => 1 <= lines /\ lines <= 12 | _ => False
def Xln [W : InW] (s_Lines : Int) (s_Kept : Ro Je) (Q : DS -> Prop) : Prop :=
 Pre ((1 : Int) <= 1 /\ 1 <= s_Lines + 1 /\ s_Lines <= 12 /\ (↑(0 : Nat) : Int) <= 1) (Q [[Cl.l (Tt.loD s_Kept.xs (Int.toNat (1 : Int)) (s_Lines + 1 - 1).toNat)]])
theorem Xrr (W : InW) (s_Lines s_Kept Q) : Yzs (cxT Tryz.prog TT Tl2 1000 50) 1000 56 [.agg [.si .i64 s_Lines, .rs _ s_Kept]] [] 0 (Y4g [(false, [.row 3 Jc])] Q) (fun _ _ _ _ => Stuck 421) = Xln s_Lines s_Kept Q := by kernel_rfl
abbrev Xeb : List AT := [.agg [.int .i64, .sl Je]]
theorem Xs1 {pre : DS -> Prop} {res : DS -> DS} (hyp_ : ∀ (W : InW) (s_Lines : Int) (s_Kept : Ro Je), pre [[.i s_Lines, .l s_Kept.xs]] -> ∀ Q : DS -> Prop, Q (res [[.i s_Lines, .l s_Kept.xs]]) -> Xln s_Lines s_Kept Q) : PureOk Tryz.prog 56 Xeb [(false, [.row 3 Jc])] pre res :=
 PureOk.of' (fun W => @TT W) (fun W => @Xc W) Xa Tl2 1000 50 fun W s_Lines s_Kept hp =>
  (Xrr W s_Lines s_Kept (fun o => o = res [[.i s_Lines, .l s_Kept.xs]])).mpr (hyp_ W s_Lines s_Kept hp _ rfl)
theorem oklos : PureOk Tryz.prog 56 Xeb [(false, [.row 3 Jc])] Xj8 Xdk :=
 Xs1 fun W lines ks hp Q h => by
  obtain ⟨h1, h2⟩ : 1 <= lines /\ lines <= 12 := hp;unfold Xln;simp only [Xdk] at h;refine Xb ⟨by omega, by omega, h2, by simp⟩ ?_;rw [show (lines + 1 - 1).toNat = lines.toNat by omega];exact h
def Xse : PC Tryz.prog := ⟨56, Xeb, [(false, [.row 3 Jc])], Xj8, Xdk, oklos⟩
def Tl3 : Tab Tryz.prog := ⟨[Xgu, Xnp], [], []⟩
def Xfr [InW] (e : List Ed) (K : Nat -> List Ed -> Prop) : Prop := match e with
 | [.i i, .ro _ fs, .ro _ ms, .i all, .i lines, .ro _ ks] => Pre (0 <= i /\ i <= ks.xs.length /\ fs.xs.length <= 6 /\ ms.xs.length <= 3 /\ Tt.ShOk fs.xs ms.xs ks.xs lines) (K 0 [.ro _ fs, .ro _ ms, .i all, .i lines, .ro _ ks])
 | _ => False
def Xh1 : LC where
 len := 58
 T := [(2, (.ptr 1 0)), (3, (.ptr 4 0)), (5, .int .i64)]
 H := [(1, .blk 29 [.rs Jb, .rs Jd, .int .i64]), (4, .blk 48 [.int .i64, .rs Je])]
 W := ([4, 6] ++ rgg 11 43)
 outs := [⟨.exit 0, [(2, (.ptr 1 0)), (3, (.ptr 4 0))], [(1, .blk 29 [.rs Jb, .rs Jd, .int .i64]), (4, .blk 48 [.int .i64, .rs Je])], ([4, 5, 6] ++ rgg 11 43)⟩]
 spec := Xfr
def Zq [W : InW] (i : Int) (fs : Ro Jb) (ms : Ro Jd) (all lines : Int) (ks : Ro Je) (A : List Ed -> Prop) := Pre (fs.xs.length <= 6 /\ ms.xs.length <= 3) (Ar .i64 ((↑(fs.xs.length) : Int) + (↑(ms.xs.length) : Int) - 1) fun z => Pre True (Vif (!Sp.inr (cel ks.xs i.toNat (0+1)).int (0 : Int) z) Zm (Pre True (Vif (!Sp.inr (cel ks.xs i.toNat (Zh + 1 + 1)).int (0 : Int) (240 : Int)) Zm (Ar .i64 (i + 1) fun z => A [.i z, .ro _ fs, .ro _ ms, .i all, .i lines, .ro _ ks])))))
def Xer [W : InW] (i : Int) (fs : Ro Jb) (ms : Ro Jd) (all lines : Int) (ks : Ro Je) (A : List Ed -> Prop) (K : Nat -> List Ed -> Prop) : Prop :=
 Vif (decide (i < (↑(ks.xs.length) : Int))) (Need (decide (0 <= i) && decide (i < (↑(ks.xs.length) : Int))) (Need (decide (i.toNat < ks.xs.length)) (Pre True (Vif (!Sp.inr (cel ks.xs i.toNat Zh).int (1 : Int) lines) Zm (Vif (decide (0 < i)) (Ar .i64 (i - 1) fun z => Need (decide (0 <= z) && decide (z < (↑(ks.xs.length) : Int))) (Need (decide (z.toNat < ks.xs.length)) (Vif (decide ((cel ks.xs i.toNat Zh).int <= (cel ks.xs z.toNat Zh).int)) Zm (Zq i fs ms all lines ks A)))) (Zq i fs ms all lines ks A)))))) (K 0 [.ro _ fs, .ro _ ms, .i all, .i lines, .ro _ ks])
theorem Xob (W : InW) (i fs ms all lines ks A K) : Ygb { cxT Tryz.prog TT Tl3 1000 50 with fn := 11 } 1000 (Ypx Tryz.prog 11 5) (Yeo 58 [(2, .ptr 1 0), (3, .ptr 4 0), (5, .si .i64 i)] ([4, 6] ++ rgg 11 43)) [(1, .blk 29 [.rs _ fs, .rs _ ms, .si .i64 all]), (4, .blk 48 [.si .i64 lines, .rs _ ks])] (Yw5 Xh1 A K) = Xer i fs ms all lines ks A K := by kernel_rfl
def Xg2 : Prop := ∀ (W : InW) (body a : Code), (Tryz.prog.funcs[11]?).bind (·.body) = some body -> a ∈ Y1 body -> Yg1 a = 5 -> @Yod W Tryz.prog a (@Yv5 W Xh1)
theorem Xpw (meas : [InW] -> List Ed -> Nat) (hyp_ : ∀ (W : InW) i fs ms all lines ks K, Xfr [.i i, .ro _ fs, .ro _ ms, .i all, .i lines, .ro _ ks] K -> ∀ A : List Ed -> Prop, (∀ e, meas e < meas [.i i, .ro _ fs, .ro _ ms, .i all, .i lines, .ro _ ks] -> Xfr e K -> A e) -> Xer i fs ms all lines ks A K) : Xg2 :=
 LE.okOf' (fun W => @TT W) (fun W => @Xc W) Xa Tl3 1000 50 (by kernel_rfl) Xh1 (fun W => @meas W) fun W i fs ms all lines ks K hs =>
  (Xob W i fs ms all lines ks (fun e => meas e < meas [.i i, .ro _ fs, .ro _ ms, .i all, .i lines, .ro _ ks] /\ Xfr e K) K).mpr (hyp_ W i fs ms all lines ks K hs _ fun e h1 h2 => ⟨h1, h2⟩)
theorem Xtf : Xg2 := Xpw (fun e => match e with | [.i i, _, _, _, _, .ro _ ks] => ((ks.xs.length : Int) - i).toNat | _ => 0) fun W i fs ms all lines ks K hs A hA => by
 obtain ⟨⟨h0, h1, h6, h3, hs⟩, hk⟩ := hs;unfold Xer;delta Zq Zm Zh;have hf := hs.few
 by_cases hi : i < ks.xs.length
 ·have hlt : i.toNat < ks.xs.length := by omega
  have hn : Sp.inr (cel ks.xs i.toNat 0).int 1 lines = true := Xd.2 (hs.no _ hlt);have hw : Sp.inr (cel ks.xs i.toNat 1).int 0 ((fs.xs.length : Int) + ms.xs.length - 1) = true := Xd.2 (by have := hs.wh _ hlt; omega);have hm : Sp.inr (cel ks.xs i.toNat 2).int 0 240 = true := Xd.2 (hs.sm _ hlt);have hu : 0 < i -> (cel ks.xs (i - 1).toNat 0).int < (cel ks.xs i.toNat 0).int := fun h => by
   have := hs.up (i - 1).toNat (by omega);rwa [show (i - 1).toNat + 1 = i.toNat by omega] at this
  have go := hA [.i (i + 1), .ro _ fs, .ro _ ms, .i all, .i lines, .ro _ ks] (by show ((ks.xs.length : Int) - (i + 1)).toNat < ((ks.xs.length : Int) - i).toNat; omega) ⟨⟨by omega, by omega, h6, h3, hs⟩, hk⟩;clear hA hk hs;simp only [Nat.zero_add, Nat.reduceAdd];rw [hn]
  repeat' (first | (with_reducible refine Xb ⟨h6, h3⟩ ?_) | omega|intro _|with_reducible first|apply vifd|apply vifn|apply vifq|apply vifq0|apply vifq1|apply vifb|apply vif|apply nedd|apply ned2|apply ned|apply ar64|apply Xb|exact True.intro|assumption|rfl|apply And.intro)
  all_goals first | exact go | contradiction | (exfalso; have := hu (by omega); omega) | (exfalso; simp_all; done) | skip
 ·exact vifd (fun e => by omega) fun _ => hk
def Xud : LE Tryz.prog := ⟨11, 5, fun W => @Yv5 W Xh1, Xtf⟩
def Tl4 : Tab Tryz.prog := ⟨[Xgu, Xse], [Xud], []⟩
abbrev Xjt (ds : DS) : DS := [[.i 0]]
abbrev Xj3 (ds : DS) : Prop := match ds with | [[.l fs, .l ms, .i all], [.i lines, .l ks]] => fs.length <= 6 /\ ms.length <= 3 /\ Tt.ShOk fs ms ks lines | _ => False
def Xle [W : InW] (c_Fs : Ro Jb) (c_Ms : Ro Jd) (c_All s_Lines : Int) (s_Kept : Ro Je) (Q : DS -> Prop) : Prop :=
 Pre True (Vif (!Sp.inr s_Lines (1 : Int) (12 : Int)) (Q [[Cl.i 7]]) (Pre ((0 : Int) <= 0 /\ (0 : Int) <= (↑(s_Kept.xs.length) : Int) /\ c_Fs.xs.length <= 6 /\ c_Ms.xs.length <= 3 /\ Tt.ShOk c_Fs.xs c_Ms.xs s_Kept.xs s_Lines) (Pre (1 <= s_Lines /\ s_Lines <= 12) (Vif (decide ((3 : Int) < (↑(List.length (Tt.loD s_Kept.xs (1 : Nat) s_Lines.toNat)) : Int))) (Q [[Cl.i 3]]) (Q [[Cl.i 0]])))))
theorem Xri (W : InW) (c_Fs c_Ms c_All s_Lines s_Kept Q) : Yzs (cxT Tryz.prog TT Tl4 1000 50) 1000 11 [.agg [.rs _ c_Fs, .rs _ c_Ms, .si .i64 c_All], .agg [.si .i64 s_Lines, .rs _ s_Kept]] [] 0 (Y4g [(false, [.int .i64])] Q) (fun _ _ _ _ => Stuck 421) = Xle c_Fs c_Ms c_All s_Lines s_Kept Q := by kernel_rfl
abbrev Xd2 : List AT := [.agg [.sl Jb, .sl Jd, .int .i64], .agg [.int .i64, .sl Je]]
theorem Xss {pre : DS -> Prop} {res : DS -> DS} (hyp_ : ∀ (W : InW) (c_Fs : Ro Jb) (c_Ms : Ro Jd) (c_All s_Lines : Int) (s_Kept : Ro Je), pre [[.l c_Fs.xs, .l c_Ms.xs, .i c_All], [.i s_Lines, .l s_Kept.xs]] -> ∀ Q : DS -> Prop, Q (res [[.l c_Fs.xs, .l c_Ms.xs, .i c_All], [.i s_Lines, .l s_Kept.xs]]) -> Xle c_Fs c_Ms c_All s_Lines s_Kept Q) : PureOk Tryz.prog 11 Xd2 [(false, [.int .i64])] pre res :=
 PureOk.of' (fun W => @TT W) (fun W => @Xc W) Xa Tl4 1000 50 fun W c_Fs c_Ms c_All s_Lines s_Kept hp =>
  (Xri W c_Fs c_Ms c_All s_Lines s_Kept (fun o => o = res [[.l c_Fs.xs, .l c_Ms.xs, .i c_All], [.i s_Lines, .l s_Kept.xs]])).mpr (hyp_ W c_Fs c_Ms c_All s_Lines s_Kept hp _ rfl)
theorem okshe : PureOk Tryz.prog 11 Xd2 [(false, [.int .i64])] Xj3 Xjt :=
 Xss fun W fs ms all lines ks hp Q h => by
  obtain ⟨h6, h3, hs⟩ : fs.xs.length <= 6 /\ ms.xs.length <= 3 /\ Tt.ShOk fs.xs ms.xs ks.xs lines := hp;unfold Xle;have h1 := hs.l1;have h12 := hs.l12;have hl := hs.lo;have hn : Sp.inr lines 1 12 = true := Xd.2 ⟨h1, h12⟩;rw [hn];refine Xb trivial (vif (fun e => by cases e) fun _ => Xb ⟨by omega, by omega, h6, h3, hs⟩ (Xb ⟨h1, h12⟩ (vifd (fun e => by omega) fun _ => h)))
def Xr7 : PC Tryz.prog := ⟨11, Xd2, [(false, [.int .i64])], Xj3, Xjt, okshe⟩
namespace Tt
structure FtOk (ks : Dt) (lines : Int) : Prop where
 few : ks.length <= 12
 no : ∀ i, i < ks.length -> 1 <= (cel ks i 0).int /\ (cel ks i 0).int <= lines
def fitB (fs ks te : Dt) (lines : Int) : Bool := decide ((te.length : Int) = lines) && fitR fs ks te 0 ks.length
end Tt
def Tf1 : Tab Tryz.prog := ⟨[Xck], [], []⟩
theorem Xng {te : Dt} (h : Tt.LOk te) (k : Nat) : Tt.LOk (te.take k) := by
 have := h.n;refine ⟨by rw [List.length_take]; omega, fun i hi => ?_⟩;rw [List.length_take] at hi;rw [Xb0 (by omega)];exact h.w i (by omega)
def Xgd [InW] (e : List Ed) (K : Nat -> List Ed -> Prop) : Prop := match e with
 | [.ro _ te, .i i, .ro _ fs, .ro _ ms, .i all, .i lines, .ro _ ks] => Pre (0 <= i /\ i <= ks.xs.length /\ Tt.FOk fs.xs /\ Tt.LOk te.xs /\ (te.xs.length : Int) = lines /\ Tt.FtOk ks.xs lines) (Vif (Tt.fitR fs.xs ks.xs te.xs i.toNat (ks.xs.length - i.toNat)) (K 0 []) (K 1 []))
 | _ => False
def Xin : LC where
 len := 46
 T := [(2, .rs Jc), (3, (.ptr 1 0)), (4, (.ptr 4 0)), (7, .int .i64)]
 H := [(1, .blk 29 [.rs Jb, .rs Jd, .int .i64]), (4, .blk 48 [.int .i64, .rs Je])]
 W := ([6, 8] ++ rgg 14 32)
 outs := [⟨.exit 0, [], [], ([2, 3, 4, 6, 7, 8] ++ rgg 14 32)⟩, ⟨.ret, [(6, (.lit (.bool false)))], [], ([2, 3, 4, 7, 8] ++ rgg 14 32)⟩]
 spec := Xgd
def Xfd [W : InW] (te : Ro Jc) (i : Int) (fs : Ro Jb) (ms : Ro Jd) (all lines : Int) (ks : Ro Je) (A : List Ed -> Prop) (K : Nat -> List Ed -> Prop) : Prop :=
 Vif (decide (i < (↑(ks.xs.length) : Int))) (Need (decide (0 <= i) && decide (i < (↑(ks.xs.length) : Int))) (Need (decide (i.toNat < ks.xs.length)) (Ar .i64 ((cel ks.xs i.toNat Zh).int - 1) fun z => Need (decide (0 <= z) && decide (z < (↑(te.xs.length) : Int))) (Need (decide (z.toNat < te.xs.length)) (Vif (!decide ((cel te.xs z.toNat Zh).int = (cel ks.xs i.toNat (0+1)).int)) (K (0+1) []) (Need (decide ((0 : Int) <= (cel ks.xs i.toNat Zh).int)) (Need (decide (Zh <= (cel ks.xs i.toNat Zh).int.toNat) && decide ((cel ks.xs i.toNat Zh).int.toNat <= te.xs.length)) (Pre (Tt.FOk fs.xs /\ Tt.LOk (List.drop Zh (List.take (cel ks.xs i.toNat Zh).int.toNat te.xs))) (Vif (!decide (Tt.tot fs.xs (List.drop Zh (List.take (cel ks.xs i.toNat Zh).int.toNat te.xs)) Zh (List.drop Zh (List.take (cel ks.xs i.toNat Zh).int.toNat te.xs)).length = (cel ks.xs i.toNat (Zh + 1 + 1)).int)) (K (0+1) []) (Ar .i64 (i + 1) fun z => A [.ro _ te, .i z, .ro _ fs, .ro _ ms, .i all, .i lines, .ro _ ks])))))))))) (K 0 [])
theorem Xox (W : InW) (te i fs ms all lines ks A K) : Ygb { cxT Tryz.prog TT Tf1 1000 50 with fn := 12 } 1000 (Ypx Tryz.prog 12 5) (Yeo 46 [(2, .rs _ te), (3, .ptr 1 0), (4, .ptr 4 0), (7, .si .i64 i)] ([6, 8] ++ rgg 14 32)) [(1, .blk 29 [.rs _ fs, .rs _ ms, .si .i64 all]), (4, .blk 48 [.si .i64 lines, .rs _ ks])] (Yw5 Xin A K) = Xfd te i fs ms all lines ks A K := by kernel_rfl
def Xho : Prop := ∀ (W : InW) (body a : Code), (Tryz.prog.funcs[12]?).bind (·.body) = some body -> a ∈ Y1 body -> Yg1 a = 5 -> @Yod W Tryz.prog a (@Yv5 W Xin)
theorem Xqi (meas : [InW] -> List Ed -> Nat) (hyp_ : ∀ (W : InW) te i fs ms all lines ks K, Xgd [.ro _ te, .i i, .ro _ fs, .ro _ ms, .i all, .i lines, .ro _ ks] K -> ∀ A : List Ed -> Prop, (∀ e, meas e < meas [.ro _ te, .i i, .ro _ fs, .ro _ ms, .i all, .i lines, .ro _ ks] -> Xgd e K -> A e) -> Xfd te i fs ms all lines ks A K) : Xho :=
 LE.okOf' (fun W => @TT W) (fun W => @Xc W) Xa Tf1 1000 50 (by kernel_rfl) Xin (fun W => @meas W) fun W te i fs ms all lines ks K hs =>
  (Xox W te i fs ms all lines ks (fun e => meas e < meas [.ro _ te, .i i, .ro _ fs, .ro _ ms, .i all, .i lines, .ro _ ks] /\ Xgd e K) K).mpr (hyp_ W te i fs ms all lines ks K hs _ fun e h1 h2 => ⟨h1, h2⟩)
theorem Xt1 : Xho := Xqi (fun e => match e with | [_, .i i, _, _, _, _, .ro _ ks] => ((ks.xs.length : Int) - i).toNat | _ => 0) fun W te i fs ms all lines ks K hs A hA => by
 obtain ⟨⟨h0, h1, hf, hl, rfl, hq⟩, hk⟩ := hs;unfold Xfd;delta Zh;have hf12 := hq.few;have hn12 : (te.xs.length : Int) <= 12 := by have := hl.n; omega
 have ez : (i + 1).toNat = i.toNat + 1 := by omega
 by_cases hi : i < ks.xs.length
 ·have hn := hq.no i.toNat (by omega);rw [show ks.xs.length - i.toNat = (ks.xs.length - (i.toNat + 1)) + 1 by omega] at hk;simp only [Tt.fitR] at hk;have go : (cel te.xs ((cel ks.xs i.toNat 0).int - 1).toNat 0).int = (cel ks.xs i.toNat 1).int -> Tt.tot fs.xs (te.xs.take (cel ks.xs i.toNat 0).int.toNat) 0 (te.xs.take (cel ks.xs i.toNat 0).int.toNat).length = (cel ks.xs i.toNat 2).int -> A [.ro _ te, .i (i + 1), .ro _ fs, .ro _ ms, .i all, .i te.xs.length, .ro _ ks] := fun f g => hA _ (by show ((ks.xs.length : Int) - (i + 1)).toNat < ((ks.xs.length : Int) - i).toNat; omega) ⟨⟨by omega, by omega, hf, hl, rfl, hq⟩, by
   rw [ez];rw [decide_eq_true f, decide_eq_true g, Bool.true_and, Bool.true_and] at hk;exact hk⟩
  have bad1 : ¬ (cel te.xs ((cel ks.xs i.toNat 0).int - 1).toNat 0).int = (cel ks.xs i.toNat 1).int -> K 1 [] := fun f => by
   rw [decide_eq_false f, Bool.false_and, Bool.false_and] at hk;exact hk.2 rfl
  have bad2 : ¬ Tt.tot fs.xs (te.xs.take (cel ks.xs i.toNat 0).int.toNat) 0 (te.xs.take (cel ks.xs i.toNat 0).int.toNat).length = (cel ks.xs i.toNat 2).int -> K 1 [] := fun f => by
   rw [decide_eq_false f, Bool.and_false, Bool.false_and] at hk;exact hk.2 rfl
  have ht := Xng hl (cel ks.xs i.toNat 0).int.toNat;clear hA hk;simp only [Nat.zero_add, Nat.reduceAdd, List.drop_zero]
  repeat' (first | (with_reducible refine Xb ⟨hf, ht⟩ ?_) | omega|intro _|with_reducible first|apply vifd|apply vifn|apply vifq|apply vifq0|apply vifq1|apply vifb|apply vif|apply nedd|apply ned2|apply ned|apply ar64|apply Xb|exact True.intro|assumption|rfl|apply And.intro)
  all_goals first | (refine bad1 ?_; assumption) | (refine bad2 ?_; assumption) | (refine go ?_ ?_ <;> assumption) | (simp only [Bool.and_eq_true, decide_eq_true_eq]; omega) | skip
 ·rw [show ks.xs.length - i.toNat = 0 by omega] at hk;exact vifd (fun e => by omega) fun _ => hk.1 rfl
def Xuz : LE Tryz.prog := ⟨12, 5, fun W => @Yv5 W Xin, Xt1⟩
def Tf2 : Tab Tryz.prog := ⟨[], [Xuz], []⟩
abbrev Xch (ds : DS) : DS := match ds with | [[.l fs, .l ms, .i all], [.i lines, .l ks], [.l te]] => [[.b (Tt.fitB fs ks te lines)]] | _ => []
abbrev Xgs (ds : DS) : Prop := match ds with | [[.l fs, .l ms, .i all], [.i lines, .l ks], [.l te]] => Tt.FOk fs /\ Tt.LOk te /\ Tt.FtOk ks lines | _ => False
def Xem [W : InW] (c_Fs : Ro Jb) (c_Ms : Ro Jd) (c_All s_Lines : Int) (s_Kept : Ro Je) (te : Ro Jc) (Q : DS -> Prop) : Prop :=
 Vif (!decide ((↑(te.xs.length) : Int) = s_Lines)) (Q [[Cl.b false]]) (Pre (Ze <= 0 /\ Ze <= (↑(s_Kept.xs.length) : Int) /\ Tt.FOk c_Fs.xs /\ Tt.LOk te.xs /\ (↑(te.xs.length) : Int) = s_Lines /\ Tt.FtOk s_Kept.xs s_Lines) (Vif (Tt.fitR c_Fs.xs s_Kept.xs te.xs (Int.toNat Ze) (s_Kept.xs.length - Int.toNat Ze)) (Q [[Cl.b true]]) (Q [[Cl.b false]])))
theorem Xpg (W : InW) (c_Fs c_Ms c_All s_Lines s_Kept te Q) : Yzs (cxT Tryz.prog TT Tf2 1000 50) 1000 12 [.agg [.rs _ c_Fs, .rs _ c_Ms, .si .i64 c_All], .agg [.si .i64 s_Lines, .rs _ s_Kept], .rs _ te] [] 0 (Y4g [(false, [.bool])] Q) (fun _ _ _ _ => Stuck 421) = Xem c_Fs c_Ms c_All s_Lines s_Kept te Q := by kernel_rfl
abbrev Xcv : List AT := [.agg [.sl Jb, .sl Jd, .int .i64], .agg [.int .i64, .sl Je], .one (.sl Jc)]
theorem Xq2 {pre : DS -> Prop} {res : DS -> DS} (hyp_ : ∀ (W : InW) (c_Fs : Ro Jb) (c_Ms : Ro Jd) (c_All s_Lines : Int) (s_Kept : Ro Je) (te : Ro Jc), pre [[.l c_Fs.xs, .l c_Ms.xs, .i c_All], [.i s_Lines, .l s_Kept.xs], [.l te.xs]] -> ∀ Q : DS -> Prop, Q (res [[.l c_Fs.xs, .l c_Ms.xs, .i c_All], [.i s_Lines, .l s_Kept.xs], [.l te.xs]]) -> Xem c_Fs c_Ms c_All s_Lines s_Kept te Q) : PureOk Tryz.prog 12 Xcv [(false, [.bool])] pre res :=
 PureOk.of' (fun W => @TT W) (fun W => @Xc W) Xa Tf2 1000 50 fun W c_Fs c_Ms c_All s_Lines s_Kept te hp =>
  (Xpg W c_Fs c_Ms c_All s_Lines s_Kept te (fun o => o = res [[.l c_Fs.xs, .l c_Ms.xs, .i c_All], [.i s_Lines, .l s_Kept.xs], [.l te.xs]])).mpr (hyp_ W c_Fs c_Ms c_All s_Lines s_Kept te hp _ rfl)
theorem Xso : PureOk Tryz.prog 12 Xcv [(false, [.bool])] Xgs Xch :=
 Xq2 fun W fs ms all lines ks te hp Q h => by
  obtain ⟨hf, hl, hq⟩ : Tt.FOk fs.xs /\ Tt.LOk te.xs /\ Tt.FtOk ks.xs lines := hp;unfold Xem;delta Ze;simp only [Xch, Tt.fitB] at h;rw [show Int.toNat 0 = 0 from rfl, Nat.sub_zero];refine vifn (fun e => ?_) fun e => Xb ⟨by omega, by omega, hf, hl, e, hq⟩ (vif (fun f => ?_) fun f => ?_)
  ·rw [decide_eq_false e] at h; exact h
  ·rw [decide_eq_true e, f] at h; exact h
  ·rw [decide_eq_true e, f] at h; exact h
def Xnr : PC Tryz.prog := ⟨12, Xcv, [(false, [.bool])], Xgs, Xch, Xso⟩
abbrev Xpj (ds : DS) : DS := match ds with | [[.i p]] => [[.i (max 0 (1000 - 4 * p))]] | _ => []
abbrev Xka (ds : DS) : Prop := match ds with | [[.i p]] => 0 <= p /\ p <= 240 | _ => False
def Xn3 [W : InW] (p : Int) (Q : DS -> Prop) : Prop :=
 Ar .i64 ((4 : Int) * p) fun z => Ar .i64 ((1000 : Int) - z) fun z => Q [[Cl.i (max (0 : Int) z)]]
theorem Xrv (W : InW) (p Q) : Yzs (cxT Tryz.prog TT T0 1000 50) 1000 16 [.si .i64 p] [] 0 (Y4g [(false, [.int .i64])] Q) (fun _ _ _ _ => Stuck 421) = Xn3 p Q := by kernel_rfl
abbrev Xef : List AT := [.one (.int .i64)]
theorem Xs5 {pre : DS -> Prop} {res : DS -> DS} (hyp_ : ∀ (W : InW) (p : Int), pre [[.i p]] -> ∀ Q : DS -> Prop, Q (res [[.i p]]) -> Xn3 p Q) : PureOk Tryz.prog 16 Xef [(false, [.int .i64])] pre res :=
 PureOk.of' (fun W => @TT W) (fun W => @Xc W) Xa T0 1000 50 fun W p hp =>
  (Xrv W p (fun o => o = res [[.i p]])).mpr (hyp_ W p hp _ rfl)
theorem okgiv : PureOk Tryz.prog 16 Xef [(false, [.int .i64])] Xka Xpj :=
 Xs5 fun W p hp Q h => by
  obtain ⟨h0, h1⟩ : 0 <= p /\ p <= 240 := hp;exact ar64 (by omega) (ar64 (by omega) h)
set_option maxHeartbeats 3200000
namespace Tt
structure DrOk (lines : Int) (wh : Dt) (lo : Int) : Prop where
 l : 0 <= lines /\ lines <= 255
 w : ∀ i, i < wh.length -> 0 <= (cel wh i 0).int /\ (cel wh i 0).int <= 255
 o : 0 <= lo /\ lo <= 65535
def whV (wh : Dt) (th : Int) (n : Nat) : Int := if 0 < (wh.length : Int) then (cel wh ((n : Int).tmod wh.length).toNat 0).int.tmod th else 0
def whlT (wh : Dt) (th : Int) : Nat -> Nat -> Dt
 | _, 0 => []
 | n, k + 1 => [.i (whV wh th n)] :: whlT wh th (n + 1) k
def whlS (lo : Int) (n : Nat) (ls : Dt) : Dt := if (lo.fdiv (2 ^ min n 16)).tmod 2 = 1 then (if (ls.length : Int) < 3 then ls ++ [[.i ((n : Int) + 1)]] else ls) else ls
def whlL (lo : Int) : Nat -> Nat -> Dt -> Dt
 | _, 0, ls => ls
 | n, k + 1, ls => whlL lo (n + 1) k (whlS lo n ls)
def wTe (fs ms wh : Dt) (lines : Int) : Dt := whlT wh ((fs.length : Int) + ms.length) 0 (1 + lines.tmod 12).toNat
def wLo (lines lo : Int) : Dt := whlL lo 0 (1 + lines.tmod 12).toNat []
end Tt
def Xfn [InW] (e : List Ed) (K : Nat -> List Ed -> Prop) : Prop := match e with
 | [.i th, .i n, .i lines, .ro _ wh, .i lo, .l te, .l ls] => Pre (1 <= th /\ 0 <= n /\ n <= 1 + lines.tmod 12 /\ Tt.DrOk lines wh.xs lo /\ te.length <= n.toNat /\ ls.length <= 3) (K 0 [.l (te ++ Tt.whlT wh.xs th n.toNat (1 + lines.tmod 12 - n).toNat), .l (Tt.whlL lo n.toNat (1 + lines.tmod 12 - n).toNat ls)])
 | _ => False
def Xhx : LC where
 len := 65
 T := [(3, (.ptr 4 0)), (6, .int .i64), (7, (.row 6)), (8, (.row 9)), (9, .int .i64)]
 H := [(4, .blk 33 [.int .u8, .rs [.int .u8], .int .u16]), (6, .arr 3 Jc), (9, .arr 3 Jc)]
 W := ([10] ++ rgg 18 45)
 outs := [⟨.exit 0, [(7, (.row 12)), (8, (.row 15))], [(12, .arr 3 Jc), (15, .arr 3 Jc)], ([3, 6, 9, 10] ++ rgg 18 45)⟩]
 spec := Xfn
def Zr [W : InW] (wh : Ro [.int .u8]) := (↑(wh.xs.length) : Int)
def Xen [W : InW] (th n lines : Int) (wh : Ro [.int .u8]) (lo : Int) (te ls : Dt) (A : List Ed -> Prop) (K : Nat -> List Ed -> Prop) : Prop :=
 Ar .i64 lines fun z => Ar .i64 ((1 : Int) + z.tmod (12 : Int)) fun z => Vif (decide (n < z)) (Vif (decide ((0 : Int) < (Zr wh))) (Need (!decide ((Zr wh) = 0)) (Need (decide (0 <= n.tmod (Zr wh)) && decide (n.tmod (Zr wh) < (Zr wh))) (Need (decide ((n.tmod (Zr wh)).toNat < wh.xs.length)) (Ar .i64 (cel wh.xs (n.tmod (Zr wh)).toNat (0 : Nat)).int fun z => Need (!decide (th = 0)) (Need (decide ((te.length + [[Cl.i (z.tmod th)]].length) * 8 <= 140737488355328)) (Need (decide (0 <= n)) (Vif (decide ((lo.fdiv ((2 : Int) ^ min n.toNat (16 : Nat))).tmod (2 : Int) = 1)) (Vif (decide ((↑(ls.length) : Int) < 3)) (Ar .i64 (n + 1) fun z_1 => Need (decide ((ls.length + [[Cl.i z_1]].length) * 8 <= 140737488355328)) (Ar .i64 (n + 1) fun z_2 => A [.i th, .i z_2, .i lines, .ro _ wh, .i lo, .l (te ++ [[Cl.i (z.tmod th)]]), .l (ls ++ [[Cl.i z_1]])])) (Ar .i64 (n + 1) fun z_1 => A [.i th, .i z_1, .i lines, .ro _ wh, .i lo, .l (te ++ [[Cl.i (z.tmod th)]]), .l ls])) (Ar .i64 (n + 1) fun z_1 => A [.i th, .i z_1, .i lines, .ro _ wh, .i lo, .l (te ++ [[Cl.i (z.tmod th)]]), .l ls])))))))) (Need (decide ((te.length + [[Cl.i 0]].length) * 8 <= 140737488355328)) (Need (decide (0 <= n)) (Vif (decide ((lo.fdiv ((2 : Int) ^ min n.toNat (16 : Nat))).tmod (2 : Int) = 1)) (Vif (decide ((↑(ls.length) : Int) < 3)) (Ar .i64 (n + 1) fun z => Need (decide ((ls.length + [[Cl.i z]].length) * 8 <= 140737488355328)) (Ar .i64 (n + 1) fun z_1 => A [.i th, .i z_1, .i lines, .ro _ wh, .i lo, .l (te ++ [[Cl.i 0]]), .l (ls ++ [[Cl.i z]])])) (Ar .i64 (n + 1) fun z => A [.i th, .i z, .i lines, .ro _ wh, .i lo, .l (te ++ [[Cl.i 0]]), .l ls])) (Ar .i64 (n + 1) fun z => A [.i th, .i z, .i lines, .ro _ wh, .i lo, .l (te ++ [[Cl.i 0]]), .l ls]))))) (K 0 [.l te, .l ls])
theorem Xn7 (W : InW) (th n lines wh lo te ls A K) : Ygb { cxT Tryz.prog TT T0 1000 50 with fn := 8 } 1000 (Ypx Tryz.prog 8 5) (Yeo 65 [(3, .ptr 4 0), (6, .si .i64 th), (7, .rw 6), (8, .rw 9), (9, .si .i64 n)] ([10] ++ rgg 18 45)) [(4, .blk 33 [.si .u8 lines, .rs _ wh, .si .u16 lo]), (6, .arr 3 Jc te), (9, .arr 3 Jc ls)] (Yw5 Xhx A K) = Xen th n lines wh lo te ls A K := by kernel_rfl
def Xgy : Prop := ∀ (W : InW) (body a : Code), (Tryz.prog.funcs[8]?).bind (·.body) = some body -> a ∈ Y1 body -> Yg1 a = 5 -> @Yod W Tryz.prog a (@Yv5 W Xhx)
theorem Xps (meas : [InW] -> List Ed -> Nat) (hyp_ : ∀ (W : InW) th n lines wh lo te ls K, Xfn [.i th, .i n, .i lines, .ro _ wh, .i lo, .l te, .l ls] K -> ∀ A : List Ed -> Prop, (∀ e, meas e < meas [.i th, .i n, .i lines, .ro _ wh, .i lo, .l te, .l ls] -> Xfn e K -> A e) -> Xen th n lines wh lo te ls A K) : Xgy :=
 LE.okOf' (fun W => @TT W) (fun W => @Xc W) Xa T0 1000 50 (by kernel_rfl) Xhx (fun W => @meas W) fun W th n lines wh lo te ls K hs =>
  (Xn7 W th n lines wh lo te ls (fun e => meas e < meas [.i th, .i n, .i lines, .ro _ wh, .i lo, .l te, .l ls] /\ Xfn e K) K).mpr (hyp_ W th n lines wh lo te ls K hs _ fun e h1 h2 => ⟨h1, h2⟩)
theorem Xl6 {lo : Int} {n : Nat} {ls : Dt} (h : ls.length <= 3) : (Tt.whlS lo n ls).length <= 3 := by
 unfold Tt.whlS
 split
 ·split
  ·rw [List.length_append, List.length_singleton]; omega
  ·exact h
 ·exact h
theorem Xtb : Xgy := Xps (fun e => match e with | _ :: .i n :: .i lines :: _ => (1 + Int.tmod lines 12 - n).toNat | _ => 0) fun W th n lines wh lo te ls K hs A hA => by
 obtain ⟨⟨ht, h0, h1, hd, hl, hl3⟩, hk⟩ := hs;unfold Xen;delta Zr;have hm1 := Int.tmod_nonneg 12 hd.l.1;have hm2 := Int.tmod_lt_of_pos lines (show (0 : Int) < 12 by omega);refine ar64 (by have := hd.l; omega) (ar64 (by omega) ?_)
 by_cases hi : n < 1 + lines.tmod 12
 ·rw [show (1 + lines.tmod 12 - n).toNat = (1 + lines.tmod 12 - (n + 1)).toNat + 1 by omega] at hk;simp only [Tt.whlT, Tt.whlL] at hk;have go : ∀ ls', ls' = Tt.whlS lo n.toNat ls -> A [.i th, .i (n + 1), .i lines, .ro _ wh, .i lo, .l (te ++ [[.i (Tt.whV wh.xs th n.toNat)]]), .l ls'] := fun ls' e => hA _ (by show (1 + lines.tmod 12 - (n + 1)).toNat < (1 + lines.tmod 12 - n).toNat; omega) ⟨⟨ht, by omega, by omega, hd, by rw [List.length_append, List.length_singleton]; omega, by rw [e]; exact Xl6 hl3⟩, by
   rw [show (n + 1).toNat = n.toNat + 1 by omega, List.append_assoc, e]; exact hk⟩
  clear hA hk;have tail : ∀ v, v = Tt.whV wh.xs th n.toNat ->
    Need (decide ((List.length te + [[Cl.i v]].length) * 8 <= 140737488355328)) (Need (decide (0 <= n)) (Vif (decide ((lo.fdiv (2 ^ min n.toNat 16)).tmod 2 = 1))
     (Vif (decide ((List.length ls : Int) < 3))
      (Ar IntKind.i64 (n + 1) fun z => Need (decide ((List.length ls + [[Cl.i z]].length) * 8 <= 140737488355328)) (Ar IntKind.i64 (n + 1) fun z2 => A [.i th, .i z2, .i lines, .ro _ wh, .i lo, .l (te ++ [[.i v]]), .l (ls ++ [[.i z]])]))
      (Ar IntKind.i64 (n + 1) fun z => A [.i th, .i z, .i lines, .ro _ wh, .i lo, .l (te ++ [[.i v]]), .l ls]))
     (Ar IntKind.i64 (n + 1) fun z => A [.i th, .i z, .i lines, .ro _ wh, .i lo, .l (te ++ [[.i v]]), .l ls]))) := fun v hv => by
   rw [hv];have en : ((n.toNat : Nat) : Int) = n := Int.toNat_of_nonneg h0;refine nedd (by simp only [List.length_cons, List.length_nil]; omega) (nedd h0 (vifd (fun b => vifd (fun c => ar64 (by omega) (nedd (by simp only [List.length_cons, List.length_nil]; omega) (ar64 (by omega) (go _ ?_)))) fun c => ar64 (by omega) (go _ ?_)) fun b => ar64 (by omega) (go _ ?_)))
   ·unfold Tt.whlS; rw [if_pos b, if_pos c, en]
   ·unfold Tt.whlS; rw [if_pos b, if_neg c]
   ·unfold Tt.whlS; rw [if_neg b]
  refine vifd (fun _ => vifd (fun c => ?_) fun c => tail 0 (by unfold Tt.whV; rw [if_neg c])) fun e => absurd hi e;have hw1 := Int.tmod_nonneg (wh.xs.length : Int) h0;have hw2 := Int.tmod_lt_of_pos n c;have hb := hd.w (n.tmod wh.xs.length).toNat (by omega);refine ned (by rw [decide_eq_false (by omega)]; rfl) (ned (by simp only [Bool.and_eq_true, decide_eq_true_eq]; omega) (nedd (by omega) (ar64 (by omega) (ned (by rw [decide_eq_false (by omega)]; rfl) (tail _ ?_)))));unfold Tt.whV;rw [if_pos c, Int.toNat_of_nonneg h0]
 ·rw [show (1 + lines.tmod 12 - n).toNat = 0 by omega] at hk;simp only [Tt.whlT, Tt.whlL, List.append_nil] at hk;exact vifd (fun e => absurd e hi) fun _ => hk
def Xt9 : LE Tryz.prog := ⟨8, 5, fun W => @Yv5 W Xhx, Xtb⟩
def Tw1 : Tab Tryz.prog := ⟨[], [Xt9], []⟩
abbrev Xgl : List (Bool × List RTy) := [(false, [.row 3 Jc]), (false, [.row 3 Jc])]
abbrev Xcf (ds : DS) : DS := match ds with | [[.l fs, .l ms, .i all], [.i lines, .l wh, .i lo]] => [[.l (Tt.wTe fs ms wh lines)], [.l (Tt.wLo lines lo)]] | _ => []
abbrev Xgr (ds : DS) : Prop := match ds with | [[.l fs, .l ms, .i all], [.i lines, .l wh, .i lo]] => 1 <= fs.length /\ fs.length <= 6 /\ ms.length <= 3 /\ Tt.DrOk lines wh lo | _ => False
def Xek [W : InW] (c_Fs : Ro Jb) (c_Ms : Ro Jd) (c_All x_Lines : Int) (x_What : Ro [.int .u8]) (x_Lost : Int) (Q : DS -> Prop) : Prop :=
 Ar .i64 ((↑(c_Fs.xs.length) : Int) + (↑(c_Ms.xs.length) : Int)) fun z => Pre (1 <= z /\ Ze <= 0 /\ Ze <= 1 + x_Lines.tmod (12 : Int) /\ Tt.DrOk x_Lines x_What.xs x_Lost /\ (0 : Nat) <= Int.toNat Ze /\ (0 : Nat) <= 3) (Q [[Cl.l (Tt.whlT x_What.xs z Zd ((1 : Int) + x_Lines.tmod (12 : Int) - 0).toNat)], [Cl.l (Tt.whlL x_Lost Zd ((1 : Int) + x_Lines.tmod (12 : Int) - 0).toNat [])]])
theorem Xo5 (W : InW) (c_Fs c_Ms c_All x_Lines x_What x_Lost Q) : Yzs (cxT Tryz.prog TT Tw1 1000 50) 1000 8 [.agg [.rs _ c_Fs, .rs _ c_Ms, .si .i64 c_All], .agg [.si .u8 x_Lines, .rs _ x_What, .si .u16 x_Lost]] [] 0 (Y4g Xgl Q) (fun _ _ _ _ => Stuck 421) = Xek c_Fs c_Ms c_All x_Lines x_What x_Lost Q := by kernel_rfl
abbrev Xct : List AT := [.agg [.sl Jb, .sl Jd, .int .i64], .agg [.int .u8, .sl [.int .u8], .int .u16]]
theorem Xqr {pre : DS -> Prop} {res : DS -> DS} (hyp_ : ∀ (W : InW) (c_Fs : Ro Jb) (c_Ms : Ro Jd) (c_All x_Lines : Int) (x_What : Ro [.int .u8]) (x_Lost : Int), pre [[.l c_Fs.xs, .l c_Ms.xs, .i c_All], [.i x_Lines, .l x_What.xs, .i x_Lost]] -> ∀ Q : DS -> Prop, Q (res [[.l c_Fs.xs, .l c_Ms.xs, .i c_All], [.i x_Lines, .l x_What.xs, .i x_Lost]]) -> Xek c_Fs c_Ms c_All x_Lines x_What x_Lost Q) : PureOk Tryz.prog 8 Xct Xgl pre res :=
 PureOk.of' (fun W => @TT W) (fun W => @Xc W) Xa Tw1 1000 50 fun W c_Fs c_Ms c_All x_Lines x_What x_Lost hp =>
  (Xo5 W c_Fs c_Ms c_All x_Lines x_What x_Lost (fun o => o = res [[.l c_Fs.xs, .l c_Ms.xs, .i c_All], [.i x_Lines, .l x_What.xs, .i x_Lost]])).mpr (hyp_ W c_Fs c_Ms c_All x_Lines x_What x_Lost hp _ rfl)
theorem Xsl : PureOk Tryz.prog 8 Xct Xgl Xgr Xcf :=
 Xqr fun W fs ms all lines wh lo hp Q h => by
  obtain ⟨h1, h6, h3, hd⟩ : 1 <= fs.xs.length /\ fs.xs.length <= 6 /\ ms.xs.length <= 3 /\ Tt.DrOk lines wh.xs lo := hp;unfold Xek;delta Zd Ze;have hm1 := Int.tmod_nonneg 12 hd.l.1;refine ar64 (by omega) (Xb ⟨by omega, by omega, by omega, hd, by simp, by simp⟩ ?_);simp only [Xcf, Tt.wTe, Tt.wLo] at h;simpa using h
theorem Xbm {wh : Dt} {th : Int} : ∀ k n, (Tt.whlT wh th n k).length = k
 | 0, _ => rfl
 | k + 1, n => by rw [Tt.whlT, List.length_cons, Xbm k]
theorem Xfl {wh : Dt} {th : Int} : ∀ k n i, i < k -> (cel (Tt.whlT wh th n k) i 0).int = Tt.whV wh th (n + i)
 | 0, _, i, h => by omega
 | k + 1, n, 0, _ => rfl
 | k + 1, n, i + 1, h => by
  have := Xfl (wh := wh) (th := th) k (n + 1) i (by omega);rw [show n + (i + 1) = n + 1 + i by omega];exact this
theorem Xrc {wh : Dt} {th lines lo : Int} (hd : Tt.DrOk lines wh lo) (ht : 1 <= th) (n : Nat) : 0 <= Tt.whV wh th n /\ Tt.whV wh th n < th := by
 unfold Tt.whV
 split
 ·rename_i c;have hw1 := Int.tmod_nonneg (wh.length : Int) (show (0 : Int) <= n by omega);have hw2 := Int.tmod_lt_of_pos (n : Int) c;have hb := hd.w ((n : Int).tmod wh.length).toNat (by omega);exact ⟨Int.tmod_nonneg _ hb.1, Int.tmod_lt_of_pos _ (by omega)⟩
 ·omega
theorem Xl4 {fs ms wh : Dt} {all lines lo : Int} (hc : Tt.CodeOk fs ms all) (hd : Tt.DrOk lines wh lo) : Tt.TestOk fs ms (Tt.wTe fs ms wh lines) := by
 unfold Tt.wTe;have hm1 := Int.tmod_nonneg 12 hd.l.1;have hm2 := Int.tmod_lt_of_pos lines (show (0 : Int) < 12 by omega);have h1 := hc.n1;refine ⟨by rw [Xbm]; omega, by rw [Xbm]; omega, fun i hi => ?_⟩;rw [Xbm] at hi;rw [Xfl _ _ _ hi];exact Xrc hd (by omega) _
theorem Xr3 {ls : Dt} {n : Nat} (h : Tt.RsOk ls n) (h3 : ls.length < 3) : Tt.RsOk (ls ++ [[.i ((n : Int) + 1)]]) (n + 1) := by
 have hl : ∀ i, i < ls.length -> cel (ls ++ [[Cl.i ((n : Int) + 1)]]) i 0 = cel ls i 0 := fun i hi => by unfold cel; rw [Xb4 hi]
 have hr : cel (ls ++ [[Cl.i ((n : Int) + 1)]]) ls.length 0 = .i ((n : Int) + 1) := by unfold cel; rw [Xbs (Nat.le_refl _), Nat.sub_self]; rfl
 refine ⟨by rw [List.length_append, List.length_singleton]; omega, fun i hi => ?_, fun i hi => ?_⟩
 ·rw [List.length_append, List.length_singleton] at hi
  by_cases e : i < ls.length
  ·rw [hl i e]; have := h.b i e; omega
  ·rw [show i = ls.length by omega, hr]
   show 1 <= (n : Int) + 1 /\ (n : Int) + 1 <= ((n + 1 : Nat) : Int)
   omega
 ·rw [List.length_append, List.length_singleton] at hi;rw [hl i (by omega)]
  by_cases e : i + 1 < ls.length
  ·rw [hl (i + 1) e]; exact h.up i e
  ·rw [show i + 1 = ls.length by omega, hr];have := h.b i (by omega)
   show _ < (n : Int) + 1
   omega
theorem Tt.RsOk.mono {ls : Dt} {n m : Nat} (h : Tt.RsOk ls n) (hm : n <= m) : Tt.RsOk ls m := ⟨h.n3, fun i hi => by have := h.b i hi; omega, h.up⟩
theorem Xji {lo : Int} : ∀ k n ls, Tt.RsOk ls n -> Tt.RsOk (Tt.whlL lo n k ls) (n + k)
 | 0, n, ls, h => h
 | k + 1, n, ls, h => by
  rw [Tt.whlL, show n + (k + 1) = n + 1 + k by omega];refine Xji k (n + 1) _ ?_;unfold Tt.whlS
  split
  ·split
   ·exact Xr3 h (by omega)
   ·exact h.mono (by omega)
  ·exact h.mono (by omega)
theorem Xl5 {fs ms wh : Dt} {lines lo : Int} : Tt.RsOk (Tt.wLo lines lo) (Tt.wTe fs ms wh lines).length := by
 unfold Tt.wTe Tt.wLo;rw [Xbm];have := Xji (lo := lo) (1 + lines.tmod 12).toNat 0 [] ⟨by simp, fun i hi => by simp at hi, fun i hi => by simp at hi⟩;rwa [Nat.zero_add] at this
def Xpk : PC Tryz.prog := ⟨8, Xct, Xgl, Xgr, Xcf, Xsl⟩
namespace Tt
def rngD : Nat -> Nat -> Dt
 | _, 0 => []
 | w, k + 1 => [.i (w : Int)] :: rngD (w + 1) k
def canK (ks : Dt) (n : Int) : Nat -> Nat -> Dt -> Dt
 | _, 0, can => can
 | i, k + 1, can => canK ks n (i + 1) k (if (cel ks i 0).int = n then [[.i (cel ks i 1).int]] else can)
def extD (r can : Dt) : Nat -> Nat -> Dt
 | _, 0 => []
 | k, n + 1 => [.l (r ++ [[.i (cel can k 0).int]])] :: extD r can (k + 1) n
def expD (l can : Dt) : Nat -> Nat -> Dt
 | _, 0 => []
 | i, n + 1 => extD (cel l i 0).lst can 0 can.length ++ expD l can (i + 1) n
structure CanOk (can : Dt) : Prop where
 n9 : can.length <= 9
 w : ∀ k, k < can.length -> 0 <= (cel can k 0).int
structure NsOk (l : Dt) (m : Nat) : Prop where
 m12 : m <= 12
 few : l.length <= 9 ^ m
 rows : ∀ r ∈ l, (r.getD 0 .z).lst.length = m /\ ∀ j, j < m -> 0 <= (cel (r.getD 0 .z).lst j 0).int
def tsD (fs ms ks : Dt) : Nat -> Nat -> Dt -> Dt
 | _, 0, l => l
 | n, k + 1, l => tsD fs ms ks (n + 1) k (expD l (canK ks (n : Int) 0 ks.length (rngD 0 (fs.length + ms.length))) 0 l.length)
def flD (fs ks : Dt) (lines : Int) (l : Dt) : Nat -> Nat -> Dt
 | _, 0 => []
 | i, k + 1 => (if fitB fs ks (cel l i 0).lst lines = true then [[.l (cel l i 0).lst]] else []) ++ flD fs ks lines l (i + 1) k
def tstD (fs ms ks : Dt) (lines : Int) : Dt := flD fs ks lines (tsD fs ms ks 1 lines.toNat [[.l []]]) 0 (tsD fs ms ks 1 lines.toNat [[.l []]]).length
structure WhOk (ks : Dt) : Prop where
 few : ks.length <= 12
 w : ∀ i, i < ks.length -> 0 <= (cel ks i 1).int
end Tt
theorem Xgp : ∀ k w, (Tt.rngD w k).length = k
 | 0, _ => rfl
 | k + 1, w => by rw [Tt.rngD, List.length_cons, Xgp k]
theorem Xjq : ∀ k w i, 0 <= (cel (Tt.rngD w k) i 0).int
 | 0, w, i => by simp [Tt.rngD, cel, Cl.int]
 | k + 1, w, 0 => by
  show (0 : Int) <= (w : Int)
  omega
 | k + 1, w, i + 1 => Xjq k (w + 1) i
theorem Xk5 {ks : Dt} {n : Int} (hw : Tt.WhOk ks) : ∀ k i can, Tt.CanOk can -> i + k <= ks.length -> Tt.CanOk (Tt.canK ks n i k can)
 | 0, _, _, h, _ => h
 | k + 1, i, can, h, hi => by
  rw [Tt.canK];refine Xk5 hw k (i + 1) _ ?_ (by omega)
  split
  ·refine ⟨by show 1 <= 9; omega, fun j hj => ?_⟩;have hj : j < 1 := hj;obtain rfl : j = 0 := by omega
   exact hw.w i (by omega)
  ·exact h
theorem Xnz {fs ms ks : Dt} {n : Int} (hw : Tt.WhOk ks) (h6 : fs.length <= 6) (h3 : ms.length <= 3) : Tt.CanOk (Tt.canK ks n 0 ks.length (Tt.rngD 0 (fs.length + ms.length))) :=
 Xk5 hw _ _ _ ⟨by rw [Xgp]; omega, fun j _ => Xjq _ _ j⟩ (by omega)
theorem Xcq {r can : Dt} : ∀ n k, (Tt.extD r can k n).length = n
 | 0, _ => rfl
 | n + 1, k => by rw [Tt.extD, List.length_cons, Xcq n]
theorem Xix {l can : Dt} : ∀ n i, (Tt.expD l can i n).length = n * can.length
 | 0, _ => by simp [Tt.expD]
 | n + 1, i => by rw [Tt.expD, List.length_append, Xcq, Xix n, Nat.succ_mul]; omega
theorem Xiv {r can : Dt} : ∀ n k, k + n <= can.length -> ∀ x ∈ Tt.extD r can k n, ∃ j, j < can.length /\ x = [.l (r ++ [[.i (cel can j 0).int]])]
 | 0, _, _, x, hx => by cases hx
 | n + 1, k, h, x, hx => by
  rw [Tt.extD, List.mem_cons] at hx;rcases hx with rfl | hx
  ·exact ⟨k, by omega, rfl⟩
  ·exact Xiv n (k + 1) (by omega) x hx
theorem Xiw {l can : Dt} : ∀ n i, i + n <= l.length -> ∀ x ∈ Tt.expD l can i n, ∃ a j, a < l.length /\ j < can.length /\ x = [.l ((cel l a 0).lst ++ [[.i (cel can j 0).int]])]
 | 0, _, _, x, hx => by cases hx
 | n + 1, i, h, x, hx => by
  rw [Tt.expD, List.mem_append] at hx;rcases hx with hx | hx
  ·obtain ⟨j, h1, h2⟩ := Xiv _ _ (by omega) x hx;exact ⟨i, j, by omega, h1, h2⟩
  ·exact Xiw n (i + 1) (by omega) x hx
theorem Xcp {l : Dt} {i : Nat} (h : i < l.length) : l.getD i [] ∈ l := by
 rw [List.getD_eq_getElem?_getD, List.getElem?_eq_getElem h];exact List.getElem_mem h
theorem Tt.NsOk.at {l : Dt} {m i : Nat} (h : Tt.NsOk l m) (hi : i < l.length) : (cel l i 0).lst.length = m /\ ∀ j, j < m -> 0 <= (cel (cel l i 0).lst j 0).int := h.rows _ (Xcp hi)
theorem Tt.NsOk.lok {l : Dt} {m i : Nat} (h : Tt.NsOk l m) (hi : i < l.length) : Tt.LOk (cel l i 0).lst := by
 have h1 := h.at hi;have h2 := h.m12;exact ⟨by omega, fun j hj => h1.2 j (by omega)⟩
theorem Xko {l can : Dt} {m : Nat} (h : Tt.NsOk l m) (hc : Tt.CanOk can) (hm : m + 1 <= 12) : Tt.NsOk (Tt.expD l can 0 l.length) (m + 1) := by
 refine ⟨hm, ?_, fun x hx => ?_⟩
 ·rw [Xix, Nat.pow_succ];exact Nat.mul_le_mul h.few hc.n9
 ·obtain ⟨a, j, ha, hj, rfl⟩ := Xiw _ _ (by omega) x hx;have h1 := h.at ha;have hw := hc.w j hj;refine ⟨by show ((cel l a 0).lst ++ _).length = m + 1; rw [List.length_append, h1.1]; rfl, fun k hk => ?_⟩
  show 0 <= (cel ((cel l a 0).lst ++ [[Cl.i (cel can j 0).int]]) k 0).int
  by_cases e : k < m
  ·have : cel ((cel l a 0).lst ++ [[Cl.i (cel can j 0).int]]) k 0 = cel (cel l a 0).lst k 0 := by unfold cel; rw [Xb4 (by have := h1.1; unfold cel at this; omega)]
   rw [this]; exact h1.2 k e
  ·have : cel ((cel l a 0).lst ++ [[Cl.i (cel can j 0).int]]) k 0 = .i (cel can j 0).int := by
    have h2 := h1.1;unfold cel at h2 ⊢;rw [Xbs (by omega), h2, show k - m = 0 by omega]; rfl
   rw [this]; exact hw
theorem Xkc {l : Dt} {m : Nat} (h : Tt.NsOk l m) (k : Nat) (hk : m <= k) : l.length <= 9 ^ k := Nat.le_trans h.few (Nat.pow_le_pow_right (by omega) hk)
def Tt1 : Tab Tryz.prog := ⟨[Xnp], [], []⟩
def Xgi [InW] (e : List Ed) (K : Nat -> List Ed -> Prop) : Prop := match e with
 | [.i w, .ro _ fs, .ro _ ms, .i all, .l can] => Pre (0 <= w /\ w <= fs.xs.length + ms.xs.length /\ fs.xs.length <= 6 /\ ms.xs.length <= 3 /\ can.length <= w.toNat) (K 0 [.ro _ fs, .ro _ ms, .i all, .l (can ++ Tt.rngD w.toNat (fs.xs.length + ms.xs.length - w.toNat))])
 | _ => False
def Xis : LC where
 len := 104
 T := [(2, (.ptr 1 0)), (7, (.row 6)), (8, .int .i64)]
 H := [(1, .blk 29 [.rs Jb, .rs Jd, .int .i64]), (6, .arr 3 Jc)]
 W := (rgg 23 10)
 outs := [⟨.exit 2, [(2, (.ptr 1 0)), (7, (.row 9))], [(1, .blk 29 [.rs Jb, .rs Jd, .int .i64]), (9, .arr 3 Jc)], ([8] ++ rgg 23 10)⟩]
 spec := Xgi
def Xfi [W : InW] (w : Int) (fs : Ro Jb) (ms : Ro Jd) (all : Int) (can : Dt) (A : List Ed -> Prop) (K : Nat -> List Ed -> Prop) : Prop :=
 Pre (fs.xs.length <= 6 /\ ms.xs.length <= 3) (Vif (decide (w < (↑(fs.xs.length) : Int) + (↑(ms.xs.length) : Int))) (Need (decide ((can.length + [[Cl.i w]].length) * 8 <= 140737488355328)) (Ar .i64 (w + 1) fun z => A [.i z, .ro _ fs, .ro _ ms, .i all, .l (can ++ [[Cl.i w]])])) (K 0 [.ro _ fs, .ro _ ms, .i all, .l can]))
theorem Xo2 (W : InW) (w fs ms all can A K) : Ygb { cxT Tryz.prog TT Tt1 1000 50 with fn := 13 } 1000 (Ypx Tryz.prog 13 8) (Yeo 104 [(2, .ptr 1 0), (7, .rw 6), (8, .si .i64 w)] (rgg 23 10)) [(1, .blk 29 [.rs _ fs, .rs _ ms, .si .i64 all]), (6, .arr 3 Jc can)] (Yw5 Xis A K) = Xfi w fs ms all can A K := by kernel_rfl
def Xht : Prop := ∀ (W : InW) (body a : Code), (Tryz.prog.funcs[13]?).bind (·.body) = some body -> a ∈ Y1 body -> Yg1 a = 8 -> @Yod W Tryz.prog a (@Yv5 W Xis)
theorem Xqn (meas : [InW] -> List Ed -> Nat) (hyp_ : ∀ (W : InW) w fs ms all can K, Xgi [.i w, .ro _ fs, .ro _ ms, .i all, .l can] K -> ∀ A : List Ed -> Prop, (∀ e, meas e < meas [.i w, .ro _ fs, .ro _ ms, .i all, .l can] -> Xgi e K -> A e) -> Xfi w fs ms all can A K) : Xht :=
 LE.okOf' (fun W => @TT W) (fun W => @Xc W) Xa Tt1 1000 50 (by kernel_rfl) Xis (fun W => @meas W) fun W w fs ms all can K hs =>
  (Xo2 W w fs ms all can (fun e => meas e < meas [.i w, .ro _ fs, .ro _ ms, .i all, .l can] /\ Xgi e K) K).mpr (hyp_ W w fs ms all can K hs _ fun e h1 h2 => ⟨h1, h2⟩)
theorem Xt6 : Xht := Xqn (fun e => match e with | .i w :: .ro _ fs :: .ro _ ms :: _ => ((fs.xs.length : Int) + ms.xs.length - w).toNat | _ => 0) fun W w fs ms all can K hs A hA => by
 obtain ⟨⟨h0, h1, h6, h3, hl⟩, hk⟩ := hs;unfold Xfi;have ez : (w + 1).toNat = w.toNat + 1 := by omega
 by_cases hi : w < (fs.xs.length : Int) + ms.xs.length
 ·rw [show fs.xs.length + ms.xs.length - w.toNat = (fs.xs.length + ms.xs.length - (w.toNat + 1)) + 1 by omega] at hk;simp only [Tt.rngD] at hk;rw [Int.toNat_of_nonneg h0] at hk;have go := hA [.i (w + 1), .ro _ fs, .ro _ ms, .i all, .l (can ++ [[.i w]])] (by show ((fs.xs.length : Int) + ms.xs.length - (w + 1)).toNat < ((fs.xs.length : Int) + ms.xs.length - w).toNat; omega) ⟨⟨by omega, by omega, h6, h3, by rw [List.length_append, List.length_singleton]; omega⟩, by rw [ez, List.append_assoc]; exact hk⟩;clear hA hk
  repeat' (first | (with_reducible refine Xb ⟨h6, h3⟩ ?_) | omega|intro _|with_reducible first|apply vifd|apply vifn|apply vifq|apply vifq0|apply vifq1|apply vifb|apply vif|apply nedd|apply ned2|apply ned|apply ar64|apply Xb|exact True.intro|assumption|rfl|apply And.intro)
  all_goals first | exact go | (simp only [List.length_cons, List.length_nil]; omega) | skip
 ·rw [show fs.xs.length + ms.xs.length - w.toNat = 0 by omega] at hk;simp only [Tt.rngD, List.append_nil] at hk;exact Xb ⟨h6, h3⟩ (vifd (fun e => by omega) fun _ => hk)
def Xu4 : LE Tryz.prog := ⟨13, 8, fun W => @Yv5 W Xis, Xt6⟩
def Xgh [InW] (e : List Ed) (K : Nat -> List Ed -> Prop) : Prop := match e with
 | [.i n, .i i, .i lines, .ro _ ks, .l can] => Pre (0 <= i /\ i <= ks.xs.length /\ ks.xs.length <= 12) (K 0 [.i n, .i lines, .ro _ ks, .l (Tt.canK ks.xs n i.toNat (ks.xs.length - i.toNat) can)])
 | _ => False
def Xir : LC where
 len := 104
 T := [(3, (.ptr 4 0)), (6, .int .i64), (7, (.row 6)), (9, .int .i64)]
 H := [(4, .blk 48 [.int .i64, .rs Je]), (6, .arr 3 Jc)]
 W := (rgg 33 22)
 outs := [⟨.exit 4, [(3, (.ptr 4 0)), (6, .int .i64), (7, (.row 9))], [(4, .blk 48 [.int .i64, .rs Je]), (9, .arr 3 Jc)], ([9] ++ rgg 33 22)⟩]
 spec := Xgh
def Xfh [W : InW] (n i lines : Int) (ks : Ro Je) (can : Dt) (A : List Ed -> Prop) (K : Nat -> List Ed -> Prop) : Prop :=
 Vif (decide (i < (↑(ks.xs.length) : Int))) (Need (decide (0 <= i) && decide (i < (↑(ks.xs.length) : Int))) (Need (decide (i.toNat < ks.xs.length)) (Vif (decide ((cel ks.xs i.toNat (0 : Nat)).int = n)) (Need (decide (0 <= i) && decide (i < (↑(ks.xs.length) : Int))) (Need (decide (i.toNat < ks.xs.length)) (Ar .i64 (i + 1) fun z => A [.i n, .i z, .i lines, .ro _ ks, .l [[Cl.i (cel ks.xs i.toNat (0+1)).int]]]))) (Ar .i64 (i + 1) fun z => A [.i n, .i z, .i lines, .ro _ ks, .l can])))) (K 0 [.i n, .i lines, .ro _ ks, .l can])
theorem Xo1 (W : InW) (n i lines ks can A K) : Ygb { cxT Tryz.prog TT T0 1000 50 with fn := 13 } 1000 (Ypx Tryz.prog 13 12) (Yeo 104 [(3, .ptr 4 0), (6, .si .i64 n), (7, .rw 6), (9, .si .i64 i)] (rgg 33 22)) [(4, .blk 48 [.si .i64 lines, .rs _ ks]), (6, .arr 3 Jc can)] (Yw5 Xir A K) = Xfh n i lines ks can A K := by kernel_rfl
def Xhs : Prop := ∀ (W : InW) (body a : Code), (Tryz.prog.funcs[13]?).bind (·.body) = some body -> a ∈ Y1 body -> Yg1 a = 12 -> @Yod W Tryz.prog a (@Yv5 W Xir)
theorem Xqm (meas : [InW] -> List Ed -> Nat) (hyp_ : ∀ (W : InW) n i lines ks can K, Xgh [.i n, .i i, .i lines, .ro _ ks, .l can] K -> ∀ A : List Ed -> Prop, (∀ e, meas e < meas [.i n, .i i, .i lines, .ro _ ks, .l can] -> Xgh e K -> A e) -> Xfh n i lines ks can A K) : Xhs :=
 LE.okOf' (fun W => @TT W) (fun W => @Xc W) Xa T0 1000 50 (by kernel_rfl) Xir (fun W => @meas W) fun W n i lines ks can K hs =>
  (Xo1 W n i lines ks can (fun e => meas e < meas [.i n, .i i, .i lines, .ro _ ks, .l can] /\ Xgh e K) K).mpr (hyp_ W n i lines ks can K hs _ fun e h1 h2 => ⟨h1, h2⟩)
theorem Xt5 : Xhs := Xqm (fun e => match e with | [_, .i i, _, .ro _ ks, _] => ((ks.xs.length : Int) - i).toNat | _ => 0) fun W n i lines ks can K hs A hA => by
 obtain ⟨⟨h0, h1, h12⟩, hk⟩ := hs;unfold Xfh;have ez : (i + 1).toNat = i.toNat + 1 := by omega
 by_cases hi : i < ks.xs.length
 ·rw [show ks.xs.length - i.toNat = (ks.xs.length - (i.toNat + 1)) + 1 by omega] at hk;simp only [Tt.canK] at hk;have go1 : (cel ks.xs i.toNat 0).int = n -> A [.i n, .i (i + 1), .i lines, .ro _ ks, .l [[.i (cel ks.xs i.toNat 1).int]]] := fun f => hA _ (by show ((ks.xs.length : Int) - (i + 1)).toNat < ((ks.xs.length : Int) - i).toNat; omega) ⟨⟨by omega, by omega, h12⟩, by rw [ez]; rw [if_pos f] at hk; exact hk⟩;have go2 : ¬ (cel ks.xs i.toNat 0).int = n -> A [.i n, .i (i + 1), .i lines, .ro _ ks, .l can] := fun f => hA _ (by show ((ks.xs.length : Int) - (i + 1)).toNat < ((ks.xs.length : Int) - i).toNat; omega) ⟨⟨by omega, by omega, h12⟩, by rw [ez]; rw [if_neg f] at hk; exact hk⟩;clear hA hk;simp only [Nat.zero_add]
  repeat' (first | omega|intro _|with_reducible first|apply vifd|apply vifn|apply vifq|apply vifq0|apply vifq1|apply vifb|apply vif|apply nedd|apply ned2|apply ned|apply ar64|apply Xb|exact True.intro|assumption|rfl|apply And.intro)
  all_goals first | (refine go1 ?_; assumption) | (refine go2 ?_; assumption) | skip
 ·rw [show ks.xs.length - i.toNat = 0 by omega] at hk;simp only [Tt.canK] at hk;exact vifd (fun e => by omega) fun _ => hk
def Xu3 : LE Tryz.prog := ⟨13, 12, fun W => @Yv5 W Xir, Xt5⟩
def Xgf [InW] (e : List Ed) (K : Nat -> List Ed -> Prop) : Prop := match e with
 | [.i i, .i k, .l l, .l can, .l more] => Pre (0 <= k /\ k <= can.length /\ (0 <= i /\ i < l.length) /\ Tt.CanOk can /\ (cel l i.toNat 0).lst.length <= 12 /\ (more.length : Int) <= 282429536481 + k) (K 0 [.i i, .l l, .l can, .l (more ++ Tt.extD (cel l i.toNat 0).lst can k.toNat (can.length - k.toNat))])
 | _ => False
def Xip : LC where
 len := 104
 T := [(5, (.row 4)), (7, (.row 7)), (10, (.row 6)), (11, .int .i64), (12, .int .i64)]
 H := [(4, .nst 41 [.sl Jc]), (7, .arr 3 Jc), (6, .nst 41 [.sl Jc])]
 W := (rgg 61 21)
 outs := [⟨.exit 8, [(5, (.row 4)), (7, (.row 7)), (10, (.row 9)), (11, .int .i64)], [(4, .nst 41 [.sl Jc]), (7, .arr 3 Jc), (9, .nst 41 [.sl Jc])], ([12] ++ rgg 61 21)⟩]
 spec := Xgf
def Xff [W : InW] (i k : Int) (l can more : Dt) (A : List Ed -> Prop) (K : Nat -> List Ed -> Prop) : Prop :=
 Vif (decide (k < (↑(can.length) : Int))) (Need (decide (0 <= i) && decide (i < (↑(l.length) : Int))) (Need (decide (i.toNat < l.length)) (Need (decide (List.length (cel l i.toNat Zh).lst * 8 <= 140737488355328)) (Need (decide (0 <= k) && decide (k < (↑(can.length) : Int))) (Need (decide (k.toNat < can.length)) (Need (decide ((List.length (cel l i.toNat Zh).lst + [[Cl.i (cel can k.toNat Zh).int]].length) * 8 <= 140737488355328)) (Need (decide ((more.length + [[Cl.l ((cel l i.toNat Zh).lst ++ [[Cl.i (cel can k.toNat Zh).int]])]].length) * 24 <= 140737488355328)) (Ar .i64 (k + 1) fun z => A [.i i, .i z, .l l, .l can, .l (more ++ [[Cl.l ((cel l i.toNat Zh).lst ++ [[Cl.i (cel can k.toNat Zh).int]])]])])))))))) (K 0 [.i i, .l l, .l can, .l more])
theorem Xoz (W : InW) (i k l can more A K) : Ygb { cxT Tryz.prog TT T0 1000 50 with fn := 13 } 1000 (Ypx Tryz.prog 13 21) (Yeo 104 [(5, .rw 4), (7, .rw 7), (10, .rw 6), (11, .si .i64 i), (12, .si .i64 k)] (rgg 61 21)) [(4, .nst 41 [.sl Jc] l), (7, .arr 3 Jc can), (6, .nst 41 [.sl Jc] more)] (Yw5 Xip A K) = Xff i k l can more A K := by kernel_rfl
def Xhq : Prop := ∀ (W : InW) (body a : Code), (Tryz.prog.funcs[13]?).bind (·.body) = some body -> a ∈ Y1 body -> Yg1 a = 21 -> @Yod W Tryz.prog a (@Yv5 W Xip)
theorem Xqk (meas : [InW] -> List Ed -> Nat) (hyp_ : ∀ (W : InW) i k l can more K, Xgf [.i i, .i k, .l l, .l can, .l more] K -> ∀ A : List Ed -> Prop, (∀ e, meas e < meas [.i i, .i k, .l l, .l can, .l more] -> Xgf e K -> A e) -> Xff i k l can more A K) : Xhq :=
 LE.okOf' (fun W => @TT W) (fun W => @Xc W) Xa T0 1000 50 (by kernel_rfl) Xip (fun W => @meas W) fun W i k l can more K hs =>
  (Xoz W i k l can more (fun e => meas e < meas [.i i, .i k, .l l, .l can, .l more] /\ Xgf e K) K).mpr (hyp_ W i k l can more K hs _ fun e h1 h2 => ⟨h1, h2⟩)
theorem Xt3 : Xhq := Xqk (fun e => match e with | [_, .i k, _, .l can, _] => ((can.length : Int) - k).toNat | _ => 0) fun W i k l can more K hs A hA => by
 obtain ⟨⟨h0, h1, hi, hc, h12, hm⟩, hk⟩ := hs;unfold Xff;delta Zh;have ez : (k + 1).toNat = k.toNat + 1 := by omega
 have hcl := hc.n9
 by_cases hi' : k < can.length
 ·rw [show can.length - k.toNat = (can.length - (k.toNat + 1)) + 1 by omega] at hk;simp only [Tt.extD] at hk;have go := hA [.i i, .i (k + 1), .l l, .l can, .l (more ++ [[.l ((cel l i.toNat 0).lst ++ [[.i (cel can k.toNat 0).int]])]])] (by show ((can.length : Int) - (k + 1)).toNat < ((can.length : Int) - k).toNat; omega) ⟨⟨by omega, by omega, hi, hc, h12, by rw [List.length_append, List.length_singleton]; omega⟩, by rw [ez, List.append_assoc]; exact hk⟩;clear hA hk
  repeat' (first | omega|intro _|with_reducible first|apply vifd|apply vifn|apply vifq|apply vifq0|apply vifq1|apply vifb|apply vif|apply nedd|apply ned2|apply ned|apply ar64|apply Xb|exact True.intro|assumption|rfl|apply And.intro)
  all_goals first | exact go | (simp only [List.length_cons, List.length_nil]; omega) | skip
 ·rw [show can.length - k.toNat = 0 by omega] at hk;simp only [Tt.extD, List.append_nil] at hk;exact vifd (fun e => by omega) fun _ => hk
def Xu1 : LE Tryz.prog := ⟨13, 21, fun W => @Yv5 W Xip, Xt3⟩
def Tt2 : Tab Tryz.prog := ⟨[], [Xu1], []⟩
namespace Tt
structure RwOk (l : Dt) : Prop where
 r : ∀ i, i < l.length -> (cel l i 0).lst.length <= 12
end Tt
def Xge [InW] (e : List Ed) (K : Nat -> List Ed -> Prop) : Prop := match e with
 | [.i i, .l l, .l can, .l more] => Pre (0 <= i /\ i <= l.length /\ Tt.CanOk can /\ Tt.RwOk l /\ l.length <= 31381059609 /\ (more.length : Int) <= 9 * i) (K 0 [.l (more ++ Tt.expD l can i.toNat (l.length - i.toNat))])
 | _ => False
def Xio : LC where
 len := 104
 T := [(5, (.row 4)), (7, (.row 7)), (10, (.row 6)), (11, .int .i64)]
 H := [(4, .nst 41 [.sl Jc]), (7, .arr 3 Jc), (6, .nst 41 [.sl Jc])]
 W := ([12] ++ rgg 55 27)
 outs := [⟨.exit 6, [(10, (.row 9))], [(9, .nst 41 [.sl Jc])], ([5, 7, 11, 12] ++ rgg 55 27)⟩]
 spec := Xge
def Xfe [W : InW] (i : Int) (l can more : Dt) (A : List Ed -> Prop) (K : Nat -> List Ed -> Prop) : Prop :=
 Vif (decide (i < (↑(l.length) : Int))) (Pre (Ze <= 0 /\ Ze <= (↑(can.length) : Int) /\ (0 <= i /\ i < (↑(l.length) : Int)) /\ Tt.CanOk can /\ List.length (cel l i.toNat (0 : Nat)).lst <= 12 /\ (↑(more.length) : Int) <= 282429536481 + 0) (Ar .i64 (i + 1) fun z => A [.i z, .l l, .l can, .l (more ++ Tt.extD (cel l i.toNat (0 : Nat)).lst can (Int.toNat Ze) (can.length - Int.toNat Ze))])) (K 0 [.l more])
theorem Xoy (W : InW) (i l can more A K) : Ygb { cxT Tryz.prog TT Tt2 1000 50 with fn := 13 } 1000 (Ypx Tryz.prog 13 18) (Yeo 104 [(5, .rw 4), (7, .rw 7), (10, .rw 6), (11, .si .i64 i)] ([12] ++ rgg 55 27)) [(4, .nst 41 [.sl Jc] l), (7, .arr 3 Jc can), (6, .nst 41 [.sl Jc] more)] (Yw5 Xio A K) = Xfe i l can more A K := by kernel_rfl
def Xhp : Prop := ∀ (W : InW) (body a : Code), (Tryz.prog.funcs[13]?).bind (·.body) = some body -> a ∈ Y1 body -> Yg1 a = 18 -> @Yod W Tryz.prog a (@Yv5 W Xio)
theorem Xqj (meas : [InW] -> List Ed -> Nat) (hyp_ : ∀ (W : InW) i l can more K, Xge [.i i, .l l, .l can, .l more] K -> ∀ A : List Ed -> Prop, (∀ e, meas e < meas [.i i, .l l, .l can, .l more] -> Xge e K -> A e) -> Xfe i l can more A K) : Xhp :=
 LE.okOf' (fun W => @TT W) (fun W => @Xc W) Xa Tt2 1000 50 (by kernel_rfl) Xio (fun W => @meas W) fun W i l can more K hs =>
  (Xoy W i l can more (fun e => meas e < meas [.i i, .l l, .l can, .l more] /\ Xge e K) K).mpr (hyp_ W i l can more K hs _ fun e h1 h2 => ⟨h1, h2⟩)
theorem Xt2 : Xhp := Xqj (fun e => match e with | [.i i, .l l, _, _] => ((l.length : Int) - i).toNat | _ => 0) fun W i l can more K hs A hA => by
 obtain ⟨⟨h0, h1, hc, hr, hf, hm⟩, hk⟩ := hs;unfold Xfe;delta Ze;have ez : (i + 1).toNat = i.toNat + 1 := by omega
 have hcl := hc.n9
 by_cases hi' : i < l.length
 ·have hr' := hr.r i.toNat (by omega);rw [show l.length - i.toNat = (l.length - (i.toNat + 1)) + 1 by omega] at hk;simp only [Tt.expD] at hk;have go := hA [.i (i + 1), .l l, .l can, .l (more ++ Tt.extD (cel l i.toNat 0).lst can 0 can.length)] (by show ((l.length : Int) - (i + 1)).toNat < ((l.length : Int) - i).toNat; omega) ⟨⟨by omega, by omega, hc, hr, hf, by rw [List.length_append, Xcq]; omega⟩, by rw [ez, List.append_assoc]; exact hk⟩;clear hA hk;rw [show Int.toNat 0 = 0 from rfl, Nat.sub_zero];exact vifd (fun _ => Xb ⟨by omega, by omega, ⟨by omega, by omega⟩, hc, hr', by omega⟩ (ar64 (by omega) go)) fun x => by omega
 ·rw [show l.length - i.toNat = 0 by omega] at hk;simp only [Tt.expD, List.append_nil] at hk;exact vifd (fun e => by omega) fun _ => hk
def Xu0 : LE Tryz.prog := ⟨13, 18, fun W => @Yv5 W Xio, Xt2⟩
def Tt3 : Tab Tryz.prog := ⟨[], [Xu4, Xu3, Xu0], []⟩
def Xfp [InW] (e : List Ed) (K : Nat -> List Ed -> Prop) : Prop := match e with
 | [.i n, .ro _ fs, .ro _ ms, .i all, .i lines, .ro _ ks, .l l] => Pre (1 <= n /\ n <= lines + 1 /\ lines <= 12 /\ fs.xs.length <= 6 /\ ms.xs.length <= 3 /\ Tt.WhOk ks.xs /\ Tt.NsOk l (n - 1).toNat) (K 0 [.ro _ fs, .ro _ ms, .i all, .i lines, .ro _ ks, .l (Tt.tsD fs.xs ms.xs ks.xs n.toNat (lines + 1 - n).toNat l)])
 | _ => False
def Xhz : LC where
 len := 104
 T := [(2, (.ptr 1 0)), (3, (.ptr 4 0)), (5, (.row 6)), (6, .int .i64)]
 H := [(1, .blk 29 [.rs Jb, .rs Jd, .int .i64]), (4, .blk 48 [.int .i64, .rs Je]), (6, .nst 41 [.sl Jc])]
 W := (rgg 7 6 ++ rgg 17 66)
 outs := [⟨.exit 0, [(2, (.ptr 1 0)), (3, (.ptr 4 0)), (5, (.row 9))], [(1, .blk 29 [.rs Jb, .rs Jd, .int .i64]), (4, .blk 48 [.int .i64, .rs Je]), (9, .nst 41 [.sl Jc])], (rgg 6 7 ++ rgg 17 66)⟩]
 spec := Xfp
def Xep [W : InW] (n : Int) (fs : Ro Jb) (ms : Ro Jd) (all lines : Int) (ks : Ro Je) (l : Dt) (A : List Ed -> Prop) (K : Nat -> List Ed -> Prop) : Prop :=
 Vif (decide (n <= lines)) (Pre (Ze <= 0 /\ Ze <= (↑(fs.xs.length) : Int) + (↑(ms.xs.length) : Int) /\ fs.xs.length <= 6 /\ ms.xs.length <= 3 /\ (0 : Nat) <= Int.toNat Ze) (Pre (Ze <= 0 /\ Ze <= (↑(ks.xs.length) : Int) /\ ks.xs.length <= 12) (Pre (Ze <= 0 /\ Ze <= (↑(l.length) : Int) /\ Tt.CanOk (Tt.canK ks.xs n Zk (ks.xs.length - Int.toNat Ze) (Tt.rngD Zk (fs.xs.length + ms.xs.length - Int.toNat Ze))) /\ Tt.RwOk l /\ l.length <= 31381059609 /\ (↑(0 : Nat) : Int) <= 9 * 0) (Ar .i64 (n + 1) fun z => A [.i z, .ro _ fs, .ro _ ms, .i all, .i lines, .ro _ ks, .l (Tt.expD l (Tt.canK ks.xs n Zk (ks.xs.length - Int.toNat Ze) (Tt.rngD Zk (fs.xs.length + ms.xs.length - Int.toNat Ze))) Zk (l.length - Int.toNat Ze))])))) (K 0 [.ro _ fs, .ro _ ms, .i all, .i lines, .ro _ ks, .l l])
theorem Xn9 (W : InW) (n fs ms all lines ks l A K) : Ygb { cxT Tryz.prog TT Tt3 1000 50 with fn := 13 } 1000 (Ypx Tryz.prog 13 4) (Yeo 104 [(2, .ptr 1 0), (3, .ptr 4 0), (5, .rw 6), (6, .si .i64 n)] (rgg 7 6 ++ rgg 17 66)) [(1, .blk 29 [.rs _ fs, .rs _ ms, .si .i64 all]), (4, .blk 48 [.si .i64 lines, .rs _ ks]), (6, .nst 41 [.sl Jc] l)] (Yw5 Xhz A K) = Xep n fs ms all lines ks l A K := by kernel_rfl
def Xg0 : Prop := ∀ (W : InW) (body a : Code), (Tryz.prog.funcs[13]?).bind (·.body) = some body -> a ∈ Y1 body -> Yg1 a = 4 -> @Yod W Tryz.prog a (@Yv5 W Xhz)
theorem Xpu (meas : [InW] -> List Ed -> Nat) (hyp_ : ∀ (W : InW) n fs ms all lines ks l K, Xfp [.i n, .ro _ fs, .ro _ ms, .i all, .i lines, .ro _ ks, .l l] K -> ∀ A : List Ed -> Prop, (∀ e, meas e < meas [.i n, .ro _ fs, .ro _ ms, .i all, .i lines, .ro _ ks, .l l] -> Xfp e K -> A e) -> Xep n fs ms all lines ks l A K) : Xg0 :=
 LE.okOf' (fun W => @TT W) (fun W => @Xc W) Xa Tt3 1000 50 (by kernel_rfl) Xhz (fun W => @meas W) fun W n fs ms all lines ks l K hs =>
  (Xn9 W n fs ms all lines ks l (fun e => meas e < meas [.i n, .ro _ fs, .ro _ ms, .i all, .i lines, .ro _ ks, .l l] /\ Xfp e K) K).mpr (hyp_ W n fs ms all lines ks l K hs _ fun e h1 h2 => ⟨h1, h2⟩)
theorem Xtd : Xg0 := Xpu (fun e => match e with | .i n :: _ :: _ :: _ :: .i lines :: _ => (lines + 1 - n).toNat | _ => 0) fun W n fs ms all lines ks l K hs A hA => by
 obtain ⟨⟨h0, h1, h12, h6, h3, hw, hn⟩, hk⟩ := hs;unfold Xep;delta Zk Ze;have ez : (n + 1 - 1).toNat = (n - 1).toNat + 1 := by omega
 by_cases hi : n <= lines
 ·have hl := Xkc hn 11 (by omega);have h911 : (9 : Nat) ^ 11 = 31381059609 := by decide
  have hr : Tt.RwOk l := ⟨fun i hi => (hn.lok hi).n⟩;have hc := Xnz (n := n) hw h6 h3;rw [show (lines + 1 - n).toNat = (lines + 1 - (n + 1)).toNat + 1 by omega] at hk;simp only [Tt.tsD] at hk;rw [Int.toNat_of_nonneg (by omega)] at hk;have go := hA [.i (n + 1), .ro _ fs, .ro _ ms, .i all, .i lines, .ro _ ks, .l (Tt.expD l (Tt.canK ks.xs n 0 ks.xs.length (Tt.rngD 0 (fs.xs.length + ms.xs.length))) 0 l.length)] (by show (lines + 1 - (n + 1)).toNat < (lines + 1 - n).toNat; omega) ⟨⟨by omega, by omega, h12, h6, h3, hw, by rw [ez]; exact Xko hn hc (by omega)⟩, by rw [show (n + 1).toNat = n.toNat + 1 by omega]; exact hk⟩;clear hA hk;simp only [show Int.toNat 0 = 0 from rfl, Nat.sub_zero, List.nil_append];have hw12 := hw.few;refine vifd (fun _ => Xb ⟨by omega, by omega, h6, h3, by simp⟩ (Xb ⟨by omega, by omega, by omega⟩ (Xb ⟨by omega, by omega, hc, hr, by omega, by simp⟩ (ar64 (by omega) ?_)))) fun x => by omega
  exact go
 ·rw [show (lines + 1 - n).toNat = 0 by omega] at hk;simp only [Tt.tsD] at hk;exact vifd (fun e => by omega) fun _ => hk
def Xub : LE Tryz.prog := ⟨13, 4, fun W => @Yv5 W Xhz, Xtd⟩
def Tt4 : Tab Tryz.prog := ⟨[Xnr], [], []⟩
def Xfq [InW] (e : List Ed) (K : Nat -> List Ed -> Prop) : Prop := match e with
 | [.i i, .ro _ fs, .ro _ ms, .i all, .i lines, .ro _ ks, .l l, .l out] => Pre (0 <= i /\ i <= l.length /\ Tt.FOk fs.xs /\ Tt.FtOk ks.xs lines /\ Tt.NsOk l lines.toNat /\ (out.length : Int) <= i) (K 0 [.l (out ++ Tt.flD fs.xs ks.xs lines l i.toNat (l.length - i.toNat))])
 | _ => False
def Xh0 : LC where
 len := 104
 T := [(2, (.ptr 1 0)), (3, (.ptr 4 0)), (5, (.row 7)), (13, (.row 6)), (14, .int .i64)]
 H := [(1, .blk 29 [.rs Jb, .rs Jd, .int .i64]), (4, .blk 48 [.int .i64, .rs Je]), (7, .nst 41 [.sl Jc]), (6, .nst 41 [.sl Jc])]
 W := (rgg 83 20)
 outs := [⟨.exit 10, [(13, (.row 9))], [(9, .nst 41 [.sl Jc])], ([2, 3, 5, 14] ++ rgg 83 20)⟩]
 spec := Xfq
def Xeq [W : InW] (i : Int) (fs : Ro Jb) (ms : Ro Jd) (all lines : Int) (ks : Ro Je) (l out : Dt) (A : List Ed -> Prop) (K : Nat -> List Ed -> Prop) : Prop :=
 Vif (decide (i < (↑(l.length) : Int))) (Need (decide (0 <= i) && decide (i < (↑(l.length) : Int))) (Need (decide (i.toNat < l.length)) (Pre (Tt.FOk fs.xs /\ Tt.LOk (cel l i.toNat Zh).lst /\ Tt.FtOk ks.xs lines) (Vif (Tt.fitB fs.xs ks.xs (cel l i.toNat Zh).lst lines) (Need (decide (0 <= i) && decide (i < (↑(l.length) : Int))) (Need (decide (i.toNat < l.length)) (Need (decide ((out.length + [[Cl.l (cel l i.toNat Zh).lst]].length) * 24 <= 140737488355328)) (Ar .i64 (i + 1) fun z => A [.i z, .ro _ fs, .ro _ ms, .i all, .i lines, .ro _ ks, .l l, .l (out ++ [[Cl.l (cel l i.toNat Zh).lst]])])))) (Ar .i64 (i + 1) fun z => A [.i z, .ro _ fs, .ro _ ms, .i all, .i lines, .ro _ ks, .l l, .l out]))))) (K 0 [.l out])
theorem Xoa (W : InW) (i fs ms all lines ks l out A K) : Ygb { cxT Tryz.prog TT Tt4 1000 50 with fn := 13 } 1000 (Ypx Tryz.prog 13 27) (Yeo 104 [(2, .ptr 1 0), (3, .ptr 4 0), (5, .rw 7), (13, .rw 6), (14, .si .i64 i)] (rgg 83 20)) [(1, .blk 29 [.rs _ fs, .rs _ ms, .si .i64 all]), (4, .blk 48 [.si .i64 lines, .rs _ ks]), (7, .nst 41 [.sl Jc] l), (6, .nst 41 [.sl Jc] out)] (Yw5 Xh0 A K) = Xeq i fs ms all lines ks l out A K := by kernel_rfl
def Xg1 : Prop := ∀ (W : InW) (body a : Code), (Tryz.prog.funcs[13]?).bind (·.body) = some body -> a ∈ Y1 body -> Yg1 a = 27 -> @Yod W Tryz.prog a (@Yv5 W Xh0)
theorem Xpv (meas : [InW] -> List Ed -> Nat) (hyp_ : ∀ (W : InW) i fs ms all lines ks l out K, Xfq [.i i, .ro _ fs, .ro _ ms, .i all, .i lines, .ro _ ks, .l l, .l out] K -> ∀ A : List Ed -> Prop, (∀ e, meas e < meas [.i i, .ro _ fs, .ro _ ms, .i all, .i lines, .ro _ ks, .l l, .l out] -> Xfq e K -> A e) -> Xeq i fs ms all lines ks l out A K) : Xg1 :=
 LE.okOf' (fun W => @TT W) (fun W => @Xc W) Xa Tt4 1000 50 (by kernel_rfl) Xh0 (fun W => @meas W) fun W i fs ms all lines ks l out K hs =>
  (Xoa W i fs ms all lines ks l out (fun e => meas e < meas [.i i, .ro _ fs, .ro _ ms, .i all, .i lines, .ro _ ks, .l l, .l out] /\ Xfq e K) K).mpr (hyp_ W i fs ms all lines ks l out K hs _ fun e h1 h2 => ⟨h1, h2⟩)
theorem Xte : Xg1 := Xpv (fun e => match e with | [.i i, _, _, _, _, _, .l l, _] => ((l.length : Int) - i).toNat | _ => 0) fun W i fs ms all lines ks l out K hs A hA => by
 obtain ⟨⟨h0, h1, hf, hq, hn, ho⟩, hk⟩ := hs;unfold Xeq;delta Zh;have ez : (i + 1).toNat = i.toNat + 1 := by omega
 have hp := Xkc hn 12 hn.m12;have h912 : (9 : Nat) ^ 12 = 282429536481 := by decide
 by_cases hi' : i < l.length
 ·have hL := hn.lok (i := i.toNat) (by omega);have hLn := hL.n;rw [show l.length - i.toNat = (l.length - (i.toNat + 1)) + 1 by omega] at hk;simp only [Tt.flD] at hk;have go1 : Tt.fitB fs.xs ks.xs (cel l i.toNat 0).lst lines = true -> A [.i (i + 1), .ro _ fs, .ro _ ms, .i all, .i lines, .ro _ ks, .l l, .l (out ++ [[.l (cel l i.toNat 0).lst]])] := fun f => hA _ (by show ((l.length : Int) - (i + 1)).toNat < ((l.length : Int) - i).toNat; omega) ⟨⟨by omega, by omega, hf, hq, hn, by rw [List.length_append, List.length_singleton]; omega⟩, by rw [ez]; rw [if_pos f] at hk; rw [List.append_assoc]; exact hk⟩;have go2 : Tt.fitB fs.xs ks.xs (cel l i.toNat 0).lst lines = false -> A [.i (i + 1), .ro _ fs, .ro _ ms, .i all, .i lines, .ro _ ks, .l l, .l out] := fun f => hA _ (by show ((l.length : Int) - (i + 1)).toNat < ((l.length : Int) - i).toNat; omega) ⟨⟨by omega, by omega, hf, hq, hn, by omega⟩, by rw [ez]; rw [if_neg (by rw [f]; simp), List.nil_append] at hk; exact hk⟩;clear hA hk
  repeat' (first | (with_reducible refine Xb ⟨hf, hL, hq⟩ ?_) | omega|intro _|with_reducible first|apply vifd|apply vifn|apply vifq|apply vifq0|apply vifq1|apply vifb|apply vif|apply nedd|apply ned2|apply ned|apply ar64|apply Xb|exact True.intro|assumption|rfl|apply And.intro)
  all_goals first | (refine go1 ?_; assumption) | (refine go2 ?_; assumption) | (simp only [List.length_cons, List.length_nil]; omega) | skip
 ·rw [show l.length - i.toNat = 0 by omega] at hk;simp only [Tt.flD, List.append_nil] at hk;exact vifd (fun e => by omega) fun _ => hk
def Xuc : LE Tryz.prog := ⟨13, 27, fun W => @Yv5 W Xh0, Xte⟩
def Tt5 : Tab Tryz.prog := ⟨[], [Xub, Xuc], []⟩
abbrev Xde (ds : DS) : DS := match ds with | [[.l fs, .l ms, .i all], [.i lines, .l ks]] => [[.l (Tt.tstD fs ms ks lines)]] | _ => []
abbrev Xj0 (ds : DS) : Prop := match ds with | [[.l fs, .l ms, .i all], [.i lines, .l ks]] => Tt.FOk fs /\ ms.length <= 3 /\ Tt.FtOk ks lines /\ Tt.WhOk ks /\ 1 <= lines /\ lines <= 12 | _ => False
def Zs := Int.toNat (1 : Int)
def Xld [W : InW] (c_Fs : Ro Jb) (c_Ms : Ro Jd) (c_All s_Lines : Int) (s_Kept : Ro Je) (Q : DS -> Prop) : Prop :=
 Pre ((1 : Int) <= 1 /\ 1 <= s_Lines + 1 /\ s_Lines <= 12 /\ c_Fs.xs.length <= 6 /\ c_Ms.xs.length <= 3 /\ Tt.WhOk s_Kept.xs /\ Tt.NsOk [[Cl.l []]] ((1 : Int) - 1).toNat) (Pre (Ze <= 0 /\ Ze <= (↑(List.length (Tt.tsD c_Fs.xs c_Ms.xs s_Kept.xs Zs (s_Lines + 1 - 1).toNat [[Cl.l []]])) : Int) /\ Tt.FOk c_Fs.xs /\ Tt.FtOk s_Kept.xs s_Lines /\ Tt.NsOk (Tt.tsD c_Fs.xs c_Ms.xs s_Kept.xs Zs (s_Lines + 1 - 1).toNat [[Cl.l []]]) s_Lines.toNat /\ (↑(0 : Nat) : Int) <= 0) (Q [[Cl.l (Tt.flD c_Fs.xs s_Kept.xs s_Lines (Tt.tsD c_Fs.xs c_Ms.xs s_Kept.xs Zs (s_Lines + 1 - 1).toNat [[Cl.l []]]) (Int.toNat Ze) (List.length (Tt.tsD c_Fs.xs c_Ms.xs s_Kept.xs Zs (s_Lines + 1 - 1).toNat [[Cl.l []]]) - Int.toNat Ze))]]))
theorem Xrg (W : InW) (c_Fs c_Ms c_All s_Lines s_Kept Q) : Yzs (cxT Tryz.prog TT Tt5 1000 50) 1000 13 [.agg [.rs _ c_Fs, .rs _ c_Ms, .si .i64 c_All], .agg [.si .i64 s_Lines, .rs _ s_Kept]] [] 0 (Y4g [(false, [.nst 41 [.sl Jc]])] Q) (fun _ _ _ _ => Stuck 421) = Xld c_Fs c_Ms c_All s_Lines s_Kept Q := by kernel_rfl
abbrev Xd0 : List AT := [.agg [.sl Jb, .sl Jd, .int .i64], .agg [.int .i64, .sl Je]]
theorem Xsq {pre : DS -> Prop} {res : DS -> DS} (hyp_ : ∀ (W : InW) (c_Fs : Ro Jb) (c_Ms : Ro Jd) (c_All s_Lines : Int) (s_Kept : Ro Je), pre [[.l c_Fs.xs, .l c_Ms.xs, .i c_All], [.i s_Lines, .l s_Kept.xs]] -> ∀ Q : DS -> Prop, Q (res [[.l c_Fs.xs, .l c_Ms.xs, .i c_All], [.i s_Lines, .l s_Kept.xs]]) -> Xld c_Fs c_Ms c_All s_Lines s_Kept Q) : PureOk Tryz.prog 13 Xd0 [(false, [.nst 41 [.sl Jc]])] pre res :=
 PureOk.of' (fun W => @TT W) (fun W => @Xc W) Xa Tt5 1000 50 fun W c_Fs c_Ms c_All s_Lines s_Kept hp =>
  (Xrg W c_Fs c_Ms c_All s_Lines s_Kept (fun o => o = res [[.l c_Fs.xs, .l c_Ms.xs, .i c_All], [.i s_Lines, .l s_Kept.xs]])).mpr (hyp_ W c_Fs c_Ms c_All s_Lines s_Kept hp _ rfl)
theorem Xkp : Tt.NsOk [[.l []]] 0 := ⟨by omega, by show 1 <= 9 ^ 0; decide, fun r hr => by rw [List.mem_singleton] at hr; subst hr; exact ⟨rfl, fun j hj => by omega⟩⟩
theorem Xpi {fs ms ks : Dt} (hw : Tt.WhOk ks) (h6 : fs.length <= 6) (h3 : ms.length <= 3) : ∀ k n l m, Tt.NsOk l m -> m + k <= 12 -> Tt.NsOk (Tt.tsD fs ms ks n k l) (m + k)
 | 0, n, l, m, h, _ => h
 | k + 1, n, l, m, h, hm => by
  rw [Tt.tsD, show m + (k + 1) = m + 1 + k by omega];exact Xpi hw h6 h3 k (n + 1) _ (m + 1) (Xko h (Xnz hw h6 h3) (by omega)) (by omega)
theorem oktst : PureOk Tryz.prog 13 Xd0 [(false, [.nst 41 [.sl Jc]])] Xj0 Xde :=
 Xsq fun W fs ms all lines ks hp Q h => by
  obtain ⟨hf, h3, hq, hw, h1, h12⟩ : Tt.FOk fs.xs /\ ms.xs.length <= 3 /\ Tt.FtOk ks.xs lines /\ Tt.WhOk ks.xs /\ 1 <= lines /\ lines <= 12 := hp;have hN := Xpi hw hf.n6 h3 lines.toNat 1 [[.l []]] 0 Xkp (by omega);rw [Nat.zero_add] at hN;unfold Xld;delta Ze Zs;rw [show (lines + 1 - 1).toNat = lines.toNat by omega, show Int.toNat 1 = 1 from rfl];refine Xb ⟨by omega, by omega, h12, hf.n6, h3, hw, Xkp⟩ (Xb ⟨by omega, by omega, hf, hq, hN, by simp⟩ ?_);simp only [Xde, Tt.tstD] at h;simpa using h
def Xr6 : PC Tryz.prog := ⟨13, Xd0, [(false, [.nst 41 [.sl Jc]])], Xj0, Xde, oktst⟩
set_option maxHeartbeats 1600000
namespace Tt
def cntB (p : Int -> Bool) : Nat -> Nat -> Nat
 | _, 0 => 0
 | n, k + 1 => (if p (n : Int) = true then 1 else 0) + cntB p (n + 1) k
def kr (fs te : Dt) (j : Nat) : List Cl := [.i ((j : Int) + 1), .i (cel te j 0).int, .i (tot fs (te.take (j + 1)) 0 (j + 1))]
end Tt
theorem X0 {l : Dt} {a k : Nat} {r : List Cl} (e : l.getD a [] = r) : cel l a k = r.getD k .z := by unfold cel; rw [e]
theorem Xnv {fs te lo : Dt} : ∀ n i x, x ∈ Tt.kpD fs te lo i n -> ∃ j : Nat, i <= j /\ j < i + n /\ Tt.hasI lo ((j : Int) + 1) 0 lo.length = false /\ x = Tt.kr fs te j
 | 0, i, x, h => by simp [Tt.kpD] at h
 | n + 1, i, x, h => by
  rw [Tt.kpD, List.mem_append] at h;rcases h with h | h
  ·split at h
   ·cases h
   ·rename_i e;rw [List.mem_singleton] at h;exact ⟨i, by omega, by omega, by simpa using e, h⟩
  ·obtain ⟨j, h1, h2, h3⟩ := Xnv n (i + 1) x h;exact ⟨j, by omega, by omega, h3⟩
theorem Xu7 {fs te lo : Dt} : ∀ n i j : Nat, i <= j -> j < i + n -> Tt.hasI lo ((j : Int) + 1) 0 lo.length = false -> Tt.kr fs te j ∈ Tt.kpD fs te lo i n
 | 0, i, j, h1, h2, _ => by omega
 | n + 1, i, j, h1, h2, h3 => by
  rw [Tt.kpD, List.mem_append]
  by_cases e : j = i
  ·subst e;rw [if_neg (by simp [h3])];exact .inl (by simp [Tt.kr])
  ·exact .inr (Xu7 n (i + 1) j (by omega) (by omega) h3)
theorem Xnw {fs te lo : Dt} : ∀ n i, (Tt.kpD fs te lo i n).length <= n
 | 0, i => by simp [Tt.kpD]
 | n + 1, i => by
  have := Xnw (fs := fs) (te := te) (lo := lo) n (i + 1);rw [Tt.kpD, List.length_append]
  split <;> simp <;> omega
theorem Xks {fs te lo : Dt} {n i a : Nat} (h : a < (Tt.kpD fs te lo i n).length) : ∃ j : Nat, i <= j /\ j < i + n /\ Tt.hasI lo ((j : Int) + 1) 0 lo.length = false /\ (Tt.kpD fs te lo i n).getD a [] = Tt.kr fs te j := Xnv _ _ _ (Xcp h)
theorem Xq5 {fs te lo : Dt} : ∀ n i a, a + 1 < (Tt.kpD fs te lo i n).length -> (cel (Tt.kpD fs te lo i n) a 0).int < (cel (Tt.kpD fs te lo i n) (a + 1) 0).int
 | 0, i, a, h => by simp [Tt.kpD] at h
 | n + 1, i, a, h => by
  rw [Tt.kpD] at h ⊢
  split at h
  ·rename_i e;rw [if_pos e];exact Xq5 n (i + 1) a h
  ·rename_i e;rw [if_neg e];rw [List.singleton_append] at h ⊢;cases a with
   | zero =>
    have h' : 0 < (Tt.kpD fs te lo (i + 1) n).length := by simpa using h
    obtain ⟨j, h1, h2, _, h4⟩ := Xks h';have e1 : (cel (Tt.kpD fs te lo (i + 1) n) 0 0).int = (j : Int) + 1 := by rw [X0 h4]; rfl
    show (i : Int) + 1 < (cel (Tt.kpD fs te lo (i + 1) n) 0 0).int
    omega
   | succ a => exact Xq5 n (i + 1) a (by simpa using h)
theorem Xi0 {ks : Dt} {n : Int} : ∀ k i, Tt.anyN ks n i k = true ↔ ∃ j, i <= j /\ j < i + k /\ (cel ks j 0).int = n
 | 0, i => by simp only [Tt.anyN, Bool.false_eq_true, false_iff]; rintro ⟨j, h1, h2, _⟩; omega
 | k + 1, i => by
  rw [Tt.anyN, Bool.or_eq_true, decide_eq_true_eq, Xi0 k (i + 1)];constructor
  ·rintro (h | ⟨j, h1, h2, h3⟩)
   ·exact ⟨i, by omega, by omega, h⟩
   ·exact ⟨j, by omega, by omega, h3⟩
  ·rintro ⟨j, h1, h2, h3⟩
   by_cases e : j = i
   ·exact .inl (by rw [<- e]; exact h3)
   ·exact .inr ⟨j, by omega, by omega, h3⟩
theorem Xkr {ks : Dt} : ∀ k n, (Tt.loD ks n k).length = Tt.cntB (fun v => !Tt.anyN ks v 0 ks.length) n k
 | 0, n => rfl
 | k + 1, n => by
  rw [Tt.loD, List.length_append, Xkr k, Tt.cntB];cases Tt.anyN ks (n : Int) 0 ks.length <;> simp
theorem Xk1 {p q : Int -> Bool} : ∀ k n, (∀ v : Nat, n <= v -> v < n + k -> p v = true -> q v = true) -> Tt.cntB p n k <= Tt.cntB q n k
 | 0, n, h => Nat.le_refl _
 | k + 1, n, h => by
  have h1 := Xk1 k (n + 1) fun v h1 h2 => h v (by omega) (by omega);have h2 := h n (by omega) (by omega);rw [Tt.cntB, Tt.cntB]
  by_cases e : p (n : Int) = true
  ·rw [if_pos e, if_pos (h2 e)]; omega
  ·rw [if_neg e]; split <;> omega
theorem Xnx {p q : Int -> Bool} : ∀ k n, Tt.cntB (fun v => p v || q v) n k <= Tt.cntB p n k + Tt.cntB q n k
 | 0, n => Nat.le_refl _
 | k + 1, n => by
  have h1 := Xnx (p := p) (q := q) k (n + 1);simp only [Tt.cntB]
  by_cases hp : p (n : Int) = true <;> by_cases hq : q (n : Int) = true <;> simp [hp, hq] <;> omega
theorem Xk0 {x : Int} : ∀ k n, Tt.cntB (fun v => decide (v = x)) n k <= (if x < n then 0 else 1)
 | 0, n => by simp [Tt.cntB]
 | k + 1, n => by
  have h1 := Xk0 (x := x) k (n + 1);simp only [Tt.cntB, decide_eq_true_eq]
  split at h1 <;> split <;> split <;> omega
theorem Xny : ∀ k n, Tt.cntB (fun _ => false) n k = 0
 | 0, n => rfl
 | k + 1, n => by simp [Tt.cntB, Xny k]
theorem Xk2 {xs : Dt} {n k : Nat} : ∀ m i, Tt.cntB (fun v => Tt.hasI xs v i m) n k <= m
 | 0, i => by simp only [Tt.hasI]; rw [Xny]; exact Nat.le_refl _
 | m + 1, i => by
  have h1 := Xk2 (xs := xs) (n := n) (k := k) m (i + 1);have h2 := Xnx (p := fun v => decide (v = (cel xs i 0).int)) (q := fun v => Tt.hasI xs v (i + 1) m) k n;have h3 := Xk0 (x := (cel xs i 0).int) k n;have h4 : Tt.cntB (fun v => Tt.hasI xs v i (m + 1)) n k = Tt.cntB (fun v => decide (v = (cel xs i 0).int) || Tt.hasI xs v (i + 1) m) n k := rfl;rw [h4]
  split at h3 <;> omega
theorem Xmm {fs ms te : Dt} {all : Int} (hc : Tt.CodeOk fs ms all) (ht : Tt.TestOk fs ms te) {j : Nat} (hj : j < te.length) : 0 <= Tt.tot fs (te.take (j + 1)) 0 (j + 1) /\ Tt.tot fs (te.take (j + 1)) 0 (j + 1) <= 240 := by
 have := Xc2 (l := te.take (j + 1)) hc.f (j + 1) 0 fun k _ hk => by
  rw [Xb0 (by omega)];exact (ht.w k (by omega)).1
 have h12 := ht.n12;omega
theorem Xq6 {fs ms te lo : Dt} {all : Int} (hc : Tt.CodeOk fs ms all) (ht : Tt.TestOk fs ms te) (hl : Tt.RsOk lo te.length) : Tt.ShOk fs ms (Tt.kpD fs te lo 0 te.length) te.length := by
 have h1 := ht.n1;have h12 := ht.n12;have hn := Xnw (fs := fs) (te := te) (lo := lo) te.length 0;have at_ : ∀ a, a < (Tt.kpD fs te lo 0 te.length).length -> ∃ j, j < te.length /\ (Tt.kpD fs te lo 0 te.length).getD a [] = Tt.kr fs te j := fun a ha => by
  obtain ⟨j, _, h2, _, h4⟩ := Xks ha;exact ⟨j, by omega, h4⟩
 refine ⟨by omega, by omega, by omega, fun a ha => ?_, fun a ha => Xq5 _ _ a ha, fun a ha => ?_, fun a ha => ?_, ?_⟩
 ·obtain ⟨j, hj, e⟩ := at_ a ha;have : (cel (Tt.kpD fs te lo 0 te.length) a 0).int = (j : Int) + 1 := by rw [X0 e]; rfl
  omega
 ·obtain ⟨j, hj, e⟩ := at_ a ha;have : (cel (Tt.kpD fs te lo 0 te.length) a 1).int = (cel te j 0).int := by rw [X0 e]; rfl
  rw [this];exact ht.w j hj
 ·obtain ⟨j, hj, e⟩ := at_ a ha;have : (cel (Tt.kpD fs te lo 0 te.length) a 2).int = Tt.tot fs (te.take (j + 1)) 0 (j + 1) := by rw [X0 e]; rfl
  rw [this];exact Xmm hc ht hj
 ·rw [show (te.length : Int).toNat = te.length from Int.toNat_natCast _, Xkr];refine Nat.le_trans (Xk1 (q := fun v => Tt.hasI lo v 0 lo.length) _ _ fun v h2 h3 h4 => ?_) (Nat.le_trans (Xk2 _ _) hl.n3);cases e : Tt.hasI lo (v : Int) 0 lo.length with
  | true => rfl
  | false =>
   have hin := Xu7 (fs := fs) (te := te) (lo := lo) te.length 0 (v - 1) (by omega) (by omega) (by rw [show (((v - 1 : Nat) : Int) + 1) = (v : Int) by omega]; exact e);obtain ⟨a, ha, hg⟩ := List.getElem_of_mem hin;have h5 : Tt.anyN (Tt.kpD fs te lo 0 te.length) (v : Int) 0 (Tt.kpD fs te lo 0 te.length).length = true := (Xi0 _ _).2 ⟨a, by omega, by omega, by
    rw [X0 (show (Tt.kpD fs te lo 0 te.length).getD a [] = Tt.kr fs te (v - 1) by rw [List.getD_eq_getElem?_getD, List.getElem?_eq_getElem ha, hg]; rfl)]
    show ((v - 1 : Nat) : Int) + 1 = v
    omega⟩
   rw [h5] at h4;cases h4
theorem Tt.ShOk.ft {fs ms ks : Dt} {n : Int} (h : Tt.ShOk fs ms ks n) : Tt.FtOk ks n := ⟨h.few, h.no⟩
theorem Tt.ShOk.wo {fs ms ks : Dt} {n : Int} (h : Tt.ShOk fs ms ks n) : Tt.WhOk ks := ⟨h.few, fun i hi => (h.wh i hi).1⟩
theorem Xkx {fs ks te : Dt} : ∀ k i, (∀ a, i <= a -> a < i + k -> (cel te ((cel ks a 0).int - 1).toNat 0).int = (cel ks a 1).int /\ Tt.tot fs (te.take (cel ks a 0).int.toNat) 0 (te.take (cel ks a 0).int.toNat).length = (cel ks a 2).int) -> Tt.fitR fs ks te i k = true
 | 0, i, h => rfl
 | k + 1, i, h => by
  obtain ⟨h1, h2⟩ := h i (by omega) (by omega);rw [Tt.fitR, Xkx k (i + 1) fun a h3 h4 => h a (by omega) (by omega), decide_eq_true h1, decide_eq_true h2];rfl
theorem Xni {fs te lo : Dt} : Tt.fitB fs (Tt.kpD fs te lo 0 te.length) te te.length = true := by
 unfold Tt.fitB;rw [decide_eq_true rfl, Bool.true_and];refine Xkx _ _ fun a _ ha => ?_;obtain ⟨j, _, hj, _, e⟩ := Xks (fs := fs) (te := te) (lo := lo) (n := te.length) (i := 0) (a := a) (by omega);have e0 : (cel (Tt.kpD fs te lo 0 te.length) a 0).int = (j : Int) + 1 := by rw [X0 e]; rfl
 have e1 : (cel (Tt.kpD fs te lo 0 te.length) a 1).int = (cel te j 0).int := by rw [X0 e]; rfl
 have e2 : (cel (Tt.kpD fs te lo 0 te.length) a 2).int = Tt.tot fs (te.take (j + 1)) 0 (j + 1) := by rw [X0 e]; rfl
 rw [e0, e1, e2, show ((j : Int) + 1 - 1).toNat = j by omega, show ((j : Int) + 1).toNat = j + 1 by omega, List.length_take, Nat.min_eq_left (by omega)];exact ⟨rfl, rfl⟩
theorem Xkv {fs ks l : Dt} {lines : Int} : ∀ k i x, i + k <= l.length -> x ∈ Tt.flD fs ks lines l i k -> ∃ j, j < l.length /\ x = [.l (cel l j 0).lst]
 | 0, i, x, _, h => by simp [Tt.flD] at h
 | k + 1, i, x, hk, h => by
  rw [Tt.flD, List.mem_append] at h;rcases h with h | h
  ·split at h
   ·rw [List.mem_singleton] at h; exact ⟨i, by omega, h⟩
   ·cases h
  ·exact Xkv k (i + 1) x (by omega) h
theorem Xkw {fs ks l : Dt} {lines : Int} : ∀ k i, (Tt.flD fs ks lines l i k).length <= k
 | 0, i => by simp [Tt.flD]
 | k + 1, i => by
  have := Xkw (fs := fs) (ks := ks) (l := l) (lines := lines) k (i + 1);rw [Tt.flD, List.length_append]
  split <;> simp <;> omega
theorem Xr0 {fs ms ks : Dt} {lines : Int} (hw : Tt.WhOk ks) (h6 : fs.length <= 6) (h3 : ms.length <= 3) (h1 : 1 <= lines) (h12 : lines <= 12) : (∀ a, a < (Tt.tstD fs ms ks lines).length -> Tt.LOk (cel (Tt.tstD fs ms ks lines) a 0).lst) /\ (Tt.tstD fs ms ks lines).length <= 9 ^ 12 := by
 have hN := Xpi hw h6 h3 lines.toNat 1 [[.l []]] 0 Xkp (by omega);rw [Nat.zero_add] at hN;refine ⟨fun a ha => ?_, Nat.le_trans (Xkw _ _) (Xkc hN 12 (by omega))⟩;obtain ⟨j, hj, e⟩ := Xkv _ _ _ (by omega) (Xcp ha);have : (cel (Tt.tstD fs ms ks lines) a 0).lst = (cel (Tt.tsD fs ms ks 1 lines.toNat [[.l []]]) j 0).lst := by
  unfold Tt.tstD; rw [X0 e]; rfl
 rw [this];exact hN.lok hj
theorem Xk6 {b m n : Int} (h : m <= n) (h0 : 0 <= m) : Sp.bhLo b m <= Sp.bhLo b n := by
 unfold Sp.bhLo
 split <;> split <;> omega
theorem Xk7 {b m n : Int} (h : m <= n) (h1 : n <= 1000) : Sp.bhHi b m <= Sp.bhHi b n := by
 unfold Sp.bhHi
 split <;> split <;> omega
end Go.Proofs.YtladoaeefkpdiaaGreatDoor
