/-
  'TopWeighed': for every input the law returns true, and what is handed in reads as before. No condition.
-/
import Derived.Test.YtfbhampnigdaaaaQtwb
set_option linter.unusedVariables false
set_option linter.unusedSectionVars false
set_option linter.unusedSimpArgs false
noncomputable section
namespace Go.Proofs.Ytfbhampnigdaaaa
open Go.RowKit
open Sp
set_option maxRecDepth 100000
set_option maxHeartbeats 1600000
def Xg0 [InW] (e : List Ed) (K : Nat -> List Ed -> Prop) : Prop := match e with
 | [.ro _ q2, .i n, .i i, .ro _ qs, .ro _ ws, .i lo, .i hi, .l w, .l xs] => Pre (Sq.BankV qs.xs ws.xs lo hi /\ q2.xs = qs.xs /\ n = qs.xs.length /\ 0 <= i /\ i <= n /\ w = Sq.wts qs.xs i.toNat) (K 0 [.ro _ qs, .ro _ ws, .i lo, .i hi, .l (Sq.wts qs.xs qs.xs.length), .l xs])
 | _ => False
def T6q : Tab Try.prog := ⟨[Xdb], [], []⟩
def Xiu : LC where
 len := 52
 T := [(7, (.ptr 4 0)), (25, .rs Jd), (26, .int .i64), (27, .int .i64)]
 H := [(4, .blk 91 [.rs Jd, .rs Jc, .int .i64, .int .i64, (.row 9), (.mp 10)]), (9, .arr 3 Jc), (10, .mpP)]
 W := ([9, 10] ++ rgg 28 23)
 outs := [⟨.exit 0, [(7, (.ptr 4 0))], [(4, .blk 91 [.rs Jd, .rs Jc, .int .i64, .int .i64, (.row 6), (.mp 10)]), (6, .arr 3 Jc), (10, .mpP)], ([9, 10] ++ rgg 25 26)⟩]
 spec := Xg0
def Xf0 [W : InW] (q2 : Ro Jd) (n i : Int) (qs : Ro Jd) (ws : Ro Jc) (lo hi : Int) (w xs : Dt) (A : List Ed -> Prop) (K : Nat -> List Ed -> Prop) : Prop :=
 Vif (decide (i < n)) (Need (decide (0 <= i) && decide (i < (↑(q2.xs.length) : Int))) (Need (decide (i.toNat < q2.xs.length)) (Vif (decide ((0 : Int) < (cel q2.xs i.toNat (0+1)).int)) (Ar .i64 ((cel q2.xs i.toNat ((0 : Nat) + 1 + 1)).int * 1000) fun z => Need (!decide ((cel q2.xs i.toNat (0+1)).int = 0)) (Ar .i64 (z.tdiv (cel q2.xs i.toNat (0+1)).int) fun z => Need (decide ((w.length + [[Cl.i z]].length) * 8 <= 140737488355328)) (Ar .i64 (i + 1) fun z_1 => A [.ro _ q2, .i n, .i z_1, .ro _ qs, .ro _ ws, .i lo, .i hi, .l (w ++ [[Cl.i z]]), .l xs]))) (Need (decide ((w.length + [[Cl.i 500]].length) * 8 <= 140737488355328)) (Ar .i64 (i + 1) fun z => A [.ro _ q2, .i n, .i z, .ro _ qs, .ro _ ws, .i lo, .i hi, .l (w ++ [[Cl.i 500]]), .l xs]))))) (K 0 [.ro _ qs, .ro _ ws, .i lo, .i hi, .l w, .l xs])
theorem Xn5 (W : InW) (q2 n i qs ws lo hi w xs A K) : Yfh { cxT Try.prog TT T6q 1000 50 with fn := 38 } 1000 (Yor Try.prog 38 7) (Yd9 52 [(7, .ptr 4 0), (25, .rs _ q2), (26, .si .i64 n), (27, .si .i64 i)] ([9, 10] ++ rgg 28 23)) [(4, .blk 91 [.rs _ qs, .rs _ ws, .si .i64 lo, .si .i64 hi, .rw 9, .mp 10]), (9, .arr 3 Jc w), (10, .obj (.mpP xs))] (Yvi Xiu A K) = Xf0 q2 n i qs ws lo hi w xs A K := by kernel_rfl
def Xh3 : Prop := ∀ (W : InW) (body a : Code), (Try.prog.funcs[38]?).bind (·.body) = some body -> a ∈ Y1 body -> Yf2 a = 7 -> @Ym8 W Try.prog a (@Yum W Xiu)
theorem Xp5 (meas : [InW] -> List Ed -> Nat) (hyp_ : ∀ (W : InW) q2 n i qs ws lo hi w xs K, Xg0 [.ro _ q2, .i n, .i i, .ro _ qs, .ro _ ws, .i lo, .i hi, .l w, .l xs] K -> ∀ A : List Ed -> Prop, (∀ e, meas e < meas [.ro _ q2, .i n, .i i, .ro _ qs, .ro _ ws, .i lo, .i hi, .l w, .l xs] -> Xg0 e K -> A e) -> Xf0 q2 n i qs ws lo hi w xs A K) : Xh3 :=
 LE.okOf' (fun W => @TT W) (fun W => @Xc W) Xa T6q 1000 50 (by kernel_rfl) Xiu (fun W => @meas W) fun W q2 n i qs ws lo hi w xs K hs =>
  (Xn5 W q2 n i qs ws lo hi w xs (fun e => meas e < meas [.ro _ q2, .i n, .i i, .ro _ qs, .ro _ ws, .i lo, .i hi, .l w, .l xs] /\ Xg0 e K) K).mpr (hyp_ W q2 n i qs ws lo hi w xs K hs _ fun e h1 h2 => ⟨h1, h2⟩)
theorem Xs8 : Xh3 := Xp5 (fun e => match e with | _ :: .i n :: .i i :: _ => (n - i).toNat | _ => 0) fun W q2 n i qs ws lo hi w xs K hs A hA => by
 obtain ⟨⟨bv, hq, rfl, h0, h1, rfl⟩, hk⟩ := hs;unfold Xf0;have hn := bv.n2;have hl := Sq.length_wts qs.xs i.toNat;have hl2 : q2.xs.length = qs.xs.length := by rw [hq]
 by_cases hi' : i < qs.xs.length
 ·have ha := bv.ask i.toNat (by omega);have hb := bv.bad i.toNat (by omega);have hw := bv.wt (i := i.toNat) (by omega);have go : ∀ z, z = Sq.wt qs.xs i.toNat -> A [.ro _ q2, .i qs.xs.length, .i (i + 1), .ro _ qs, .ro _ ws, .i lo, .i hi, .l (Sq.wts qs.xs i.toNat ++ [[.i z]]), .l xs] := fun z hz => hA _ (by show ((qs.xs.length : Int) - (i + 1)).toNat < ((qs.xs.length : Int) - i).toNat; omega) ⟨⟨bv, hq, rfl, by omega, by omega, by rw [hz, <- Sq.wts_succ, show (i + 1).toNat = i.toNat + 1 by omega]⟩, hk⟩;clear hA hk;unfold Sq.qAsk at ha hb;unfold Sq.qBad at hb;unfold Sq.wt Sq.qAsk Sq.qBad at go hw;simp only [hq, Nat.zero_add, Nat.reduceAdd];refine vifd (fun _ => ?_) (fun h => absurd hi' h);refine ned (by simp; omega) (nedd (by omega) (vifd (fun e1 => ?_) (fun e1 => ?_)))
  ·rw [if_neg (by omega)] at hw;refine ar64 (by omega) (ned (by simp; omega) (ar64 (by omega) (nedd (by simp [hl]; omega) (ar64 (by omega) (go _ ?_)))));rw [if_neg (by omega)]
  ·refine nedd (by simp [hl]; omega) (ar64 (by omega) (go _ ?_));rw [if_pos (by omega)]
 ·refine vifd (fun h => absurd h hi') (fun _ => ?_);rw [show i.toNat = qs.xs.length by omega];exact hk
def Xt6 : LE Try.prog := ⟨38, 7, fun W => @Yum W Xiu, Xs8⟩
def T7q : Tab Try.prog := ⟨[Xdb], [Xt6], []⟩
def Xjr [InW] (e : List Ed) (K : Nat -> List Ed -> Prop) : Prop := match e with
 | [.ro _ qs, .ro _ ws, .i lo, .i hi] => Vif (decide (Sq.chkE qs.xs ws.xs lo hi = 0)) (K 1 [.ro _ qs, .ro _ ws, .i lo, .i hi, .l (Sq.wts qs.xs qs.xs.length), .l []]) (K 0 [.i (Sq.chkE qs.xs ws.xs lo hi)])
 | _ => False
def Xb1 : CC where
 g := 38
 args := [.agg [.rs Jd, .rs Jc, .int .i64, .int .i64]]
 H := []
 outs := [⟨false, .tup [(.lit (.pointer none)), .int .i64], [], false⟩, ⟨false, .tup [(.ptr 6 0), (.lit (.int .i64 0))], [(6, .blk 91 [.rs Jd, .rs Jc, .int .i64, .int .i64, (.row 12), (.mp 18)]), (12, .arr 3 Jc), (18, .mpP)], false⟩]
 spec := Xjr
def Xed [W : InW] (qs : Ro Jd) (ws : Ro Jc) (lo hi : Int) (K : Nat -> List Ed -> Prop) : Prop :=
 Pre True (Vif (!decide (Sq.chkE qs.xs ws.xs lo hi = 0)) (K 0 [.i (Sq.chkE qs.xs ws.xs lo hi)]) (Pre (Sq.BankV qs.xs ws.xs lo hi /\ qs.xs = qs.xs /\ (↑(qs.xs.length) : Int) = (↑(qs.xs.length) : Int) /\ Zb <= 0 /\ Zb <= (↑(qs.xs.length) : Int) /\ [] = Sq.wts qs.xs (Int.toNat Zb)) (K (0+1) [.ro _ qs, .ro _ ws, .i lo, .i hi, .l (Sq.wts qs.xs (qs.xs.length)), .l []])))
theorem Xli (W : InW) (qs ws lo hi K) : Yxz (cxT Try.prog TT T7q 1000 50) 1000 38 [.agg [.rs _ qs, .rs _ ws, .si .i64 lo, .si .i64 hi]] [] (fun v h => outC Xb1.H [] Xb1.outs 0 false v h K) (fun v h => outC Xb1.H [] Xb1.outs 0 true v h K) = Xed qs ws lo hi K := by kernel_rfl
theorem Xmi (hyp_ : ∀ (W : InW) qs ws lo hi K, Xjr [.ro _ qs, .ro _ ws, .i lo, .i hi] K -> Xed qs ws lo hi K) : ∀ W : InW, @CallC W Try.prog Xb1 :=
 CC.okOf (fun W => @TT W) (fun W => @Xc W) Xa T7q 1000 50 Xb1 fun W qs ws lo hi K hs => (Xli W qs ws lo hi K).mpr (hyp_ W qs ws lo hi K hs)
theorem Xrj : ∀ W : InW, @CallC W Try.prog Xb1 := Xmi fun W qs ws lo hi K hs => by
 unfold Xed;delta Zb;refine ⟨trivial, vifn (fun e => hs.2 (decide_eq_false e)) (fun e => ?_)⟩;exact ⟨⟨Sq.chkE_iff.1 e, rfl, rfl, by omega, by omega, rfl⟩, hs.1 (decide_eq_true e)⟩
def T8q : Tab Try.prog := ⟨[X8], [], [ceOf Xbc Xde, ceOf Xbb Xcv, ceOf (Xb2 17) (Xcw 17)]⟩
def Xg2 [InW] (e : List Ed) (K : Nat -> List Ed -> Prop) : Prop := match e with
 | [.i k, .i i, .ro _ qs, .ro _ ws, .i lo, .i hi, .l w, .l xs, .i t, .i s, .i a, .i b, .i c, .i d, .l l] => Pre (Sq.BkOk qs.xs ws.xs lo hi w /\ Sq.StOk qs.xs t s ⟨a, b, c, d⟩ /\ Sq.MemoOk qs.xs lo hi xs /\ Sq.V4.nil ⟨a, b, c, d⟩ = false /\ t <= i /\ i <= qs.xs.length /\ 0 <= k /\ k < Sq.cnt qs.xs lo hi (qs.xs.length - i.toNat) s ⟨a, b, c, d⟩ /\ l.length <= t)
   (Sq.FaM (Sq.MemoOk qs.xs lo hi) fun ys => K 0 [.i (Sq.nthI qs.xs lo hi (qs.xs.length - i.toNat) s ⟨a, b, c, d⟩ k l).k, .ro _ qs, .ro _ ws, .i lo, .i hi, .l w, .l ys, .i (Sq.nthI qs.xs lo hi (qs.xs.length - i.toNat) s ⟨a, b, c, d⟩ k l).t, .i (Sq.nthI qs.xs lo hi (qs.xs.length - i.toNat) s ⟨a, b, c, d⟩ k l).s, .i (Sq.nthI qs.xs lo hi (qs.xs.length - i.toNat) s ⟨a, b, c, d⟩ k l).v.a, .i (Sq.nthI qs.xs lo hi (qs.xs.length - i.toNat) s ⟨a, b, c, d⟩ k l).v.b, .i (Sq.nthI qs.xs lo hi (qs.xs.length - i.toNat) s ⟨a, b, c, d⟩ k l).v.c, .i (Sq.nthI qs.xs lo hi (qs.xs.length - i.toNat) s ⟨a, b, c, d⟩ k l).v.d, .l (Sq.nthI qs.xs lo hi (qs.xs.length - i.toNat) s ⟨a, b, c, d⟩ k l).l])
 | _ => False
def Xiw : LC where
 len := 53
 T := [(0, (.ptr 4 0)), (1, .int .i64), (4, (.row 15)), (5, (.ptr 13 0)), (6, .int .i64)]
 H := [(4, .blk 91 [.rs Jd, .rs Jc, .int .i64, .int .i64, (.row 7), (.mp 10)]), (7, .arr 3 Jc), (10, .mpP), (13, .blk 98 [.int .i64, .int .i64, .int .i64, .int .i64, .int .i64, .int .i64]), (15, .arr 3 Jc)]
 W := ([7, 8, 9] ++ rgg 18 33)
 outs := [⟨.exit 2, [(0, (.ptr 4 0)), (1, .int .i64), (4, (.row 6)), (5, (.ptr 13 0))], [(4, .blk 91 [.rs Jd, .rs Jc, .int .i64, .int .i64, (.row 7), (.mp 10)]), (7, .arr 3 Jc), (10, .mpP), (13, .blk 98 [.int .i64, .int .i64, .int .i64, .int .i64, .int .i64, .int .i64]), (6, .arr 3 Jc)], (rgg 6 4 ++ rgg 18 33)⟩]
 spec := Xg2
def Zfb [W : InW] (i : Int) (qs : Ro Jd) (a b c d : Int) := Sq.V4.dec { a := a, b := b, c := c, d := d } (Sq.qPart qs.xs i.toNat)
def Xf2 [W : InW] (k i : Int) (qs : Ro Jd) (ws : Ro Jc) (lo hi : Int) (w xs : Dt) (t s a b c d : Int) (l : Dt) (A : List Ed -> Prop) (K : Nat -> List Ed -> Prop) : Prop :=
 Vif (decide (i < (↑(qs.xs.length) : Int))) (Pre (Sq.BkOk qs.xs ws.xs lo hi w /\ Sq.StOk qs.xs t s { a := a, b := b, c := c, d := d } /\ t <= i /\ i < (↑(qs.xs.length) : Int)) (Vif (!decide ((1 : Int) <= Sq.V4.get { a := a, b := b, c := c, d := d } (Sq.qPart qs.xs i.toNat))) (Ar .i64 (i + 1) fun z => A [.i k, .i z, .ro _ qs, .ro _ ws, .i lo, .i hi, .l w, .l xs, .i t, .i s, .i a, .i b, .i c, .i d, .l l]) (Pre (Sq.BkOk qs.xs ws.xs lo hi w /\ Sq.StOk qs.xs (i + 1) (s + Sq.wt qs.xs i.toNat) { a := (Zfb i qs a b c d).1, b := (Zfb i qs a b c d).2, c := (Zfb i qs a b c d).3, d := (Zfb i qs a b c d).4 } /\ Sq.MemoOk qs.xs lo hi xs /\ qs.xs.length - (i + 1).toNat < 17) (Sq.FaM (Sq.MemoOk qs.xs lo hi) fun ys => Vif (decide (k < Sq.cnt qs.xs lo hi (qs.xs.length - (i + 1).toNat) (s + Sq.wt qs.xs i.toNat) { a := (Zfb i qs a b c d).1, b := (Zfb i qs a b c d).2, c := (Zfb i qs a b c d).3, d := (Zfb i qs a b c d).4 })) (Need (decide ((l.length + [[Cl.i i]].length) * 8 <= 140737488355328)) (K 0 [.i k, .ro _ qs, .ro _ ws, .i lo, .i hi, .l w, .l ys, .i (i + 1), .i (s + Sq.wt qs.xs i.toNat), .i (Zfb i qs a b c d).1, .i (Zfb i qs a b c d).2, .i (Zfb i qs a b c d).3, .i (Zfb i qs a b c d).4, .l (l ++ [[Cl.i i]])])) (Ar .i64 (k - Sq.cnt qs.xs lo hi (qs.xs.length - (i + 1).toNat) (s + Sq.wt qs.xs i.toNat) { a := (Zfb i qs a b c d).1, b := (Zfb i qs a b c d).2, c := (Zfb i qs a b c d).3, d := (Zfb i qs a b c d).4 }) fun z => Ar .i64 (i + 1) fun z_1 => A [.i z, .i z_1, .ro _ qs, .ro _ ws, .i lo, .i hi, .l w, .l ys, .i t, .i s, .i a, .i b, .i c, .i d, .l l]))))) (K 0 [.i k, .ro _ qs, .ro _ ws, .i lo, .i hi, .l w, .l xs, .i t, .i s, .i a, .i b, .i c, .i d, .l l])
theorem Xn7 (W : InW) (k i qs ws lo hi w xs t s a b c d l A K) : Yfh { cxT Try.prog TT T8q 1000 50 with fn := 71 } 1000 (Yor Try.prog 71 5) (Yd9 53 [(0, .ptr 4 0), (1, .si .i64 k), (4, .rw 15), (5, .ptr 13 0), (6, .si .i64 i)] ([7, 8, 9] ++ rgg 18 33)) [(4, .blk 91 [.rs _ qs, .rs _ ws, .si .i64 lo, .si .i64 hi, .rw 7, .mp 10]), (7, .arr 3 Jc w), (10, .obj (.mpP xs)), (13, .blk 98 [.si .i64 t, .si .i64 s, .si .i64 a, .si .i64 b, .si .i64 c, .si .i64 d]), (15, .arr 3 Jc l)] (Yvi Xiw A K) = Xf2 k i qs ws lo hi w xs t s a b c d l A K := by kernel_rfl
def Xh5 : Prop := ∀ (W : InW) (body a : Code), (Try.prog.funcs[71]?).bind (·.body) = some body -> a ∈ Y1 body -> Yf2 a = 5 -> @Ym8 W Try.prog a (@Yum W Xiw)
theorem Xp7 (meas : [InW] -> List Ed -> Nat) (hyp_ : ∀ (W : InW) k i qs ws lo hi w xs t s a b c d l K, Xg2 [.i k, .i i, .ro _ qs, .ro _ ws, .i lo, .i hi, .l w, .l xs, .i t, .i s, .i a, .i b, .i c, .i d, .l l] K -> ∀ A : List Ed -> Prop, (∀ e, meas e < meas [.i k, .i i, .ro _ qs, .ro _ ws, .i lo, .i hi, .l w, .l xs, .i t, .i s, .i a, .i b, .i c, .i d, .l l] -> Xg2 e K -> A e) -> Xf2 k i qs ws lo hi w xs t s a b c d l A K) : Xh5 :=
 LE.okOf' (fun W => @TT W) (fun W => @Xc W) Xa T8q 1000 50 (by kernel_rfl) Xiw (fun W => @meas W) fun W k i qs ws lo hi w xs t s a b c d l K hs =>
  (Xn7 W k i qs ws lo hi w xs t s a b c d l (fun e => meas e < meas [.i k, .i i, .ro _ qs, .ro _ ws, .i lo, .i hi, .l w, .l xs, .i t, .i s, .i a, .i b, .i c, .i d, .l l] /\ Xg2 e K) K).mpr (hyp_ W k i qs ws lo hi w xs t s a b c d l K hs _ fun e h1 h2 => ⟨h1, h2⟩)
theorem Xta : Xh5 := Xp7 (fun e => match e with | _ :: .i i :: .ro _ qs :: _ => ((qs.xs.length : Int) - i).toNat | _ => 0) fun W k i qs ws lo hi w xs t s a b c d l K hs A hA => by
 obtain ⟨⟨bk, st, mo, hv, h0, h1, k0, k1, hl⟩, ⟨hk⟩⟩ := hs;unfold Xf2;delta Zfb;have hf := bk.few;have ht := st.a0
 by_cases hi' : i < qs.xs.length
 ·have hc := Sq.cnt_at (qs := qs.xs) (lo := lo) (hi := hi) (s := s) hv (by omega) hi';rw [Sq.nthI_at (by omega) hi'] at hk;have hlt : ((qs.xs.length : Int) - (i + 1)).toNat < ((qs.xs.length : Int) - i).toNat := by omega
  have b1 := Sq.cnt_16 (qs := qs.xs) (lo := lo) (hi := hi) (m := qs.xs.length - (i + 1).toNat) (by omega) s ⟨a, b, c, d⟩;have b2 := Sq.cnt_16 (qs := qs.xs) (lo := lo) (hi := hi) (m := qs.xs.length - (i + 1).toNat) (by omega) (s + Sq.wt qs.xs i.toNat) (Sq.V4.dec ⟨a, b, c, d⟩ (Sq.qPart qs.xs i.toNat));refine vifd (fun _ => ?_) (fun h => absurd hi' h);refine ⟨⟨bk, st, h0, hi'⟩, vifn (fun hg => ?_) (fun hg => ?_)⟩
  ·rw [if_neg hg] at hc hk;exact ar64 (by omega) (hA _ hlt ⟨⟨bk, st, mo, hv, by omega, by omega, k0, by omega, hl⟩, ⟨hk⟩⟩)
  ·rw [if_pos hg] at hc hk;refine ⟨⟨bk, st.step bk h0 hi' hg, mo, by omega⟩, ⟨fun ys hy => vifd (fun hlt2 => ?_) (fun hlt2 => ?_)⟩⟩
   ·rw [if_pos hlt2] at hk;exact nedd (by simp; omega) (hk ys hy)
   ·rw [if_neg hlt2] at hk;exact ar64 (by omega) (ar64 (by omega) (hA _ hlt ⟨⟨bk, st, hy, hv, by omega, by omega, by omega, by omega, hl⟩, ⟨hk⟩⟩))
 ·rw [show qs.xs.length - i.toNat = 0 by omega, Sq.cnt_zero hv] at k1;omega
def Xt8 : LE Try.prog := ⟨71, 5, fun W => @Yum W Xiw, Xta⟩
def T9 : Tab Try.prog := ⟨[X8], [Xt8], [ceOf Xbc Xde, ceOf Xbb Xcv, ceOf (Xb2 17) (Xcw 17)]⟩
def Xg1 [InW] (e : List Ed) (K : Nat -> List Ed -> Prop) : Prop := match e with
 | [.i k, .ro _ qs, .ro _ ws, .i lo, .i hi, .l w, .l xs, .i t, .i s, .i a, .i b, .i c, .i d, .l l] => Pre (Sq.BkOk qs.xs ws.xs lo hi w /\ Sq.StOk qs.xs t s ⟨a, b, c, d⟩ /\ Sq.MemoOk qs.xs lo hi xs /\ 0 <= k /\ k < Sq.cnt qs.xs lo hi (qs.xs.length - t.toNat) s ⟨a, b, c, d⟩ /\ l.length <= t)
   (Sq.FaM (Sq.MemoOk qs.xs lo hi) fun ys => K 0 [.ro _ qs, .ro _ ws, .i lo, .i hi, .l w, .l ys, .l (l ++ Sq.nthD qs.xs lo hi (qs.xs.length - t.toNat) s ⟨a, b, c, d⟩ k)])
 | _ => False
def Xiv : LC where
 len := 53
 T := [(0, (.ptr 4 0)), (1, .int .i64), (4, (.row 15)), (5, (.ptr 12 0))]
 H := [(4, .blk 91 [.rs Jd, .rs Jc, .int .i64, .int .i64, (.row 7), (.mp 10)]), (7, .arr 3 Jc), (10, .mpP), (12, .blk 98 [.int .i64, .int .i64, .int .i64, .int .i64, .int .i64, .int .i64]), (15, .arr 3 Jc)]
 W := (rgg 6 4 ++ rgg 12 40)
 outs := [⟨.exit 0, [(0, (.ptr 4 0)), (4, (.row 6))], [(4, .blk 91 [.rs Jd, .rs Jc, .int .i64, .int .i64, (.row 7), (.mp 10)]), (7, .arr 3 Jc), (10, .mpP), (6, .arr 3 Jc)], ([1] ++ rgg 5 5 ++ rgg 12 40)⟩]
 spec := Xg1
def Zfc [W : InW] (k : Int) (qs : Ro Jd) (lo hi t s a b c d : Int) (l : Dt) := Sq.nthI qs.xs lo hi (qs.xs.length - t.toNat) s { a := a, b := b, c := c, d := d } k l
def Xf1 [W : InW] (k : Int) (qs : Ro Jd) (ws : Ro Jc) (lo hi : Int) (w xs : Dt) (t s a b c d : Int) (l : Dt) (A : List Ed -> Prop) (K : Nat -> List Ed -> Prop) : Prop :=
 Vif (!(decide (a = 0) && (decide (b = 0) && (decide (c = 0) && (decide (d = 0) && true))))) (Pre (Sq.BkOk qs.xs ws.xs lo hi w /\ Sq.StOk qs.xs t s { a := a, b := b, c := c, d := d } /\ Sq.MemoOk qs.xs lo hi xs /\ Sq.V4.nil { a := a, b := b, c := c, d := d } = false /\ t <= t /\ t <= (↑(qs.xs.length) : Int) /\ 0 <= k /\ k < Sq.cnt qs.xs lo hi (qs.xs.length - t.toNat) s { a := a, b := b, c := c, d := d } /\ (↑(l.length) : Int) <= t) (Sq.FaM (Sq.MemoOk qs.xs lo hi) fun ys => A [.i (Zfc k qs lo hi t s a b c d l).k, .ro _ qs, .ro _ ws, .i lo, .i hi, .l w, .l ys, .i (Zfc k qs lo hi t s a b c d l).t, .i (Zfc k qs lo hi t s a b c d l).s, .i (Zfc k qs lo hi t s a b c d l).v.1, .i (Zfc k qs lo hi t s a b c d l).v.2, .i (Zfc k qs lo hi t s a b c d l).v.3, .i (Zfc k qs lo hi t s a b c d l).v.4, .l (Zfc k qs lo hi t s a b c d l).l])) (K 0 [.ro _ qs, .ro _ ws, .i lo, .i hi, .l w, .l xs, .l l])
theorem Xn6 (W : InW) (k qs ws lo hi w xs t s a b c d l A K) : Yfh { cxT Try.prog TT T9 1000 50 with fn := 71 } 1000 (Yor Try.prog 71 3) (Yd9 53 [(0, .ptr 4 0), (1, .si .i64 k), (4, .rw 15), (5, .ptr 12 0)] (rgg 6 4 ++ rgg 12 40)) [(4, .blk 91 [.rs _ qs, .rs _ ws, .si .i64 lo, .si .i64 hi, .rw 7, .mp 10]), (7, .arr 3 Jc w), (10, .obj (.mpP xs)), (12, .blk 98 [.si .i64 t, .si .i64 s, .si .i64 a, .si .i64 b, .si .i64 c, .si .i64 d]), (15, .arr 3 Jc l)] (Yvi Xiv A K) = Xf1 k qs ws lo hi w xs t s a b c d l A K := by kernel_rfl
def Xh4 : Prop := ∀ (W : InW) (body a : Code), (Try.prog.funcs[71]?).bind (·.body) = some body -> a ∈ Y1 body -> Yf2 a = 3 -> @Ym8 W Try.prog a (@Yum W Xiv)
theorem Xp6 (meas : [InW] -> List Ed -> Nat) (hyp_ : ∀ (W : InW) k qs ws lo hi w xs t s a b c d l K, Xg1 [.i k, .ro _ qs, .ro _ ws, .i lo, .i hi, .l w, .l xs, .i t, .i s, .i a, .i b, .i c, .i d, .l l] K -> ∀ A : List Ed -> Prop, (∀ e, meas e < meas [.i k, .ro _ qs, .ro _ ws, .i lo, .i hi, .l w, .l xs, .i t, .i s, .i a, .i b, .i c, .i d, .l l] -> Xg1 e K -> A e) -> Xf1 k qs ws lo hi w xs t s a b c d l A K) : Xh4 :=
 LE.okOf' (fun W => @TT W) (fun W => @Xc W) Xa T9 1000 50 (by kernel_rfl) Xiv (fun W => @meas W) fun W k qs ws lo hi w xs t s a b c d l K hs =>
  (Xn6 W k qs ws lo hi w xs t s a b c d l (fun e => meas e < meas [.i k, .ro _ qs, .ro _ ws, .i lo, .i hi, .l w, .l xs, .i t, .i s, .i a, .i b, .i c, .i d, .l l] /\ Xg1 e K) K).mpr (hyp_ W k qs ws lo hi w xs t s a b c d l K hs _ fun e h1 h2 => ⟨h1, h2⟩)
theorem Xs9 : Xh4 := Xp6 (fun e => match e with | [_, .ro _ qs, _, _, _, _, _, .i t, _, _, _, _, _, _] => ((qs.xs.length : Int) - t).toNat | _ => 0) fun W k qs ws lo hi w xs t s a b c d l K hs A hA => by
 obtain ⟨⟨bk, st, mo, k0, k1, hl⟩, ⟨hk⟩⟩ := hs;unfold Xf1;delta Zfc;refine vifb (fun hv => ?_) (fun hv => ?_)
 ·have hv : Sq.V4.nil ⟨a, b, c, d⟩ = false := by
   rw [<- Bool.not_eq_true];intro h2;simp [Sq.V4.nil, and_assoc] at h2;simp [h2] at hv
  have r := Sq.nthI_ok (l := l) bk st hv _ t k (Int.toNat_of_nonneg (show 0 <= (qs.xs.length : Int) - t by have := st.a1; omega)).symm (by omega) k0 k1;refine ⟨⟨bk, st, mo, hv, by omega, st.a1, k0, k1, hl⟩, ⟨fun ys hy => ?_⟩⟩;refine hA _ ?_ ⟨⟨bk, r.st, hy, r.k0, r.k1, ?_⟩, ⟨fun zs hz => ?_⟩⟩
  ·have := r.t1;have := r.st.a1
   show ((qs.xs.length : Int) - (Sq.nthI qs.xs lo hi (qs.xs.length - t.toNat) s ⟨a, b, c, d⟩ k l).t).toNat < ((qs.xs.length : Int) - t).toNat
   omega
  ·have := r.l2;have := r.t1;omega
  ·have := hk zs hz;rw [r.l1] at this;exact this
 ·have hv : Sq.V4.nil ⟨a, b, c, d⟩ = true := by simpa [Sq.V4.nil, and_assoc] using hv
  have := hk xs mo;rw [Sq.nth_nil hv, List.append_nil] at this;exact this
def Xt7 : LE Try.prog := ⟨71, 3, fun W => @Yum W Xiv, Xs9⟩
def T10 : Tab Try.prog := ⟨[X8], [Xt7], [ceOf Xbc Xde, ceOf Xbb Xcv, ceOf (Xb2 17) (Xcw 17)]⟩
def Xnd [InW] (e : List Ed) (K : Nat -> List Ed -> Prop) : Prop := match e with
 | [.i k, .ro _ qs, .ro _ ws, .i lo, .i hi, .l w, .l xs] => Pre (Sq.BkOk qs.xs ws.xs lo hi w /\ Sq.StOk qs.xs 0 0 (Sq.v0 ws.xs) /\ Sq.MemoOk qs.xs lo hi xs /\ 0 <= k /\ k < Sq.cnt qs.xs lo hi qs.xs.length 0 (Sq.v0 ws.xs))
   (Sq.FaM (Sq.MemoOk qs.xs lo hi) fun ys => K 0 [.ro _ qs, .ro _ ws, .i lo, .i hi, .l w, .l ys, .l (Sq.nthD qs.xs lo hi qs.xs.length 0 (Sq.v0 ws.xs) k)])
 | _ => False
def Xcj : CC where
 g := 71
 args := [(.ptr 4 0), .int .i64]
 H := [(4, .blk 91 [.rs Jd, .rs Jc, .int .i64, .int .i64, (.row 7), (.mp 10)]), (7, .arr 3 Jc), (10, .mpP)]
 outs := [⟨false, (.row 6), [(4, .blk 91 [.rs Jd, .rs Jc, .int .i64, .int .i64, (.row 7), (.mp 10)]), (7, .arr 3 Jc), (10, .mpP), (6, .arr 3 Jc)], false⟩]
 spec := Xnd
def Xga [W : InW] (k : Int) (qs : Ro Jd) (ws : Ro Jc) (lo hi : Int) (w xs : Dt) (K : Nat -> List Ed -> Prop) : Prop :=
 Pre (Sq.BkOk qs.xs ws.xs lo hi w /\ Sq.StOk qs.xs Zb Zb { a := (cel ws.xs Zd Zd).int, b := (cel ws.xs (1 : Nat) Zd).int, c := (cel ws.xs (2 : Nat) Zd).int, d := (cel ws.xs (3 : Nat) Zd).int } /\ Sq.MemoOk qs.xs lo hi xs /\ 0 <= k /\ k < Sq.cnt qs.xs lo hi (qs.xs.length - Int.toNat Zb) Zb { a := (cel ws.xs Zd Zd).int, b := (cel ws.xs (1 : Nat) Zd).int, c := (cel ws.xs (2 : Nat) Zd).int, d := (cel ws.xs (3 : Nat) Zd).int } /\ (↑Zd : Int) <= 0) (Sq.FaM (Sq.MemoOk qs.xs lo hi) fun ys => K 0 [.ro _ qs, .ro _ ws, .i lo, .i hi, .l w, .l ys, .l (Sq.nthD qs.xs lo hi (qs.xs.length - Int.toNat Zb) Zb { a := (cel ws.xs Zd Zd).int, b := (cel ws.xs (1 : Nat) Zd).int, c := (cel ws.xs (2 : Nat) Zd).int, d := (cel ws.xs (3 : Nat) Zd).int } k)])
theorem Xof (W : InW) (k qs ws lo hi w xs K) : Yxz (cxT Try.prog TT T10 1000 50) 1000 71 [.ptr 4 0, .si .i64 k] [(4, .blk 91 [.rs _ qs, .rs _ ws, .si .i64 lo, .si .i64 hi, .rw 7, .mp 10]), (7, .arr 3 Jc w), (10, .obj (.mpP xs))] (fun v h => outC Xcj.H [.ro _ qs, .ro _ ws, .i lo, .i hi, .l w, .l xs] Xcj.outs 0 false v h K) (fun v h => outC Xcj.H [.ro _ qs, .ro _ ws, .i lo, .i hi, .l w, .l xs] Xcj.outs 0 true v h K) = Xga k qs ws lo hi w xs K := by kernel_rfl
theorem Xqf (hyp_ : ∀ (W : InW) k qs ws lo hi w xs K, Xnd [.i k, .ro _ qs, .ro _ ws, .i lo, .i hi, .l w, .l xs] K -> Xga k qs ws lo hi w xs K) : ∀ W : InW, @CallC W Try.prog Xcj :=
 CC.okOf (fun W => @TT W) (fun W => @Xc W) Xa T10 1000 50 Xcj fun W k qs ws lo hi w xs K hs => (Xof W k qs ws lo hi w xs K).mpr (hyp_ W k qs ws lo hi w xs K hs)
theorem Xth : ∀ W : InW, @CallC W Try.prog Xcj := Xqf fun W k qs ws lo hi w xs K hs => by
 obtain ⟨⟨bk, st, mo, k0, k1⟩, ⟨hk⟩⟩ := hs;unfold Xga;delta Zd Zb;exact ⟨⟨bk, st, mo, k0, k1, by omega⟩, ⟨fun ys hy => hk ys hy⟩⟩
end Go.Proofs.Ytfbhampnigdaaaa
namespace Go.Proofs.Ytfbhampnigdaaaa
open Go.RowKit
open Sp
set_option maxRecDepth 100000
set_option maxHeartbeats 1600000
def Xg4 [InW] (e : List Ed) (K : Nat -> List Ed -> Prop) : Prop := match e with
 | [.i n, .i x, .i i, .ro _ qs, .ro _ ws, .i lo, .i hi, .l w, .l xs, .i t, .i s, .i a, .i b, .i c, .i d] => Pre (Sq.BkOk qs.xs ws.xs lo hi w /\ Sq.StOk qs.xs t s ⟨a, b, c, d⟩ /\ Sq.MemoOk qs.xs lo hi xs /\ t <= i /\ i <= x /\ x < qs.xs.length /\ 0 <= n /\ n + Sq.cnt qs.xs lo hi (qs.xs.length - i.toNat) s ⟨a, b, c, d⟩ <= 65536)
   (Sq.FaM (Sq.MemoOk qs.xs lo hi) fun ys => K 0 [.i (n + (Sq.cnt qs.xs lo hi (qs.xs.length - i.toNat) s ⟨a, b, c, d⟩ - Sq.cnt qs.xs lo hi (qs.xs.length - x.toNat) s ⟨a, b, c, d⟩)), .i x, .ro _ qs, .ro _ ws, .i lo, .i hi, .l w, .l ys, .i t, .i s, .i a, .i b, .i c, .i d])
 | _ => False
def Xiy : LC where
 len := 76
 T := [(0, (.ptr 4 0)), (4, .int .i64), (6, (.ptr 13 0)), (8, .int .i64), (9, .int .i64)]
 H := [(4, .blk 91 [.rs Jd, .rs Jc, .int .i64, .int .i64, (.row 7), (.mp 10)]), (7, .arr 3 Jc), (10, .mpP), (13, .blk 98 [.int .i64, .int .i64, .int .i64, .int .i64, .int .i64, .int .i64])]
 W := ([10, 11] ++ rgg 36 18)
 outs := [⟨.exit 2, [(0, (.ptr 4 0)), (4, .int .i64), (6, (.ptr 13 0)), (8, .int .i64)], [(4, .blk 91 [.rs Jd, .rs Jc, .int .i64, .int .i64, (.row 7), (.mp 10)]), (7, .arr 3 Jc), (10, .mpP), (13, .blk 98 [.int .i64, .int .i64, .int .i64, .int .i64, .int .i64, .int .i64])], ([9, 10, 11] ++ rgg 36 18)⟩]
 spec := Xg4
def Zfd [W : InW] (i : Int) (qs : Ro Jd) (a b c d : Int) := Sq.V4.dec { a := a, b := b, c := c, d := d } (Sq.qPart qs.xs i.toNat)
def Xf4 [W : InW] (n x i : Int) (qs : Ro Jd) (ws : Ro Jc) (lo hi : Int) (w xs : Dt) (t s a b c d : Int) (A : List Ed -> Prop) (K : Nat -> List Ed -> Prop) : Prop :=
 Vif (decide (i < x)) (Pre (Sq.BkOk qs.xs ws.xs lo hi w /\ Sq.StOk qs.xs t s { a := a, b := b, c := c, d := d } /\ t <= i /\ i < (↑(qs.xs.length) : Int)) (Vif (decide ((1 : Int) <= Sq.V4.get { a := a, b := b, c := c, d := d } (Sq.qPart qs.xs i.toNat))) (Pre (Sq.BkOk qs.xs ws.xs lo hi w /\ Sq.StOk qs.xs (i + 1) (s + Sq.wt qs.xs i.toNat) { a := (Zfd i qs a b c d).1, b := (Zfd i qs a b c d).2, c := (Zfd i qs a b c d).3, d := (Zfd i qs a b c d).4 } /\ Sq.MemoOk qs.xs lo hi xs /\ qs.xs.length - (i + 1).toNat < 17) (Sq.FaM (Sq.MemoOk qs.xs lo hi) fun ys => Ar .i64 (n + Sq.cnt qs.xs lo hi (qs.xs.length - (i + 1).toNat) (s + Sq.wt qs.xs i.toNat) { a := (Zfd i qs a b c d).1, b := (Zfd i qs a b c d).2, c := (Zfd i qs a b c d).3, d := (Zfd i qs a b c d).4 }) fun z => Ar .i64 (i + 1) fun z_1 => A [.i z, .i x, .i z_1, .ro _ qs, .ro _ ws, .i lo, .i hi, .l w, .l ys, .i t, .i s, .i a, .i b, .i c, .i d])) (Ar .i64 (i + 1) fun z => A [.i n, .i x, .i z, .ro _ qs, .ro _ ws, .i lo, .i hi, .l w, .l xs, .i t, .i s, .i a, .i b, .i c, .i d]))) (K 0 [.i n, .i x, .ro _ qs, .ro _ ws, .i lo, .i hi, .l w, .l xs, .i t, .i s, .i a, .i b, .i c, .i d])
theorem Xn9 (W : InW) (n x i qs ws lo hi w xs t s a b c d A K) : Yfh { cxT Try.prog TT T8q 1000 50 with fn := 72 } 1000 (Yor Try.prog 72 9) (Yd9 76 [(0, .ptr 4 0), (4, .si .i64 n), (6, .ptr 13 0), (8, .si .i64 x), (9, .si .i64 i)] ([10, 11] ++ rgg 36 18)) [(4, .blk 91 [.rs _ qs, .rs _ ws, .si .i64 lo, .si .i64 hi, .rw 7, .mp 10]), (7, .arr 3 Jc w), (10, .obj (.mpP xs)), (13, .blk 98 [.si .i64 t, .si .i64 s, .si .i64 a, .si .i64 b, .si .i64 c, .si .i64 d])] (Yvi Xiy A K) = Xf4 n x i qs ws lo hi w xs t s a b c d A K := by kernel_rfl
def Xh7 : Prop := ∀ (W : InW) (body a : Code), (Try.prog.funcs[72]?).bind (·.body) = some body -> a ∈ Y1 body -> Yf2 a = 9 -> @Ym8 W Try.prog a (@Yum W Xiy)
theorem Xp9 (meas : [InW] -> List Ed -> Nat) (hyp_ : ∀ (W : InW) n x i qs ws lo hi w xs t s a b c d K, Xg4 [.i n, .i x, .i i, .ro _ qs, .ro _ ws, .i lo, .i hi, .l w, .l xs, .i t, .i s, .i a, .i b, .i c, .i d] K -> ∀ A : List Ed -> Prop, (∀ e, meas e < meas [.i n, .i x, .i i, .ro _ qs, .ro _ ws, .i lo, .i hi, .l w, .l xs, .i t, .i s, .i a, .i b, .i c, .i d] -> Xg4 e K -> A e) -> Xf4 n x i qs ws lo hi w xs t s a b c d A K) : Xh7 :=
 LE.okOf' (fun W => @TT W) (fun W => @Xc W) Xa T8q 1000 50 (by kernel_rfl) Xiy (fun W => @meas W) fun W n x i qs ws lo hi w xs t s a b c d K hs =>
  (Xn9 W n x i qs ws lo hi w xs t s a b c d (fun e => meas e < meas [.i n, .i x, .i i, .ro _ qs, .ro _ ws, .i lo, .i hi, .l w, .l xs, .i t, .i s, .i a, .i b, .i c, .i d] /\ Xg4 e K) K).mpr (hyp_ W n x i qs ws lo hi w xs t s a b c d K hs _ fun e h1 h2 => ⟨h1, h2⟩)
theorem Xtc : Xh7 := Xp9 (fun e => match e with | _ :: .i x :: .i i :: _ => (x - i).toNat | _ => 0) fun W n x i qs ws lo hi w xs t s a b c d K hs A hA => by
 obtain ⟨⟨bk, st, mo, h0, h1, h2, n0, n1⟩, ⟨hk⟩⟩ := hs;unfold Xf4;delta Zfd;have hf := bk.few;have ht := st.a0;have hm := Sq.cnt_mono (qs := qs.xs) (lo := lo) (hi := hi) (s := s) (v := ⟨a, b, c, d⟩) (i := i) (x - i).toNat (by omega) (by omega);rw [show i + ((x - i).toNat : Nat) = x by omega] at hm
 by_cases hi' : i < x
 ·have hc := Sq.cnt_at' (qs := qs.xs) (lo := lo) (hi := hi) (s := s) (v := ⟨a, b, c, d⟩) (i := i) (by omega) (by omega);have hl : (x - (i + 1)).toNat < (x - i).toNat := by omega
  have b1 := Sq.cnt_16 (qs := qs.xs) (lo := lo) (hi := hi) (m := qs.xs.length - (i + 1).toNat) (by omega) s ⟨a, b, c, d⟩;have b2 := Sq.cnt_16 (qs := qs.xs) (lo := lo) (hi := hi) (m := qs.xs.length - (i + 1).toNat) (by omega) (s + Sq.wt qs.xs i.toNat) (Sq.V4.dec ⟨a, b, c, d⟩ (Sq.qPart qs.xs i.toNat));refine vifd (fun _ => ?_) (fun h => absurd hi' h);refine ⟨⟨bk, st, h0, by omega⟩, vifd (fun hg => ?_) (fun hg => ?_)⟩
  ·rw [if_pos hg] at hc;refine ⟨⟨bk, st.step bk h0 (by omega) hg, mo, by omega⟩, ⟨fun ys hy => ar64 (by omega) (ar64 (by omega) (hA _ hl ⟨⟨bk, st, hy, by omega, by omega, h2, by omega, by omega⟩, ⟨fun zs hz => ?_⟩⟩))⟩⟩;have := hk zs hz;rw [hc] at this;refine Eq.mp (congrArg (fun z => K 0 (Ed.i z :: _)) ?_) this;omega
  ·rw [if_neg hg, Int.zero_add] at hc;refine ar64 (by omega) (hA _ hl ⟨⟨bk, st, mo, by omega, by omega, h2, by omega, by omega⟩, ⟨fun zs hz => ?_⟩⟩);have := hk zs hz;rw [hc] at this;exact this
 ·refine vifd (fun h => absurd h hi') (fun _ => ?_);have := hk xs mo;rw [show x = i by omega] at this;rw [show x = i by omega];simpa using this
def Xua : LE Try.prog := ⟨72, 9, fun W => @Yum W Xiy, Xtc⟩
def T11q : Tab Try.prog := ⟨[X8], [Xua], [ceOf Xbc Xde, ceOf Xbb Xcv, ceOf (Xb2 17) (Xcw 17)]⟩
namespace Sq
def isS : Option FolR -> Bool
 | some _ => true
 | none => false
def getS (r : Option FolR) : FolR := r.getD ⟨0, 0, 0, ⟨0, 0, 0, 0⟩⟩
theorem folS_at {qs : Dt} {lo hi : Int} {zs : Dt} {j : Int} (h0 : 0 <= j) (h1 : j < zs.length) (r : FolR) :
  folS qs lo hi (zs.drop j.toNat) r = if inr (cel zs j.toNat 0).int r.t ((qs.length : Int) - 1) = true /\ 1 <= V4.get r.v (qPart qs (cel zs j.toNat 0).int.toNat) then
   folS qs lo hi (zs.drop (j + 1).toNat) ⟨r.n + (cnt qs lo hi (qs.length - r.t.toNat) r.s r.v - cnt qs lo hi (qs.length - (cel zs j.toNat 0).int.toNat) r.s r.v), (cel zs j.toNat 0).int + 1, r.s + wt qs (cel zs j.toNat 0).int.toNat, V4.dec r.v (qPart qs (cel zs j.toNat 0).int.toNat)⟩
  else none := by
 rw [List.drop_eq_getElem_cons (by omega), folS, show (j + 1).toNat = j.toNat + 1 by omega];have e : (zs[j.toNat]'(by omega)).getD 0 .z = cel zs j.toNat 0 := by
  unfold cel;rw [List.getD_eq_getElem?_getD (l := zs), List.getElem?_eq_getElem (by omega)];rfl
 rw [e]
theorem folS_ok {qs ws w : Dt} {lo hi : Int} (bk : BkOk qs ws lo hi w) : ∀ (zs : Dt) (r r' : FolR), StOk qs r.t r.s r.v -> folS qs lo hi zs r = some r' -> StOk qs r'.t r'.s r'.v
 | [], r, r', st, h => by rw [folS] at h; cases h; exact st
 | z :: zs, r, r', st, h => by
  rw [folS] at h
  split at h
  ·rename_i hg;have h1 := inr_iff.1 hg.1;exact folS_ok bk zs _ r' (st.step bk h1.1 (by omega) hg.2) h
  ·cases h
end Sq
def Xg3 [InW] (e : List Ed) (K : Nat -> List Ed -> Prop) : Prop := match e with
 | [.i n, .ro _ zs, .i l, .i j, .ro _ qs, .ro _ ws, .i lo, .i hi, .l w, .l xs, .i t, .i s, .i a, .i b, .i c, .i d] => Pre (Sq.BkOk qs.xs ws.xs lo hi w /\ Sq.StOk qs.xs t s ⟨a, b, c, d⟩ /\ Sq.MemoOk qs.xs lo hi xs /\ l = zs.xs.length /\ 0 <= j /\ j <= l /\ 0 <= n /\ n + Sq.cnt qs.xs lo hi (qs.xs.length - t.toNat) s ⟨a, b, c, d⟩ <= 65536)
   (Sq.FaM (Sq.MemoOk qs.xs lo hi) fun ys => Vif (Sq.isS (Sq.folS qs.xs lo hi (zs.xs.drop j.toNat) ⟨n, t, s, ⟨a, b, c, d⟩⟩))
    (K 0 [.i (Sq.getS (Sq.folS qs.xs lo hi (zs.xs.drop j.toNat) ⟨n, t, s, ⟨a, b, c, d⟩⟩)).n, .ro _ qs, .ro _ ws, .i lo, .i hi, .l w, .l ys, .i (Sq.getS (Sq.folS qs.xs lo hi (zs.xs.drop j.toNat) ⟨n, t, s, ⟨a, b, c, d⟩⟩)).t, .i (Sq.getS (Sq.folS qs.xs lo hi (zs.xs.drop j.toNat) ⟨n, t, s, ⟨a, b, c, d⟩⟩)).s, .i (Sq.getS (Sq.folS qs.xs lo hi (zs.xs.drop j.toNat) ⟨n, t, s, ⟨a, b, c, d⟩⟩)).v.a, .i (Sq.getS (Sq.folS qs.xs lo hi (zs.xs.drop j.toNat) ⟨n, t, s, ⟨a, b, c, d⟩⟩)).v.b, .i (Sq.getS (Sq.folS qs.xs lo hi (zs.xs.drop j.toNat) ⟨n, t, s, ⟨a, b, c, d⟩⟩)).v.c, .i (Sq.getS (Sq.folS qs.xs lo hi (zs.xs.drop j.toNat) ⟨n, t, s, ⟨a, b, c, d⟩⟩)).v.d])
    (K 1 [.ro _ qs, .ro _ ws, .i lo, .i hi, .l w, .l ys]))
 | _ => False
def Xix : LC where
 len := 76
 T := [(0, (.ptr 4 0)), (4, .int .i64), (6, (.ptr 13 0)), (16, .rs Jc), (17, .int .i64), (18, .int .i64)]
 H := [(4, .blk 91 [.rs Jd, .rs Jc, .int .i64, .int .i64, (.row 7), (.mp 10)]), (7, .arr 3 Jc), (10, .mpP), (13, .blk 98 [.int .i64, .int .i64, .int .i64, .int .i64, .int .i64, .int .i64])]
 W := ([5] ++ rgg 8 6 ++ rgg 19 46)
 outs := [⟨.exit 0, [(0, (.ptr 4 0)), (4, .int .i64), (6, (.ptr 13 0))], [(4, .blk 91 [.rs Jd, .rs Jc, .int .i64, .int .i64, (.row 7), (.mp 10)]), (7, .arr 3 Jc), (10, .mpP), (13, .blk 98 [.int .i64, .int .i64, .int .i64, .int .i64, .int .i64, .int .i64])], ([5] ++ rgg 8 6 ++ rgg 16 49)⟩, ⟨.ret, [(4, (.lit (.int .i64 0))), (5, (.lit (.bool false)))], [(4, .blk 91 [.rs Jd, .rs Jc, .int .i64, .int .i64, (.row 7), (.mp 10)]), (7, .arr 3 Jc), (10, .mpP)], ([0, 6] ++ rgg 8 6 ++ rgg 16 49)⟩]
 spec := Xg3
def Zfe [W : InW] (zs : Ro Jc) (j : Int) := cel zs.xs j.toNat (0 : Nat)
def Zff [W : InW] (zs : Ro Jc) (j : Int) (qs : Ro Jd) (a b c d : Int) := Sq.V4.dec { a := a, b := b, c := c, d := d } (Sq.qPart qs.xs (Zfe zs j).int.toNat)
def Xf3 [W : InW] (n : Int) (zs : Ro Jc) (l j : Int) (qs : Ro Jd) (ws : Ro Jc) (lo hi : Int) (w xs : Dt) (t s a b c d : Int) (A : List Ed -> Prop) (K : Nat -> List Ed -> Prop) : Prop :=
 Vif (decide (j < l)) (Need (decide (0 <= j) && decide (j < (↑(zs.xs.length) : Int))) (Need (decide (j.toNat < zs.xs.length)) (Ar .i64 ((↑(qs.xs.length) : Int) - 1) fun z => Pre True (Vif (out t z [[Cl.i (Zfe zs j).int]]) (K (0+1) [.ro _ qs, .ro _ ws, .i lo, .i hi, .l w, .l xs]) (Pre (Sq.BkOk qs.xs ws.xs lo hi w /\ Sq.StOk qs.xs t s { a := a, b := b, c := c, d := d } /\ Sq.MemoOk qs.xs lo hi xs /\ t <= t /\ t <= (Zfe zs j).int /\ (Zfe zs j).int < (↑(qs.xs.length) : Int) /\ 0 <= n /\ n + Sq.cnt qs.xs lo hi (qs.xs.length - t.toNat) s { a := a, b := b, c := c, d := d } <= (65536 : Int)) (Sq.FaM (Sq.MemoOk qs.xs lo hi) fun ys => Pre (Sq.BkOk qs.xs ws.xs lo hi w /\ Sq.StOk qs.xs t s { a := a, b := b, c := c, d := d } /\ t <= (Zfe zs j).int /\ (Zfe zs j).int < (↑(qs.xs.length) : Int)) (Vif (!decide ((1 : Int) <= Sq.V4.get { a := a, b := b, c := c, d := d } (Sq.qPart qs.xs (Zfe zs j).int.toNat))) (K (0+1) [.ro _ qs, .ro _ ws, .i lo, .i hi, .l w, .l ys]) (Ar .i64 (j + 1) fun z => A [.i (n + (Sq.cnt qs.xs lo hi (qs.xs.length - t.toNat) s { a := a, b := b, c := c, d := d } - Sq.cnt qs.xs lo hi (qs.xs.length - (Zfe zs j).int.toNat) s { a := a, b := b, c := c, d := d })), .ro _ zs, .i l, .i z, .ro _ qs, .ro _ ws, .i lo, .i hi, .l w, .l ys, .i ((Zfe zs j).int + 1), .i (s + Sq.wt qs.xs (Zfe zs j).int.toNat), .i (Zff zs j qs a b c d).1, .i (Zff zs j qs a b c d).2, .i (Zff zs j qs a b c d).3, .i (Zff zs j qs a b c d).4])))))))) (K 0 [.i n, .ro _ qs, .ro _ ws, .i lo, .i hi, .l w, .l xs, .i t, .i s, .i a, .i b, .i c, .i d])
theorem Xn8 (W : InW) (n zs l j qs ws lo hi w xs t s a b c d A K) : Yfh { cxT Try.prog TT T11q 1000 50 with fn := 72 } 1000 (Yor Try.prog 72 4) (Yd9 76 [(0, .ptr 4 0), (4, .si .i64 n), (6, .ptr 13 0), (16, .rs _ zs), (17, .si .i64 l), (18, .si .i64 j)] ([5] ++ rgg 8 6 ++ rgg 19 46)) [(4, .blk 91 [.rs _ qs, .rs _ ws, .si .i64 lo, .si .i64 hi, .rw 7, .mp 10]), (7, .arr 3 Jc w), (10, .obj (.mpP xs)), (13, .blk 98 [.si .i64 t, .si .i64 s, .si .i64 a, .si .i64 b, .si .i64 c, .si .i64 d])] (Yvi Xix A K) = Xf3 n zs l j qs ws lo hi w xs t s a b c d A K := by kernel_rfl
def Xh6 : Prop := ∀ (W : InW) (body a : Code), (Try.prog.funcs[72]?).bind (·.body) = some body -> a ∈ Y1 body -> Yf2 a = 4 -> @Ym8 W Try.prog a (@Yum W Xix)
theorem Xp8 (meas : [InW] -> List Ed -> Nat) (hyp_ : ∀ (W : InW) n zs l j qs ws lo hi w xs t s a b c d K, Xg3 [.i n, .ro _ zs, .i l, .i j, .ro _ qs, .ro _ ws, .i lo, .i hi, .l w, .l xs, .i t, .i s, .i a, .i b, .i c, .i d] K -> ∀ A : List Ed -> Prop, (∀ e, meas e < meas [.i n, .ro _ zs, .i l, .i j, .ro _ qs, .ro _ ws, .i lo, .i hi, .l w, .l xs, .i t, .i s, .i a, .i b, .i c, .i d] -> Xg3 e K -> A e) -> Xf3 n zs l j qs ws lo hi w xs t s a b c d A K) : Xh6 :=
 LE.okOf' (fun W => @TT W) (fun W => @Xc W) Xa T11q 1000 50 (by kernel_rfl) Xix (fun W => @meas W) fun W n zs l j qs ws lo hi w xs t s a b c d K hs =>
  (Xn8 W n zs l j qs ws lo hi w xs t s a b c d (fun e => meas e < meas [.i n, .ro _ zs, .i l, .i j, .ro _ qs, .ro _ ws, .i lo, .i hi, .l w, .l xs, .i t, .i s, .i a, .i b, .i c, .i d] /\ Xg3 e K) K).mpr (hyp_ W n zs l j qs ws lo hi w xs t s a b c d K hs _ fun e h1 h2 => ⟨h1, h2⟩)
theorem Xtb : Xh6 := Xp8 (fun e => match e with | _ :: _ :: .i l :: .i j :: _ => (l - j).toNat | _ => 0) fun W n zs l j qs ws lo hi w xs t s a b c d K hs A hA => by
 obtain ⟨⟨bk, st, mo, rfl, h0, h1, n0, n1⟩, ⟨hk⟩⟩ := hs;unfold Xf3;delta Zff Zfe;have hf := bk.few;have ht := st.a0;have hz := zs.len;simp only [maxLen] at hz
 by_cases hj : j < zs.xs.length
 ·rw [Sq.folS_at h0 hj] at hk;have hl : ((zs.xs.length : Int) - (j + 1)).toNat < ((zs.xs.length : Int) - j).toNat := by omega
  refine vifd (fun _ => ?_) (fun h => absurd hj h);refine ned (by simp; omega) (nedd (by omega) (ar64 (by omega) ⟨trivial, ?_⟩));rw [out1]
  by_cases hx : Sp.inr (cel zs.xs j.toNat 0).int t ((qs.xs.length : Int) - 1) = true
  ·have hx2 := Sp.inr_iff.1 hx;have hm := Sq.cnt_mono (qs := qs.xs) (lo := lo) (hi := hi) (s := s) (v := ⟨a, b, c, d⟩) (i := t) ((cel zs.xs j.toNat 0).int - t).toNat (by omega) (by omega);rw [show t + (((cel zs.xs j.toNat 0).int - t).toNat : Nat) = (cel zs.xs j.toNat 0).int by omega] at hm;have hc := Sq.cnt_at' (qs := qs.xs) (lo := lo) (hi := hi) (s := s) (v := ⟨a, b, c, d⟩) (i := (cel zs.xs j.toNat 0).int) (by omega) (by omega);have p1 := Sq.cnt_pos (qs := qs.xs) (lo := lo) (hi := hi) (s := s) (v := ⟨a, b, c, d⟩) (m := qs.xs.length - ((cel zs.xs j.toNat 0).int + 1).toNat);refine vif (fun h => by rw [hx] at h; exact absurd h (by decide)) (fun _ => ?_);refine ⟨⟨bk, st, mo, by omega, hx2.1, by omega, n0, n1⟩, ⟨fun ys hy => ⟨⟨bk, st, hx2.1, by omega⟩, vifn (fun hg => ?_) (fun hg => ?_)⟩⟩⟩
   ·rw [if_neg (fun h => hg h.2)] at hk;exact (hk ys hy).2 rfl
   ·rw [if_pos ⟨hx, hg⟩] at hk;rw [if_pos hg] at hc;have h6 : n + (Sq.cnt qs.xs lo hi (qs.xs.length - t.toNat) s ⟨a, b, c, d⟩ - Sq.cnt qs.xs lo hi (qs.xs.length - (cel zs.xs j.toNat 0).int.toNat) s ⟨a, b, c, d⟩) + Sq.cnt qs.xs lo hi (qs.xs.length - ((cel zs.xs j.toNat 0).int + 1).toNat) (s + Sq.wt qs.xs (cel zs.xs j.toNat 0).int.toNat) (Sq.V4.dec ⟨a, b, c, d⟩ (Sq.qPart qs.xs (cel zs.xs j.toNat 0).int.toNat)) <= 65536 := by omega
    exact ar64 (by omega) (hA _ hl ⟨⟨bk, st.step bk hx2.1 (by omega) hg, hy, rfl, by omega, by omega, by omega, h6⟩, ⟨hk⟩⟩)
  ·refine vif (fun _ => ?_) (fun h => absurd (by simpa using h) hx);rw [if_neg (fun h => hx h.1)] at hk;exact (hk xs mo).2 rfl
 ·refine vifd (fun h => absurd h hj) (fun _ => ?_);rw [List.drop_eq_nil_of_le (by omega)] at hk;exact (hk xs mo).1 rfl
def Xt9 : LE Try.prog := ⟨72, 4, fun W => @Yum W Xix, Xtb⟩
def T12q : Tab Try.prog := ⟨[X8], [Xt9], [ceOf Xbc Xde, ceOf Xbb Xcv, ceOf (Xb2 17) (Xcw 17)]⟩
def Xne [InW] (e : List Ed) (K : Nat -> List Ed -> Prop) : Prop := match e with
 | [.ro _ zs, .ro _ qs, .ro _ ws, .i lo, .i hi, .l w, .l xs] => Pre (Sq.BkOk qs.xs ws.xs lo hi w /\ Sq.StOk qs.xs 0 0 (Sq.v0 ws.xs) /\ Sq.MemoOk qs.xs lo hi xs)
   (Sq.FaM (Sq.MemoOk qs.xs lo hi) fun ys => K 0 [.i (Sq.fol qs.xs ws.xs lo hi zs.xs).1, .b (Sq.fol qs.xs ws.xs lo hi zs.xs).2, .ro _ qs, .ro _ ws, .i lo, .i hi, .l w, .l ys])
 | _ => False
def Xck : CC where
 g := 72
 args := [(.ptr 4 0), .rs Jc]
 H := [(4, .blk 91 [.rs Jd, .rs Jc, .int .i64, .int .i64, (.row 7), (.mp 10)]), (7, .arr 3 Jc), (10, .mpP)]
 outs := [⟨false, .tup [.int .i64, .bool], [(4, .blk 91 [.rs Jd, .rs Jc, .int .i64, .int .i64, (.row 7), (.mp 10)]), (7, .arr 3 Jc), (10, .mpP)], false⟩]
 spec := Xne
def Zfg [W : InW] (zs : Ro Jc) (qs : Ro Jd) (ws : Ro Jc) (lo hi : Int) := Sq.folS qs.xs lo hi (List.drop (Int.toNat Zb) zs.xs) { n := Zb, t := Zb, s := Zb, v := { a := (cel ws.xs Zd Zd).int, b := (cel ws.xs (1 : Nat) Zd).int, c := (cel ws.xs (2 : Nat) Zd).int, d := (cel ws.xs (3 : Nat) Zd).int } }
def Zfh [W : InW] (zs : Ro Jc) (qs : Ro Jd) (ws : Ro Jc) (lo hi : Int) := Sq.getS (Zfg zs qs ws lo hi)
def Xgb [W : InW] (zs : Ro Jc) (qs : Ro Jd) (ws : Ro Jc) (lo hi : Int) (w xs : Dt) (K : Nat -> List Ed -> Prop) : Prop :=
 Pre (Sq.BkOk qs.xs ws.xs lo hi w /\ Sq.StOk qs.xs Zb Zb { a := (cel ws.xs Zd Zd).int, b := (cel ws.xs (1 : Nat) Zd).int, c := (cel ws.xs (2 : Nat) Zd).int, d := (cel ws.xs (3 : Nat) Zd).int } /\ Sq.MemoOk qs.xs lo hi xs /\ (↑(zs.xs.length) : Int) = (↑(zs.xs.length) : Int) /\ Zb <= 0 /\ Zb <= (↑(zs.xs.length) : Int) /\ Zb <= 0 /\ Zb + Sq.cnt qs.xs lo hi (qs.xs.length - Int.toNat Zb) Zb { a := (cel ws.xs Zd Zd).int, b := (cel ws.xs (1 : Nat) Zd).int, c := (cel ws.xs (2 : Nat) Zd).int, d := (cel ws.xs (3 : Nat) Zd).int } <= (65536 : Int)) (Sq.FaM (Sq.MemoOk qs.xs lo hi) fun ys => Vif (Sq.isS (Zfg zs qs ws lo hi)) (Vif (decide ((Zfh zs qs ws lo hi).v.1 = 0) && (decide ((Zfh zs qs ws lo hi).v.2 = 0) && (decide ((Zfh zs qs ws lo hi).v.3 = 0) && (decide ((Zfh zs qs ws lo hi).v.4 = 0) && true)))) (Pre (Sq.BkOk qs.xs ws.xs lo hi w /\ Sq.StOk qs.xs (Zfh zs qs ws lo hi).t (Zfh zs qs ws lo hi).s { a := (Zfh zs qs ws lo hi).v.1, b := (Zfh zs qs ws lo hi).v.2, c := (Zfh zs qs ws lo hi).v.3, d := (Zfh zs qs ws lo hi).v.4 } /\ Sq.MemoOk qs.xs lo hi ys /\ qs.xs.length - (Zfh zs qs ws lo hi).t.toNat < 17) (Sq.FaM (Sq.MemoOk qs.xs lo hi) fun ys => K 0 [.i (Zfh zs qs ws lo hi).n, .b (decide (Sq.cnt qs.xs lo hi (qs.xs.length - (Zfh zs qs ws lo hi).t.toNat) (Zfh zs qs ws lo hi).s { a := (Zfh zs qs ws lo hi).v.1, b := (Zfh zs qs ws lo hi).v.2, c := (Zfh zs qs ws lo hi).v.3, d := (Zfh zs qs ws lo hi).v.4 } = (1 : Int))), .ro _ qs, .ro _ ws, .i lo, .i hi, .l w, .l ys])) (K 0 [.i (Zfh zs qs ws lo hi).n, .b false, .ro _ qs, .ro _ ws, .i lo, .i hi, .l w, .l ys])) (K 0 [.i Zb, .b false, .ro _ qs, .ro _ ws, .i lo, .i hi, .l w, .l ys]))
theorem Xog (W : InW) (zs qs ws lo hi w xs K) : Yxz (cxT Try.prog TT T12q 1000 50) 1000 72 [.ptr 4 0, .rs _ zs] [(4, .blk 91 [.rs _ qs, .rs _ ws, .si .i64 lo, .si .i64 hi, .rw 7, .mp 10]), (7, .arr 3 Jc w), (10, .obj (.mpP xs))] (fun v h => outC Xck.H [.ro _ qs, .ro _ ws, .i lo, .i hi, .l w, .l xs] Xck.outs 0 false v h K) (fun v h => outC Xck.H [.ro _ qs, .ro _ ws, .i lo, .i hi, .l w, .l xs] Xck.outs 0 true v h K) = Xgb zs qs ws lo hi w xs K := by kernel_rfl
theorem Xqg (hyp_ : ∀ (W : InW) zs qs ws lo hi w xs K, Xne [.ro _ zs, .ro _ qs, .ro _ ws, .i lo, .i hi, .l w, .l xs] K -> Xgb zs qs ws lo hi w xs K) : ∀ W : InW, @CallC W Try.prog Xck :=
 CC.okOf (fun W => @TT W) (fun W => @Xc W) Xa T12q 1000 50 Xck fun W zs qs ws lo hi w xs K hs => (Xog W zs qs ws lo hi w xs K).mpr (hyp_ W zs qs ws lo hi w xs K hs)
theorem dec1 {P : Prop} [i : Decidable P] {b : Bool} (h : P ↔ b = true) : b = decide P := by
 cases b
 ·exact (decide_eq_false fun p => absurd (h.1 p) (by decide)).symm
 ·exact (decide_eq_true (h.2 rfl)).symm
theorem Xti : ∀ W : InW, @CallC W Try.prog Xck := Xqg fun W zs qs ws lo hi w xs K hs => by
 obtain ⟨⟨bk, st, mo⟩, ⟨hk⟩⟩ := hs;unfold Xgb;delta Zfh Zfg Zb Zd;have hf := bk.few;have b1 := Sq.cnt_16 (qs := qs.xs) (lo := lo) (hi := hi) (m := qs.xs.length - Int.toNat 0) (by omega) 0 (Sq.v0 ws.xs);unfold Sq.fol at hk;have hok := fun r => Sq.folS_ok (lo := lo) (hi := hi) bk zs.xs ⟨0, 0, 0, Sq.v0 ws.xs⟩ r st;have e0 : ∀ r, Sq.folS qs.xs lo hi (zs.xs.drop (Int.toNat 0)) r = Sq.folS qs.xs lo hi zs.xs r := fun r => by rw [show Int.toNat 0 = 0 from rfl, List.drop_zero]
 refine ⟨⟨bk, st, mo, rfl, by omega, by omega, by omega, show 0 + Sq.cnt qs.xs lo hi (qs.xs.length - Int.toNat 0) 0 (Sq.v0 ws.xs) <= 65536 by omega⟩, ⟨fun ys hy => ?_⟩⟩;simp only [e0]
 change Vif (Sq.isS (Sq.folS qs.xs lo hi zs.xs ⟨0, 0, 0, Sq.v0 ws.xs⟩)) _ _
 revert hk hok
 show _ -> _ -> Vif (Sq.isS (Sq.folS qs.xs lo hi zs.xs ⟨0, 0, 0, Sq.v0 ws.xs⟩)) _ _
 have ev : (⟨(cel ws.xs 0 0).int, (cel ws.xs 1 0).int, (cel ws.xs 2 0).int, (cel ws.xs 3 0).int⟩ : V4) = Sq.v0 ws.xs := rfl;simp only [ev];generalize Sq.folS qs.xs lo hi zs.xs ⟨0, 0, 0, Sq.v0 ws.xs⟩ = R;intro hk hok;cases R with
 | none =>
  refine vif (fun h => by cases h) (fun _ => ?_);exact hk ys hy
 | some r =>
  refine vif (fun _ => ?_) (fun h => by cases h);have so := hok r rfl;simp only [Sq.getS, Option.getD_some];obtain ⟨rn, rt, rs, ⟨va, vb, vc, vd⟩⟩ := r;simp only at hk so ⊢;refine vif (fun hv => ?_) (fun hv => ?_)
  ·have g0 := Bool.and_eq_true_iff.1 hv;have g1 := Bool.and_eq_true_iff.1 g0.2;have g2 := Bool.and_eq_true_iff.1 g1.2;have g3 := Bool.and_eq_true_iff.1 g2.2;have a0 : va = 0 := of_decide_eq_true g0.1;have a1 : vb = 0 := of_decide_eq_true g1.1;have a2 : vc = 0 := of_decide_eq_true g2.1;have a3 : vd = 0 := of_decide_eq_true g3.1;have hv : Sq.V4.nil ⟨va, vb, vc, vd⟩ = true := by simp [Sq.V4.nil, a0, a1, a2, a3]
   refine ⟨⟨bk, so, hy, by omega⟩, ⟨fun us hu => ?_⟩⟩;have := hk us hu;rw [hv, Bool.true_and] at this;refine Eq.mp (congrArg (fun z => K 0 (Ed.i rn :: Ed.b z :: _)) (dec1 ?_)) this
   show Sq.cnt qs.xs lo hi (qs.xs.length - rt.toNat) rs ⟨va, vb, vc, vd⟩ = 1 ↔ _
   rw [Sq.cnt_nil hv];cases Sp.inr rs lo hi <;> simp
  ·have hv : Sq.V4.nil ⟨va, vb, vc, vd⟩ = false := by
    rw [<- Bool.not_eq_true];intro h2;simp [Sq.V4.nil, and_assoc] at h2;simp [h2] at hv
   have := hk ys hy;rw [hv, Bool.false_and] at this;exact this
end Go.Proofs.Ytfbhampnigdaaaa
namespace Go.Proofs.Ytfbhampnigdaaaa
open Go.RowKit
open Sp
set_option maxRecDepth 100000
set_option maxHeartbeats 1600000
def T13q : Tab Try.prog := ⟨[X8], [], [ceOf Xb1 Xrj, ceOf Xbc Xde, ceOf (Xb2 17) (Xcw 17), ceOf Xcj Xth, ceOf Xck Xti]⟩
namespace Sq
def total (qs ws : Dt) (lo hi : Int) : Int := cnt qs lo hi qs.length 0 (v0 ws)
def wtsR (qs ws : Dt) (lo hi : Int) : Dt := if chkE qs ws lo hi = 0 then wts qs qs.length else []
def cntR (qs ws : Dt) (lo hi : Int) : Int := if chkE qs ws lo hi = 0 then total qs ws lo hi else 0
end Sq
abbrev Xer (ds : DS) : DS := match ds with | [[.l qs, .l ws, .i lo, .i hi]] => [[.l (Sq.wtsR qs ws lo hi)], [.i (Sq.chkE qs ws lo hi)]] | _ => []
abbrev Xex (ds : DS) : DS := match ds with | [[.l qs, .l ws, .i lo, .i hi]] => [[.i (Sq.cntR qs ws lo hi)], [.i (Sq.chkE qs ws lo hi)]] | _ => []
def Xe8 [W : InW] (kQ : Ro Jd) (k_Ws : Ro Jc) (k_Lo k_Hi : Int) (Q : DS -> Prop) : Prop :=
 Vif (decide (Sq.chkE kQ.xs k_Ws.xs k_Lo k_Hi = 0)) (Q [[Cl.l (Sq.wts kQ.xs (kQ.xs.length))], [Cl.i 0]]) (Vif (!decide (Sq.chkE kQ.xs k_Ws.xs k_Lo k_Hi = 0)) (Q [[Cl.l []], [Cl.i (Sq.chkE kQ.xs k_Ws.xs k_Lo k_Hi)]]) ((16 : Nat) = 16 + 1))
theorem Xom (W : InW) (kQ k_Ws k_Lo k_Hi Q) : Yx2 (cxT Try.prog TT T13q 1000 50) 1000 10 [.agg [.rs _ kQ, .rs _ k_Ws, .si .i64 k_Lo, .si .i64 k_Hi]] [] 0 (Y2i [(false, [.row 3 Jc]), (false, [.int .i64])] Q) (fun _ _ _ _ => Stuck 421) = Xe8 kQ k_Ws k_Lo k_Hi Q := by kernel_rfl
abbrev Xdu : List AT := [.agg [.sl Jd, .sl Jc, .int .i64, .int .i64]]
theorem Xqn {pre : DS -> Prop} {res : DS -> DS} (hyp_ : ∀ (W : InW) (kQ : Ro Jd) (k_Ws : Ro Jc) (k_Lo k_Hi : Int), pre [[.l kQ.xs, .l k_Ws.xs, .i k_Lo, .i k_Hi]] -> ∀ Q : DS -> Prop, Q (res [[.l kQ.xs, .l k_Ws.xs, .i k_Lo, .i k_Hi]]) -> Xe8 kQ k_Ws k_Lo k_Hi Q) : PureOk Try.prog 10 Xdu [(false, [.row 3 Jc]), (false, [.int .i64])] pre res :=
 PureOk.of' (fun W => @TT W) (fun W => @Xc W) Xa T13q 1000 50 fun W kQ k_Ws k_Lo k_Hi hp =>
  (Xom W kQ k_Ws k_Lo k_Hi (fun o => o = res [[.l kQ.xs, .l k_Ws.xs, .i k_Lo, .i k_Hi]])).mpr (hyp_ W kQ k_Ws k_Lo k_Hi hp _ rfl)
def Xfb [W : InW] (kQ : Ro Jd) (k_Ws : Ro Jc) (k_Lo k_Hi : Int) (Q : DS -> Prop) : Prop :=
 Vif (decide (Sq.chkE kQ.xs k_Ws.xs k_Lo k_Hi = 0)) (Pre (Sq.BkOk kQ.xs k_Ws.xs k_Lo k_Hi (Sq.wts kQ.xs (kQ.xs.length)) /\ Sq.StOk kQ.xs Zb Zb { a := (cel k_Ws.xs Zd Zd).int, b := (cel k_Ws.xs (1 : Nat) Zd).int, c := (cel k_Ws.xs (2 : Nat) Zd).int, d := (cel k_Ws.xs (3 : Nat) Zd).int } /\ Sq.MemoOk kQ.xs k_Lo k_Hi [] /\ kQ.xs.length - Int.toNat Zb < 17) (Sq.FaM (Sq.MemoOk kQ.xs k_Lo k_Hi) fun ys => Q [[Cl.i (Sq.cnt kQ.xs k_Lo k_Hi (kQ.xs.length - Int.toNat Zb) Zb { a := (cel k_Ws.xs Zd Zd).int, b := (cel k_Ws.xs (1 : Nat) Zd).int, c := (cel k_Ws.xs (2 : Nat) Zd).int, d := (cel k_Ws.xs (3 : Nat) Zd).int })], [Cl.i 0]])) (Vif (!decide (Sq.chkE kQ.xs k_Ws.xs k_Lo k_Hi = 0)) (Q [[Cl.i 0], [Cl.i (Sq.chkE kQ.xs k_Ws.xs k_Lo k_Hi)]]) ((16 : Nat) = 16 + 1))
theorem Xop (W : InW) (kQ k_Ws k_Lo k_Hi Q) : Yx2 (cxT Try.prog TT T13q 1000 50) 1000 12 [.agg [.rs _ kQ, .rs _ k_Ws, .si .i64 k_Lo, .si .i64 k_Hi]] [] 0 (Y2i [(false, [.int .i64]), (false, [.int .i64])] Q) (fun _ _ _ _ => Stuck 421) = Xfb kQ k_Ws k_Lo k_Hi Q := by kernel_rfl
abbrev Xdx : List AT := [.agg [.sl Jd, .sl Jc, .int .i64, .int .i64]]
theorem Xqq {pre : DS -> Prop} {res : DS -> DS} (hyp_ : ∀ (W : InW) (kQ : Ro Jd) (k_Ws : Ro Jc) (k_Lo k_Hi : Int), pre [[.l kQ.xs, .l k_Ws.xs, .i k_Lo, .i k_Hi]] -> ∀ Q : DS -> Prop, Q (res [[.l kQ.xs, .l k_Ws.xs, .i k_Lo, .i k_Hi]]) -> Xfb kQ k_Ws k_Lo k_Hi Q) : PureOk Try.prog 12 Xdx [(false, [.int .i64]), (false, [.int .i64])] pre res :=
 PureOk.of' (fun W => @TT W) (fun W => @Xc W) Xa T13q 1000 50 fun W kQ k_Ws k_Lo k_Hi hp =>
  (Xop W kQ k_Ws k_Lo k_Hi (fun o => o = res [[.l kQ.xs, .l k_Ws.xs, .i k_Lo, .i k_Hi]])).mpr (hyp_ W kQ k_Ws k_Lo k_Hi hp _ rfl)
theorem Xr9 : PureOk Try.prog 10 Xdu [(false, [.row 3 Jc]), (false, [.int .i64])] (fun _ => True) Xer :=
 Xqn fun W qs ws lo hi hp Q h => by
  unfold Xe8;simp only [Xer, Sq.wtsR] at h;refine vifd (fun e => ?_) (fun e => vifn (fun _ => ?_) (fun e2 => absurd e2 e))
  ·rw [if_pos e, e] at h; exact h
  ·rw [if_neg e] at h; exact h
theorem Xsc : PureOk Try.prog 12 Xdx [(false, [.int .i64]), (false, [.int .i64])] (fun _ => True) Xex :=
 Xqq fun W qs ws lo hi hp Q h => by
  unfold Xfb;delta Zd Zb;simp only [Xex, Sq.cntR] at h;refine vifd (fun e => ?_) (fun e => vifn (fun _ => ?_) (fun e2 => absurd e2 e))
  ·rw [if_pos e, e] at h;have bv := Sq.chkE_iff.1 e;have hn := bv.n2;exact ⟨⟨bv.bk, bv.st, Sq.memo_nil, by omega⟩, ⟨fun ys hy => h⟩⟩
  ·rw [if_neg e] at h; exact h
def Xpd : PC Try.prog := ⟨10, Xdu, [(false, [.row 3 Jc]), (false, [.int .i64])], fun _ => True, Xer, Xr9⟩
def Xpf : PC Try.prog := ⟨12, Xdx, [(false, [.int .i64]), (false, [.int .i64])], fun _ => True, Xex, Xsc⟩
end Go.Proofs.Ytfbhampnigdaaaa
namespace Go.Proofs.Ytfbhampnigdaaaa
open Go.RowKit
open Sp
set_option maxRecDepth 100000
set_option maxHeartbeats 1600000
namespace Tt
def colS (l : Dt) (c : Nat) : Nat -> Nat -> Dt -> Dt
 | _, 0, d => d
 | i, n + 1, d => colS l c (i + 1) n (d.set i [.i (cel l i c).int])
def wrI (right : Int) (pp x : Dt) (q : Nat) : Nat -> Nat -> Dt -> Dt
 | _, 0, d => d
 | i, n + 1, d => wrI right pp x q (i + 1) n (if Sp.isI right pp x q i = true then d.set q [.i ((cel d q 0).int + 1)] else d)
def wrO (qs pp x : Dt) : Nat -> Nat -> Dt -> Dt
 | _, 0, d => d
 | j, n + 1, d => wrO qs pp x (j + 1) n (wrI (Sp.qRight qs j) pp x j 0 pp.length d)
def bkD (m : Int) (w : Dt) (n : Nat) : Dt := (List.range n).map fun i => [.i 0, .i m, .i (cel w i 0).int]
theorem bkD_len (m : Int) (w : Dt) (n : Nat) : (bkD m w n).length = n := by simp [bkD]
theorem bkD_succ (m : Int) (w : Dt) (n : Nat) : bkD m w (n + 1) = bkD m w n ++ [[.i 0, .i m, .i (cel w n 0).int]] := by simp [bkD, List.range_succ]
theorem bkD_get {m : Int} {w : Dt} {n i : Nat} (h : i < n) : (bkD m w n).getD i [] = [.i 0, .i m, .i (cel w i 0).int] := by
 simp [bkD, List.getD_eq_getElem?_getD, h]
theorem colS_len {l : Dt} {c : Nat} : ∀ n i d, (colS l c i n d).length = d.length
 | 0, _, _ => rfl
 | n + 1, i, d => by rw [colS, colS_len n, List.length_set]
theorem cel_setN {d : Dt} {j k c : Nat} {v : List Cl} (h : k ≠ j) : cel (d.set k v) j c = cel d j c := by
 unfold cel; rw [set_getN h]
theorem colS_cel {l : Dt} {c j : Nat} : ∀ n i d, i + n <= d.length -> (cel (colS l c i n d) j 0).int = if i <= j /\ j < i + n then (cel l j c).int else (cel d j 0).int
 | 0, i, d, _ => by rw [if_neg (by omega)]; rfl
 | n + 1, i, d, h => by
  rw [colS, colS_cel n (i + 1) _ (by rw [List.length_set]; omega)]
  by_cases e : i = j
  ·subst e;rw [if_neg (by omega), if_pos (by omega), cel_set (by omega)];rfl
  ·rw [cel_setN e]
   by_cases e2 : i + 1 <= j /\ j < i + 1 + n
   ·rw [if_pos e2, if_pos (by omega)]
   ·rw [if_neg e2, if_neg (by omega)]
theorem wrI_len {right : Int} {pp x : Dt} {q : Nat} : ∀ n i d, (wrI right pp x q i n d).length = d.length
 | 0, _, _ => rfl
 | n + 1, i, d => by rw [wrI, wrI_len n]; split <;> simp
theorem wrI_ne {right : Int} {pp x : Dt} {q j : Nat} (h : q ≠ j) : ∀ n i d, cel (wrI right pp x q i n d) j 0 = cel d j 0
 | 0, _, _ => rfl
 | n + 1, i, d => by
  rw [wrI, wrI_ne h n]
  split
  ·exact cel_setN h
  ·rfl
theorem wrI_cel {right : Int} {pp x : Dt} {q : Nat} : ∀ n i d, q < d.length -> (cel (wrI right pp x q i n d) q 0).int = (cel d q 0).int + cnt (Sp.isI right pp x q) i n
 | 0, i, d, _ => by simp [wrI, cnt]
 | n + 1, i, d, h => by
  rw [wrI, wrI_cel n (i + 1) _ (by split <;> simpa using h), cnt]
  by_cases c : Sp.isI right pp x q i = true
  ·rw [if_pos c, if_pos c, cel_set h]
   show (cel d q 0).int + 1 + _ = _
   omega
  ·rw [if_neg c, if_neg c]; omega
theorem wrO_len {qs pp x : Dt} : ∀ n j d, (wrO qs pp x j n d).length = d.length
 | 0, _, _ => rfl
 | n + 1, j, d => by rw [wrO, wrO_len n, wrI_len]
theorem wrO_cel {qs pp x : Dt} {k : Nat} : ∀ n j d, j + n <= d.length -> (cel (wrO qs pp x j n d) k 0).int = (cel d k 0).int + if j <= k /\ k < j + n then cnt (Sp.isI (Sp.qRight qs k) pp x k) 0 pp.length else 0
 | 0, j, d, _ => by rw [if_neg (by omega), wrO, Int.add_zero]
 | n + 1, j, d, h => by
  rw [wrO, wrO_cel n (j + 1) _ (by rw [wrI_len]; omega)]
  by_cases e : j = k
  ·subst e;rw [if_neg (by omega), if_pos (by omega), wrI_cel _ _ _ (by omega)];omega
  ·rw [wrI_ne e]
   by_cases e2 : j + 1 <= k /\ k < j + 1 + n
   ·rw [if_pos e2, if_pos (by omega)]
   ·rw [if_neg e2, if_neg (by omega)]
theorem cnt_bd {f : Nat -> Bool} : ∀ n i, 0 <= cnt f i n /\ cnt f i n <= n
 | 0, _ => by simp [cnt]
 | n + 1, i => by
  have := cnt_bd (f := f) n (i + 1);rw [cnt]
  split <;> omega
def sumD (d : Dt) : Nat -> Nat -> Int
 | _, 0 => 0
 | i, n + 1 => (cel d i 0).int + sumD d (i + 1) n
structure WOk (m : Int) (n : Nat) (w : Dt) : Prop where
 len : w.length = n
 lo : ∀ j, j < n -> 0 <= (cel w j 0).int
 hi : ∀ j, j < n -> (cel w j 0).int <= m
theorem many_all {m : Int} {w : Dt} {n : Nat} : ∀ k, k <= n -> Sq.many (bkD m w n) 0 k = k
 | 0, _ => rfl
 | k + 1, h => by
  rw [Sq.many, many_all k (by omega)];have : Sq.qPart (bkD m w n) k = 0 := by unfold Sq.qPart cel; rw [bkD_get (by omega)]; rfl
  rw [if_pos this]; omega
theorem bank {m : Int} {n : Nat} {w : Dt} {lo hi : Int} (hw : WOk m n w) (h1 : 1 <= n) (h2 : n <= 12) (hm : 0 <= m /\ m <= 20) (l0 : 0 <= lo) (lh : lo <= hi) (hh : hi <= 16000) : Sq.BankV (bkD m w n) [[.i (n : Int)]] lo hi where
 n1 := by rw [bkD_len]; exact h1
 n2 := by rw [bkD_len]; omega
 w1 := Nat.le_refl _
 w2 := by show 1 <= 4; omega
 l0 := l0
 lh := lh
 hh := hh
 part := fun i hi => by
  rw [bkD_len] at hi;have : Sq.qPart (bkD m w n) i = 0 := by unfold Sq.qPart cel; rw [bkD_get hi]; rfl
  rw [this];exact ⟨Int.le_refl _, by show (0 : Int) <= (1 : Nat) - 1; omega⟩
 ask := fun i hi => by
  rw [bkD_len] at hi;have : Sq.qAsk (bkD m w n) i = m := by unfold Sq.qAsk cel; rw [bkD_get hi]; rfl
  rw [this]; omega
 bad := fun i hi => by
  rw [bkD_len] at hi;have e1 : Sq.qAsk (bkD m w n) i = m := by unfold Sq.qAsk cel; rw [bkD_get hi]; rfl
  have e2 : Sq.qBad (bkD m w n) i = (cel w i 0).int := by unfold Sq.qBad cel; rw [bkD_get hi]; rfl
  rw [e1, e2]; exact ⟨hw.lo i hi, hw.hi i hi⟩
 want := fun p hp => by
  have hp : p < 1 := hp;obtain rfl : p = 0 := by omega
  have e : (cel [[Cl.i (n : Int)]] 0 0).int = n := rfl;rw [e, bkD_len];have := many_all (m := m) (w := w) (n := n) n (Nat.le_refl _);rw [show ((0 : Nat) : Int) = 0 from rfl, this];omega
theorem wt_eq {m : Int} {n i : Nat} {w : Dt} (h : i < n) : Sq.wt (bkD m w n) i = if m = 0 then 500 else ((cel w i 0).int * 1000).tdiv m := by
 unfold Sq.wt;have e1 : Sq.qAsk (bkD m w n) i = m := by unfold Sq.qAsk cel; rw [bkD_get h]; rfl
 have e2 : Sq.qBad (bkD m w n) i = (cel w i 0).int := by unfold Sq.qBad cel; rw [bkD_get h]; rfl
 rw [e1, e2]
theorem wt_mono {m : Int} {n i : Nat} {w v : Dt} (h : i < n) (hm : 0 <= m) (h0 : 0 <= (cel w i 0).int) (hl : (cel w i 0).int <= (cel v i 0).int) : Sq.wt (bkD m w n) i <= Sq.wt (bkD m v n) i := by
 rw [wt_eq h, wt_eq h]
 by_cases e : m = 0
 ·rw [if_pos e, if_pos e]; exact Int.le_refl _
 ·rw [if_neg e, if_neg e, Int.tdiv_eq_ediv_of_nonneg (by omega), Int.tdiv_eq_ediv_of_nonneg (by omega)];exact Int.ediv_le_ediv (by omega) (by omega)
def sumW (qs : Dt) : Nat -> Nat -> Int
 | _, 0 => 0
 | i, n + 1 => Sq.wt qs i + sumW qs (i + 1) n
theorem sumD_wts {qs : Dt} {k : Nat} : ∀ n i, i + n <= k -> sumD (Sq.wts qs k) i n = sumW qs i n
 | 0, _, _ => rfl
 | n + 1, i, h => by rw [sumD, sumW, sumD_wts n (i + 1) (by omega), Sq.cel_wts (by omega)]
theorem gen_none {qs : Dt} {lo hi : Int} (hp : ∀ i, i < qs.length -> Sq.qPart qs i = 0) : ∀ (m : Nat) (s k : Int), m <= qs.length -> (m : Int) < k -> Sq.gen qs lo hi m s ⟨k, 0, 0, 0⟩ = []
 | 0, s, k, _, h => by
  have hv : Sq.V4.nil ⟨k, 0, 0, 0⟩ = false := by simp [Sq.V4.nil]; omega
  exact Sq.gen_zero hv s
 | m + 1, s, k, hm, h => by
  have hv : Sq.V4.nil ⟨k, 0, 0, 0⟩ = false := by simp [Sq.V4.nil]; omega
  rw [Sq.gen_succ hv (i := qs.length - (m + 1)) (by omega), hp _ (by omega)];have e : Sq.V4.dec ⟨k, 0, 0, 0⟩ 0 = ⟨k - 1, 0, 0, 0⟩ := rfl;rw [e, gen_none hp m _ (k - 1) (by omega) (by omega), gen_none hp m _ k (by omega) (by omega)];simp
theorem gen_all {qs : Dt} {lo hi : Int} (hp : ∀ i, i < qs.length -> Sq.qPart qs i = 0) : ∀ (m : Nat) (s : Int), m <= qs.length -> (Sq.gen qs lo hi m s ⟨m, 0, 0, 0⟩).length = if inr (s + sumW qs (qs.length - m) m) lo hi = true then 1 else 0
 | 0, s, _ => by
  rw [Sq.gen_nil (v := ⟨((0 : Nat) : Int), 0, 0, 0⟩) rfl];simp only [sumW, Int.add_zero]
  split <;> rfl
 | m + 1, s, hm => by
  have hv : Sq.V4.nil ⟨((m + 1 : Nat) : Int), 0, 0, 0⟩ = false := by simp [Sq.V4.nil]; omega
  rw [Sq.gen_succ hv (i := qs.length - (m + 1)) (by omega), hp _ (by omega)];have e : Sq.V4.dec ⟨((m + 1 : Nat) : Int), 0, 0, 0⟩ 0 = ⟨(m : Int), 0, 0, 0⟩ := by simp [Sq.V4.dec]
  have g : Sq.V4.get ⟨((m + 1 : Nat) : Int), 0, 0, 0⟩ 0 = ((m + 1 : Nat) : Int) := rfl;have e2 := gen_none (lo := lo) (hi := hi) hp m s ((m + 1 : Nat) : Int) (by omega) (by omega);rw [e, g, if_pos (by omega), e2, List.append_nil, List.length_map, gen_all hp m _ (by omega), sumW, show qs.length - (m + 1) + 1 = qs.length - m by omega, Int.add_assoc]
theorem one_paper {m : Int} {n : Nat} {w : Dt} {lo hi : Int} (hw : WOk m n w) (h1 : 1 <= n) (h2 : n <= 12) (hm : 0 <= m /\ m <= 20) (l0 : 0 <= lo) (hh : hi <= 16000) (hl : lo <= sumW (bkD m w n) 0 n) (hu : sumW (bkD m w n) 0 n <= hi) : Sq.chkE (bkD m w n) [[.i (n : Int)]] lo hi = 0 /\ Sq.cntR (bkD m w n) [[.i (n : Int)]] lo hi = 1 := by
 have hb := bank hw h1 h2 hm l0 (Int.le_trans hl hu) hh;have hc := Sq.chkE_iff.2 hb;refine ⟨hc, ?_⟩;unfold Sq.cntR;rw [if_pos hc];unfold Sq.total Sq.cnt;have hv : Sq.v0 [[.i (n : Int)]] = ⟨(n : Int), 0, 0, 0⟩ := rfl;have hp : ∀ i, i < (bkD m w n).length -> Sq.qPart (bkD m w n) i = 0 := fun i hi => by
  rw [bkD_len] at hi;unfold Sq.qPart cel; rw [bkD_get hi]; rfl
 have := gen_all (lo := lo) (hi := hi) hp n 0 (by rw [bkD_len]; exact Nat.le_refl _);rw [bkD_len, Nat.sub_self, Int.zero_add] at this;rw [hv, bkD_len, this, if_pos]
 ·rfl
 ·unfold inr; rw [decide_eq_true hl, decide_eq_true hu]; rfl
end Tt
end Go.Proofs.Ytfbhampnigdaaaa
namespace Go.Proofs.Ytfbhampnigdaaaa
open Go.RowKit
set_option maxRecDepth 100000
set_option maxHeartbeats 3200000
namespace Tt
structure SmOk (l : Dt) : Prop where
 n : l.length <= 12
 b : ∀ j, j < l.length -> 0 <= (cel l j 0).int /\ (cel l j 0).int <= 1000
structure InOk (qs ps : Dt) (all : Int) (pp x : Dt) : Prop where
 key : Sp.KeyOk qs ps all
 n20 : pp.length <= 20
 ok : ∀ i, i < pp.length -> Sp.ShOk qs (Sp.row pp i)
 x_ : Sp.xOk x
structure WeOk (qs l lo hi w : Dt) (n : Int) : Prop where
 lq : l.length = qs.length
 ll : lo.length = l.length
 lh : hi.length = l.length
 lw : w.length = l.length
 z : ∀ j : Nat, n <= (j : Int) -> (cel w j 0).int = 0
structure CmOk (l a b c : Dt) : Prop where
 few : l.length <= 12
 la : a.length = l.length
 lb : b.length = l.length
 lc : c.length = l.length
 le : ∀ j, j < l.length -> (cel a j 0).int <= (cel b j 0).int /\ (cel b j 0).int <= (cel c j 0).int
end Tt
def TW0 : Tab Try.prog := ⟨[], [], []⟩
def Xgg [InW] (e : List Ed) (K : Nat -> List Ed -> Prop) : Prop := match e with
 | [.ro _ l, .i n, .i i] => Pre (0 <= i /\ i <= l.xs.length /\ Tt.SmOk l.xs /\ 0 <= n /\ n <= 1000 * i) (K 0 [.i (n + Tt.sumD l.xs i.toNat (l.xs.length - i.toNat))])
 | _ => False
def Xia : LC where
 len := 18
 T := [(0, .rs Jc), (3, .int .i64), (4, .int .i64)]
 H := []
 W := (rgg 5 12)
 outs := [⟨.exit 0, [(3, .int .i64)], [], ([0] ++ rgg 4 13)⟩]
 spec := Xgg
def Xfg [W : InW] (l : Ro Jc) (n i : Int) (A : List Ed -> Prop) (K : Nat -> List Ed -> Prop) : Prop :=
 Vif (decide (i < (↑(l.xs.length) : Int))) (Need (decide (0 <= i) && decide (i < (↑(l.xs.length) : Int))) (Need (decide (i.toNat < l.xs.length)) (Ar .i64 (n + (cel l.xs i.toNat (0 : Nat)).int) fun z => Ar .i64 (i + 1) fun z_1 => A [.ro _ l, .i z, .i z_1]))) (K 0 [.i n])
theorem Xnl (W : InW) (l n i A K) : Yfh { cxT Try.prog TT TW0 1000 50 with fn := 13 } 1000 (Yor Try.prog 13 4) (Yd9 18 [(0, .rs _ l), (3, .si .i64 n), (4, .si .i64 i)] (rgg 5 12)) [] (Yvi Xia A K) = Xfg l n i A K := by kernel_rfl
def Xhj : Prop := ∀ (W : InW) (body a : Code), (Try.prog.funcs[13]?).bind (·.body) = some body -> a ∈ Y1 body -> Yf2 a = 4 -> @Ym8 W Try.prog a (@Yum W Xia)
theorem Xpl (meas : [InW] -> List Ed -> Nat) (hyp_ : ∀ (W : InW) l n i K, Xgg [.ro _ l, .i n, .i i] K -> ∀ A : List Ed -> Prop, (∀ e, meas e < meas [.ro _ l, .i n, .i i] -> Xgg e K -> A e) -> Xfg l n i A K) : Xhj :=
 LE.okOf' (fun W => @TT W) (fun W => @Xc W) Xa TW0 1000 50 (by kernel_rfl) Xia (fun W => @meas W) fun W l n i K hs =>
  (Xnl W l n i (fun e => meas e < meas [.ro _ l, .i n, .i i] /\ Xgg e K) K).mpr (hyp_ W l n i K hs _ fun e h1 h2 => ⟨h1, h2⟩)
theorem Xso : Xhj := Xpl (fun e => match e with | .ro _ l :: _ :: .i i :: _ => ((l.xs.length : Int) - i).toNat | _ => 0) fun W l n i K hs A hA => by
 obtain ⟨⟨h0, h1, hl, h2, h3⟩, hk⟩ := hs;unfold Xfg;have hn := hl.n;refine vifd (fun e => ?_) (fun e => ?_)
 ·have hb := hl.b i.toNat (by omega);rw [show l.xs.length - i.toNat = (l.xs.length - (i.toNat + 1)) + 1 by omega] at hk;simp only [Tt.sumD] at hk;refine ned (by simp; omega) (nedd (by omega) (ar64 (by omega) (ar64 (by omega) (hA _ (by show ((l.xs.length : Int) - (i + 1)).toNat < ((l.xs.length : Int) - i).toNat; omega) ⟨⟨by omega, by omega, hl, by omega, by omega⟩, ?_⟩))));rw [show (i + 1).toNat = i.toNat + 1 by omega, Int.add_assoc];exact hk
 ·rw [show l.xs.length - i.toNat = 0 by omega] at hk;simp only [Tt.sumD, Int.add_zero] at hk;exact hk
def Xtn : LE Try.prog := ⟨13, 4, fun W => @Yum W Xia, Xso⟩
def TW1 : Tab Try.prog := ⟨[], [Xtn], []⟩
abbrev Xct (ds : DS) : DS := match ds with | [[.l l]] => [[.i (Tt.sumD l 0 l.length)]] | _ => []
abbrev Xee (ds : DS) : Prop := match ds with | [[.l l]] => Tt.SmOk l | _ => False
def Xd2 [W : InW] (l : Ro Jc) (Q : DS -> Prop) : Prop :=
 Pre ((0 : Int) <= 0 /\ (0 : Int) <= (↑(l.xs.length) : Int) /\ Tt.SmOk l.xs /\ (0 : Int) <= 0 /\ (0 : Int) <= 1000 * 0) (Q [[Cl.i ((0 : Int) + Tt.sumD l.xs (Int.toNat (0 : Int)) (l.xs.length - Int.toNat (0 : Int)))]])
theorem Xlj (W : InW) (l Q) : Yx2 (cxT Try.prog TT TW1 1000 50) 1000 13 [.rs _ l] [] 0 (Y2i [(false, [.int .i64])] Q) (fun _ _ _ _ => Stuck 421) = Xd2 l Q := by kernel_rfl
abbrev Xcz : List AT := [.one (.sl Jc)]
theorem Xmj {pre : DS -> Prop} {res : DS -> DS} (hyp_ : ∀ (W : InW) (l : Ro Jc), pre [[.l l.xs]] -> ∀ Q : DS -> Prop, Q (res [[.l l.xs]]) -> Xd2 l Q) : PureOk Try.prog 13 Xcz [(false, [.int .i64])] pre res :=
 PureOk.of' (fun W => @TT W) (fun W => @Xc W) Xa TW1 1000 50 fun W l hp =>
  (Xlj W l (fun o => o = res [[.l l.xs]])).mpr (hyp_ W l hp _ rfl)
theorem Xpi : PureOk Try.prog 13 Xcz [(false, [.int .i64])] Xee Xct :=
 Xmj fun W l hp Q h => by
  have hp : Tt.SmOk l.xs := hp;unfold Xd2;simp only [Xct] at h;refine ⟨⟨by omega, by omega, hp, by omega, by omega⟩, ?_⟩;rw [show Int.toNat 0 = 0 from rfl, Nat.sub_zero, Int.zero_add];exact h
def Xl4 : PC Try.prog := ⟨13, Xcz, [(false, [.int .i64])], Xee, Xct, Xpi⟩
def Xg7 [InW] (e : List Ed) (K : Nat -> List Ed -> Prop) : Prop := match e with
 | [.i m, .ro _ w, .i i, .i lo, .i hi, .l qs] => Pre (0 <= i /\ i <= w.xs.length /\ w.xs.length <= 12 /\ qs = Tt.bkD m w.xs i.toNat) (K 0 [.i m, .ro _ w, .i lo, .i hi, .l (Tt.bkD m w.xs w.xs.length)])
 | _ => False
def Xiz : LC where
 len := 32
 T := [(0, .int .i64), (1, .rs Jc), (7, (.ptr 1 0)), (8, .int .i64)]
 H := [(1, .blk 48 [(.row 6), (.opq 1021), .int .i64, .int .i64]), (6, .arr 93 Jd)]
 W := (rgg 14 17)
 outs := [⟨.exit 0, [(0, .int .i64), (1, .rs Jc), (7, (.ptr 1 0))], [(1, .blk 48 [(.row 9), (.opq 1021), .int .i64, .int .i64]), (9, .arr 93 Jd)], ([8] ++ rgg 14 17)⟩]
 spec := Xg7
def Xf6 [W : InW] (m : Int) (w : Ro Jc) (i lo hi : Int) (qs : Dt) (A : List Ed -> Prop) (K : Nat -> List Ed -> Prop) : Prop :=
 Vif (decide (i < (↑(w.xs.length) : Int))) (Need (decide (0 <= i) && decide (i < (↑(w.xs.length) : Int))) (Need (decide (i.toNat < w.xs.length)) (Need (decide ((qs.length + [[Cl.i 0, Cl.i m, Cl.i (cel w.xs i.toNat (0 : Nat)).int]].length) * 24 <= 140737488355328)) (Ar .i64 (i + 1) fun z => A [.i m, .ro _ w, .i z, .i lo, .i hi, .l (qs ++ [[Cl.i 0, Cl.i m, Cl.i (cel w.xs i.toNat (0 : Nat)).int]])])))) (K 0 [.i m, .ro _ w, .i lo, .i hi, .l qs])
theorem Xob (W : InW) (m w i lo hi qs A K) : Yfh { cxT Try.prog TT TW0 1000 50 with fn := 11 } 1000 (Yor Try.prog 11 4) (Yd9 32 [(0, .si .i64 m), (1, .rs _ w), (7, .ptr 1 0), (8, .si .i64 i)] (rgg 14 17)) [(1, .blk 48 [.rw 6, .opq 1021, .si .i64 lo, .si .i64 hi]), (6, .arr 93 Jd qs)] (Yvi Xiz A K) = Xf6 m w i lo hi qs A K := by kernel_rfl
def Xh8 : Prop := ∀ (W : InW) (body a : Code), (Try.prog.funcs[11]?).bind (·.body) = some body -> a ∈ Y1 body -> Yf2 a = 4 -> @Ym8 W Try.prog a (@Yum W Xiz)
theorem Xqb (meas : [InW] -> List Ed -> Nat) (hyp_ : ∀ (W : InW) m w i lo hi qs K, Xg7 [.i m, .ro _ w, .i i, .i lo, .i hi, .l qs] K -> ∀ A : List Ed -> Prop, (∀ e, meas e < meas [.i m, .ro _ w, .i i, .i lo, .i hi, .l qs] -> Xg7 e K -> A e) -> Xf6 m w i lo hi qs A K) : Xh8 :=
 LE.okOf' (fun W => @TT W) (fun W => @Xc W) Xa TW0 1000 50 (by kernel_rfl) Xiz (fun W => @meas W) fun W m w i lo hi qs K hs =>
  (Xob W m w i lo hi qs (fun e => meas e < meas [.i m, .ro _ w, .i i, .i lo, .i hi, .l qs] /\ Xg7 e K) K).mpr (hyp_ W m w i lo hi qs K hs _ fun e h1 h2 => ⟨h1, h2⟩)
theorem Xte : Xh8 := Xqb (fun e => match e with | _ :: .ro _ w :: .i i :: _ => ((w.xs.length : Int) - i).toNat | _ => 0) fun W m w i lo hi qs K hs A hA => by
 obtain ⟨⟨h0, h1, h2, rfl⟩, hk⟩ := hs;unfold Xf6;have hl := Tt.bkD_len m w.xs i.toNat;refine vifd (fun e => ?_) (fun e => ?_)
 ·have go := hA [.i m, .ro _ w, .i (i + 1), .i lo, .i hi, .l (Tt.bkD m w.xs (i + 1).toNat)] (by show ((w.xs.length : Int) - (i + 1)).toNat < ((w.xs.length : Int) - i).toNat; omega) ⟨⟨by omega, by omega, h2, rfl⟩, hk⟩;rw [show (i + 1).toNat = i.toNat + 1 by omega, Tt.bkD_succ] at go;clear hA hk
  repeat' (first | omega|intro _|with_reducible first|apply vifd|apply vifn|apply vifq|apply Xf|apply Xe|apply vifb|apply vif|apply nedd|apply ned2|apply ned|apply ar64|apply Xb|exact True.intro|assumption|rfl|apply And.intro)
  all_goals first | exact go | (simp; omega) | skip
 ·rw [show i.toNat = w.xs.length by omega];exact hk
def Xub : LE Try.prog := ⟨11, 4, fun W => @Yum W Xiz, Xte⟩
def TW2 : Tab Try.prog := ⟨[], [Xub], []⟩
abbrev Xha : List (Bool × List RTy) := [(true, [.row 93 Jd, .row 3 Jc, .int .i64, .int .i64])]
abbrev Xey (ds : DS) : DS := match ds with | [[.i m], [.l w], [.i lo, .i hi]] => [[.l (Tt.bkD m w w.length), .l [[.i (w.length : Int)]], .i lo, .i hi]] | _ => []
abbrev Xjx (ds : DS) : Prop := match ds with | [[.i m], [.l w], [.i lo, .i hi]] => w.length <= 12 | _ => False
def Xkp [W : InW] (m : Int) (w : Ro Jc) (lv_Lo lv_Hi : Int) (Q : DS -> Prop) : Prop :=
 Pre ((0 : Int) <= 0 /\ (0 : Int) <= (↑(w.xs.length) : Int) /\ w.xs.length <= 12 /\ [] = Tt.bkD m w.xs (Int.toNat (0 : Int))) (Q [[Cl.l (Tt.bkD m w.xs (w.xs.length)), Cl.l [[Cl.i (↑(w.xs.length) : Int)]], Cl.i lv_Lo, Cl.i lv_Hi]])
theorem Xrz (W : InW) (m w lv_Lo lv_Hi Q) : Yx2 (cxT Try.prog TT TW2 1000 50) 1000 11 [.si .i64 m, .rs _ w, .agg [.si .i64 lv_Lo, .si .i64 lv_Hi]] [] 0 (Y2i Xha Q) (fun _ _ _ _ => Stuck 421) = Xkp m w lv_Lo lv_Hi Q := by kernel_rfl
abbrev Xe5 : List AT := [.one (.int .i64), .one (.sl Jc), .agg [.int .i64, .int .i64]]
theorem Xsm {pre : DS -> Prop} {res : DS -> DS} (hyp_ : ∀ (W : InW) (m : Int) (w : Ro Jc) (lv_Lo lv_Hi : Int), pre [[.i m], [.l w.xs], [.i lv_Lo, .i lv_Hi]] -> ∀ Q : DS -> Prop, Q (res [[.i m], [.l w.xs], [.i lv_Lo, .i lv_Hi]]) -> Xkp m w lv_Lo lv_Hi Q) : PureOk Try.prog 11 Xe5 Xha pre res :=
 PureOk.of' (fun W => @TT W) (fun W => @Xc W) Xa TW2 1000 50 fun W m w lv_Lo lv_Hi hp =>
  (Xrz W m w lv_Lo lv_Hi (fun o => o = res [[.i m], [.l w.xs], [.i lv_Lo, .i lv_Hi]])).mpr (hyp_ W m w lv_Lo lv_Hi hp _ rfl)
theorem okask : PureOk Try.prog 11 Xe5 Xha Xjx Xey :=
 Xsm fun W m w lo hi hp Q h => by
  have hp : w.xs.length <= 12 := hp;unfold Xkp;simp only [Xey] at h;exact ⟨⟨by omega, by omega, hp, rfl⟩, h⟩
def Xr3 : PC Try.prog := ⟨11, Xe5, Xha, Xjx, Xey, okask⟩
def TW3 : Tab Try.prog := ⟨[Xl6, Xr1, Xr4], [], []⟩
def Xgi [InW] (e : List Ed) (K : Nat -> List Ed -> Prop) : Prop := match e with
 | [.ro _ pp, .ro _ x, .i n, .i i, .ro _ qs, .ro _ ps, .i all, .l w] => Pre (0 <= i /\ i <= pp.xs.length /\ (0 <= n /\ n < w.length) /\ (0 <= (cel w n.toNat 0).int /\ (cel w n.toNat 0).int <= i) /\ n < qs.xs.length /\ Tt.InOk qs.xs ps.xs all pp.xs x.xs) (K 0 [.ro _ pp, .ro _ x, .i n, .ro _ qs, .ro _ ps, .i all, .l (Tt.wrI (Sp.qRight qs.xs n.toNat) pp.xs x.xs n.toNat i.toNat (pp.xs.length - i.toNat) w)])
 | _ => False
def Xic : LC where
 len := 250
 T := [(1, .rs [.sl Jb]), (2, .rs [.int .u16]), (3, (.ptr 7 0)), (14, (.row 6)), (15, .int .i64), (16, .int .i64)]
 H := [(7, .blk 25 [.rs Iv5, .rs Jc, .int .i64]), (6, .arr 3 Jc)]
 W := ([6, 17] ++ rgg 91 46)
 outs := [⟨.exit 2, [(1, .rs [.sl Jb]), (2, .rs [.int .u16]), (3, (.ptr 7 0)), (14, (.row 9)), (15, .int .i64)], [(7, .blk 25 [.rs Iv5, .rs Jc, .int .i64]), (9, .arr 3 Jc)], ([6, 16, 17] ++ rgg 91 46)⟩]
 spec := Xgi
def Zfl [W : InW] (pp : Ro [.sl Jb]) (i : Int) := cel pp.xs i.toNat Zd
def Zfj [W : InW] (x : Ro [.int .u16]) := (↑(x.xs.length) : Int)
def Zfk [W : InW] (x : Ro [.int .u16]) (i : Int) := cel x.xs (i.tmod (Zfj x)).toNat Zd
def Zfi [W : InW] (pp : Ro [.sl Jb]) (x : Ro [.int .u16]) (n i : Int) (qs : Ro Iv5) (ps : Ro Jc) (all : Int) (w : Dt) (A : List Ed -> Prop) := Need (decide (0 <= n) && decide (n < (↑(w.length) : Int))) (Need (decide (n.toNat < w.length)) (Ar .i64 ((cel w n.toNat Zd).int + 1) fun z => Need (decide (0 <= n) && decide (n < (↑(w.length) : Int))) (Need (decide (n.toNat < w.length)) (Ar .i64 (i + 1) fun z_1 => A [.ro [Ty.sl Zdv] pp, .ro _ x, .i n, .i z_1, .ro _ qs, .ro _ ps, .i all, .l (List.set w n.toNat [Cl.i z])]))))
def Xfi [W : InW] (pp : Ro [.sl Jb]) (x : Ro [.int .u16]) (n i : Int) (qs : Ro Iv5) (ps : Ro Jc) (all : Int) (w : Dt) (A : List Ed -> Prop) (K : Nat -> List Ed -> Prop) : Prop :=
 Vif (decide (i < (↑(pp.xs.length) : Int))) (Need (decide (0 <= i) && decide (i < (↑(pp.xs.length) : Int))) (Need (decide (i.toNat < pp.xs.length)) (Pre (Sp.KeyOk qs.xs ps.xs all) (Vif (!decide (Sp.shE qs.xs (Zfl pp i).lst = 0)) ((472 : Nat) = 472 + 1) (Vif (decide (Zb < (Zfj x))) (Need (!decide ((Zfj x) = 0)) (Need (decide (0 <= i.tmod (Zfj x)) && decide (i.tmod (Zfj x) < (Zfj x))) (Need (decide ((i.tmod (Zfj x)).toNat < x.xs.length)) (Need (decide (0 <= i) && decide (i < (↑(pp.xs.length) : Int))) (Need (decide (i.toNat < pp.xs.length)) (Pre (Sp.Few (Zfl pp i).lst /\ List.length (Sp.uns (Zfl pp i).lst) <= 7 /\ Zb <= (Zfk x i).int /\ (Zfk x i).int <= 65535) (Need (decide (0 <= n) && decide (n < (↑(List.length (Sp.rdgV (Zfk x i).int (Zfl pp i).lst)) : Int))) (Need (decide (n.toNat < List.length (Sp.rdgV (Zfk x i).int (Zfl pp i).lst))) (Pre True (Need (decide (0 <= n) && decide (n < (↑(qs.xs.length) : Int))) (Need (decide (n.toNat < qs.xs.length)) (Vif (!decide (Sp.ansOf (cel (Sp.rdgV (Zfk x i).int (Zfl pp i).lst) n.toNat Zd).lst = (cel qs.xs n.toNat (1+1)).int)) (Zfi pp x n i qs ps all w A) (Ar .i64 (i + 1) fun z => A [.ro [Ty.sl Zdv] pp, .ro _ x, .i n, .i z, .ro _ qs, .ro _ ps, .i all, .l w]))))))))))))) (Need (decide (0 <= i) && decide (i < (↑(pp.xs.length) : Int))) (Need (decide (i.toNat < pp.xs.length)) (Pre (Sp.Few (Zfl pp i).lst /\ List.length (Sp.uns (Zfl pp i).lst) <= 7 /\ Zb <= 0 /\ Zb <= 65535) (Need (decide (0 <= n) && decide (n < (↑(List.length (Sp.rdgV Zb (Zfl pp i).lst)) : Int))) (Need (decide (n.toNat < List.length (Sp.rdgV Zb (Zfl pp i).lst))) (Pre True (Need (decide (0 <= n) && decide (n < (↑(qs.xs.length) : Int))) (Need (decide (n.toNat < qs.xs.length)) (Vif (!decide (Sp.ansOf (cel (Sp.rdgV Zb (Zfl pp i).lst) n.toNat Zd).lst = (cel qs.xs n.toNat (1+1)).int)) (Zfi pp x n i qs ps all w A) (Ar .i64 (i + 1) fun z => A [.ro [Ty.sl Zdv] pp, .ro _ x, .i n, .i z, .ro _ qs, .ro _ ps, .i all, .l w]))))))))))))))) (K 0 [.ro [Ty.sl Zdv] pp, .ro _ x, .i n, .ro _ qs, .ro _ ps, .i all, .l w])
theorem Xnn (W : InW) (pp x n i qs ps all w A K) : Yfh { cxT Try.prog TT TW3 1000 50 with fn := 3 } 1000 (Yor Try.prog 3 14) (Yd9 250 [(1, .rs _ pp), (2, .rs _ x), (3, .ptr 7 0), (14, .rw 6), (15, .si .i64 n), (16, .si .i64 i)] ([6, 17] ++ rgg 91 46)) [(7, .blk 25 [.rs _ qs, .rs _ ps, .si .i64 all]), (6, .arr 3 Jc w)] (Yvi Xic A K) = Xfi pp x n i qs ps all w A K := by kernel_rfl
def Xhl : Prop := ∀ (W : InW) (body a : Code), (Try.prog.funcs[3]?).bind (·.body) = some body -> a ∈ Y1 body -> Yf2 a = 14 -> @Ym8 W Try.prog a (@Yum W Xic)
theorem Xpn (meas : [InW] -> List Ed -> Nat) (hyp_ : ∀ (W : InW) pp x n i qs ps all w K, Xgi [.ro _ pp, .ro _ x, .i n, .i i, .ro _ qs, .ro _ ps, .i all, .l w] K -> ∀ A : List Ed -> Prop, (∀ e, meas e < meas [.ro _ pp, .ro _ x, .i n, .i i, .ro _ qs, .ro _ ps, .i all, .l w] -> Xgi e K -> A e) -> Xfi pp x n i qs ps all w A K) : Xhl :=
 LE.okOf' (fun W => @TT W) (fun W => @Xc W) Xa TW3 1000 50 (by kernel_rfl) Xic (fun W => @meas W) fun W pp x n i qs ps all w K hs =>
  (Xnn W pp x n i qs ps all w (fun e => meas e < meas [.ro _ pp, .ro _ x, .i n, .i i, .ro _ qs, .ro _ ps, .i all, .l w] /\ Xgi e K) K).mpr (hyp_ W pp x n i qs ps all w K hs _ fun e h1 h2 => ⟨h1, h2⟩)
theorem Xsq : Xhl := Xpn (fun e => match e with | [.ro _ pp, _, _, .i i, _, _, _, _] => ((pp.xs.length : Int) - i).toNat | _ => 0) fun W pp x n i qs ps all w K hs A hA => by
 obtain ⟨⟨h0, h1, hn, hat, hnq, hm⟩, hk⟩ := hs;unfold Xfi;delta Zfi Zfl Zfk Zdv Zd Zb Zfj;have ez : (i + 1).toNat = i.toNat + 1 := by omega
 have h20 := hm.n20
 by_cases hi : i < pp.xs.length
 ·have hlt : i.toNat < pp.xs.length := by omega
  have ho := hm.ok _ hlt;have hkey := hm.key;have hf : Sp.Few (cel pp.xs i.toNat 0).lst := ho.toShapeOk.few hkey;have h7 : (Sp.uns (cel pp.xs i.toNat 0).lst).length <= 7 := ho.seven;have hlen : (cel pp.xs i.toNat 0).lst.length = qs.xs.length := ho.n;have hsh : Sp.shE qs.xs (cel pp.xs i.toNat 0).lst = 0 := Sp.shE_iff.2 ho;have hnn : n.toNat < w.length := by omega
  rw [show pp.xs.length - i.toNat = (pp.xs.length - (i.toNat + 1)) + 1 by omega] at hk;simp only [Tt.wrI] at hk;have go0 : ∀ v : Dt, (v = if Sp.isI (Sp.qRight qs.xs n.toNat) pp.xs x.xs n.toNat i.toNat = true then w.set n.toNat [.i ((cel w n.toNat 0).int + 1)] else w) -> A [.ro _ pp, .ro _ x, .i n, .i (i + 1), .ro _ qs, .ro _ ps, .i all, .l v] := fun v hv => by
   have hvl : v.length = w.length := by rw [hv]; split <;> simp
   have hvb : 0 <= (cel v n.toNat 0).int /\ (cel v n.toNat 0).int <= i + 1 := by
    rw [hv]
    split
    ·rw [Sp.cel_set hnn]
     show 0 <= (cel w n.toNat 0).int + 1 /\ (cel w n.toNat 0).int + 1 <= i + 1
     omega
    ·omega
   exact hA _ (show ((pp.xs.length : Int) - (i + 1)).toNat < ((pp.xs.length : Int) - i).toNat by omega) ⟨⟨by omega, by omega, by omega, hvb, hnq, hm⟩, by rw [ez, hv]; exact hk⟩
  clear hA hk;have goT : ∀ β : Int, β = Sp.bitX x.xs i.toNat -> ¬ Sp.ansOf (cel (Sp.rdgV β (cel pp.xs i.toNat 0).lst) n.toNat 0).lst = (cel qs.xs n.toNat (1 + 1)).int -> A [.ro _ pp, .ro _ x, .i n, .i (i + 1), .ro _ qs, .ro _ ps, .i all, .l (w.set n.toNat [.i ((cel w n.toNat 0).int + 1)])] := fun β hβ c => by
   subst hβ;refine go0 _ (if_pos ?_).symm
   show (!decide (Sp.ansOf (cel (Sp.rdgV (Sp.bitX x.xs i.toNat) (cel pp.xs i.toNat 0).lst) n.toNat 0).lst = (cel qs.xs n.toNat (1 + 1)).int)) = true
   rw [decide_eq_false c]; rfl
  have goF : ∀ β : Int, β = Sp.bitX x.xs i.toNat -> Sp.ansOf (cel (Sp.rdgV β (cel pp.xs i.toNat 0).lst) n.toNat 0).lst = (cel qs.xs n.toNat (1 + 1)).int -> A [.ro _ pp, .ro _ x, .i n, .i (i + 1), .ro _ qs, .ro _ ps, .i all, .l w] := fun β hβ c => by
   subst hβ;refine go0 _ (if_neg ?_).symm
   show ¬ (!decide (Sp.ansOf (cel (Sp.rdgV (Sp.bitX x.xs i.toNat) (cel pp.xs i.toNat 0).lst) n.toNat 0).lst = (cel qs.xs n.toNat (1 + 1)).int)) = true
   rw [decide_eq_true c]; simp
  clear go0;have rl : ∀ β : Int, 0 <= β -> (Sp.rdgV β (cel pp.xs i.toNat 0).lst).length = qs.xs.length := fun β hb => by rw [(Sp.rds_shape _ (Sp.rdgV_mem hb _)).1]; exact hlen
  by_cases hx : 0 < x.xs.length
  ·have t0 : 0 <= i.tmod x.xs.length /\ i.tmod x.xs.length < x.xs.length := by
    rw [Int.tmod_eq_emod_of_nonneg h0];exact ⟨Int.emod_nonneg _ (by omega), Int.emod_lt_of_pos _ (by omega)⟩
   have hb := hm.x_ (i.tmod x.xs.length).toNat (by omega);have eb : (cel x.xs (i.tmod x.xs.length).toNat 0).int = Sp.bitX x.xs i.toNat := by
    unfold Sp.bitX;rw [if_neg (by omega), show (i.tmod x.xs.length).toNat = i.toNat % x.xs.length by rw [Int.tmod_eq_emod_of_nonneg h0, Int.toNat_emod h0 (by omega), Int.toNat_natCast]]
   have hrl := rl _ hb.1;have goT := goT _ eb;have goF := goF _ eb;clear rl eb;generalize (cel x.xs (i.tmod x.xs.length).toNat 0).int = β at *;have hn0 : (!decide ((x.xs.length : Int) = 0)) = true := by rw [decide_eq_false (by omega)]; rfl
   refine vifd (fun _ => ned2 (by omega) (nedd hlt (Xb hkey (vifn (fun c => absurd hsh c) fun _ => vifd (fun _ => ned hn0 (ned2 t0 (nedd (by omega) (ned2 (by omega) (nedd hlt (Xb ⟨hf, h7, hb⟩ (ned2 (by omega) (nedd (by omega) (Xb trivial (ned2 (by omega) (nedd (by omega) (vifn (fun c => ?_) fun c => ?_)))))))))))) fun c => by omega)))) fun c => by omega
   ·exact ned2 (by omega) (nedd (by omega) (ar64 (by omega) (ned2 (by omega) (nedd (by omega) (ar64 (by omega) (goT c))))))
   ·exact ar64 (by omega) (goF c)
  ·have eb : (0 : Int) = Sp.bitX x.xs i.toNat := by unfold Sp.bitX; rw [if_pos (by omega)]
   have hrl := rl 0 (by omega);have goT := goT _ eb;have goF := goF _ eb;clear rl eb;refine vifd (fun _ => ned2 (by omega) (nedd hlt (Xb hkey (vifn (fun c => absurd hsh c) fun _ => vifd (fun c => by omega) fun _ => ned2 (by omega) (nedd hlt (Xb ⟨hf, h7, by omega, by omega⟩ (ned2 (by omega) (nedd (by omega) (Xb trivial (ned2 (by omega) (nedd (by omega) (vifn (fun c => ?_) fun c => ?_)))))))))))) fun c => by omega
   ·exact ned2 (by omega) (nedd (by omega) (ar64 (by omega) (ned2 (by omega) (nedd (by omega) (ar64 (by omega) (goT c))))))
   ·exact ar64 (by omega) (goF c)
 ·rw [show pp.xs.length - i.toNat = 0 by omega] at hk;simp only [Tt.wrI] at hk;refine vifd (fun e => by omega) fun _ => hk
def Xtp : LE Try.prog := ⟨3, 14, fun W => @Yum W Xic, Xsq⟩
def TW4 : Tab Try.prog := ⟨[], [Xtp], []⟩
def Xgh [InW] (e : List Ed) (K : Nat -> List Ed -> Prop) : Prop := match e with
 | [.ro _ pp, .ro _ x, .i n, .ro _ qs, .ro _ ps, .i all, .l l, .l lo, .l hi, .l w] => Pre (0 <= n /\ n <= l.length /\ Tt.WeOk qs.xs l lo hi w n /\ Tt.InOk qs.xs ps.xs all pp.xs x.xs) (K 0 [.ro _ pp, .ro _ x, .ro _ qs, .ro _ ps, .i all, .l l, .l (Tt.colS l 0 n.toNat (l.length - n.toNat) lo), .l (Tt.colS l 1 n.toNat (l.length - n.toNat) hi), .l (Tt.wrO qs.xs pp.xs x.xs n.toNat (l.length - n.toNat) w)])
 | _ => False
def Xib : LC where
 len := 250
 T := [(1, .rs [.sl Jb]), (2, .rs [.int .u16]), (3, (.ptr 7 0)), (7, (.row 1)), (12, (.row 6)), (13, (.row 9)), (14, (.row 12)), (15, .int .i64)]
 H := [(7, .blk 25 [.rs Iv5, .rs Jc, .int .i64]), (1, .arr 36 Ja), (6, .arr 3 Jc), (9, .arr 3 Jc), (12, .arr 3 Jc)]
 W := ([6, 16, 17] ++ rgg 69 68)
 outs := [⟨.exit 0, [(1, .rs [.sl Jb]), (2, .rs [.int .u16]), (3, (.ptr 7 0)), (7, (.row 1)), (12, (.row 15)), (13, (.row 18)), (14, (.row 21))], [(7, .blk 25 [.rs Iv5, .rs Jc, .int .i64]), (1, .arr 36 Ja), (15, .arr 3 Jc), (18, .arr 3 Jc), (21, .arr 3 Jc)], ([6, 15, 16, 17] ++ rgg 69 68)⟩]
 spec := Xgh
def Xfh [W : InW] (pp : Ro [.sl Jb]) (x : Ro [.int .u16]) (n : Int) (qs : Ro Iv5) (ps : Ro Jc) (all : Int) (l lo hi w : Dt) (A : List Ed -> Prop) (K : Nat -> List Ed -> Prop) : Prop :=
 Vif (decide (n < (↑(l.length) : Int))) (Need (decide (0 <= n) && decide (n < (↑(l.length) : Int))) (Need (decide (n.toNat < l.length)) (Need (decide (0 <= n) && decide (n < (↑(l.length) : Int))) (Need (decide (n.toNat < l.length)) (Need (decide (0 <= n) && decide (n < (↑(lo.length) : Int))) (Need (decide (n.toNat < lo.length)) (Need (decide (0 <= n) && decide (n < (↑(hi.length) : Int))) (Need (decide (n.toNat < hi.length)) (Pre (Zb <= 0 /\ Zb <= (↑(pp.xs.length) : Int) /\ (0 <= n /\ n < (↑(w.length) : Int)) /\ (Zb <= (cel w n.toNat Zd).int /\ (cel w n.toNat Zd).int <= 0) /\ n < (↑(qs.xs.length) : Int) /\ Tt.InOk qs.xs ps.xs all pp.xs x.xs) (Ar .i64 (n + 1) fun z => A [.ro [Ty.sl Zdv] pp, .ro _ x, .i z, .ro _ qs, .ro _ ps, .i all, .l l, .l (List.set lo n.toNat [Cl.i (cel l n.toNat Zd).int]), .l (List.set hi n.toNat [Cl.i (cel l n.toNat (0+1)).int]), .l (Tt.wrI (Sp.qRight qs.xs n.toNat) pp.xs x.xs n.toNat (Int.toNat Zb) (pp.xs.length - Int.toNat Zb) w)])))))))))) (K 0 [.ro [Ty.sl Zdv] pp, .ro _ x, .ro _ qs, .ro _ ps, .i all, .l l, .l lo, .l hi, .l w])
theorem Xnm (W : InW) (pp x n qs ps all l lo hi w A K) : Yfh { cxT Try.prog TT TW4 1000 50 with fn := 3 } 1000 (Yor Try.prog 3 10) (Yd9 250 [(1, .rs _ pp), (2, .rs _ x), (3, .ptr 7 0), (7, .rw 1), (12, .rw 6), (13, .rw 9), (14, .rw 12), (15, .si .i64 n)] ([6, 16, 17] ++ rgg 69 68)) [(7, .blk 25 [.rs _ qs, .rs _ ps, .si .i64 all]), (1, .arr 36 Ja l), (6, .arr 3 Jc lo), (9, .arr 3 Jc hi), (12, .arr 3 Jc w)] (Yvi Xib A K) = Xfh pp x n qs ps all l lo hi w A K := by kernel_rfl
def Xhk : Prop := ∀ (W : InW) (body a : Code), (Try.prog.funcs[3]?).bind (·.body) = some body -> a ∈ Y1 body -> Yf2 a = 10 -> @Ym8 W Try.prog a (@Yum W Xib)
theorem Xpm (meas : [InW] -> List Ed -> Nat) (hyp_ : ∀ (W : InW) pp x n qs ps all l lo hi w K, Xgh [.ro _ pp, .ro _ x, .i n, .ro _ qs, .ro _ ps, .i all, .l l, .l lo, .l hi, .l w] K -> ∀ A : List Ed -> Prop, (∀ e, meas e < meas [.ro _ pp, .ro _ x, .i n, .ro _ qs, .ro _ ps, .i all, .l l, .l lo, .l hi, .l w] -> Xgh e K -> A e) -> Xfh pp x n qs ps all l lo hi w A K) : Xhk :=
 LE.okOf' (fun W => @TT W) (fun W => @Xc W) Xa TW4 1000 50 (by kernel_rfl) Xib (fun W => @meas W) fun W pp x n qs ps all l lo hi w K hs =>
  (Xnm W pp x n qs ps all l lo hi w (fun e => meas e < meas [.ro _ pp, .ro _ x, .i n, .ro _ qs, .ro _ ps, .i all, .l l, .l lo, .l hi, .l w] /\ Xgh e K) K).mpr (hyp_ W pp x n qs ps all l lo hi w K hs _ fun e h1 h2 => ⟨h1, h2⟩)
theorem Xsp : Xhk := Xpm (fun e => match e with | [_, _, .i n, _, _, _, .l l, _, _, _] => ((l.length : Int) - n).toNat | _ => 0) fun W pp x n qs ps all l lo hi w K hs A hA => by
 obtain ⟨⟨h0, h1, hw, hm⟩, hk⟩ := hs;unfold Xfh;delta Zdv Zb Zd;obtain ⟨lq, ll, lh, lw, hz⟩ := hw;have ez : (n + 1).toNat = n.toNat + 1 := by omega
 have k2 := hm.key.n2
 by_cases hi' : n < l.length
 ·rw [show l.length - n.toNat = (l.length - (n.toNat + 1)) + 1 by omega] at hk;simp only [Tt.colS, Tt.wrO] at hk;have z0 := hz n.toNat (by omega);rw [show Int.toNat 0 = 0 from rfl, Nat.sub_zero];refine vifd (fun _ => ned2 (by omega) (nedd (by omega) (ned2 (by omega) (nedd (by omega) (ned2 (by omega) (nedd (by omega) (ned2 (by omega) (nedd (by omega) (Xb ⟨by omega, by omega, by omega, by omega, by omega, hm⟩ (ar64 (by omega) (hA _ (show ((l.length : Int) - (n + 1)).toNat < ((l.length : Int) - n).toNat by omega) ⟨⟨by omega, by omega, ⟨lq, by rw [List.length_set]; exact ll, by rw [List.length_set]; exact lh, by rw [Tt.wrI_len]; exact lw, fun j hj => ?_⟩, hm⟩, ?_⟩))))))))))) fun c => by omega
  ·rw [Tt.wrI_ne (by omega)];exact hz j (by omega)
  ·rw [ez]; exact hk
 ·rw [show l.length - n.toNat = 0 by omega] at hk;simp only [Tt.colS, Tt.wrO] at hk;exact vifd (fun c => by omega) fun _ => hk
def Xto : LE Try.prog := ⟨3, 10, fun W => @Yum W Xib, Xsp⟩
def Xgj [InW] (e : List Ed) (K : Nat -> List Ed -> Prop) : Prop := match e with
 | [.i n, .l l, .l a, .l b, .l c] => Pre (0 <= n /\ n <= l.length /\ Tt.CmOk l a b c) (K 0 [.l l, .l a, .l b, .l c])
 | _ => False
def Xid : LC where
 len := 250
 T := [(7, (.row 1)), (19, (.row 4)), (20, (.row 7)), (21, (.row 10)), (23, .int .i64)]
 H := [(1, .arr 36 Ja), (4, .arr 3 Jc), (7, .arr 3 Jc), (10, .arr 3 Jc)]
 W := ([6] ++ rgg 196 26)
 outs := [⟨.exit 4, [(7, (.row 1)), (19, (.row 4)), (20, (.row 7)), (21, (.row 10))], [(1, .arr 36 Ja), (4, .arr 3 Jc), (7, .arr 3 Jc), (10, .arr 3 Jc)], ([6, 23] ++ rgg 196 26)⟩]
 spec := Xgj
def Xfj [W : InW] (n : Int) (l a b c : Dt) (A : List Ed -> Prop) (K : Nat -> List Ed -> Prop) : Prop :=
 Vif (decide (n < (↑(l.length) : Int))) (Need (decide (0 <= n) && decide (n < (↑(a.length) : Int))) (Need (decide (n.toNat < a.length)) (Need (decide (0 <= n) && decide (n < (↑(b.length) : Int))) (Need (decide (n.toNat < b.length)) (Vif (decide ((cel b n.toNat Zd).int < (cel a n.toNat Zd).int)) ((472 : Nat) = 472 + 1) (Need (decide (0 <= n) && decide (n < (↑(b.length) : Int))) (Need (decide (n.toNat < b.length)) (Need (decide (0 <= n) && decide (n < (↑(c.length) : Int))) (Need (decide (n.toNat < c.length)) (Vif (decide ((cel c n.toNat Zd).int < (cel b n.toNat Zd).int)) ((472 : Nat) = 472 + 1) (Ar .i64 (n + 1) fun z => A [.i z, .l l, .l a, .l b, .l c]))))))))))) (K 0 [.l l, .l a, .l b, .l c])
theorem Xno (W : InW) (n l a b c A K) : Yfh { cxT Try.prog TT TW0 1000 50 with fn := 3 } 1000 (Yor Try.prog 3 30) (Yd9 250 [(7, .rw 1), (19, .rw 4), (20, .rw 7), (21, .rw 10), (23, .si .i64 n)] ([6] ++ rgg 196 26)) [(1, .arr 36 Ja l), (4, .arr 3 Jc a), (7, .arr 3 Jc b), (10, .arr 3 Jc c)] (Yvi Xid A K) = Xfj n l a b c A K := by kernel_rfl
def Xhm : Prop := ∀ (W : InW) (body a : Code), (Try.prog.funcs[3]?).bind (·.body) = some body -> a ∈ Y1 body -> Yf2 a = 30 -> @Ym8 W Try.prog a (@Yum W Xid)
theorem Xpo (meas : [InW] -> List Ed -> Nat) (hyp_ : ∀ (W : InW) n l a b c K, Xgj [.i n, .l l, .l a, .l b, .l c] K -> ∀ A : List Ed -> Prop, (∀ e, meas e < meas [.i n, .l l, .l a, .l b, .l c] -> Xgj e K -> A e) -> Xfj n l a b c A K) : Xhm :=
 LE.okOf' (fun W => @TT W) (fun W => @Xc W) Xa TW0 1000 50 (by kernel_rfl) Xid (fun W => @meas W) fun W n l a b c K hs =>
  (Xno W n l a b c (fun e => meas e < meas [.i n, .l l, .l a, .l b, .l c] /\ Xgj e K) K).mpr (hyp_ W n l a b c K hs _ fun e h1 h2 => ⟨h1, h2⟩)
theorem Xsr : Xhm := Xpo (fun e => match e with | .i n :: .l l :: _ => ((l.length : Int) - n).toNat | _ => 0) fun W n l a b c K hs A hA => by
 obtain ⟨⟨h0, h1, hc⟩, hk⟩ := hs;unfold Xfj;delta Zd;obtain ⟨few, la, lb, lc, le⟩ := hc;refine vifd (fun e => ?_) fun _ => hk;have h := le n.toNat (by omega);exact ned2 (by omega) (nedd (by omega) (ned2 (by omega) (nedd (by omega) (vifd (fun c => by omega) fun _ => ned2 (by omega) (nedd (by omega) (ned2 (by omega) (nedd (by omega) (vifd (fun c => by omega) fun _ => ar64 (by omega) (hA _ (show ((l.length : Int) - (n + 1)).toNat < ((l.length : Int) - n).toNat by omega) ⟨⟨by omega, by omega, ⟨few, la, lb, lc, le⟩⟩, hk⟩)))))))))
def Xtq : LE Try.prog := ⟨3, 30, fun W => @Yum W Xid, Xsr⟩
open Sp
set_option maxHeartbeats 1600000
namespace Tt
def zs (n : Nat) : Dt := List.replicate n [Cl.i 0]
theorem zs_len (n : Nat) : (zs n).length = n := List.length_replicate
theorem zs_cel (n j : Nat) : (cel (zs n) j 0).int = 0 := by
 unfold cel zs;rw [List.getD_eq_getElem?_getD (l := List.replicate n _), List.getElem?_replicate]
 split <;> rfl
def lwD (l : Dt) : Dt := colS l 0 0 l.length (zs l.length)
def hwD (l : Dt) : Dt := colS l 1 0 l.length (zs l.length)
def wwD (qs pp x l : Dt) : Dt := wrO qs pp x 0 l.length (zs l.length)
structure Thr (qs pp x l : Dt) : Prop where
 l1 : 1 <= l.length
 l2 : l.length <= 12
 m20 : pp.length <= 20
 low : WOk pp.length l.length (lwD l)
 mid : WOk pp.length l.length (wwD qs pp x l)
 high : WOk pp.length l.length (hwD l)
 le1 : ∀ j, j < l.length -> (cel (lwD l) j 0).int <= (cel (wwD qs pp x l) j 0).int
 le2 : ∀ j, j < l.length -> (cel (wwD qs pp x l) j 0).int <= (cel (hwD l) j 0).int
theorem three {qs ps pp x l : Dt} {all : Int} (h : Sp.MsOk qs ps all pp x l) : Thr qs pp x l := by
 have hl := h.len;have k1 := h.key.n1;have k2 := h.key.n2;have e0 : ∀ j, j < l.length -> (cel (lwD l) j 0).int = (cel l j 0).int := fun j hj => by
  unfold lwD;rw [colS_cel _ _ _ (by rw [zs_len]; omega), if_pos (by omega)]
 have e1 : ∀ j, j < l.length -> (cel (hwD l) j 0).int = (cel l j 1).int := fun j hj => by
  unfold hwD;rw [colS_cel _ _ _ (by rw [zs_len]; omega), if_pos (by omega)]
 have e2 : ∀ j, j < l.length -> (cel (wwD qs pp x l) j 0).int = cnt (Sp.isI (Sp.qRight qs j) pp x j) 0 pp.length := fun j hj => by
  unfold wwD;rw [wrO_cel _ _ _ (by rw [zs_len]; omega), if_pos (by omega), zs_cel]; omega
 have b := fun f => cnt_bd (f := f) pp.length 0;refine ⟨by omega, by omega, h.n20, ⟨by unfold lwD; rw [colS_len, zs_len], fun j hj => ?_, fun j hj => ?_⟩, ⟨by unfold wwD; rw [wrO_len, zs_len], fun j hj => ?_, fun j hj => ?_⟩, ⟨by unfold hwD; rw [colS_len, zs_len], fun j hj => ?_, fun j hj => ?_⟩, fun j hj => ?_, fun j hj => ?_⟩
 ·rw [e0 j hj, h.lo j hj]; exact (b _).1
 ·rw [e0 j hj, h.lo j hj]; exact (b _).2
 ·rw [e2 j hj]; exact (b _).1
 ·rw [e2 j hj]; exact (b _).2
 ·rw [e1 j hj, h.hi j hj]; exact (b _).1
 ·rw [e1 j hj, h.hi j hj]; exact (b _).2
 ·rw [e0 j hj, e2 j hj, h.lo j hj]; exact (h.le hj _).1
 ·rw [e1 j hj, e2 j hj, h.hi j hj]; exact (h.le hj _).2
def bk (pp w : Dt) : Dt := bkD pp.length w w.length
def wv (pp w : Dt) : Dt := Sq.wts (bk pp w) w.length
theorem wv_len (pp w : Dt) : (wv pp w).length = w.length := Sq.length_wts _ _
structure BOk (pp w : Dt) (n : Nat) : Prop where
 chk : ∀ lo hi : Int, 0 <= lo -> lo <= hi -> hi <= 16000 -> Sq.chkE (bk pp w) [[.i (w.length : Int)]] lo hi = 0
 wts : ∀ lo hi : Int, 0 <= lo -> lo <= hi -> hi <= 16000 -> Sq.wtsR (bk pp w) [[.i (w.length : Int)]] lo hi = wv pp w
 len : w.length = n
 b : ∀ j, j < n -> 0 <= (cel (wv pp w) j 0).int /\ (cel (wv pp w) j 0).int <= 1000
theorem bok {pp w : Dt} {n : Nat} (hw : WOk pp.length n w) (h1 : 1 <= n) (h2 : n <= 12) (hm : pp.length <= 20) : BOk pp w n := by
 have hl := hw.len;have hc : ∀ lo hi : Int, 0 <= lo -> lo <= hi -> hi <= 16000 -> Sq.BankV (bk pp w) [[.i (w.length : Int)]] lo hi := fun lo hi a b c => by
  unfold bk; rw [hl];exact bank hw h1 h2 (by omega) a b c
 refine ⟨fun lo hi a b c => Sq.chkE_iff.2 (hc lo hi a b c), fun lo hi a b c => ?_, hl, fun j hj => ?_⟩
 ·unfold Sq.wtsR;rw [if_pos (Sq.chkE_iff.2 (hc lo hi a b c))];unfold wv; rw [show (bk pp w).length = w.length from bkD_len _ _ _]
 ·unfold wv;rw [Sq.cel_wts (by omega)];exact (hc 0 16000 (by omega) (by omega) (by omega)).wt (by rw [show (bk pp w).length = w.length from bkD_len _ _ _]; omega)
theorem wv_le {pp w v : Dt} {n : Nat} (hw : w.length = n) (hv : v.length = n) (h0 : ∀ j, j < n -> 0 <= (cel w j 0).int) (h : ∀ j, j < n -> (cel w j 0).int <= (cel v j 0).int) (j : Nat) (hj : j < n) : (cel (wv pp w) j 0).int <= (cel (wv pp v) j 0).int := by
 unfold wv;rw [Sq.cel_wts (by omega), Sq.cel_wts (by omega)];unfold bk;rw [hw, hv];exact wt_mono hj (by omega) (h0 j hj) (h j hj)
theorem sumD_le {a b : Dt} : ∀ n i, (∀ j, i <= j -> j < i + n -> (cel a j 0).int <= (cel b j 0).int) -> sumD a i n <= sumD b i n
 | 0, _, _ => Int.le_refl _
 | n + 1, i, h => by
  have := sumD_le n (i + 1) fun j h1 h2 => h j (by omega) (by omega);have := h i (Nat.le_refl _) (by omega);rw [sumD, sumD]; omega
theorem sumD_bd {a : Dt} : ∀ n i, (∀ j, i <= j -> j < i + n -> 0 <= (cel a j 0).int /\ (cel a j 0).int <= 1000) -> 0 <= sumD a i n /\ sumD a i n <= 1000 * n
 | 0, _, _ => by simp [sumD]
 | n + 1, i, h => by
  have := sumD_bd n (i + 1) fun j h1 h2 => h j (by omega) (by omega);have := h i (Nat.le_refl _) (by omega);rw [sumD]; omega
theorem one {pp w : Dt} {n : Nat} {lo hi : Int} (hw : WOk pp.length n w) (h1 : 1 <= n) (h2 : n <= 12) (hm : pp.length <= 20) (l0 : 0 <= lo) (hh : hi <= 16000) (hl : lo <= sumD (wv pp w) 0 n) (hu : sumD (wv pp w) 0 n <= hi) : Sq.chkE (bk pp w) [[.i (w.length : Int)]] lo hi = 0 /\ Sq.cntR (bk pp w) [[.i (w.length : Int)]] lo hi = 1 := by
 have e : sumD (wv pp w) 0 n = sumW (bkD pp.length w n) 0 n := by
  unfold wv bk;rw [hw.len];exact sumD_wts n 0 (by omega)
 rw [e] at hl hu;unfold bk;rw [hw.len];exact one_paper hw h1 h2 (by omega) l0 hh hl hu
end Tt
end Go.Proofs.Ytfbhampnigdaaaa
