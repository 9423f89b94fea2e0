/-
  'CourseBack': for every input the law returns true, and what is handed in reads as before. No condition.
-/
import Derived.Test.YtmogofidmchdoaaQbkd
import Derived.Test.YtmogofidmchdoaaRows
import Derived.WalkKit
import Derived.ProofKit
set_option linter.unusedVariables false
set_option linter.unusedSectionVars false
set_option linter.unusedSimpArgs false
namespace Go.Proofs.Ytmogofidmchdoaa
open Go.RowKit
set_option maxRecDepth 100000
theorem Xcr {xs : Dt} (h : (List.range xs.length).all (fun i => decide ((Sp.nm xs i).size <= 9223372036854775807)) = true) : Sp.NamesOk xs := by
 intro i
 by_cases hi : i < xs.length
 ·have := List.all_eq_true.1 h i (List.mem_range.2 hi);exact of_decide_eq_true this
 ·have e : Sp.nm xs i = Sp.nm [] 0 := by
   unfold Sp.nm cel;rw [show xs.getD i [] = [] by rw [List.getD_eq_getElem?_getD, List.getElem?_eq_none (by omega)]; rfl];rfl
  rw [e];decide +kernel
theorem vif_t [InW] {b : Bool} {A B : Prop} (hb : b = true) (ha : A) : Vif b A B := Vif_iff.2 ⟨fun _ => ha, fun h => absurd (hb.symm.trans h) (by decide)⟩
theorem Xpj [W : InW] (Q : DS -> Prop) (h : Q [[.b true]]) : Xcl Q := by
 unfold Xcl;delta Zdz Zdx Zdq Zdv Zdw Zea Zds Zdu Zh Zdt Zdr Zdp Zdy
 iterate 7 refine Pre_iff.2 ⟨⟨Xcr (by kernel_rfl), Xcr (by kernel_rfl), Xcr (by kernel_rfl)⟩, ?_⟩
 repeat first | refine vif_t (by kernel_rfl) ?_ | refine Pre_iff.2 ⟨trivial, ?_⟩ | refine Pre_iff.2 ⟨by decide +kernel, ?_⟩
 exact (congrArg Q (by kernel_rfl)).mpr h
noncomputable def Xny : PC Try.prog := ⟨20, [], [(false, [.bool])], fun _ => True, fun _ => [[.b true]], Xo2 fun W hp Q h => Xpj Q h⟩
set_option maxHeartbeats 1600000
namespace Sp
theorem haE_in {pl sh ti st : Dt} {ce : Int} {hd rt : Dt} {a : Int} (hc : cE pl sh ti st ce hd rt = 0) (h0 : 0 <= a) (h1 : a < rt.length) : haE pl sh ti st ce hd rt a = 0 := by
 unfold haE rtsE;rw [if_pos hc, if_neg];simp [out, outs, inr, cel, Cl.int];omega
theorem pairE_in {pl sh ti st : Dt} {ce : Int} {hd rt : Dt} {a b : Int} (hc : cE pl sh ti st ce hd rt = 0) (h0 : 0 <= a) (h1 : a < rt.length) (h2 : 0 <= b) (h3 : b < rt.length) : pairE pl sh ti st ce hd rt a b = 0 := by
 unfold pairE rtsE;rw [if_pos hc, if_neg];simp [out, outs, inr, cel, Cl.int];omega
end Sp
set_option maxHeartbeats 3200000
noncomputable def TK12 : Tab Try.prog := ⟨[], [], []⟩
def Xik [InW] (e : List Ed) (K : Nat -> List Ed -> Prop) : Prop := match e with
 | [.i s, .ro _ pl2, .ro _ sh2, .ro _ ti2, .i ce2, .ro _ hd2, .ro _ rt2, .l sb] => Pre (sb.length <= 40 /\ 0 <= s /\ s <= sb.length)
   (K 0 [.ro _ pl2, .ro _ sh2, .ro _ ti2, .i ce2, .ro _ hd2, .ro _ rt2, .l (Sp.bothF sb s.toNat)])
 | _ => False
noncomputable def Xjr : LC where
 len := 182
 T := [(5, (.ptr 13 0)), (6, .int .i64)]
 H := [(13, .blk 29 [.rs Jb, .rs Jb, .rs Jb, (.row 30), .int .i64, .rs Iv4, .rs Je]), (30, .nst 88 [.int .i64, .int .i64, .int .i64, .int .i64, .int .i64, .bool, .sl Ja])]
 W := (rg 42 14)
 outs := [⟨.exit 0, [(5, (.ptr 13 0))], [(13, .blk 29 [.rs Jb, .rs Jb, .rs Jb, (.row 33), .int .i64, .rs Iv4, .rs Je]), (33, .nst 88 [.int .i64, .int .i64, .int .i64, .int .i64, .int .i64, .bool, .sl Ja])], ([6] ++ rg 42 14)⟩]
 spec := Xik
def Xh1 [W : InW] (s : Int) (pl2 sh2 ti2 : Ro Jb) (ce2 : Int) (hd2 : Ro Iv4) (rt2 : Ro Je) (sb : Dt) (A : List Ed -> Prop) (K : Nat -> List Ed -> Prop) : Prop :=
 Vif (decide (s < (↑(sb.length) : Int))) (Need (decide (0 <= s) && decide (s < (↑(sb.length) : Int))) (Need (decide (s.toNat < sb.length)) (Ar .i64 (s + 1) fun z => A [.i z, .ro _ pl2, .ro _ sh2, .ro _ ti2, .i ce2, .ro _ hd2, .ro Zdf rt2, .l (List.set sb s.toNat (Ybt (List.getD sb s.toNat []) (4+1) [Cl.b true]))]))) (K 0 [.ro _ pl2, .ro _ sh2, .ro _ ti2, .i ce2, .ro _ hd2, .ro Zdf rt2, .l sb])
theorem Xqf (W : InW) (s pl2 sh2 ti2 ce2 hd2 rt2 sb A K) : Ye6 { cxT Try.prog TT TK12 1000 50 with fn := 12 } 1000 (Ym7 Try.prog 12 7) (Yd5 182 [(5, .ptr 13 0), (6, .si .i64 s)] (rg 42 14)) [(13, .blk 29 [.rs _ pl2, .rs _ sh2, .rs _ ti2, .rw 30, .si .i64 ce2, .rs _ hd2, .rs _ rt2]), (30, .nst 88 [.int .i64, .int .i64, .int .i64, .int .i64, .int .i64, .bool, .sl Ja] sb)] (Ys7 Xjr A K) = Xh1 s pl2 sh2 ti2 ce2 hd2 rt2 sb A K := by kernel_rfl
def Xjb : Prop := ∀ (W : InW) (body a : Code), (Try.prog.funcs[12]?).bind (·.body) = some body -> a ∈ Yu body -> Yfq a = 7 -> @Yl3 W Try.prog a (@Ysd W Xjr)
theorem Xrm (meas : [InW] -> List Ed -> Nat) (hyp_ : ∀ (W : InW) s pl2 sh2 ti2 ce2 hd2 rt2 sb K, Xik [.i s, .ro _ pl2, .ro _ sh2, .ro _ ti2, .i ce2, .ro _ hd2, .ro _ rt2, .l sb] K -> ∀ A : List Ed -> Prop, (∀ e, meas e < meas [.i s, .ro _ pl2, .ro _ sh2, .ro _ ti2, .i ce2, .ro _ hd2, .ro _ rt2, .l sb] -> Xik e K -> A e) -> Xh1 s pl2 sh2 ti2 ce2 hd2 rt2 sb A K) : Xjb :=
 LE.okOf' (fun W => @TT W) (fun W => @Xb W) Xa TK12 1000 50 (by kernel_rfl) Xjr (fun W => @meas W) fun W s pl2 sh2 ti2 ce2 hd2 rt2 sb K hs =>
  (Xqf W s pl2 sh2 ti2 ce2 hd2 rt2 sb (fun e => meas e < meas [.i s, .ro _ pl2, .ro _ sh2, .ro _ ti2, .i ce2, .ro _ hd2, .ro _ rt2, .l sb] /\ Xik e K) K).mpr (hyp_ W s pl2 sh2 ti2 ce2 hd2 rt2 sb K hs _ fun e h1 h2 => ⟨h1, h2⟩)
theorem Xt6 : Xjb := Xrm (fun e => match e with | [.i s, _, _, _, _, _, _, .l sb] => ((sb.length : Int) - s).toNat | _ => 0) fun W s pl2 sh2 ti2 ce2 hd2 rt2 sb K hs A hA => by
 obtain ⟨⟨ok, s0, s1⟩, hk⟩ := hs;unfold Xh1;delta Zdf;refine vifd (fun e => ned (by simp; omega) (nedd (by omega) (ar64 (by omega) (hA _ (by show (((sb.set _ _).length : Int) - (s + 1)).toNat < ((sb.length : Int) - s).toNat; rw [List.length_set]; omega) ⟨⟨by rw [List.length_set]; exact ok, by omega, by rw [List.length_set]; omega⟩, ?_⟩)))) fun e => ?_
 ·rw [show (s + 1).toNat = s.toNat + 1 by omega, Sp.bothF_step (by omega)];exact hk
 ·rw [show s.toNat = sb.length by omega, Sp.bothF_end] at hk;exact hk
noncomputable def Xuo : LE Try.prog := ⟨12, 7, fun W => @Ysd W Xjr, Xt6⟩
def Xil [InW] (e : List Ed) (K : Nat -> List Ed -> Prop) : Prop := match e with
 | [.i a, .i i, .ro _ pl, .ro _ sh, .ro _ ti, .ro _ st, .i ce, .ro _ hd, .ro _ rt, .l l] => Pre ((0 <= a /\ a < rt.xs.length) /\ (Sp.rtL rt.xs a.toNat).length <= 60 /\ (-1 <= i /\ i < (Sp.rtL rt.xs a.toNat).length) /\ l = (Sp.backL (Sp.rtL rt.xs a.toNat)).take ((Sp.rtL rt.xs a.toNat).length - (i + 1).toNat))
   (K 0 [.i a, .ro _ pl, .ro _ sh, .ro _ ti, .ro _ st, .i ce, .ro _ hd, .ro _ rt, .l (Sp.backL (Sp.rtL rt.xs a.toNat))])
 | _ => False
noncomputable def Xjs : LC where
 len := 182
 T := [(2, (.ptr 1 0)), (7, .int .i64), (10, (.row 6)), (11, .int .i64)]
 H := [(1, .blk 29 [.rs Jb, .rs Jb, .rs Jb, .rs Jd, .int .i64, .rs Iv4, .rs Je]), (6, .arr 91 Jf)]
 W := ([12] ++ rg 83 20)
 outs := [⟨.exit 2, [(2, (.ptr 1 0)), (7, .int .i64), (10, (.row 9))], [(1, .blk 29 [.rs Jb, .rs Jb, .rs Jb, .rs Jd, .int .i64, .rs Iv4, .rs Je]), (9, .arr 91 Jf)], ([11, 12] ++ rg 83 20)⟩]
 spec := Xil
def Zeb [W : InW] (a i : Int) (rt : Ro Je) := [[Cl.i (cel (cel rt.xs a.toNat Zbg).lst i.toNat Zbg).int, Cl.b !(cel (cel rt.xs a.toNat Zbg).lst i.toNat (0+1)).bool]]
def Xh2 [W : InW] (a i : Int) (pl sh ti : Ro Jb) (st : Ro Jd) (ce : Int) (hd : Ro Iv4) (rt : Ro Je) (l : Dt) (A : List Ed -> Prop) (K : Nat -> List Ed -> Prop) : Prop :=
 Vif (decide (0 <= i)) (Need (decide (0 <= a) && decide (a < (↑(rt.xs.length) : Int))) (Need (decide (a.toNat < rt.xs.length)) (Need (decide (0 <= i) && decide (i < (↑(List.length (cel rt.xs a.toNat Zbg).lst) : Int))) (Need (decide (i.toNat < List.length (cel rt.xs a.toNat Zbg).lst)) (Need (decide ((l.length + (Zeb a i rt).length) * 16 <= 140737488355328)) (Ar .i64 (i - 1) fun z => A [.i a, .i z, .ro _ pl, .ro _ sh, .ro _ ti, .ro Zc st, .i ce, .ro _ hd, .ro Zdf rt, .l (l ++ (Zeb a i rt))])))))) (K 0 [.i a, .ro _ pl, .ro _ sh, .ro _ ti, .ro Zc st, .i ce, .ro _ hd, .ro Zdf rt, .l l])
theorem Xqg (W : InW) (a i pl sh ti st ce hd rt l A K) : Ye6 { cxT Try.prog TT TK12 1000 50 with fn := 12 } 1000 (Ym7 Try.prog 12 15) (Yd5 182 [(2, .ptr 1 0), (7, .si .i64 a), (10, .rw 6), (11, .si .i64 i)] ([12] ++ rg 83 20)) [(1, .blk 29 [.rs _ pl, .rs _ sh, .rs _ ti, .rs _ st, .si .i64 ce, .rs _ hd, .rs _ rt]), (6, .arr 91 Jf l)] (Ys7 Xjs A K) = Xh2 a i pl sh ti st ce hd rt l A K := by kernel_rfl
def Xjc : Prop := ∀ (W : InW) (body a : Code), (Try.prog.funcs[12]?).bind (·.body) = some body -> a ∈ Yu body -> Yfq a = 15 -> @Yl3 W Try.prog a (@Ysd W Xjs)
theorem Xrn (meas : [InW] -> List Ed -> Nat) (hyp_ : ∀ (W : InW) a i pl sh ti st ce hd rt l K, Xil [.i a, .i i, .ro _ pl, .ro _ sh, .ro _ ti, .ro _ st, .i ce, .ro _ hd, .ro _ rt, .l l] K -> ∀ A : List Ed -> Prop, (∀ e, meas e < meas [.i a, .i i, .ro _ pl, .ro _ sh, .ro _ ti, .ro _ st, .i ce, .ro _ hd, .ro _ rt, .l l] -> Xil e K -> A e) -> Xh2 a i pl sh ti st ce hd rt l A K) : Xjc :=
 LE.okOf' (fun W => @TT W) (fun W => @Xb W) Xa TK12 1000 50 (by kernel_rfl) Xjs (fun W => @meas W) fun W a i pl sh ti st ce hd rt l K hs =>
  (Xqg W a i pl sh ti st ce hd rt l (fun e => meas e < meas [.i a, .i i, .ro _ pl, .ro _ sh, .ro _ ti, .ro _ st, .i ce, .ro _ hd, .ro _ rt, .l l] /\ Xil e K) K).mpr (hyp_ W a i pl sh ti st ce hd rt l K hs _ fun e h1 h2 => ⟨h1, h2⟩)
theorem Xt7 : Xjc := Xrn (fun e => match e with | _ :: .i i :: _ => (i + 1).toNat | _ => 0) fun W a i pl sh ti st ce hd rt l K hs A hA => by
 obtain ⟨⟨ha, ok, hi, rfl⟩, hk⟩ := hs;unfold Xh2;delta Zeb Zdf Zc Zbg;have e1 : (cel rt.xs a.toNat 0).lst = Sp.rtL rt.xs a.toNat := rfl;rw [e1];generalize hr : Sp.rtL rt.xs a.toNat = r at *;refine vifd (fun e => ?_) fun e => ?_
 ·have hi' : (i + 1).toNat = i.toNat + 1 := by omega
  have es := Sp.take_back (l := r) (k := r.length - (i + 1).toNat) (by omega);rw [show r.length - (i + 1).toNat + 1 = r.length - i.toNat by omega, show r.length - 1 - (r.length - (i + 1).toNat) = i.toNat by omega] at es;have go : A [.i a, .i (i - 1), .ro _ pl, .ro _ sh, .ro _ ti, .ro _ st, .i ce, .ro _ hd, .ro _ rt, .l ((Sp.backL r).take (r.length - (i + 1).toNat) ++ [[Cl.i (Sp.xS r i.toNat), Cl.b (!Sp.xB r i.toNat)]])] := hA _ (by show (i - 1 + 1).toNat < (i + 1).toNat; omega) ⟨⟨ha, by rw [hr]; exact ok, by rw [hr]; omega, by rw [hr, <- es, show i - 1 + 1 = i by omega]⟩, by rw [hr]; exact hk⟩;have hl : ((Sp.backL r).take (r.length - (i + 1).toNat)).length <= 60 := by rw [List.length_take]; omega
  clear hA hk
  repeat (first | exact go | (with_reducible refine nedd ?_ ?_; omega) | (with_reducible refine ned ?_ ?_; simp; omega) | with_reducible refine ar64 ?_ ?_; omega)
 ·rw [show (i + 1).toNat = 0 by omega, Nat.sub_zero, <- Sp.back_len r, List.take_length] ;exact hk
noncomputable def Xup : LE Try.prog := ⟨12, 15, fun W => @Ysd W Xjs, Xt7⟩
noncomputable def Xuv : Tab Try.prog := ⟨[Xnp, Xiw, Xgc, Xlb, Xgd, Xg7, Xny], [Xuo, Xup], []⟩
def Zee [W : InW] (c_Pl c_Sh c_Ti : Ro Jb) := Sp.NamesOk c_Pl.xs /\ Sp.NamesOk c_Sh.xs /\ Sp.NamesOk c_Ti.xs
def Zec [W : InW] (c_Rt : Ro Je) := (↑(c_Rt.xs.length) : Int)
def Zed [W : InW] (c_St : Ro Jd) := Sp.bothF c_St.xs (Int.toNat Zh)
def Xb1 [W : InW] (c_Pl c_Sh c_Ti : Ro Jb) (c_St : Ro Jd) (c_Ce : Int) (c_Hd : Ro Iv4) (c_Rt : Ro Je) (y_ya y_yb : Int) (Q : DS -> Prop) : Prop :=
 Pre (Zee c_Pl c_Sh c_Ti) (Vif (!decide (Sp.cE c_Pl.xs c_Sh.xs c_Ti.xs c_St.xs c_Ce c_Hd.xs c_Rt.xs = 0)) (Pre True (Q [[Cl.b true]])) (Vif (decide ((Zec c_Rt) = 0)) (Pre True (Q [[Cl.b true]])) (Need (decide (c_St.xs.length * 72 <= 140737488355328)) (Pre (c_St.xs.length <= 40 /\ Zh <= 0 /\ Zh <= (↑(c_St.xs.length) : Int)) (Ar .i64 y_ya fun z => Need (!decide ((Zec c_Rt) = 0)) (Ar .i64 y_yb fun z_1 => Need (!decide ((Zec c_Rt) = 0)) (Need (decide (c_Rt.xs.length * 24 <= 140737488355328)) (Need (decide (0 <= z.tmod (Zec c_Rt)) && decide (z.tmod (Zec c_Rt) < (Zec c_Rt))) (Need (decide ((z.tmod (Zec c_Rt)).toNat < c_Rt.xs.length)) (Ar .i64 ((↑(List.length (cel c_Rt.xs (z.tmod (Zec c_Rt)).toNat Zbg).lst) : Int) - 1) fun z_2 => Pre ((0 <= z.tmod (Zec c_Rt) /\ z.tmod (Zec c_Rt) < (Zec c_Rt)) /\ List.length (Sp.rtL c_Rt.xs (z.tmod (Zec c_Rt)).toNat) <= 60 /\ ((-1 : Int) <= z_2 /\ z_2 < (↑(List.length (Sp.rtL c_Rt.xs (z.tmod (Zec c_Rt)).toNat)) : Int)) /\ [] = List.take (List.length (Sp.rtL c_Rt.xs (z.tmod (Zec c_Rt)).toNat) - (z_2 + 1).toNat) (Sp.backL (Sp.rtL c_Rt.xs (z.tmod (Zec c_Rt)).toNat))) (Need (decide (0 <= z.tmod (Zec c_Rt)) && decide (z.tmod (Zec c_Rt) < (Zec c_Rt))) (Need (decide ((z.tmod (Zec c_Rt)).toNat < c_Rt.xs.length)) (Pre (Zee c_Pl c_Sh c_Ti) (Pre (Zee c_Pl c_Sh c_Ti) (Pre (Zee c_Pl c_Sh c_Ti) (Pre (Zee c_Pl c_Sh c_Ti) (Pre (Zee c_Pl c_Sh c_Ti) (Vif (decide (Sp.haE c_Pl.xs c_Sh.xs c_Ti.xs (Zed c_St) c_Ce c_Hd.xs c_Rt.xs (z.tmod (Zec c_Rt)) = 0)) (Vif (decide (Sp.haE c_Pl.xs c_Sh.xs c_Ti.xs (Zed c_St) c_Ce c_Hd.xs (List.set c_Rt.xs (z.tmod (Zec c_Rt)).toNat (Ybt (List.getD c_Rt.xs (z.tmod (Zec c_Rt)).toNat []) Zbg [Cl.l (Sp.backL (Sp.rtL c_Rt.xs (z.tmod (Zec c_Rt)).toNat))])) (z.tmod (Zec c_Rt)) = 0)) (Vif (decide (Sp.pairE c_Pl.xs c_Sh.xs c_Ti.xs (Zed c_St) c_Ce c_Hd.xs c_Rt.xs (z.tmod (Zec c_Rt)) (z_1.tmod (Zec c_Rt)) = 0)) (Vif (decide (Sp.pairE c_Pl.xs c_Sh.xs c_Ti.xs (Zed c_St) c_Ce c_Hd.xs (List.set c_Rt.xs (z.tmod (Zec c_Rt)).toNat (Ybt (List.getD c_Rt.xs (z.tmod (Zec c_Rt)).toNat []) Zbg [Cl.l (Sp.backL (Sp.rtL c_Rt.xs (z.tmod (Zec c_Rt)).toNat))])) (z.tmod (Zec c_Rt)) (z_1.tmod (Zec c_Rt)) = 0)) (Vif (decide (Sp.drvE c_Pl.xs c_Sh.xs c_Ti.xs (Zed c_St) c_Ce Zh (Sp.backL (Sp.rtL c_Rt.xs (z.tmod (Zec c_Rt)).toNat)) = 0)) (Vif (decide (Sp.hvLo c_Pl.xs c_Sh.xs c_Ti.xs (Zed c_St) c_Ce c_Hd.xs c_Rt.xs (z.tmod (Zec c_Rt)) = Sp.hvLo c_Pl.xs c_Sh.xs c_Ti.xs (Zed c_St) c_Ce c_Hd.xs (List.set c_Rt.xs (z.tmod (Zec c_Rt)).toNat (Ybt (List.getD c_Rt.xs (z.tmod (Zec c_Rt)).toNat []) Zbg [Cl.l (Sp.backL (Sp.rtL c_Rt.xs (z.tmod (Zec c_Rt)).toNat))])) (z.tmod (Zec c_Rt))) && (decide (Sp.hvHi c_Pl.xs c_Sh.xs c_Ti.xs (Zed c_St) c_Ce c_Hd.xs c_Rt.xs (z.tmod (Zec c_Rt)) = Sp.hvHi c_Pl.xs c_Sh.xs c_Ti.xs (Zed c_St) c_Ce c_Hd.xs (List.set c_Rt.xs (z.tmod (Zec c_Rt)).toNat (Ybt (List.getD c_Rt.xs (z.tmod (Zec c_Rt)).toNat []) Zbg [Cl.l (Sp.backL (Sp.rtL c_Rt.xs (z.tmod (Zec c_Rt)).toNat))])) (z.tmod (Zec c_Rt))) && true)) (Pre True (Vif (decide (Sp.paLo c_Pl.xs c_Sh.xs c_Ti.xs (Zed c_St) c_Ce c_Hd.xs c_Rt.xs (z.tmod (Zec c_Rt)) (z_1.tmod (Zec c_Rt)) = Sp.paLo c_Pl.xs c_Sh.xs c_Ti.xs (Zed c_St) c_Ce c_Hd.xs (List.set c_Rt.xs (z.tmod (Zec c_Rt)).toNat (Ybt (List.getD c_Rt.xs (z.tmod (Zec c_Rt)).toNat []) Zbg [Cl.l (Sp.backL (Sp.rtL c_Rt.xs (z.tmod (Zec c_Rt)).toNat))])) (z.tmod (Zec c_Rt)) (z_1.tmod (Zec c_Rt))) && decide (Sp.paHi c_Pl.xs c_Sh.xs c_Ti.xs (Zed c_St) c_Ce c_Hd.xs c_Rt.xs (z.tmod (Zec c_Rt)) (z_1.tmod (Zec c_Rt)) = Sp.paHi c_Pl.xs c_Sh.xs c_Ti.xs (Zed c_St) c_Ce c_Hd.xs (List.set c_Rt.xs (z.tmod (Zec c_Rt)).toNat (Ybt (List.getD c_Rt.xs (z.tmod (Zec c_Rt)).toNat []) Zbg [Cl.l (Sp.backL (Sp.rtL c_Rt.xs (z.tmod (Zec c_Rt)).toNat))])) (z.tmod (Zec c_Rt)) (z_1.tmod (Zec c_Rt))) && (Sp.ints (Sp.paLe c_Pl.xs c_Sh.xs c_Ti.xs (Zed c_St) c_Ce c_Hd.xs c_Rt.xs (z.tmod (Zec c_Rt)) (z_1.tmod (Zec c_Rt))) (Sp.paLe c_Pl.xs c_Sh.xs c_Ti.xs (Zed c_St) c_Ce c_Hd.xs (List.set c_Rt.xs (z.tmod (Zec c_Rt)).toNat (Ybt (List.getD c_Rt.xs (z.tmod (Zec c_Rt)).toNat []) Zbg [Cl.l (Sp.backL (Sp.rtL c_Rt.xs (z.tmod (Zec c_Rt)).toNat))])) (z.tmod (Zec c_Rt)) (z_1.tmod (Zec c_Rt))) && Sp.ints (Sp.paGr c_Pl.xs c_Sh.xs c_Ti.xs (Zed c_St) c_Ce c_Hd.xs c_Rt.xs (z.tmod (Zec c_Rt)) (z_1.tmod (Zec c_Rt))) (Sp.paGr c_Pl.xs c_Sh.xs c_Ti.xs (Zed c_St) c_Ce c_Hd.xs (List.set c_Rt.xs (z.tmod (Zec c_Rt)).toNat (Ybt (List.getD c_Rt.xs (z.tmod (Zec c_Rt)).toNat []) Zbg [Cl.l (Sp.backL (Sp.rtL c_Rt.xs (z.tmod (Zec c_Rt)).toNat))])) (z.tmod (Zec c_Rt)) (z_1.tmod (Zec c_Rt))))) (Pre True (Vif (Sp.ints (Sp.paLe c_Pl.xs c_Sh.xs c_Ti.xs (Zed c_St) c_Ce c_Hd.xs c_Rt.xs (z.tmod (Zec c_Rt)) (z_1.tmod (Zec c_Rt))) (Sp.paLe c_Pl.xs c_Sh.xs c_Ti.xs (Zed c_St) c_Ce c_Hd.xs (List.set c_Rt.xs (z.tmod (Zec c_Rt)).toNat (Ybt (List.getD c_Rt.xs (z.tmod (Zec c_Rt)).toNat []) Zbg [Cl.l (Sp.backL (Sp.rtL c_Rt.xs (z.tmod (Zec c_Rt)).toNat))])) (z.tmod (Zec c_Rt)) (z_1.tmod (Zec c_Rt)))) (Pre True (Q [[Cl.b true]])) (Q Zdw))) (Q Zdw))) (Q Zdw)) (Q Zdw)) (Q Zdw)) (Q Zdw)) (Q Zdw)) (Q Zdw)))))))))))))))))))
theorem Xj1 (W : InW) (c_Pl c_Sh c_Ti c_St c_Ce c_Hd c_Rt y_ya y_yb Q) : Yvd (cxT Try.prog TT Xuv 1000 50) 1000 12 [.agg [.rs _ c_Pl, .rs _ c_Sh, .rs _ c_Ti, .rs _ c_St, .si .i64 c_Ce, .rs _ c_Hd, .rs _ c_Rt], .agg [.si .u8 y_ya, .si .u8 y_yb]] [] 0 (Yzg [(false, [.bool])] Q) (fun _ _ _ _ => Stuck 421) = Xb1 c_Pl c_Sh c_Ti c_St c_Ce c_Hd c_Rt y_ya y_yb Q := by kernel_rfl
abbrev X5 : List AT := [.agg [.sl Jb, .sl Jb, .sl Jb, .sl Jd, .int .i64, .sl Iv4, .sl Je], .agg [.int .u8, .int .u8]]
theorem Xkb {pre : DS -> Prop} {res : DS -> DS} (hyp_ : ∀ (W : InW) (c_Pl c_Sh c_Ti : Ro Jb) (c_St : Ro Jd) (c_Ce : Int) (c_Hd : Ro Iv4) (c_Rt : Ro Je) (y_ya y_yb : Int), pre [[.l c_Pl.xs, .l c_Sh.xs, .l c_Ti.xs, .l c_St.xs, .i c_Ce, .l c_Hd.xs, .l c_Rt.xs], [.i y_ya, .i y_yb]] -> ∀ Q : DS -> Prop, Q (res [[.l c_Pl.xs, .l c_Sh.xs, .l c_Ti.xs, .l c_St.xs, .i c_Ce, .l c_Hd.xs, .l c_Rt.xs], [.i y_ya, .i y_yb]]) -> Xb1 c_Pl c_Sh c_Ti c_St c_Ce c_Hd c_Rt y_ya y_yb Q) : PureOk Try.prog 12 X5 [(false, [.bool])] pre res :=
 PureOk.of' (fun W => @TT W) (fun W => @Xb W) Xa Xuv 1000 50 fun W c_Pl c_Sh c_Ti c_St c_Ce c_Hd c_Rt y_ya y_yb hp =>
  (Xj1 W c_Pl c_Sh c_Ti c_St c_Ce c_Hd c_Rt y_ya y_yb (fun o => o = res [[.l c_Pl.xs, .l c_Sh.xs, .l c_Ti.xs, .l c_St.xs, .i c_Ce, .l c_Hd.xs, .l c_Rt.xs], [.i y_ya, .i y_yb]])).mpr (hyp_ W c_Pl c_Sh c_Ti c_St c_Ce c_Hd c_Rt y_ya y_yb hp _ rfl)
theorem Xgu : PureOk Try.prog 12 X5 [(false, [.bool])] (WfD X5) fun _ => [[.b true]] :=
 Xkb fun W pl sh ti st ce hd rt ya yb hp Q h => by
  obtain ⟨d, ds, e1, hp1, hp2⟩ := hp;cases e1;have hn := Xgz hp1;have hx := (WfD.head hp2).1;have x1 := Xsy (WfL.head hx).1;have x2 := Xsy (WfL.head (WfL.head hx).2).1;clear hx;unfold Xb1;delta Zed Zdw Zec Zbg Zh Zee;refine Xe hn (vifn (fun e => Xe trivial h) (fun e => ?_));have hce : Sp.cE pl.xs sh.xs ti.xs st.xs ce hd.xs rt.xs = 0 := e;refine vifd (fun _ => Xe trivial h) (fun hz => ?_);have hC := Sp.cchk_ok hce;have hB := Sp.both_all st.xs;have hr := hC.rl;have hs := hC.tw.stL;refine nedd (by omega) (Xe ⟨hs, by omega, by omega⟩ (ar64 (by omega) (ned (by rw [decide_eq_false (by omega)]; rfl) (ar64 (by omega) (ned (by rw [decide_eq_false (by omega)]; rfl) (nedd (by omega) ?_))))));have ea : Int.toNat 0 = 0 := rfl;rw [ea];have ha : 0 <= ya.tmod rt.xs.length /\ ya.tmod rt.xs.length < rt.xs.length := by
   rw [Int.tmod_eq_emod_of_nonneg x1.1];exact ⟨Int.emod_nonneg _ (by omega), Int.emod_lt_of_pos _ (by omega)⟩
  have hb : 0 <= yb.tmod rt.xs.length /\ yb.tmod rt.xs.length < rt.xs.length := by
   rw [Int.tmod_eq_emod_of_nonneg x2.1];exact ⟨Int.emod_nonneg _ (by omega), Int.emod_lt_of_pos _ (by omega)⟩
  generalize ya.tmod rt.xs.length = a at ha ⊢;generalize yb.tmod rt.xs.length = b at hb ⊢;have han : a.toNat < rt.xs.length := by omega
  have hbk := Sp.cE_back hce hB han;have hbo := Sp.cE_both hce hB;have hln := (hC.rtO a.toNat han).len;have er : (cel rt.xs a.toNat 0).lst = Sp.rtL rt.xs a.toNat := rfl;rw [er];rw [show rt.xs.set a.toNat (Ybt (rt.xs.getD a.toNat []) 0 [Cl.l (Sp.backL (Sp.rtL rt.xs a.toNat))]) = Sp.backR rt.xs a.toNat from rfl];have hl2 := Sp.backR_len rt.xs a.toNat;generalize Sp.bothF st.xs 0 = s2 at *;have f1 := Sp.haE_in hbo ha.1 ha.2;have f2 := Sp.haE_in hbk.1 ha.1 (by omega);have f3 := Sp.pairE_in hbo ha.1 ha.2 hb.1 hb.2;have f4 := Sp.pairE_in hbk.1 ha.1 (by omega) hb.1 (by omega);have te : Sp.tchkE pl.xs sh.xs ti.xs s2 = 0 := by rw [hB.twn]; exact hC.te
  have f5 := Sp.drv_zero (Sp.tchk_ok te) te hC.ceI.1 hC.ceI.2 hbk.2;have g1 := Sp.backR_ha (hd := hd.xs) han a.toNat;have g2 := Sp.backR_ap (hd := hd.xs) han a.toNat b.toNat hd.xs.length;have v1 : Sp.hvLo pl.xs sh.xs ti.xs s2 ce hd.xs (Sp.backR rt.xs a.toNat) a = Sp.hvLo pl.xs sh.xs ti.xs s2 ce hd.xs rt.xs a := by unfold Sp.hvLo; rw [if_pos f1, if_pos f2, g1.1]
  have v2 : Sp.hvHi pl.xs sh.xs ti.xs s2 ce hd.xs (Sp.backR rt.xs a.toNat) a = Sp.hvHi pl.xs sh.xs ti.xs s2 ce hd.xs rt.xs a := by unfold Sp.hvHi; rw [if_pos f1, if_pos f2, g1.2]
  have v3 : Sp.paLo pl.xs sh.xs ti.xs s2 ce hd.xs (Sp.backR rt.xs a.toNat) a b = Sp.paLo pl.xs sh.xs ti.xs s2 ce hd.xs rt.xs a b := by unfold Sp.paLo; rw [if_pos f3, if_pos f4, g2.1]
  have v4 : Sp.paHi pl.xs sh.xs ti.xs s2 ce hd.xs (Sp.backR rt.xs a.toNat) a b = Sp.paHi pl.xs sh.xs ti.xs s2 ce hd.xs rt.xs a b := by unfold Sp.paHi; rw [if_pos f3, if_pos f4, g2.2.1]
  have v5 : Sp.paLe pl.xs sh.xs ti.xs s2 ce hd.xs (Sp.backR rt.xs a.toNat) a b = Sp.paLe pl.xs sh.xs ti.xs s2 ce hd.xs rt.xs a b := by unfold Sp.paLe; rw [if_pos f3, if_pos f4, g2.2.2.1]
  have v6 : Sp.paGr pl.xs sh.xs ti.xs s2 ce hd.xs (Sp.backR rt.xs a.toNat) a b = Sp.paGr pl.xs sh.xs ti.xs s2 ce hd.xs rt.xs a b := by unfold Sp.paGr; rw [if_pos f3, if_pos f4, g2.2.2.2]
  rw [v1, v2, v3, v4, v5, v6, f1, f2, f3, f4, f5, Xgv, Xgv];clear v1 v2 v3 v4 v5 v6 f1 f2 f3 f4 f5 g1 g2;refine ned (by simp; omega) (nedd (by omega) (ar64 (by omega) (Xe ⟨ha, hln.2, by omega, ?_⟩ (ned (by simp; omega) (nedd (by omega) (Xe hn (Xe hn (Xe hn (Xe hn (Xe hn ?_))))))))))
  ·rw [show (Sp.rtL rt.xs a.toNat).length - ((Sp.rtL rt.xs a.toNat).length - 1 + 1 : Int).toNat = 0 by omega];rfl
  ·simp only [Vif_iff, Pre_iff];simp [h]
end Go.Proofs.Ytmogofidmchdoaa
namespace Go.Proofs.Ytmogofidmchdoaa.courseBack
open Go.ChangeShapes Go.WideShapes Go.ChangeAt Go.RowKit
set_option maxRecDepth 100000
theorem own : ownKnob Try.prog.godebug = none := by kernel_rfl
theorem laid : laidOutB Try.prog = true := by kernel_rfl
theorem lifted (os : Os) (started : os.Started) (H : Type) (enc : TypeId × Value -> H) :
  ReturnsInHanded {} Try.checked os 12 .any (Rows.courseBackSpec.pre6 enc Try.prog Try.f12 Rows.courseBackRow.domain false) (Rows.courseBackSpec.post enc Try.prog Try.f12 false true false false) := by
 refine returnsInHanded_of_change (C := Try.checked) own started (by kernel_rfl) Try.func12
  (ChangeSpec.witness6 (enc := enc) (C := Try.checked) false ⟨#[], #[(.agg #[.slice none 0 0, .slice none 0 0, .slice none 0 0, .slice none 0 0, .int .i64 0, .slice none 0 0, .slice none 0 0]), (.agg #[.int .u8 0, .int .u8 0])], []⟩ 8 (by kernel_rfl) (by kernel_rfl) (by kernel_rfl) (by kernel_rfl)) ?_
 intro W base args ds gs before hval hW _ _;exact law_end (f := Try.f12) (s := Rows.courseBackSpec) (by kernel_rfl) Try.underlying4 (by kernel_rfl) rfl laid (by kernel_rfl)
  (fun ds h => by match ds, (show ds.length = 2 from h) with | [_, _], _ => exact ⟨rfl, rfl, rfl⟩) Xgu hval hW
theorem over : Rows.courseBackRow.holds Try.pinned (OpenSpec.ofChange Rows.courseBackSpec) :=
 OpenClaim.holds_of_wide 12 Try.f12 rfl rfl rfl rfl rfl rfl rfl ⟨rfl, rfl, rfl, rfl, rfl⟩ rfl rfl rfl rfl rfl (by kernel_rfl) Try.func12 (by kernel_rfl)
  (of_decide_eq_true (by kernel_rfl)) (by unfold Func.isWrapper; first | (rw [if_pos (by decide +kernel)]; kernel_rfl) | (rw [if_neg (by decide +kernel)]; exact ⟨rfl, rfl⟩))
  (fun os started H enc _ => lifted os started H enc)
theorem proved : Rows.CourseBackSaid := over
end Go.Proofs.Ytmogofidmchdoaa.courseBack
