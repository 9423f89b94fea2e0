/-
  'CourseLeast': for every input the law returns true, and what is handed in reads as before. No condition.
-/
import Derived.Test.YtmogofidmchdoaaQlee
import Derived.Test.YtmogofidmchdoaaRows
import Derived.WalkKit
import Derived.ProofKit
set_option linter.unusedVariables false
set_option linter.unusedSectionVars false
set_option linter.unusedSimpArgs false
namespace Go.Proofs.Ytmogofidmchdoaa
open Go.RowKit
set_option maxRecDepth 100000
theorem Xc0 {xs : Dt} (h : (List.range xs.length).all (fun i => decide ((Sp.nm xs i).size <= 9223372036854775807)) = true) : Sp.NamesOk xs := by
 intro i
 by_cases hi : i < xs.length
 ·have := List.all_eq_true.1 h i (List.mem_range.2 hi);exact of_decide_eq_true this
 ·have e : Sp.nm xs i = Sp.nm [] 0 := by
   unfold Sp.nm cel;rw [show xs.getD i [] = [] by rw [List.getD_eq_getElem?_getD, List.getElem?_eq_none (by omega)]; rfl];rfl
  rw [e];decide +kernel
theorem vif_t [InW] {b : Bool} {A B : Prop} (hb : b = true) (ha : A) : Vif b A B := Vif_iff.2 ⟨fun _ => ha, fun h => absurd (hb.symm.trans h) (by decide)⟩
theorem Xr6 [W : InW] (Q : DS -> Prop) (h : Q [[.b true]]) : Xct Q := by
 unfold Xct;delta Zej Zed Zdw Zei Zeh Zdy Zdz Zec Zef Za Zee Zeg Zeb Zea Zdx
 iterate 7 refine Pre_iff.2 ⟨⟨Xc0 (by kernel_rfl), Xc0 (by kernel_rfl), Xc0 (by kernel_rfl)⟩, ?_⟩
 repeat first | refine vif_t (by kernel_rfl) ?_ | refine Pre_iff.2 ⟨trivial, ?_⟩ | refine Pre_iff.2 ⟨by decide +kernel, ?_⟩
 exact (congrArg Q (by kernel_rfl)).mpr h
noncomputable def Xqc : PC Try.prog := ⟨20, [], [(false, [.bool])], fun _ => True, fun _ => [[.b true]], Xro fun W hp Q h => Xr6 Q h⟩
open Go.RowKit
set_option maxRecDepth 100000
set_option maxHeartbeats 1600000
namespace Sp
def bt (b : Int) (k : Nat) : Bool := decide ((b.fdiv (2 ^ min k 16)).tmod 2 = 1)
end Sp
noncomputable def TH7 : Tab Try.prog := ⟨[], [], []⟩
def Xjs [InW] (e : List Ed) (K : Nat -> List Ed -> Prop) : Prop := match e with
 | [.i b, .i i, .ro _ pl, .ro _ sh, .ro _ ti, .ro _ st, .i ce, .ro _ hd, .ro _ rt, .l l] => Pre (rt.xs.length <= 10 /\ 0 <= i /\ i <= rt.xs.length /\ l = Sp.selF (Sp.bt b) 0 i.toNat)
   (K 0 [.ro _ pl, .ro _ sh, .ro _ ti, .ro _ st, .i ce, .ro _ hd, .ro _ rt, .l (Sp.selF (Sp.bt b) 0 rt.xs.length)])
 | _ => False
noncomputable def Xld : LC where
 len := 139
 T := [(2, .int .u16), (3, (.ptr 1 0)), (9, (.row 6)), (10, .int .i64)]
 H := [(1, .blk 29 [.rs Jb, .rs Jb, .rs Jb, .rs Jd, .int .i64, .rs Iv4, .rs Je]), (6, .arr 3 Ja)]
 W := [83, 84, 85, 86, 87, 88, 89, 90, 91, 92, 93, 94, 95, 96, 97, 98]
 outs := [⟨.exit 0, [(3, (.ptr 1 0)), (9, (.row 9))], [(1, .blk 29 [.rs Jb, .rs Jb, .rs Jb, .rs Jd, .int .i64, .rs Iv4, .rs Je]), (9, .arr 3 Ja)], [2, 10, 83, 84, 85, 86, 87, 88, 89, 90, 91, 92, 93, 94, 95, 96, 97, 98]⟩]
 spec := Xjs
def Xi5 [W : InW] (b i : Int) (pl sh ti : Ro Jb) (st : Ro Jd) (ce : Int) (hd : Ro Iv4) (rt : Ro Je) (l : Dt) (A : List Ed -> Prop) (K : Nat -> List Ed -> Prop) : Prop :=
 Vif (decide (i < (↑(rt.xs.length) : Int))) (Need (decide ((0 : Int) <= i)) (Vif (decide ((b.fdiv ((2 : Int) ^ min i.toNat (16 : Nat))).tmod (2 : Int) = Zee)) (Need (decide ((l.length + [[Cl.i i]].length) * (8 : Nat) <= Zbp)) (Ar .i64 (i + Zee) fun z => A [.i b, .i z, .ro _ pl, .ro _ sh, .ro _ ti, .ro Zc st, .i ce, .ro _ hd, .ro Zca rt, .l (l ++ [[Cl.i i]])])) (Ar .i64 (i + Zee) fun z => A [.i b, .i z, .ro _ pl, .ro _ sh, .ro _ ti, .ro Zc st, .i ce, .ro _ hd, .ro Zca rt, .l l]))) (K (0 : Nat) [.ro _ pl, .ro _ sh, .ro _ ti, .ro Zc st, .i ce, .ro _ hd, .ro Zca rt, .l l])
theorem Xs1 (W : InW) (b i pl sh ti st ce hd rt l A K) : Yer { cxT Try.prog TT TH7 1000 50 with fn := 7 } 1000 (Yl5 Try.prog 7 9) (Ydl 139 [(2, .si .u16 b), (3, .ptr 1 0), (9, .rw 6), (10, .si .i64 i)] [83, 84, 85, 86, 87, 88, 89, 90, 91, 92, 93, 94, 95, 96, 97, 98]) [(1, .blk 29 [.rs _ pl, .rs _ sh, .rs _ ti, .rs _ st, .si .i64 ce, .rs _ hd, .rs _ rt]), (6, .arr 3 Ja l)] (Yrh Xld A K) = Xi5 b i pl sh ti st ce hd rt l A K := by kernel_rfl
def Xkt : Prop := ∀ (W : InW) (body a : Code), (Try.prog.funcs[7]?).bind (·.body) = some body -> a ∈ Ys body -> Ye9 a = 9 -> @Yk2 W Try.prog a (@Yqt W Xld)
theorem Xuk (meas : [InW] -> List Ed -> Nat) (hyp_ : ∀ (W : InW) (b i : Int) (pl sh ti : Ro Jb) (st : Ro Jd) (ce : Int) (hd : Ro Iv4) (rt : Ro Je) (l : Dt) (K : Nat -> List Ed -> Prop), Xjs [.i b, .i i, .ro _ pl, .ro _ sh, .ro _ ti, .ro _ st, .i ce, .ro _ hd, .ro _ rt, .l l] K -> ∀ A : List Ed -> Prop, (∀ e, meas e < meas [.i b, .i i, .ro _ pl, .ro _ sh, .ro _ ti, .ro _ st, .i ce, .ro _ hd, .ro _ rt, .l l] -> Xjs e K -> A e) -> Xi5 b i pl sh ti st ce hd rt l A K) : Xkt :=
 LE.okOf' (fun W => @TT W) (fun W => @Xb W) Xa TH7 1000 50 (by kernel_rfl) Xld (fun W => @meas W) fun W b i pl sh ti st ce hd rt l K hs =>
  (Xs1 W b i pl sh ti st ce hd rt l (fun e => meas e < meas [.i b, .i i, .ro _ pl, .ro _ sh, .ro _ ti, .ro _ st, .i ce, .ro _ hd, .ro _ rt, .l l] /\ Xjs e K) K).mpr (hyp_ W b i pl sh ti st ce hd rt l K hs _ fun e h1 h2 => ⟨h1, h2⟩)
theorem Xj1 (p : Nat -> Bool) : ∀ (n i : Nat), Sp.selF p i (n + 1) = Sp.selF p i n ++ (if p (i + n) then [[Cl.i ((i + n : Nat) : Int)]] else [])
 | 0, i => by simp only [Sp.selF, Nat.add_zero]; split <;> rfl
 | n + 1, i => by
  have ih := Xj1 p n (i + 1);rw [show i + 1 + n = i + (n + 1) by omega] at ih;rw [Sp.selF, ih];simp only [Sp.selF]
  split <;> rfl
theorem Xxk : Xkt := Xuk (fun e => match e with | _ :: .i i :: _ :: _ :: _ :: _ :: _ :: _ :: .ro _ rt :: _ => ((rt.xs.length : Int) - i).toNat | _ => 0) fun W b i pl sh ti st ce hd rt l K hs A hA => by
 obtain ⟨⟨hl, i0, i1, rfl⟩, hk⟩ := hs;unfold Xi5;delta Zca Zc Zee Zbp;have ll := Xh3 (Sp.bt b) i.toNat 0;have ez : (i + 1).toNat = i.toNat + 1 := by omega
 have ss := Xj1 (Sp.bt b) i.toNat 0;rw [Nat.zero_add] at ss;refine vifd (fun e => nedd i0 (vifd (fun f => nedd (by simp; omega) (ar64 (by omega) (hA _ (by show ((rt.xs.length : Int) - (i + 1)).toNat < ((rt.xs.length : Int) - i).toNat; omega) ⟨⟨hl, by omega, by omega, ?_⟩, hk⟩))) fun f => ar64 (by omega) (hA _ (by show ((rt.xs.length : Int) - (i + 1)).toNat < ((rt.xs.length : Int) - i).toNat; omega) ⟨⟨hl, by omega, by omega, ?_⟩, hk⟩))) fun e => ?_
 ·rw [ez, ss, if_pos (show Sp.bt b i.toNat = true from decide_eq_true f), show ((i.toNat : Nat) : Int) = i by omega]
 ·rw [ez, ss, if_neg (show ¬ Sp.bt b i.toNat = true from fun g => f (of_decide_eq_true g)), List.append_nil]
 ·rw [show i.toNat = rt.xs.length by omega];exact hk
noncomputable def Xya : LE Try.prog := ⟨7, 9, fun W => @Yqt W Xld, Xxk⟩
noncomputable def TH7c : Tab Try.prog := ⟨[Xkf, Xp0, Xts, Xm3, Xp9, Xqa, Xqc], [Xya], []⟩
def Zep [W : InW] (c_Pl c_Sh c_Ti : Ro Jb) := Sp.NamesOk c_Pl.xs /\ Sp.NamesOk c_Sh.xs /\ Sp.NamesOk c_Ti.xs
def Zer [W : InW] (Q : DS -> Prop) := Pre True (Q [[Cl.b true]])
def Zel [W : InW] (c_Pl c_Sh c_Ti : Ro Jb) (c_St : Ro Jd) (c_Ce : Int) (c_Hd : Ro Iv4) (c_Rt : Ro Je) (w_Wm w_Wd w_Ws w_Wt : Int) (Q : DS -> Prop) := Pre (Zep c_Pl c_Sh c_Ti) (Vif (!decide (Sp.cE c_Pl.xs c_Sh.xs c_Ti.xs c_St.xs c_Ce c_Hd.xs c_Rt.xs = Za)) (Vif (!decide (Sp.pkE c_Pl.xs c_Sh.xs c_Ti.xs c_St.xs c_Ce c_Hd.xs c_Rt.xs w_Wm w_Wd w_Ws w_Wt = Za)) (Zer Q) (Q Zef)) (Q Zef))
def Zeo [W : InW] (c_Pl c_Sh c_Ti : Ro Jb) (c_St : Ro Jd) (c_Ce : Int) (c_Hd : Ro Iv4) (c_Rt : Ro Je) (w_Wm w_Wd w_Ws w_Wt : Int) (Q : DS -> Prop) := Vif (!decide (Sp.pkE c_Pl.xs c_Sh.xs c_Ti.xs c_St.xs c_Ce c_Hd.xs c_Rt.xs w_Wm w_Wd w_Ws w_Wt = Za)) (Vif (!decide (Sp.pkE c_Pl.xs c_Sh.xs c_Ti.xs c_St.xs c_Ce c_Hd.xs c_Rt.xs w_Wm w_Wd w_Ws w_Wt = (9 : Int))) (Pre True (Vif true (Q [[Cl.b true]]) (Zel c_Pl c_Sh c_Ti c_St c_Ce c_Hd c_Rt w_Wm w_Wd w_Ws w_Wt Q))) (Zel c_Pl c_Sh c_Ti c_St c_Ce c_Hd c_Rt w_Wm w_Wd w_Ws w_Wt Q)) (Zel c_Pl c_Sh c_Ti c_St c_Ce c_Hd c_Rt w_Wm w_Wd w_Ws w_Wt Q)
def Zeq [W : InW] (c_Rt : Ro Je) (b : Int) := Sp.selF (Sp.bt b) Zbe (c_Rt.xs.length)
def Zen [W : InW] (c_Rt : Ro Je) (b : Int) := (↑(List.length (Zeq c_Rt b)) : Int)
def Zek [W : InW] (c_Pl c_Sh c_Ti : Ro Jb) (c_St : Ro Jd) (c_Ce : Int) (c_Hd : Ro Iv4) (c_Rt : Ro Je) (w_Wd w_Ws w_Wt b : Int) (Q : DS -> Prop) := Pre (c_Rt.xs.length <= (10 : Nat) /\ Za <= Za /\ Za <= (↑(c_Rt.xs.length) : Int) /\ [] = Sp.selF (Sp.bt b) Zbe (Int.toNat Za)) (Vif (decide ((Zen c_Rt b) = Za)) (Zer Q) (Pre (Zep c_Pl c_Sh c_Ti) (Pre (Sp.MtOk c_Pl.xs c_Sh.xs c_Ti.xs c_St.xs c_Ce c_Hd.xs c_Rt.xs (Zen c_Rt b) w_Wd w_Ws w_Wt (Zeq c_Rt b)) (Vif (!Sp.meets (Sp.shP c_Pl.xs c_Sh.xs c_Ti.xs c_St.xs c_Ce c_Rt.xs w_Ws w_Wt) c_Rt.xs (c_Hd.xs.length) w_Wd (Zen c_Rt b) (Zeq c_Rt b)) (Vif (decide (Sp.pkE c_Pl.xs c_Sh.xs c_Ti.xs c_St.xs c_Ce c_Hd.xs c_Rt.xs (Zen c_Rt b) w_Wd w_Ws w_Wt = Za)) (Zer Q) (Vif (decide (Sp.pkE c_Pl.xs c_Sh.xs c_Ti.xs c_St.xs c_Ce c_Hd.xs c_Rt.xs (Zen c_Rt b) w_Wd w_Ws w_Wt = (9 : Int))) (Zer Q) (Q Zef))) (Vif (decide (Sp.pkE c_Pl.xs c_Sh.xs c_Ti.xs c_St.xs c_Ce c_Hd.xs c_Rt.xs (Zen c_Rt b) w_Wd w_Ws w_Wt = Za)) (Pre (Sp.BdOk c_Hd.xs c_Rt.xs (Zeq c_Rt b)) (Vif (decide (Sp.pkB c_Pl.xs c_Sh.xs c_Ti.xs c_St.xs c_Ce c_Hd.xs c_Rt.xs (Zen c_Rt b) w_Wd w_Ws w_Wt <= Sp.bound c_Hd.xs c_Rt.xs (Zeq c_Rt b))) (Zer Q) (Q Zef))) (Q Zef))))))
def Zem [W : InW] (c_Pl c_Sh c_Ti : Ro Jb) (c_St : Ro Jd) (c_Ce : Int) (c_Hd : Ro Iv4) (c_Rt : Ro Je) (w_Wm w_Wd w_Ws w_Wt b : Int) (Q : DS -> Prop) := Vif (decide (Sp.pkE c_Pl.xs c_Sh.xs c_Ti.xs c_St.xs c_Ce c_Hd.xs c_Rt.xs w_Wm w_Wd w_Ws w_Wt = Za)) (Pre True (Vif (!Sp.wiF (c_Rt.xs.length) (Sp.pkL c_Pl.xs c_Sh.xs c_Ti.xs c_St.xs c_Ce c_Hd.xs c_Rt.xs w_Wm w_Wd w_Ws w_Wt) Zbe (List.length (Sp.pkL c_Pl.xs c_Sh.xs c_Ti.xs c_St.xs c_Ce c_Hd.xs c_Rt.xs w_Wm w_Wd w_Ws w_Wt))) (Q Zef) (Pre (Sp.MtOk c_Pl.xs c_Sh.xs c_Ti.xs c_St.xs c_Ce c_Hd.xs c_Rt.xs w_Wm w_Wd w_Ws w_Wt (Sp.pkL c_Pl.xs c_Sh.xs c_Ti.xs c_St.xs c_Ce c_Hd.xs c_Rt.xs w_Wm w_Wd w_Ws w_Wt)) (Vif (!Sp.meets (Sp.shP c_Pl.xs c_Sh.xs c_Ti.xs c_St.xs c_Ce c_Rt.xs w_Ws w_Wt) c_Rt.xs (c_Hd.xs.length) w_Wd w_Wm (Sp.pkL c_Pl.xs c_Sh.xs c_Ti.xs c_St.xs c_Ce c_Hd.xs c_Rt.xs w_Wm w_Wd w_Ws w_Wt)) (Q Zef) (Pre (Sp.BdOk c_Hd.xs c_Rt.xs (Sp.pkL c_Pl.xs c_Sh.xs c_Ti.xs c_St.xs c_Ce c_Hd.xs c_Rt.xs w_Wm w_Wd w_Ws w_Wt)) (Vif (!decide (Sp.bound c_Hd.xs c_Rt.xs (Sp.pkL c_Pl.xs c_Sh.xs c_Ti.xs c_St.xs c_Ce c_Hd.xs c_Rt.xs w_Wm w_Wd w_Ws w_Wt) = Sp.pkB c_Pl.xs c_Sh.xs c_Ti.xs c_St.xs c_Ce c_Hd.xs c_Rt.xs w_Wm w_Wd w_Ws w_Wt)) (Q Zef) (Zek c_Pl c_Sh c_Ti c_St c_Ce c_Hd c_Rt w_Wd w_Ws w_Wt b Q))))))) (Zek c_Pl c_Sh c_Ti c_St c_Ce c_Hd c_Rt w_Wd w_Ws w_Wt b Q)
def Xbb [W : InW] (c_Pl c_Sh c_Ti : Ro Jb) (c_St : Ro Jd) (c_Ce : Int) (c_Hd : Ro Iv4) (c_Rt : Ro Je) (w_Wm w_Wd w_Ws w_Wt b : Int) (Q : DS -> Prop) : Prop :=
 Pre (Zep c_Pl c_Sh c_Ti) (Pre (Zep c_Pl c_Sh c_Ti) (Vif (!decide (Sp.cE c_Pl.xs c_Sh.xs c_Ti.xs c_St.xs c_Ce c_Hd.xs c_Rt.xs = Za)) (Zeo c_Pl c_Sh c_Ti c_St c_Ce c_Hd c_Rt w_Wm w_Wd w_Ws w_Wt Q) (Pre (c_Sh.xs.length <= (6 : Nat) /\ c_Ti.xs.length <= (4 : Nat)) (Vif (!decide (Sp.wsE c_Sh.xs c_Ti.xs w_Wm w_Wd w_Ws w_Wt = Za)) (Zeo c_Pl c_Sh c_Ti c_St c_Ce c_Hd c_Rt w_Wm w_Wd w_Ws w_Wt Q) (Vif (!decide (Sp.pkE c_Pl.xs c_Sh.xs c_Ti.xs c_St.xs c_Ce c_Hd.xs c_Rt.xs w_Wm w_Wd w_Ws w_Wt = Za)) (Vif (!decide (Sp.pkE c_Pl.xs c_Sh.xs c_Ti.xs c_St.xs c_Ce c_Hd.xs c_Rt.xs w_Wm w_Wd w_Ws w_Wt = (9 : Int))) (Q Zef) (Zem c_Pl c_Sh c_Ti c_St c_Ce c_Hd c_Rt w_Wm w_Wd w_Ws w_Wt b Q)) (Zem c_Pl c_Sh c_Ti c_St c_Ce c_Hd c_Rt w_Wm w_Wd w_Ws w_Wt b Q))))))
theorem Xh1 (W : InW) (c_Pl c_Sh c_Ti c_St c_Ce c_Hd c_Rt w_Wm w_Wd w_Ws w_Wt b Q) : Yte (cxT Try.prog TT TH7c 1000 50) 1000 7 [.agg [.rs _ c_Pl, .rs _ c_Sh, .rs _ c_Ti, .rs _ c_St, .si .i64 c_Ce, .rs _ c_Hd, .rs _ c_Rt], .agg [.si .i64 w_Wm, .si .i64 w_Wd, .si .i64 w_Ws, .si .i64 w_Wt], .si .u16 b] [] 0 (Ywt [(false, [.bool])] Q) (fun _ _ _ _ => Stuck 421) = Xbb c_Pl c_Sh c_Ti c_St c_Ce c_Hd c_Rt w_Wm w_Wd w_Ws w_Wt b Q := by kernel_rfl
abbrev Xu : List AT := [.agg [.sl Jb, .sl Jb, .sl Jb, .sl Jd, .int .i64, .sl Iv4, .sl Je], .agg [.int .i64, .int .i64, .int .i64, .int .i64], .one (.int .u16)]
theorem Xia {pre : DS -> Prop} {res : DS -> DS} (hyp_ : ∀ (W : InW) (c_Pl c_Sh c_Ti : Ro Jb) (c_St : Ro Jd) (c_Ce : Int) (c_Hd : Ro Iv4) (c_Rt : Ro Je) (w_Wm w_Wd w_Ws w_Wt b : Int), pre [[.l c_Pl.xs, .l c_Sh.xs, .l c_Ti.xs, .l c_St.xs, .i c_Ce, .l c_Hd.xs, .l c_Rt.xs], [.i w_Wm, .i w_Wd, .i w_Ws, .i w_Wt], [.i b]] -> ∀ Q : DS -> Prop, Q (res [[.l c_Pl.xs, .l c_Sh.xs, .l c_Ti.xs, .l c_St.xs, .i c_Ce, .l c_Hd.xs, .l c_Rt.xs], [.i w_Wm, .i w_Wd, .i w_Ws, .i w_Wt], [.i b]]) -> Xbb c_Pl c_Sh c_Ti c_St c_Ce c_Hd c_Rt w_Wm w_Wd w_Ws w_Wt b Q) : PureOk Try.prog 7 Xu [(false, [.bool])] pre res :=
 PureOk.of' (fun W => @TT W) (fun W => @Xb W) Xa TH7c 1000 50 fun W c_Pl c_Sh c_Ti c_St c_Ce c_Hd c_Rt w_Wm w_Wd w_Ws w_Wt b hp =>
  (Xh1 W c_Pl c_Sh c_Ti c_St c_Ce c_Hd c_Rt w_Wm w_Wd w_Ws w_Wt b (fun o => o = res [[.l c_Pl.xs, .l c_Sh.xs, .l c_Ti.xs, .l c_St.xs, .i c_Ce, .l c_Hd.xs, .l c_Rt.xs], [.i w_Wm, .i w_Wd, .i w_Ws, .i w_Wt], [.i b]])).mpr (hyp_ W c_Pl c_Sh c_Ti c_St c_Ce c_Hd c_Rt w_Wm w_Wd w_Ws w_Wt b hp _ rfl)
theorem Xfk : PureOk Try.prog 7 Xu [(false, [.bool])] (WfD Xu) fun _ => [[.b true]] :=
 Xia fun W pl sh ti st ce hd rt wm wd ws wt b hp Q h => by
  obtain ⟨d, ds, e1, hp1, hp2⟩ := hp;cases e1;have hn := Xhy hp1;unfold Xbb;delta Zem Zek Zen Zeo Zeq Zel Zef Zer Zbe Za Zep
  by_cases hce : Sp.cE pl.xs sh.xs ti.xs st.xs ce hd.xs rt.xs = 0
  ·have hC := Sp.cchk_ok hce;have hr := hC.rl;refine Xc hn (Xc hn (vifn (fun g => absurd hce g) fun _ => Xc ⟨hC.tw.shL, hC.tw.tiL.2⟩ ?_))
   by_cases hw : Sp.wsE sh.xs ti.xs wm wd ws wt = 0
   ·have hW := Xl6 hw;refine vifn (fun g => absurd hw g) fun _ => ?_;have tail : Pre (rt.xs.length <= 10 /\ 0 <= (0 : Int) /\ (0 : Int) <= (rt.xs.length : Int) /\ [] = Sp.selF (Sp.bt b) 0 (Int.toNat 0)) (Vif (decide (((Sp.selF (Sp.bt b) 0 rt.xs.length).length : Int) = 0)) (Pre True (Q [[Cl.b true]])) (Pre (Sp.NamesOk pl.xs /\ Sp.NamesOk sh.xs /\ Sp.NamesOk ti.xs) (Pre (Sp.MtOk pl.xs sh.xs ti.xs st.xs ce hd.xs rt.xs ((Sp.selF (Sp.bt b) 0 rt.xs.length).length : Int) wd ws wt (Sp.selF (Sp.bt b) 0 rt.xs.length)) (Vif (!Sp.meets (Sp.shP pl.xs sh.xs ti.xs st.xs ce rt.xs ws wt) rt.xs hd.xs.length wd ((Sp.selF (Sp.bt b) 0 rt.xs.length).length : Int) (Sp.selF (Sp.bt b) 0 rt.xs.length)) (Vif (decide (Sp.pkE pl.xs sh.xs ti.xs st.xs ce hd.xs rt.xs ((Sp.selF (Sp.bt b) 0 rt.xs.length).length : Int) wd ws wt = 0)) (Pre True (Q [[Cl.b true]])) (Vif (decide (Sp.pkE pl.xs sh.xs ti.xs st.xs ce hd.xs rt.xs ((Sp.selF (Sp.bt b) 0 rt.xs.length).length : Int) wd ws wt = 9)) (Pre True (Q [[Cl.b true]])) (Q [[Cl.b false]]))) (Vif (decide (Sp.pkE pl.xs sh.xs ti.xs st.xs ce hd.xs rt.xs ((Sp.selF (Sp.bt b) 0 rt.xs.length).length : Int) wd ws wt = 0)) (Pre (Sp.BdOk hd.xs rt.xs (Sp.selF (Sp.bt b) 0 rt.xs.length)) (Vif (decide (Sp.pkB pl.xs sh.xs ti.xs st.xs ce hd.xs rt.xs ((Sp.selF (Sp.bt b) 0 rt.xs.length).length : Int) wd ws wt <= Sp.bound hd.xs rt.xs (Sp.selF (Sp.bt b) 0 rt.xs.length))) (Pre True (Q [[Cl.b true]])) (Q [[Cl.b false]]))) (Q [[Cl.b false]])))))) := by
     have ha : Sp.Asc rt.xs.length (Sp.selF (Sp.bt b) 0 rt.xs.length) := ⟨Xh2 _ _ _⟩;have la := Xil ha;refine Xc ⟨hr, by omega, by omega, rfl⟩ (vifd (fun _ => Xc trivial h) fun e => ?_);have hw2 := Xsp hw (m := ((Sp.selF (Sp.bt b) 0 rt.xs.length).length : Int)) (by omega) (by omega);refine Xc hn (Xc (Xxx hn hC hW ha hr) ?_);rcases Xse (hd := hd.xs) hce hw2 with ⟨g1, g2⟩ | ⟨g1, g2, g3, g4, g5, g6⟩
     ·rw [g2 _ ha];exact vifb (fun _ => vifd (fun _ => Xc trivial h) fun _ => vifd (fun _ => Xc trivial h) fun g => absurd g1 g) fun g => absurd g (by decide)
     ·exact vifb (fun _ => vifd (fun _ => Xc trivial h) fun g => absurd g1 g) fun g => vifd (fun _ => Xc (Xyk hC ha hr) (vifd (fun _ => Xc trivial h) fun g7 => absurd (g6 _ ha g) g7)) fun g => absurd g1 g
    rcases Xse (hd := hd.xs) hce hw with ⟨g1, g2⟩ | ⟨g1, g2, g3, g4, g5, g6⟩
    ·exact vifn (fun _ => vifn (fun g => absurd g1 g) fun _ => vifd (fun g => absurd (g1.symm.trans g) (by decide)) fun _ => tail) fun g => absurd (g1.symm.trans g) (by decide)
    ·refine vifn (fun g => absurd g1 g) fun _ => vifd (fun _ => Xc trivial ?_) fun g => absurd g1 g;rw [Xym g3, g4, g5];exact vifb (fun g => absurd g (by decide)) fun _ => Xc (Xxx hn hC hW g3 hr) (vifb (fun g => absurd g (by decide)) fun _ => Xc (Xyk hC g3 hr) (vifn (fun g => absurd rfl g) fun _ => tail))
   ·obtain ⟨g1, g2⟩ := Xtq (wm := wm) (wd := wd) (ws := ws) (wt := wt) hce hw;rw [g1];exact vifn (fun _ => vifn (fun _ => vifn (fun _ => Xc trivial ⟨fun _ => h, fun g => absurd g (by decide)⟩) fun g => absurd g (Xwc hw)) fun g => absurd g hw) fun g => absurd g hw
  ·obtain ⟨g1, g2⟩ := Xwm (wm := wm) (wd := wd) (ws := ws) (wt := wt) hce;rw [g1];refine Xc hn (Xc hn (vifn (fun _ => vifn (fun _ => vifn (fun _ => Xc trivial ⟨fun _ => h, fun g => absurd g (by decide)⟩) fun _ => Xc hn (vifn (fun _ => vifn (fun _ => Xc trivial h) fun g => absurd g hce) fun g => absurd g hce)) fun g => absurd g hce) fun g => absurd g hce))
end Go.Proofs.Ytmogofidmchdoaa
namespace Go.Proofs.Ytmogofidmchdoaa.courseLeast
open Go.ChangeShapes Go.WideShapes Go.ChangeAt Go.RowKit
set_option maxRecDepth 100000
theorem own : ownKnob Try.prog.godebug = none := by kernel_rfl
theorem laid : laidOutB Try.prog = true := by kernel_rfl
theorem lifted (os : Os) (started : os.Started) (H : Type) (enc : TypeId × Value -> H) :
  ReturnsInHanded {} Try.checked os 7 .any (Rows.courseLeastSpec.pre6 enc Try.prog Try.f7 Rows.courseLeastRow.domain false) (Rows.courseLeastSpec.post enc Try.prog Try.f7 false true false false) := by
 refine returnsInHanded_of_change (C := Try.checked) own started (by kernel_rfl) Try.func7
  (ChangeSpec.witness6 (enc := enc) (C := Try.checked) false ⟨#[], #[(.agg #[.slice none 0 0, .slice none 0 0, .slice none 0 0, .slice none 0 0, .int .i64 0, .slice none 0 0, .slice none 0 0]), (.agg #[.int .i64 0, .int .i64 0, .int .i64 0, .int .i64 0]), (.int .u16 0)], []⟩ 8 (by kernel_rfl) (by kernel_rfl) (by kernel_rfl) (by kernel_rfl)) ?_
 intro W base args ds gs before hval hW _ _;exact law_end (f := Try.f7) (s := Rows.courseLeastSpec) (by kernel_rfl) Try.underlying4 (by kernel_rfl) rfl laid (by kernel_rfl)
  (fun ds h => by match ds, (show ds.length = 3 from h) with | [_, _, _], _ => exact ⟨rfl, rfl, rfl⟩) Xfk hval hW
theorem over : Rows.courseLeastRow.holds Try.pinned (OpenSpec.ofChange Rows.courseLeastSpec) :=
 OpenClaim.holds_of_wide 7 Try.f7 rfl rfl rfl rfl rfl rfl rfl ⟨rfl, rfl, rfl, rfl, rfl⟩ rfl rfl rfl rfl rfl (by kernel_rfl) Try.func7 (by kernel_rfl)
  (of_decide_eq_true (by kernel_rfl)) (by unfold Func.isWrapper; first | (rw [if_pos (by decide +kernel)]; kernel_rfl) | (rw [if_neg (by decide +kernel)]; exact ⟨rfl, rfl⟩))
  (fun os started H enc _ => lifted os started H enc)
theorem proved : Rows.CourseLeastSaid := over
end Go.Proofs.Ytmogofidmchdoaa.courseLeast
