/-
  'CourseLeast': for every input the law returns true, and what is handed in reads as before. No condition.
-/
import Derived.Test.YtmogofidmchdoaaQlec
set_option linter.unusedVariables false
set_option linter.unusedSectionVars false
set_option linter.unusedSimpArgs false
namespace Go.Proofs.Ytmogofidmchdoaa
open Go.RowKit
set_option maxRecDepth 100000
set_option maxHeartbeats 1600000
def rfIn : Code -> List LI
 | .seq a b => rfIn a ++ rfIn b
 | .cond _ a b => rfIn a ++ rfIn b
 | .block _ a => rfIn a
 | .loop a => rfIn a
 | .scope a => rfIn a
 | .rangeFunc _ ps asg b => ⟨.ready, none, ps, asg, b⟩ :: rfIn b
 | _ => []
def lpAt (P : Program) (g : FuncId) (k : Nat) : LI := (rfIn (Yiq P g)).getD k ⟨.ready, none, #[], .skip, .skip⟩
def LI.left (L : LI) (j : Code) : LI := { L with st := .done, pend := some j }
noncomputable abbrev Xr : LI := lpAt Try.prog 24 0
noncomputable abbrev Xce : LI := (lpAt Try.prog 24 0).left .ret
noncomputable def T95 : Tab Try.prog := ⟨[Xo], [], [Xbo, Xed]⟩
def Xb9 [W : InW] (c_Pl c_Sh c_Ti : Ro Jb) (c_St : Ro Jd) (c_Ce : Int) (c_Hd : Ro Iv4) (c_Rt : Ro Je) (a b : Int) (Q : DS -> Prop) : Prop :=
 Pre (Sp.NamesOk c_Pl.xs /\ Sp.NamesOk c_Sh.xs /\ Sp.NamesOk c_Ti.xs) (Vif (decide (Sp.cE c_Pl.xs c_Sh.xs c_Ti.xs c_St.xs c_Ce c_Hd.xs c_Rt.xs = Za)) (Ar .i64 ((↑(c_Rt.xs.length) : Int) - (1 : Int)) fun z => Pre True (Vif (Sp.out Za z [[Cl.i a], [Cl.i b]]) (Q [[Cl.l []], [Cl.i (4 : Int)]]) (Pre ((Za <= a /\ a < (↑(List.length (Sp.drvN c_Rt.xs (c_Rt.xs.length))) : Int)) /\ Za <= b /\ b < (↑(List.length (Sp.drvN c_Rt.xs (c_Rt.xs.length))) : Int)) (Q [[Cl.l (Sp.dnP (Sp.drvN c_Rt.xs (c_Rt.xs.length)) a.toNat b.toNat)], [Cl.i Za]])))) (Vif (decide (Sp.cE c_Pl.xs c_Sh.xs c_Ti.xs c_St.xs c_Ce c_Hd.xs c_Rt.xs = Za)) ((16 : Nat) = (16 : Nat) + (1 : Nat)) (Vif (!decide (Sp.cE c_Pl.xs c_Sh.xs c_Ti.xs c_St.xs c_Ce c_Hd.xs c_Rt.xs = Za)) (Q [[Cl.l []], [Cl.i (Sp.cE c_Pl.xs c_Sh.xs c_Ti.xs c_St.xs c_Ce c_Hd.xs c_Rt.xs)]]) ((16 : Nat) = (16 : Nat) + (1 : Nat)))))
theorem Xls (W : InW) (c_Pl c_Sh c_Ti c_St c_Ce c_Hd c_Rt a b Q) : Yte (cxT Try.prog TT T95 1000 50) 1000 17 [.agg [.rs _ c_Pl, .rs _ c_Sh, .rs _ c_Ti, .rs _ c_St, .si .i64 c_Ce, .rs _ c_Hd, .rs _ c_Rt], .si .i64 a, .si .i64 b] [] 0 (Ywt Xbd Q) (fun _ _ _ _ => Stuck 421) = Xb9 c_Pl c_Sh c_Ti c_St c_Ce c_Hd c_Rt a b Q := by kernel_rfl
abbrev X9 : List AT := [.agg [.sl Jb, .sl Jb, .sl Jb, .sl Jd, .int .i64, .sl Iv4, .sl Je], .one (.int .i64), .one (.int .i64)]
theorem Xl3 {pre : DS -> Prop} {res : DS -> DS} (hyp_ : ∀ (W : InW) (c_Pl c_Sh c_Ti : Ro Jb) (c_St : Ro Jd) (c_Ce : Int) (c_Hd : Ro Iv4) (c_Rt : Ro Je) (a b : Int), pre [[.l c_Pl.xs, .l c_Sh.xs, .l c_Ti.xs, .l c_St.xs, .i c_Ce, .l c_Hd.xs, .l c_Rt.xs], [.i a], [.i b]] -> ∀ Q : DS -> Prop, Q (res [[.l c_Pl.xs, .l c_Sh.xs, .l c_Ti.xs, .l c_St.xs, .i c_Ce, .l c_Hd.xs, .l c_Rt.xs], [.i a], [.i b]]) -> Xb9 c_Pl c_Sh c_Ti c_St c_Ce c_Hd c_Rt a b Q) : PureOk Try.prog 17 X9 Xbd pre res :=
 PureOk.of' (fun W => @TT W) (fun W => @Xb W) Xa T95 1000 50 fun W c_Pl c_Sh c_Ti c_St c_Ce c_Hd c_Rt a b hp =>
  (Xls W c_Pl c_Sh c_Ti c_St c_Ce c_Hd c_Rt a b (fun o => o = res [[.l c_Pl.xs, .l c_Sh.xs, .l c_Ti.xs, .l c_St.xs, .i c_Ce, .l c_Hd.xs, .l c_Rt.xs], [.i a], [.i b]])).mpr (hyp_ W c_Pl c_Sh c_Ti c_St c_Ce c_Hd c_Rt a b hp _ rfl)
theorem df_hd {pl sh ti st : Dt} {ce : Int} {hd rt : Dt} (hC : Sp.CrOk pl sh ti st ce hd rt) {a b : Nat} (ha : a < rt.length) (hb : b < rt.length) : Sp.dfF rt a b 0 40 = Sp.dfF rt a b 0 hd.length := by
 have h40 := Xwa hC;have hl := hC.hl;have tail : ∀ n s, hd.length <= s -> Sp.dfF rt a b s n = [] := fun n => by
  induction n with
  | zero => intro s _; rfl
  | succ n ih =>
   intro s hs;unfold Sp.dfF;rw [Sp.tms_out hC ha (s := s) (by omega), Sp.tms_out hC hb (s := s) (by omega), if_pos rfl];exact ih (s + 1) (by omega)
 have key : ∀ n s, Sp.dfF rt a b s (n + (40 - hd.length)) = Sp.dfF rt a b s n \/ s + n ≠ hd.length := fun n => by
  induction n with
  | zero =>
   intro s
   by_cases e : s + 0 = hd.length
   ·left;rw [Nat.zero_add, tail _ _ (by omega)]; rfl
   ·exact .inr e
  | succ n ih =>
   intro s
   by_cases e : s + (n + 1) = hd.length
   ·left;rw [show n + 1 + (40 - hd.length) = (n + (40 - hd.length)) + 1 by omega];have := (ih (s + 1)).resolve_right (by omega);simp only [Sp.dfF];rw [this]
   ·exact .inr e
 have := (key hd.length 0).resolve_right (by omega);rw [<- this]
 congr 1
 omega
theorem Xwo {pl sh ti st : Dt} {ce : Int} {hd rt : Dt} {a b : Int} {Q : Dt -> Int -> Prop} (h : Q (Sp.pdL pl sh ti st ce hd rt a b) (Sp.pairE pl sh ti st ce hd rt a b)) :
  (¬ Sp.pairE pl sh ti st ce hd rt a b = 0 -> Q [] (Sp.pairE pl sh ti st ce hd rt a b)) /\ (Sp.pairE pl sh ti st ce hd rt a b = 0 -> Q (Sp.dfF rt a.toNat b.toNat 0 hd.length) 0) := by
 unfold Sp.pdL at h;refine ⟨fun e => ?_, fun e => ?_⟩
 ·rw [if_neg e] at h; exact h
 ·rw [if_pos e, e] at h; exact h
theorem Xnm : PureOk Try.prog 17 X9 Xbd Xf Xd6 :=
 Xl3 fun W pl sh ti st ce hd rt a b hp Q h => by
  have hp : Sp.NamesOk pl.xs /\ Sp.NamesOk sh.xs /\ Sp.NamesOk ti.xs := hp;unfold Xb9;delta Za;simp only [Xh6, out2];have hrt := rt.len;simp only [maxLen] at hrt;obtain ⟨q0, q1⟩ := Xwo (Q := fun x z => Q [[.l x], [.i z]]) h;clear h;have hx := Xh4 (pl := pl.xs) (sh := sh.xs) (ti := ti.xs) (st := st.xs) (ce := ce) (hd := hd.xs) (rt := rt.xs) (a := a) (b := b);refine ⟨hp, vifd (fun e => ar64 (by omega) ⟨trivial, ?_⟩) fun e => vifd (fun e3 => absurd e3 e) fun _ => vifn (fun _ => ?_) fun e3 => absurd e3 e⟩
  ·rw [if_pos e] at hx;generalize hg : (!Sp.inr a 0 ((rt.xs.length : Int) - 1) || !Sp.inr b 0 ((rt.xs.length : Int) - 1)) = g at *;refine vif (fun e2 => ?_) fun e2 => ?_
   ·rw [if_neg (by rw [e2] at hg; intro hc; simp only [Bool.and_eq_true] at hc; simp [hc.1, hc.2] at hg)] at hx;rw [hx] at q0;exact q0 (by decide)
   ·rw [if_pos (by rw [e2] at hg; simpa using hg)] at hx;obtain ⟨hC, ha, hb⟩ := Xhc hx;refine ⟨⟨by rw [Xi]; exact ha, by rw [Xi]; exact hb⟩, ?_⟩;rw [Xyh (by omega) (by omega), df_hd hC (by omega) (by omega)];exact q1 hx
  ·rw [if_neg e] at hx;rw [hx] at q0;exact q0 e
noncomputable def Xly : PC Try.prog := ⟨17, X9, Xbd, Xf, Xd6, Xnm⟩
namespace Sp
structure DbOk (pl sh ti st : Dt) (ce : Int) (hd rt dr l : Dt) : Prop where
 cr : CrOk pl sh ti st ce hd rt
 dre : dr = drvN rt rt.length
 ls : LsOk rt.length l
 ln : l.length <= 1000
end Sp
noncomputable def T96 : Tab Try.prog := ⟨[], [], [Xfo, Xol]⟩
def Xjx [InW] (e : List Ed) (K : Nat -> List Ed -> Prop) : Prop := match e with
 | [.i a, .i i, .ro _ lq, .i n, .i j, .ro _ pl, .ro _ sh, .ro _ ti, .ro _ st, .i ce, .ro _ hd, .ro _ rt, .l dr, .i bd, .ro _ l] => Pre (Sp.DbOk pl.xs sh.xs ti.xs st.xs ce hd.xs rt.xs dr l.xs /\ 0 <= i /\ i < l.xs.length /\ a = (cel l.xs i.toNat 0).int /\ lq.xs = l.xs.drop (i.toNat + 1) /\ n = lq.xs.length /\ 0 <= j /\ j <= n)
   (Vif (Sp.hasK hd.xs rt.xs l.xs bd i.toNat (i.toNat + 1 + j.toNat) (l.xs.length - (i.toNat + 1 + j.toNat)))
    (K 1 [.ro _ pl, .ro _ sh, .ro _ ti, .ro _ st, .i ce, .ro _ hd, .ro _ rt, .l dr, .i bd, .ro _ l, .i a, .i (cel l.xs (Sp.ixK hd.xs rt.xs l.xs bd i.toNat (i.toNat + 1 + j.toNat) (l.xs.length - (i.toNat + 1 + j.toNat))) 0).int, .l (Sp.worst hd.xs rt.xs (Sp.rI l.xs i.toNat) (Sp.rI l.xs (Sp.ixK hd.xs rt.xs l.xs bd i.toNat (i.toNat + 1 + j.toNat) (l.xs.length - (i.toNat + 1 + j.toNat)))))])
    (K 0 [.i i, .ro _ pl, .ro _ sh, .ro _ ti, .ro _ st, .i ce, .ro _ hd, .ro _ rt, .l dr, .i bd, .ro _ l]))
 | _ => False
noncomputable def Xli : LC where
 len := 30
 T := [(0, (.yl 1)), (1, (.ptr 25 0)), (4, .int .i64), (9, .int .i64), (17, .rs Ja), (18, .int .i64), (19, .int .i64)]
 H := [(1, .lp Xr [(.opq 1501), (.opq 1504), (.opq 1507), (.opq 1510), (.opq 1513), (.opq 1516), (.ptr 16 0), (.ptr 19 0), (.ptr 22 0), (.ptr 4 0), (.opq 327), (.opq 330), (.opq 333), (.opq 1540), (.opq 1543), (.opq 1546), (.opq 1549), (.opq 1552), (.opq 1555), (.opq 1558), (.opq 1561), (.opq 1564), (.opq 1567), (.opq 1570), (.opq 1573), (.opq 1576), (.opq 1579), (.opq 1582), (.opq 1585), (.opq 1588), (.opq 1591), (.opq 1594), (.opq 1597), (.opq 1600), (.opq 1603), (.opq 1606), (.opq 1609), (.opq 1612), (.opq 1615), (.opq 1618), (.opq 1621), (.opq 1624), (.opq 1627), (.opq 1630), (.opq 1633), (.opq 1636), (.opq 435), (.opq 438), (.opq 441), (.opq 444), (.opq 447), (.opq 450), (.opq 453), (.opq 456), (.opq 459), (.opq 462), (.opq 465), (.opq 468), (.opq 471), (.opq 474), (.opq 477), (.opq 480), (.opq 483), (.opq 486), (.opq 489), (.opq 492), (.opq 495), (.opq 498), (.opq 501), (.opq 504), (.opq 507), (.opq 510), (.opq 513), (.opq 516), (.opq 519), (.opq 522), (.opq 525), (.opq 528), (.opq 1735)]), (4, .blk 100 [(.ptr 10 0)]), (10, .blk 111 [.rs Jb, .rs Jb, .rs Jb, .rs Jd, .int .i64, .rs Iv4, .rs Je, (.row 13)]), (13, .arr 125 Jc), (16, .blk 3 [.int .i64]), (22, .blk 36 [(.lit (.int .i64 0))]), (25, .blk 33 [.rs Ja]), (19, .blk 54 [(.lit (.int .i64 0)), (.lit (.int .i64 0)), (.lit (.slice none 0 0))])]
 W := [6, 20, 21, 22, 23, 24, 25, 26, 27, 28]
 outs := [⟨.exit 2, [(0, (.yl 1)), (1, (.ptr 25 0)), (9, .int .i64)], [(1, .lp Xr [(.opq 1501), (.opq 1504), (.opq 1507), (.opq 1510), (.opq 1513), (.opq 1516), (.ptr 16 0), (.ptr 19 0), (.ptr 22 0), (.ptr 4 0), (.opq 627), (.opq 630), (.opq 633), (.opq 1540), (.opq 1543), (.opq 1546), (.opq 1549), (.opq 1552), (.opq 1555), (.opq 1558), (.opq 1561), (.opq 1564), (.opq 1567), (.opq 1570), (.opq 1573), (.opq 1576), (.opq 1579), (.opq 1582), (.opq 1585), (.opq 1588), (.opq 1591), (.opq 1594), (.opq 1597), (.opq 1600), (.opq 1603), (.opq 1606), (.opq 1609), (.opq 1612), (.opq 1615), (.opq 1618), (.opq 1621), (.opq 1624), (.opq 1627), (.opq 1630), (.opq 1633), (.opq 1636), (.opq 735), (.opq 738), (.opq 741), (.opq 744), (.opq 747), (.opq 750), (.opq 753), (.opq 756), (.opq 759), (.opq 762), (.opq 765), (.opq 768), (.opq 771), (.opq 774), (.opq 777), (.opq 780), (.opq 783), (.opq 786), (.opq 789), (.opq 792), (.opq 795), (.opq 798), (.opq 801), (.opq 804), (.opq 807), (.opq 810), (.opq 813), (.opq 816), (.opq 819), (.opq 822), (.opq 825), (.opq 828), (.opq 1735)]), (627, .dead), (630, .dead), (633, .dead), (735, .dead), (738, .dead), (741, .dead), (744, .dead), (747, .dead), (750, .dead), (753, .dead), (756, .dead), (759, .dead), (762, .dead), (765, .dead), (768, .dead), (771, .dead), (774, .dead), (777, .dead), (780, .dead), (783, .dead), (786, .dead), (789, .dead), (792, .dead), (795, .dead), (798, .dead), (801, .dead), (804, .dead), (807, .dead), (810, .dead), (813, .dead), (816, .dead), (819, .dead), (822, .dead), (825, .dead), (828, .dead), (4, .blk 100 [(.ptr 10 0)]), (10, .blk 111 [.rs Jb, .rs Jb, .rs Jb, .rs Jd, .int .i64, .rs Iv4, .rs Je, (.row 13)]), (13, .arr 125 Jc), (16, .blk 3 [.int .i64]), (22, .blk 36 [(.lit (.int .i64 0))]), (25, .blk 33 [.rs Ja]), (19, .blk 54 [(.lit (.int .i64 0)), (.lit (.int .i64 0)), (.lit (.slice none 0 0))])], [4, 6, 17, 18, 19, 20, 21, 22, 23, 24, 25, 26, 27, 28]⟩, ⟨.ret, [], [(1, .lp Xce [(.opq 1501), (.opq 1504), (.opq 1507), (.opq 1510), (.opq 1513), (.opq 1516), (.ptr 16 0), (.ptr 19 0), (.ptr 22 0), (.ptr 4 0), (.opq 627), (.opq 630), (.opq 633), (.opq 1540), (.opq 1543), (.opq 1546), (.opq 1549), (.opq 1552), (.opq 1555), (.opq 1558), (.opq 1561), (.opq 1564), (.opq 1567), (.opq 1570), (.opq 1573), (.opq 1576), (.opq 1579), (.opq 1582), (.opq 1585), (.opq 1588), (.opq 1591), (.opq 1594), (.opq 1597), (.opq 1600), (.opq 1603), (.opq 1606), (.opq 1609), (.opq 1612), (.opq 1615), (.opq 1618), (.opq 1621), (.opq 1624), (.opq 1627), (.opq 1630), (.opq 1633), (.opq 1636), (.opq 735), (.opq 738), (.opq 741), (.opq 744), (.opq 747), (.opq 750), (.opq 753), (.opq 756), (.opq 759), (.opq 762), (.opq 765), (.opq 768), (.opq 771), (.opq 774), (.opq 777), (.opq 780), (.opq 783), (.opq 786), (.opq 789), (.opq 792), (.opq 795), (.opq 798), (.opq 801), (.opq 804), (.opq 807), (.opq 810), (.opq 813), (.opq 816), (.opq 819), (.opq 822), (.opq 825), (.opq 828), (.opq 1735)]), (627, .dead), (630, .dead), (633, .dead), (735, .dead), (738, .dead), (741, .dead), (744, .dead), (747, .dead), (750, .dead), (753, .dead), (756, .dead), (759, .dead), (762, .dead), (765, .dead), (768, .dead), (771, .dead), (774, .dead), (777, .dead), (780, .dead), (783, .dead), (786, .dead), (789, .dead), (792, .dead), (795, .dead), (798, .dead), (801, .dead), (804, .dead), (807, .dead), (810, .dead), (813, .dead), (816, .dead), (819, .dead), (822, .dead), (825, .dead), (828, .dead), (4, .blk 100 [(.ptr 10 0)]), (10, .blk 111 [.rs Jb, .rs Jb, .rs Jb, .rs Jd, .int .i64, .rs Iv4, .rs Je, (.row 13)]), (13, .arr 125 Jc), (16, .blk 3 [.int .i64]), (22, .blk 36 [(.lit (.int .i64 0))]), (25, .blk 33 [.rs Ja]), (19, .blk 54 [.int .i64, .int .i64, (.row 900)]), (900, .arr 3 Ja)], [0, 1, 4, 6, 9, 17, 18, 19, 20, 21, 22, 23, 24, 25, 26, 27, 28]⟩]
 spec := Xjx
def Zdr [W : InW] (lq : Ro Ja) (j : Int) := cel lq.xs j.toNat Zbe
def Xja [W : InW] (a i : Int) (lq : Ro Ja) (n j : Int) (pl sh ti : Ro Jb) (st : Ro Jd) (ce : Int) (hd : Ro Iv4) (rt : Ro Je) (dr : Dt) (bd : Int) (l : Ro Ja) (A : List Ed -> Prop) (K : Nat -> List Ed -> Prop) : Prop :=
 Vif (decide (j < n)) (Need (decide (Za <= j) && decide (j < (↑(lq.xs.length) : Int))) (Need (decide (j.toNat < lq.xs.length)) (Pre (Sp.DrOk hd.xs dr /\ (Za <= a /\ a < (↑(dr.length) : Int)) /\ Za <= (Zdr lq j).int /\ (Zdr lq j).int < (↑(dr.length) : Int)) (Pre (Sp.CrOk pl.xs sh.xs ti.xs st.xs ce hd.xs rt.xs /\ dr = Sp.drvN rt.xs (rt.xs.length) /\ (Za <= a /\ a < (↑(rt.xs.length) : Int)) /\ Za <= (Zdr lq j).int /\ (Zdr lq j).int < (↑(rt.xs.length) : Int)) (Vif (decide (Sp.most hd.xs rt.xs a.toNat (Zdr lq j).int.toNat <= bd)) (Ar .i64 (j + (1 : Int)) fun z => PreL Xr Xr (A [.i a, .i i, .ro _ lq, .i n, .i z, .ro _ pl, .ro _ sh, .ro _ ti, .ro Zc st, .i ce, .ro _ hd, .ro Zca rt, .l dr, .i bd, .ro _ l])) (Ar .i64 (Za - Sp.sumF (Sp.adL hd.xs dr a.toNat (Zdr lq j).int.toNat) Zbe (hd.xs.length) Za) fun z => Vif (decide (Sp.sumF (Sp.adH hd.xs dr a.toNat (Zdr lq j).int.toNat) Zbe (hd.xs.length) Za <= z)) (PreL Xce Xce (K (0+1 : Nat) [.ro _ pl, .ro _ sh, .ro _ ti, .ro Zc st, .i ce, .ro _ hd, .ro Zca rt, .l dr, .i bd, .ro _ l, .i a, .i (Zdr lq j).int, .l (Sp.leD hd.xs dr a.toNat (Zdr lq j).int.toNat (hd.xs.length))])) (PreL Xce Xce (K (0+1 : Nat) [.ro _ pl, .ro _ sh, .ro _ ti, .ro Zc st, .i ce, .ro _ hd, .ro Zca rt, .l dr, .i bd, .ro _ l, .i a, .i (Zdr lq j).int, .l (Sp.grD hd.xs dr a.toNat (Zdr lq j).int.toNat (hd.xs.length))])))))))) (PreL Xr Xr (K Zbe [.i i, .ro _ pl, .ro _ sh, .ro _ ti, .ro Zc st, .i ce, .ro _ hd, .ro Zca rt, .l dr, .i bd, .ro _ l]))
theorem Xs6 (W : InW) (a i lq n j pl sh ti st ce hd rt dr bd l A K) : Yer { cxT Try.prog TT T96 1000 50 with fn := 80 } 1000 (Yl5 Try.prog 80 5) (Ydl 30 [(0, .yl 1), (1, .ptr 25 0), (4, .si .i64 a), (9, .si .i64 i), (17, .rs _ lq), (18, .si .i64 n), (19, .si .i64 j)] [6, 20, 21, 22, 23, 24, 25, 26, 27, 28]) [(1, .lp Xr [.opq 1501, .opq 1504, .opq 1507, .opq 1510, .opq 1513, .opq 1516, .ptr 16 0, .ptr 19 0, .ptr 22 0, .ptr 4 0, .opq 327, .opq 330, .opq 333, .opq 1540, .opq 1543, .opq 1546, .opq 1549, .opq 1552, .opq 1555, .opq 1558, .opq 1561, .opq 1564, .opq 1567, .opq 1570, .opq 1573, .opq 1576, .opq 1579, .opq 1582, .opq 1585, .opq 1588, .opq 1591, .opq 1594, .opq 1597, .opq 1600, .opq 1603, .opq 1606, .opq 1609, .opq 1612, .opq 1615, .opq 1618, .opq 1621, .opq 1624, .opq 1627, .opq 1630, .opq 1633, .opq 1636, .opq 435, .opq 438, .opq 441, .opq 444, .opq 447, .opq 450, .opq 453, .opq 456, .opq 459, .opq 462, .opq 465, .opq 468, .opq 471, .opq 474, .opq 477, .opq 480, .opq 483, .opq 486, .opq 489, .opq 492, .opq 495, .opq 498, .opq 501, .opq 504, .opq 507, .opq 510, .opq 513, .opq 516, .opq 519, .opq 522, .opq 525, .opq 528, .opq 1735]), (4, .blk 100 [.ptr 10 0]), (10, .blk 111 [.rs _ pl, .rs _ sh, .rs _ ti, .rs _ st, .si .i64 ce, .rs _ hd, .rs _ rt, .rw 13]), (13, .arr 125 Jc dr), (16, .blk 3 [.si .i64 bd]), (22, .blk 36 [.v (.int .i64 0)]), (25, .blk 33 [.rs _ l]), (19, .blk 54 [.v (.int .i64 0), .v (.int .i64 0), .v (.slice none 0 0)])] (Yrh Xli A K) = Xja a i lq n j pl sh ti st ce hd rt dr bd l A K := by kernel_rfl
def Xky : Prop := ∀ (W : InW) (body a : Code), (Try.prog.funcs[80]?).bind (·.body) = some body -> a ∈ Ys body -> Ye9 a = 5 -> @Yk2 W Try.prog a (@Yqt W Xli)
theorem Xup (meas : [InW] -> List Ed -> Nat) (hyp_ : ∀ (W : InW) (a i : Int) (lq : Ro Ja) (n j : Int) (pl sh ti : Ro Jb) (st : Ro Jd) (ce : Int) (hd : Ro Iv4) (rt : Ro Je) (dr : Dt) (bd : Int) (l : Ro Ja) (K : Nat -> List Ed -> Prop), Xjx [.i a, .i i, .ro _ lq, .i n, .i j, .ro _ pl, .ro _ sh, .ro _ ti, .ro _ st, .i ce, .ro _ hd, .ro _ rt, .l dr, .i bd, .ro _ l] K -> ∀ A : List Ed -> Prop, (∀ e, meas e < meas [.i a, .i i, .ro _ lq, .i n, .i j, .ro _ pl, .ro _ sh, .ro _ ti, .ro _ st, .i ce, .ro _ hd, .ro _ rt, .l dr, .i bd, .ro _ l] -> Xjx e K -> A e) -> Xja a i lq n j pl sh ti st ce hd rt dr bd l A K) : Xky :=
 LE.okOf' (fun W => @TT W) (fun W => @Xb W) Xa T96 1000 50 (by kernel_rfl) Xli (fun W => @meas W) fun W a i lq n j pl sh ti st ce hd rt dr bd l K hs =>
  (Xs6 W a i lq n j pl sh ti st ce hd rt dr bd l (fun e => meas e < meas [.i a, .i i, .ro _ lq, .i n, .i j, .ro _ pl, .ro _ sh, .ro _ ti, .ro _ st, .i ce, .ro _ hd, .ro _ rt, .l dr, .i bd, .ro _ l] /\ Xjx e K) K).mpr (hyp_ W a i lq n j pl sh ti st ce hd rt dr bd l K hs _ fun e h1 h2 => ⟨h1, h2⟩)
theorem Xr5 (l : Dt) (m j c : Nat) : cel (l.drop m) j c = cel l (m + j) c := by
 unfold cel;simp only [List.getD_eq_getElem?_getD, List.getElem?_drop]
theorem Xxq : Xky := Xup (fun e => match e with | _ :: _ :: _ :: .i n :: .i j :: _ => (n - j).toNat | _ => 0) fun W a i lq n j pl sh ti st ce hd rt dr bd l K hs A hA => by
 obtain ⟨⟨hD, i0, i1, ea, eq_, rfl, j0, j1⟩, hk⟩ := hs;unfold Xja;delta Zdr Zca Zc Zbe Za;have ln := hD.ln;have hC := hD.cr;have hdr := hD.dre;subst hdr;have lql : lq.xs.length = l.xs.length - (i.toNat + 1) := by rw [eq_, List.length_drop]
 have a0 := hD.ls.at0 i.toNat (by omega);have a1 := hD.ls.at1 i.toNat (by omega);refine vifd (fun e => ?_) fun e => ?_
 ·have b0 := hD.ls.at0 (i.toNat + 1 + j.toNat) (by omega);have b1 := hD.ls.at1 (i.toNat + 1 + j.toNat) (by omega);have ec : cel lq.xs j.toNat 0 = cel l.xs (i.toNat + 1 + j.toNat) 0 := by rw [eq_, Xr5]
  have er : (cel l.xs (i.toNat + 1 + j.toNat) 0).int.toNat = Sp.rI l.xs (i.toNat + 1 + j.toNat) := rfl;have er2 : a.toNat = Sp.rI l.xs i.toNat := by rw [ea]; rfl
  rw [show l.xs.length - (i.toNat + 1 + j.toNat) = (l.xs.length - (i.toNat + 1 + j.toNat + 1)) + 1 by omega] at hk;simp only [Sp.hasK, Sp.ixK] at hk;rw [ec];have hap := Xoo (hd := hd.xs) (rt := rt.xs) (a := a.toNat) (b := (cel l.xs (i.toNat + 1 + j.toNat) 0).int.toNat) (by omega) (by omega) (Xwa hC);have hbd := Xfx (Xh7 hC (a := a) (by omega) (by omega)) (Xh7 hC b0 b1);refine Xg ⟨j0, by omega⟩ (nedd (by omega) ⟨⟨Xhw hC, ⟨by omega, by rw [Xi]; omega⟩, b0, by rw [Xi]; exact b1⟩, ⟨hC, rfl, ⟨by omega, by omega⟩, b0, b1⟩, vifd (fun f => ar64 (by omega) ⟨rfl, ?_⟩) fun f => ?_⟩)
  ·rw [er, er2] at f;rw [decide_eq_true f, Bool.not_true, Bool.false_or, if_pos f] at hk;refine hA _ (by show ((lq.xs.length : Int) - (j + 1)).toNat < ((lq.xs.length : Int) - j).toNat; omega) ⟨⟨hD, i0, i1, ea, eq_, rfl, by omega, by omega⟩, ?_⟩;rw [show (j + 1).toNat = j.toNat + 1 by omega, <- Nat.add_assoc];exact hk
  ·rw [hap.1, hap.2.1, hap.2.2.1, hap.2.2.2, Int.zero_sub];have f' := f;rw [er, er2] at f';rw [decide_eq_false f', Bool.not_false, Bool.true_or, if_neg f', <- er, <- er2] at hk;have hk1 := hk.1 rfl;unfold Sp.worst at hk1;refine ar64 (by omega) (vifd (fun g => ⟨rfl, ?_⟩) fun g => ⟨rfl, ?_⟩)
   ·rw [if_pos g] at hk1;exact hk1
   ·rw [if_neg g] at hk1;exact hk1
 ·rw [show l.xs.length - (i.toNat + 1 + j.toNat) = 0 by omega] at hk;exact ⟨rfl, hk.2 rfl⟩
noncomputable def Xyd : LE Try.prog := ⟨80, 5, fun W => @Yqt W Xli, Xxq⟩
noncomputable def T97 : Tab Try.prog := ⟨[], [Xyd], []⟩
def Xjw [InW] (e : List Ed) (K : Nat -> List Ed -> Prop) : Prop := match e with
 | [.ro _ lz, .i n, .i i, .ro _ pl, .ro _ sh, .ro _ ti, .ro _ st, .i ce, .ro _ hd, .ro _ rt, .l dr, .i bd, .ro _ l] => Pre (Sp.DbOk pl.xs sh.xs ti.xs st.xs ce hd.xs rt.xs dr l.xs /\ lz.xs = l.xs /\ n = l.xs.length /\ 0 <= i /\ i <= n)
   (Vif (Sp.hasD hd.xs rt.xs l.xs bd i.toNat (l.xs.length - i.toNat))
    (K 1 [.ro _ pl, .ro _ sh, .ro _ ti, .ro _ st, .i ce, .ro _ hd, .ro _ rt, .l dr, .i bd, .ro _ l, .i (cel l.xs (Sp.ixD hd.xs rt.xs l.xs bd i.toNat (l.xs.length - i.toNat)).1 0).int, .i (cel l.xs (Sp.ixD hd.xs rt.xs l.xs bd i.toNat (l.xs.length - i.toNat)).2 0).int, .l (Sp.worst hd.xs rt.xs (Sp.rI l.xs (Sp.ixD hd.xs rt.xs l.xs bd i.toNat (l.xs.length - i.toNat)).1) (Sp.rI l.xs (Sp.ixD hd.xs rt.xs l.xs bd i.toNat (l.xs.length - i.toNat)).2))])
    (K 0 [.ro _ pl, .ro _ sh, .ro _ ti, .ro _ st, .i ce, .ro _ hd, .ro _ rt, .l dr, .i bd, .ro _ l]))
 | _ => False
noncomputable def Xlh : LC where
 len := 30
 T := [(0, (.yl 1)), (1, (.ptr 25 0)), (7, .rs Ja), (8, .int .i64), (9, .int .i64)]
 H := [(1, .lp Xr [(.opq 1501), (.opq 1504), (.opq 1507), (.opq 1510), (.opq 1513), (.opq 1516), (.ptr 16 0), (.ptr 19 0), (.ptr 22 0), (.ptr 4 0), (.opq 327), (.opq 330), (.opq 333), (.opq 1540), (.opq 1543), (.opq 1546), (.opq 1549), (.opq 1552), (.opq 1555), (.opq 1558), (.opq 1561), (.opq 1564), (.opq 1567), (.opq 1570), (.opq 1573), (.opq 1576), (.opq 1579), (.opq 1582), (.opq 1585), (.opq 1588), (.opq 1591), (.opq 1594), (.opq 1597), (.opq 1600), (.opq 1603), (.opq 1606), (.opq 1609), (.opq 1612), (.opq 1615), (.opq 1618), (.opq 1621), (.opq 1624), (.opq 1627), (.opq 1630), (.opq 1633), (.opq 1636), (.opq 435), (.opq 438), (.opq 441), (.opq 444), (.opq 447), (.opq 450), (.opq 453), (.opq 456), (.opq 459), (.opq 462), (.opq 465), (.opq 468), (.opq 471), (.opq 474), (.opq 477), (.opq 480), (.opq 483), (.opq 486), (.opq 489), (.opq 492), (.opq 495), (.opq 498), (.opq 501), (.opq 504), (.opq 507), (.opq 510), (.opq 513), (.opq 516), (.opq 519), (.opq 522), (.opq 525), (.opq 528), (.opq 1735)]), (4, .blk 100 [(.ptr 10 0)]), (10, .blk 111 [.rs Jb, .rs Jb, .rs Jb, .rs Jd, .int .i64, .rs Iv4, .rs Je, (.row 13)]), (13, .arr 125 Jc), (16, .blk 3 [.int .i64]), (22, .blk 36 [(.lit (.int .i64 0))]), (25, .blk 33 [.rs Ja]), (19, .blk 54 [(.lit (.int .i64 0)), (.lit (.int .i64 0)), (.lit (.slice none 0 0))])]
 W := [3, 4, 6, 10, 11, 12, 13, 14, 15, 16, 17, 18, 19, 20, 21, 22, 23, 24, 25, 26, 27, 28, 29]
 outs := [⟨.exit 0, [], [(1, .lp Xr [(.opq 1501), (.opq 1504), (.opq 1507), (.opq 1510), (.opq 1513), (.opq 1516), (.ptr 16 0), (.ptr 19 0), (.ptr 22 0), (.ptr 4 0), (.opq 627), (.opq 630), (.opq 633), (.opq 1540), (.opq 1543), (.opq 1546), (.opq 1549), (.opq 1552), (.opq 1555), (.opq 1558), (.opq 1561), (.opq 1564), (.opq 1567), (.opq 1570), (.opq 1573), (.opq 1576), (.opq 1579), (.opq 1582), (.opq 1585), (.opq 1588), (.opq 1591), (.opq 1594), (.opq 1597), (.opq 1600), (.opq 1603), (.opq 1606), (.opq 1609), (.opq 1612), (.opq 1615), (.opq 1618), (.opq 1621), (.opq 1624), (.opq 1627), (.opq 1630), (.opq 1633), (.opq 1636), (.opq 735), (.opq 738), (.opq 741), (.opq 744), (.opq 747), (.opq 750), (.opq 753), (.opq 756), (.opq 759), (.opq 762), (.opq 765), (.opq 768), (.opq 771), (.opq 774), (.opq 777), (.opq 780), (.opq 783), (.opq 786), (.opq 789), (.opq 792), (.opq 795), (.opq 798), (.opq 801), (.opq 804), (.opq 807), (.opq 810), (.opq 813), (.opq 816), (.opq 819), (.opq 822), (.opq 825), (.opq 828), (.opq 1735)]), (627, .dead), (630, .dead), (633, .dead), (735, .dead), (738, .dead), (741, .dead), (744, .dead), (747, .dead), (750, .dead), (753, .dead), (756, .dead), (759, .dead), (762, .dead), (765, .dead), (768, .dead), (771, .dead), (774, .dead), (777, .dead), (780, .dead), (783, .dead), (786, .dead), (789, .dead), (792, .dead), (795, .dead), (798, .dead), (801, .dead), (804, .dead), (807, .dead), (810, .dead), (813, .dead), (816, .dead), (819, .dead), (822, .dead), (825, .dead), (828, .dead), (4, .blk 100 [(.ptr 10 0)]), (10, .blk 111 [.rs Jb, .rs Jb, .rs Jb, .rs Jd, .int .i64, .rs Iv4, .rs Je, (.row 13)]), (13, .arr 125 Jc), (16, .blk 3 [.int .i64]), (22, .blk 36 [(.lit (.int .i64 0))]), (25, .blk 33 [.rs Ja]), (19, .blk 54 [(.lit (.int .i64 0)), (.lit (.int .i64 0)), (.lit (.slice none 0 0))])], [0, 1, 3, 4, 6, 7, 8, 9, 10, 11, 12, 13, 14, 15, 16, 17, 18, 19, 20, 21, 22, 23, 24, 25, 26, 27, 28, 29]⟩, ⟨.ret, [], [(1, .lp Xce [(.opq 1501), (.opq 1504), (.opq 1507), (.opq 1510), (.opq 1513), (.opq 1516), (.ptr 16 0), (.ptr 19 0), (.ptr 22 0), (.ptr 4 0), (.opq 627), (.opq 630), (.opq 633), (.opq 1540), (.opq 1543), (.opq 1546), (.opq 1549), (.opq 1552), (.opq 1555), (.opq 1558), (.opq 1561), (.opq 1564), (.opq 1567), (.opq 1570), (.opq 1573), (.opq 1576), (.opq 1579), (.opq 1582), (.opq 1585), (.opq 1588), (.opq 1591), (.opq 1594), (.opq 1597), (.opq 1600), (.opq 1603), (.opq 1606), (.opq 1609), (.opq 1612), (.opq 1615), (.opq 1618), (.opq 1621), (.opq 1624), (.opq 1627), (.opq 1630), (.opq 1633), (.opq 1636), (.opq 735), (.opq 738), (.opq 741), (.opq 744), (.opq 747), (.opq 750), (.opq 753), (.opq 756), (.opq 759), (.opq 762), (.opq 765), (.opq 768), (.opq 771), (.opq 774), (.opq 777), (.opq 780), (.opq 783), (.opq 786), (.opq 789), (.opq 792), (.opq 795), (.opq 798), (.opq 801), (.opq 804), (.opq 807), (.opq 810), (.opq 813), (.opq 816), (.opq 819), (.opq 822), (.opq 825), (.opq 828), (.opq 1735)]), (627, .dead), (630, .dead), (633, .dead), (735, .dead), (738, .dead), (741, .dead), (744, .dead), (747, .dead), (750, .dead), (753, .dead), (756, .dead), (759, .dead), (762, .dead), (765, .dead), (768, .dead), (771, .dead), (774, .dead), (777, .dead), (780, .dead), (783, .dead), (786, .dead), (789, .dead), (792, .dead), (795, .dead), (798, .dead), (801, .dead), (804, .dead), (807, .dead), (810, .dead), (813, .dead), (816, .dead), (819, .dead), (822, .dead), (825, .dead), (828, .dead), (4, .blk 100 [(.ptr 10 0)]), (10, .blk 111 [.rs Jb, .rs Jb, .rs Jb, .rs Jd, .int .i64, .rs Iv4, .rs Je, (.row 13)]), (13, .arr 125 Jc), (16, .blk 3 [.int .i64]), (22, .blk 36 [(.lit (.int .i64 0))]), (25, .blk 33 [.rs Ja]), (19, .blk 54 [.int .i64, .int .i64, (.row 900)]), (900, .arr 3 Ja)], [0, 1, 3, 4, 6, 7, 8, 9, 10, 11, 12, 13, 14, 15, 16, 17, 18, 19, 20, 21, 22, 23, 24, 25, 26, 27, 28, 29]⟩]
 spec := Xjw
def Zds [W : InW] (i : Int) := i.toNat + (1 : Nat) + Int.toNat Za
def Xi9 [W : InW] (lz : Ro Ja) (n i : Int) (pl sh ti : Ro Jb) (st : Ro Jd) (ce : Int) (hd : Ro Iv4) (rt : Ro Je) (dr : Dt) (bd : Int) (l : Ro Ja) (A : List Ed -> Prop) (K : Nat -> List Ed -> Prop) : Prop :=
 Vif (decide (i < n)) (Need (decide (Za <= i) && decide (i < (↑(lz.xs.length) : Int))) (Need (decide (i.toNat < lz.xs.length)) (Ar .i64 (i + (1 : Int)) fun z => Need (decide (Za <= z)) (Need (decide (z.toNat <= l.xs.length) && decide (l.xs.length <= l.xs.length)) (PreL Xr Xr (Pre (Sp.DbOk pl.xs sh.xs ti.xs st.xs ce hd.xs rt.xs dr l.xs /\ Za <= i /\ i < (↑(l.xs.length) : Int) /\ (cel lz.xs i.toNat Zbe).int = (cel l.xs i.toNat Zbe).int /\ List.drop z.toNat (List.take (l.xs.length) l.xs) = List.drop (i.toNat + (1 : Nat)) l.xs /\ (↑(List.drop z.toNat (List.take (l.xs.length) l.xs)).length : Int) = (↑(List.drop z.toNat (List.take (l.xs.length) l.xs)).length : Int) /\ Za <= Za /\ Za <= (↑(List.drop z.toNat (List.take (l.xs.length) l.xs)).length : Int)) (Vif (Sp.hasK hd.xs rt.xs l.xs bd i.toNat (Zds i) (l.xs.length - (Zds i))) (PreL Xce Xce (K (0+1 : Nat) [.ro _ pl, .ro _ sh, .ro _ ti, .ro Zc st, .i ce, .ro _ hd, .ro Zca rt, .l dr, .i bd, .ro _ l, .i (cel lz.xs i.toNat Zbe).int, .i (cel l.xs (Sp.ixK hd.xs rt.xs l.xs bd i.toNat (Zds i) (l.xs.length - (Zds i))) Zbe).int, .l (Sp.worst hd.xs rt.xs (Sp.rI l.xs i.toNat) (Sp.rI l.xs (Sp.ixK hd.xs rt.xs l.xs bd i.toNat (Zds i) (l.xs.length - (Zds i)))))])) (Ar .i64 (i + (1 : Int)) fun z => PreL Xr Xr (A [.ro _ lz, .i n, .i z, .ro _ pl, .ro _ sh, .ro _ ti, .ro Zc st, .i ce, .ro _ hd, .ro Zca rt, .l dr, .i bd, .ro _ l]))))))))) (PreL Xr Xr (K Zbe [.ro _ pl, .ro _ sh, .ro _ ti, .ro Zc st, .i ce, .ro _ hd, .ro Zca rt, .l dr, .i bd, .ro _ l]))
theorem Xs5 (W : InW) (lz n i pl sh ti st ce hd rt dr bd l A K) : Yer { cxT Try.prog TT T97 1000 50 with fn := 80 } 1000 (Yl5 Try.prog 80 2) (Ydl 30 [(0, .yl 1), (1, .ptr 25 0), (7, .rs _ lz), (8, .si .i64 n), (9, .si .i64 i)] [3, 4, 6, 10, 11, 12, 13, 14, 15, 16, 17, 18, 19, 20, 21, 22, 23, 24, 25, 26, 27, 28, 29]) [(1, .lp Xr [.opq 1501, .opq 1504, .opq 1507, .opq 1510, .opq 1513, .opq 1516, .ptr 16 0, .ptr 19 0, .ptr 22 0, .ptr 4 0, .opq 327, .opq 330, .opq 333, .opq 1540, .opq 1543, .opq 1546, .opq 1549, .opq 1552, .opq 1555, .opq 1558, .opq 1561, .opq 1564, .opq 1567, .opq 1570, .opq 1573, .opq 1576, .opq 1579, .opq 1582, .opq 1585, .opq 1588, .opq 1591, .opq 1594, .opq 1597, .opq 1600, .opq 1603, .opq 1606, .opq 1609, .opq 1612, .opq 1615, .opq 1618, .opq 1621, .opq 1624, .opq 1627, .opq 1630, .opq 1633, .opq 1636, .opq 435, .opq 438, .opq 441, .opq 444, .opq 447, .opq 450, .opq 453, .opq 456, .opq 459, .opq 462, .opq 465, .opq 468, .opq 471, .opq 474, .opq 477, .opq 480, .opq 483, .opq 486, .opq 489, .opq 492, .opq 495, .opq 498, .opq 501, .opq 504, .opq 507, .opq 510, .opq 513, .opq 516, .opq 519, .opq 522, .opq 525, .opq 528, .opq 1735]), (4, .blk 100 [.ptr 10 0]), (10, .blk 111 [.rs _ pl, .rs _ sh, .rs _ ti, .rs _ st, .si .i64 ce, .rs _ hd, .rs _ rt, .rw 13]), (13, .arr 125 Jc dr), (16, .blk 3 [.si .i64 bd]), (22, .blk 36 [.v (.int .i64 0)]), (25, .blk 33 [.rs _ l]), (19, .blk 54 [.v (.int .i64 0), .v (.int .i64 0), .v (.slice none 0 0)])] (Yrh Xlh A K) = Xi9 lz n i pl sh ti st ce hd rt dr bd l A K := by kernel_rfl
def Xkx : Prop := ∀ (W : InW) (body a : Code), (Try.prog.funcs[80]?).bind (·.body) = some body -> a ∈ Ys body -> Ye9 a = 2 -> @Yk2 W Try.prog a (@Yqt W Xlh)
theorem Xuo (meas : [InW] -> List Ed -> Nat) (hyp_ : ∀ (W : InW) (lz : Ro Ja) (n i : Int) (pl sh ti : Ro Jb) (st : Ro Jd) (ce : Int) (hd : Ro Iv4) (rt : Ro Je) (dr : Dt) (bd : Int) (l : Ro Ja) (K : Nat -> List Ed -> Prop), Xjw [.ro _ lz, .i n, .i i, .ro _ pl, .ro _ sh, .ro _ ti, .ro _ st, .i ce, .ro _ hd, .ro _ rt, .l dr, .i bd, .ro _ l] K -> ∀ A : List Ed -> Prop, (∀ e, meas e < meas [.ro _ lz, .i n, .i i, .ro _ pl, .ro _ sh, .ro _ ti, .ro _ st, .i ce, .ro _ hd, .ro _ rt, .l dr, .i bd, .ro _ l] -> Xjw e K -> A e) -> Xi9 lz n i pl sh ti st ce hd rt dr bd l A K) : Xkx :=
 LE.okOf' (fun W => @TT W) (fun W => @Xb W) Xa T97 1000 50 (by kernel_rfl) Xlh (fun W => @meas W) fun W lz n i pl sh ti st ce hd rt dr bd l K hs =>
  (Xs5 W lz n i pl sh ti st ce hd rt dr bd l (fun e => meas e < meas [.ro _ lz, .i n, .i i, .ro _ pl, .ro _ sh, .ro _ ti, .ro _ st, .i ce, .ro _ hd, .ro _ rt, .l dr, .i bd, .ro _ l] /\ Xjw e K) K).mpr (hyp_ W lz n i pl sh ti st ce hd rt dr bd l K hs _ fun e h1 h2 => ⟨h1, h2⟩)
theorem Xxp : Xkx := Xuo (fun e => match e with | _ :: .i n :: .i i :: _ => (n - i).toNat | _ => 0) fun W lz n i pl sh ti st ce hd rt dr bd l K hs A hA => by
 obtain ⟨⟨hD, eq_, rfl, i0, i1⟩, hk⟩ := hs;unfold Xi9;delta Zds Zca Zc Zbe Za;have ln := hD.ln;refine vifd (fun e => ?_) fun e => ?_
 ·rw [show l.xs.length - i.toNat = (l.xs.length - (i.toNat + 1)) + 1 by omega] at hk;simp only [Sp.hasD, Sp.ixD] at hk;have ez : (i + 1).toNat = i.toNat + 1 := by omega
  have et : List.drop (i + 1).toNat (List.take l.xs.length l.xs) = List.drop (i.toNat + 1) l.xs := by rw [List.take_length, ez]
  refine Xg ⟨i0, by rw [eq_]; omega⟩ (nedd (by rw [eq_]; omega) (ar64 (by omega) (nedd (by omega) (ned (by simp; omega) ⟨rfl, ⟨hD, i0, by omega, by rw [eq_], et, rfl, by omega, by omega⟩, ?_⟩))));rw [eq_];simp only [show Int.toNat 0 = 0 from rfl, Nat.add_zero];refine vif (fun f => ⟨rfl, ?_⟩) fun f => ar64 (by omega) ⟨rfl, ?_⟩
  ·rw [f, if_pos rfl, Bool.true_or] at hk;exact hk.1 rfl
  ·rw [f, if_neg (by decide), Bool.false_or] at hk;refine hA _ (by show ((l.xs.length : Int) - (i + 1)).toNat < ((l.xs.length : Int) - i).toNat; omega) ⟨⟨hD, eq_, rfl, by omega, by omega⟩, ?_⟩;rw [ez];exact hk
 ·rw [show l.xs.length - i.toNat = 0 by omega] at hk;exact ⟨rfl, hk.2 rfl⟩
noncomputable def Xyc : LE Try.prog := ⟨80, 2, fun W => @Yqt W Xlh, Xxp⟩
namespace Sp
def daE (rt l : Dt) (bd : Int) : Int := if 10 < (l.length : Int) then 3 else if out 0 ((rt.length : Int) - 1) l then 4 else if inr bd 0 1000000 then 0 else 7
def dbE (pl sh ti st : Dt) (ce : Int) (hd rt l : Dt) (bd : Int) : Int := if cE pl sh ti st ce hd rt = 0 then daE rt l bd else cE pl sh ti st ce hd rt
def ddA (pl sh ti st : Dt) (ce : Int) (hd rt l : Dt) (bd : Int) : Int := if dbE pl sh ti st ce hd rt l bd = 0 then dbA hd rt l bd else 0
def ddB (pl sh ti st : Dt) (ce : Int) (hd rt l : Dt) (bd : Int) : Int := if dbE pl sh ti st ce hd rt l bd = 0 then dbB hd rt l bd else 0
def ddT (pl sh ti st : Dt) (ce : Int) (hd rt l : Dt) (bd : Int) : Dt := if dbE pl sh ti st ce hd rt l bd = 0 then dbT hd rt l bd else []
end Sp
abbrev Xck : RTs := [(true, [.int .i64, .int .i64, .row 3 Ja]), (false, [.int .i64])]
abbrev Xg1 (ds : DS) : DS := match ds with | [[.l pl, .l sh, .l ti, .l st, .i ce, .l hd, .l rt], [.l l], [.i bd]] => [[.i (Sp.ddA pl sh ti st ce hd rt l bd), .i (Sp.ddB pl sh ti st ce hd rt l bd), .l (Sp.ddT pl sh ti st ce hd rt l bd)], [.i (Sp.dbE pl sh ti st ce hd rt l bd)]] | _ => []
noncomputable def T98 : Tab Try.prog := ⟨[Xo], [Xyc], [Xbo]⟩
def Zdt := [Cl.i Za, Cl.i Za, Cl.l []]
def Zdu [W : InW] (l : Ro Ja) := l.xs.length - Int.toNat Za
def Xds [W : InW] (c_Pl c_Sh c_Ti : Ro [.str]) (c_St : Ro [.int .i64, .int .i64, .int .i64, .int .i64, .int .i64, .bool, .sl [.int .i64]]) (c_Ce : Int) (c_Hd : Ro [.int .i64, .int .i64, .int .i64, .int .i64]) (c_Rt : Ro [.sl [.int .i64, .bool]]) (l : Ro [.int .i64]) (bd : Int) (Q : DS -> Prop) : Prop :=
 Pre (Sp.NamesOk c_Pl.xs /\ Sp.NamesOk c_Sh.xs /\ Sp.NamesOk c_Ti.xs) (Vif (decide (Sp.cE c_Pl.xs c_Sh.xs c_Ti.xs c_St.xs c_Ce c_Hd.xs c_Rt.xs = Za)) (Ar .i64 ((↑(c_Rt.xs.length) : Int) - (1 : Int)) fun z => Pre True (Vif (Sp.out Za z []) (Q [Zdt, [Cl.i (4 : Int)]]) (Vif (decide ((10 : Int) < (↑(l.xs.length) : Int))) (Q [Zdt, [Cl.i (3 : Int)]]) (Ar .i64 ((↑(c_Rt.xs.length) : Int) - (1 : Int)) fun z => Pre True (Vif (Sp.out Za z l.xs) (Q [Zdt, [Cl.i (4 : Int)]]) (Pre True (Vif (Sp.out Za (1000000 : Int) [[Cl.i bd]]) (Q [Zdt, [Cl.i (7 : Int)]]) (PreL Xr Xr (Pre (Sp.DbOk c_Pl.xs c_Sh.xs c_Ti.xs c_St.xs c_Ce c_Hd.xs c_Rt.xs (Sp.drvN c_Rt.xs (c_Rt.xs.length)) l.xs /\ l.xs = l.xs /\ (↑(l.xs.length) : Int) = (↑(l.xs.length) : Int) /\ Za <= Za /\ Za <= (↑(l.xs.length) : Int)) (Vif (Sp.hasD c_Hd.xs c_Rt.xs l.xs bd Zg (Zdu l)) (Q [[Cl.i (cel l.xs (Sp.ixD c_Hd.xs (rsK._proof_1 [Ty.sl [Ty.int IntKind.i64, Ty.bool]] [Ty.sl [Ty.int IntKind.i64, Ty.bool]] rfl ▸ rsK._proof_1 [Ty.sl [Ty.int IntKind.i64, Ty.bool]] [Ty.sl [Ty.int IntKind.i64, Ty.bool]] rfl ▸ c_Rt).xs l.xs bd Zg (Zdu l)).1 (0 : Nat)).int, Cl.i (cel l.xs (Sp.ixD c_Hd.xs (rsK._proof_1 [Ty.sl [Ty.int IntKind.i64, Ty.bool]] [Ty.sl [Ty.int IntKind.i64, Ty.bool]] rfl ▸ rsK._proof_1 [Ty.sl [Ty.int IntKind.i64, Ty.bool]] [Ty.sl [Ty.int IntKind.i64, Ty.bool]] rfl ▸ c_Rt).xs l.xs bd Zg (Zdu l)).2 (0 : Nat)).int, Cl.l (Sp.worst c_Hd.xs c_Rt.xs (Sp.rI l.xs (Sp.ixD c_Hd.xs (rsK._proof_1 [Ty.sl [Ty.int IntKind.i64, Ty.bool]] [Ty.sl [Ty.int IntKind.i64, Ty.bool]] rfl ▸ rsK._proof_1 [Ty.sl [Ty.int IntKind.i64, Ty.bool]] [Ty.sl [Ty.int IntKind.i64, Ty.bool]] rfl ▸ c_Rt).xs l.xs bd Zg (Zdu l)).1) (Sp.rI l.xs (Sp.ixD c_Hd.xs (rsK._proof_1 [Ty.sl [Ty.int IntKind.i64, Ty.bool]] [Ty.sl [Ty.int IntKind.i64, Ty.bool]] rfl ▸ rsK._proof_1 [Ty.sl [Ty.int IntKind.i64, Ty.bool]] [Ty.sl [Ty.int IntKind.i64, Ty.bool]] rfl ▸ c_Rt).xs l.xs bd Zg (Zdu l)).2))], [Cl.i Za]]) (Q [[Cl.i (-1 : Int), Cl.i (-1 : Int), Cl.l []], [Cl.i Za]]))))))))))) (Vif (decide (Sp.cE c_Pl.xs c_Sh.xs c_Ti.xs c_St.xs c_Ce c_Hd.xs c_Rt.xs = Za)) ((16 : Nat) = (16 : Nat) + (1 : Nat)) (Vif (!decide (Sp.cE c_Pl.xs c_Sh.xs c_Ti.xs c_St.xs c_Ce c_Hd.xs c_Rt.xs = Za)) (Q [Zdt, [Cl.i (Sp.cE c_Pl.xs c_Sh.xs c_Ti.xs c_St.xs c_Ce c_Hd.xs c_Rt.xs)]]) (Vif (decide ((10 : Int) < (↑(l.xs.length) : Int))) (Q [Zdt, [Cl.i (3 : Int)]]) ((16 : Nat) = (16 : Nat) + (1 : Nat))))))
theorem Xmm (W : InW) (c_Pl c_Sh c_Ti c_St c_Ce c_Hd c_Rt l bd Q) : Yte (cxT Try.prog TT T98 1000 50) 1000 24 [.agg [.rs _ c_Pl, .rs _ c_Sh, .rs _ c_Ti, .rs _ c_St, .si .i64 c_Ce, .rs _ c_Hd, .rs _ c_Rt], .rs _ l, .si .i64 bd] [] 0 (Ywt Xck Q) (fun _ _ _ _ => Stuck 421) = Xds c_Pl c_Sh c_Ti c_St c_Ce c_Hd c_Rt l bd Q := by kernel_rfl
abbrev Xb0 : List AT := [.agg [.sl Jb, .sl Jb, .sl Jb, .sl Jd, .int .i64, .sl Iv4, .sl Je], .one (.sl Ja), .one (.int .i64)]
theorem Xn3 {pre : DS -> Prop} {res : DS -> DS} (hyp_ : ∀ (W : InW) (c_Pl c_Sh c_Ti : Ro Jb) (c_St : Ro Jd) (c_Ce : Int) (c_Hd : Ro Iv4) (c_Rt : Ro Je) (l : Ro Ja) (bd : Int), pre [[.l c_Pl.xs, .l c_Sh.xs, .l c_Ti.xs, .l c_St.xs, .i c_Ce, .l c_Hd.xs, .l c_Rt.xs], [.l l.xs], [.i bd]] -> ∀ Q : DS -> Prop, Q (res [[.l c_Pl.xs, .l c_Sh.xs, .l c_Ti.xs, .l c_St.xs, .i c_Ce, .l c_Hd.xs, .l c_Rt.xs], [.l l.xs], [.i bd]]) -> Xds c_Pl c_Sh c_Ti c_St c_Ce c_Hd c_Rt l bd Q) : PureOk Try.prog 24 Xb0 Xck pre res :=
 PureOk.of' (fun W => @TT W) (fun W => @Xb W) Xa T98 1000 50 fun W c_Pl c_Sh c_Ti c_St c_Ce c_Hd c_Rt l bd hp =>
  (Xmm W c_Pl c_Sh c_Ti c_St c_Ce c_Hd c_Rt l bd (fun o => o = res [[.l c_Pl.xs, .l c_Sh.xs, .l c_Ti.xs, .l c_St.xs, .i c_Ce, .l c_Hd.xs, .l c_Rt.xs], [.l l.xs], [.i bd]])).mpr (hyp_ W c_Pl c_Sh c_Ti c_St c_Ce c_Hd c_Rt l bd hp _ rfl)
theorem Xwt {n : Nat} {l : Dt} (h : Sp.out 0 ((n : Int) - 1) l = false) : Sp.LsOk n l := by
 have h1 := Sp.outs_ff h;exact ⟨fun k hk => (h1 k (by omega) (by omega)).1, fun k hk => by have := (h1 k (by omega) (by omega)).2; omega⟩
theorem Xyi {pl sh ti st : Dt} {ce : Int} {hd rt l : Dt} {bd : Int} {Q : Int -> Int -> Dt -> Int -> Prop} (h : Q (Sp.ddA pl sh ti st ce hd rt l bd) (Sp.ddB pl sh ti st ce hd rt l bd) (Sp.ddT pl sh ti st ce hd rt l bd) (Sp.dbE pl sh ti st ce hd rt l bd)) :
  (¬ Sp.dbE pl sh ti st ce hd rt l bd = 0 -> Q 0 0 [] (Sp.dbE pl sh ti st ce hd rt l bd)) /\ (Sp.dbE pl sh ti st ce hd rt l bd = 0 -> Sp.hasD hd rt l bd 0 l.length = false -> Q (-1) (-1) [] 0) /\
  (Sp.dbE pl sh ti st ce hd rt l bd = 0 -> Sp.hasD hd rt l bd 0 l.length = true -> Q (cel l (Sp.ixD hd rt l bd 0 l.length).1 0).int (cel l (Sp.ixD hd rt l bd 0 l.length).2 0).int (Sp.worst hd rt (Sp.rI l (Sp.ixD hd rt l bd 0 l.length).1) (Sp.rI l (Sp.ixD hd rt l bd 0 l.length).2)) 0) := by
 unfold Sp.ddA Sp.ddB Sp.ddT Sp.dbA Sp.dbB Sp.dbT at h;refine ⟨fun e => ?_, fun e f => ?_, fun e f => ?_⟩
 ·simp only [if_neg e] at h; exact h
 ·simp only [if_pos e, f, Bool.false_eq_true, if_false] at h; rw [e] at h; exact h
 ·simp only [if_pos e, f, if_true] at h; rw [e] at h; exact h
theorem Xqn : PureOk Try.prog 24 Xb0 Xck Xf Xg1 :=
 Xn3 fun W pl sh ti st ce hd rt l bd hp Q h => by
  have hp : Sp.NamesOk pl.xs /\ Sp.NamesOk sh.xs /\ Sp.NamesOk ti.xs := hp;unfold Xds;delta Zdt Zdu Zg Za;simp only [Xh6, show Int.toNat 0 = 0 from rfl, Nat.sub_zero, out1];obtain ⟨q0, q1, q2⟩ := Xyi (Q := fun x y z w => Q [[.i x, .i y, .l z], [.i w]]) h;clear h;have hx : Sp.dbE pl.xs sh.xs ti.xs st.xs ce hd.xs rt.xs l.xs bd = if Sp.cE pl.xs sh.xs ti.xs st.xs ce hd.xs rt.xs = 0 then (if 10 < (l.xs.length : Int) then 3 else if Sp.out 0 ((rt.xs.length : Int) - 1) l.xs then 4 else if Sp.inr bd 0 1000000 then 0 else 7) else Sp.cE pl.xs sh.xs ti.xs st.xs ce hd.xs rt.xs := rfl
  refine ⟨hp, vifd (fun e => ?_) fun e => vifd (fun g => absurd g e) fun _ => vifn (fun _ => ?_) fun g => absurd g e⟩
  ·have hC := Sp.cchk_ok e;have rl := hC.rl;rw [if_pos e] at hx;refine ar64 (by omega) ⟨trivial, vif (fun f => absurd f (by rw [out0]; decide)) fun _ => vifd (fun f1 => ?_) fun f1 => ar64 (by omega) ⟨trivial, vif (fun f2 => ?_) fun f2 => ⟨trivial, vifb (fun f3 => ?_) fun f3 => ⟨rfl, ⟨⟨hC, rfl, Xwt f2, by omega⟩, trivial, trivial, by omega, by omega⟩, ?_⟩⟩⟩⟩
   ·rw [if_pos f1] at hx;rw [hx] at q0;exact q0 (by decide)
   ·rw [if_neg f1, f2, if_pos rfl] at hx;rw [hx] at q0;exact q0 (by decide)
   ·rw [if_neg f1, f2, if_neg (by decide), f3, if_neg (by decide)] at hx;rw [hx] at q0;exact q0 (by decide)
   ·rw [if_neg f1, f2, if_neg (by decide), f3, if_pos rfl] at hx;exact vif (fun g => q2 hx g) fun g => q1 hx g
  ·rw [if_neg e] at hx;rw [hx] at q0;exact q0 e
noncomputable def Xna : PC Try.prog := ⟨24, Xb0, Xck, Xf, Xg1, Xqn⟩
open Go.RowKit
set_option maxRecDepth 100000
set_option maxHeartbeats 1600000
open Go.RowKit
theorem WfC.str_le {c : Cl} (h : WfC .str c) : c.str.size <= maxLen := by cases h; assumption
theorem WfC.cell {ts : List Ty} {xs : Dt} (h : WfC (.sl ts) (.l xs)) {i k : Nat} {t : Ty} (hi : i < xs.length) (ht : ts[k]? = some t) : WfC t (cel xs i k) := by
 cases h with
 | sl _ _ _ _ h => exact h i k t hi ht
theorem Xe2 {ts : List Ty} {xs : Dt} (h : WfC (.sl (.str :: ts)) (.l xs)) : Sp.NamesOk xs := fun i => by
 by_cases hi : i < xs.length
 ·have := (h.cell hi (k := 0) rfl).str_le;simp only [maxLen] at this
  show (cel xs i 0).str.size <= _
  omega
 ·have : cel xs i 0 = .z := by simp [cel, List.getD_eq_getElem?_getD, List.getElem?_eq_none (Nat.le_of_not_lt hi)]
  show (cel xs i 0).str.size <= _
  rw [this]; decide
theorem Xhy {ts : List Ty} {pl sh ti : Dt} {ds : List Cl} (h : WfL (.sl Jb :: .sl Jb :: .sl Jb :: ts) (.l pl :: .l sh :: .l ti :: ds)) : Sp.NamesOk pl /\ Sp.NamesOk sh /\ Sp.NamesOk ti := by
 cases h with
 | cons h1 h =>
  cases h with
  | cons h2 h =>
   cases h with
   | cons h3 h => exact ⟨Xe2 h1, Xe2 h2, Xe2 h3⟩
open Go.RowKit
set_option maxRecDepth 100000
set_option maxHeartbeats 1600000
noncomputable def T110 : Tab Try.prog := ⟨[Xnf], [], []⟩
def Xfy [W : InW] (c_Pl c_Sh c_Ti : Ro Jb) (c_St : Ro Jd) (c_Ce : Int) (c_Hd : Ro Iv4) (c_Rt : Ro Je) (Q : DS -> Prop) : Prop :=
 Pre (Sp.NamesOk c_Pl.xs /\ Sp.NamesOk c_Sh.xs /\ Sp.NamesOk c_Ti.xs) (Q [[Cl.b (decide (Sp.cE c_Pl.xs c_Sh.xs c_Ti.xs c_St.xs c_Ce c_Hd.xs c_Rt.xs = (0 : Int)))]])
theorem Xph (W : InW) (c_Pl c_Sh c_Ti c_St c_Ce c_Hd c_Rt Q) : Yte (cxT Try.prog TT T110 1000 50) 1000 30 [.agg [.rs _ c_Pl, .rs _ c_Sh, .rs _ c_Ti, .rs _ c_St, .si .i64 c_Ce, .rs _ c_Hd, .rs _ c_Rt]] [] 0 (Ywt [(false, [.bool])] Q) (fun _ _ _ _ => Stuck 421) = Xfy c_Pl c_Sh c_Ti c_St c_Ce c_Hd c_Rt Q := by kernel_rfl
abbrev Xc5 : List AT := [.agg [.sl Jb, .sl Jb, .sl Jb, .sl Jd, .int .i64, .sl Iv4, .sl Je]]
theorem Xrc {pre : DS -> Prop} {res : DS -> DS} (hyp_ : ∀ (W : InW) (c_Pl c_Sh c_Ti : Ro Jb) (c_St : Ro Jd) (c_Ce : Int) (c_Hd : Ro Iv4) (c_Rt : Ro Je), pre [[.l c_Pl.xs, .l c_Sh.xs, .l c_Ti.xs, .l c_St.xs, .i c_Ce, .l c_Hd.xs, .l c_Rt.xs]] -> ∀ Q : DS -> Prop, Q (res [[.l c_Pl.xs, .l c_Sh.xs, .l c_Ti.xs, .l c_St.xs, .i c_Ce, .l c_Hd.xs, .l c_Rt.xs]]) -> Xfy c_Pl c_Sh c_Ti c_St c_Ce c_Hd c_Rt Q) : PureOk Try.prog 30 Xc5 [(false, [.bool])] pre res :=
 PureOk.of' (fun W => @TT W) (fun W => @Xb W) Xa T110 1000 50 fun W c_Pl c_Sh c_Ti c_St c_Ce c_Hd c_Rt hp =>
  (Xph W c_Pl c_Sh c_Ti c_St c_Ce c_Hd c_Rt (fun o => o = res [[.l c_Pl.xs, .l c_Sh.xs, .l c_Ti.xs, .l c_St.xs, .i c_Ce, .l c_Hd.xs, .l c_Rt.xs]])).mpr (hyp_ W c_Pl c_Sh c_Ti c_St c_Ce c_Hd c_Rt hp _ rfl)
abbrev Xgv (ds : DS) : DS := match ds with | [[.l pl, .l sh, .l ti, .l st, .i ce, .l hd, .l rt]] => [[.b (decide (Sp.cE pl sh ti st ce hd rt = 0))]] | _ => []
theorem Xtx : PureOk Try.prog 30 Xc5 [(false, [.bool])] Xz Xgv :=
 Xrc fun W pl sh ti st ce hd rt hp Q h => by
  have hp : Sp.NamesOk pl.xs /\ Sp.NamesOk sh.xs /\ Sp.NamesOk ti.xs := hp;unfold Xfy;exact ⟨hp, h⟩
noncomputable def Xp0 : PC Try.prog := ⟨30, Xc5, [(false, [.bool])], Xz, Xgv, Xtx⟩
noncomputable def T111 : Tab Try.prog := ⟨[], [], []⟩
namespace Sp
def wiF (m : Nat) (l : Dt) : Nat -> Nat -> Bool
 | _, 0 => true
 | i, n + 1 => (decide (0 <= (cel l i 0).int) && decide ((cel l i 0).int < m) && (decide (i = 0) || decide ((cel l (i - 1) 0).int < (cel l i 0).int))) && wiF m l (i + 1) n
end Sp
def Xjh [InW] (e : List Ed) (K : Nat -> List Ed -> Prop) : Prop := match e with
 | [.ro _ l, .i i, .ro _ pl, .ro _ sh, .ro _ ti, .ro _ st, .i ce, .ro _ hd, .ro _ rt] => Pre (0 <= i /\ i <= l.xs.length)
   (Vif (Sp.wiF rt.xs.length l.xs i.toNat (l.xs.length - i.toNat)) (K 0 []) (K 1 []))
 | _ => False
noncomputable def Xk2 : LC where
 len := 43
 T := [(1, .rs Ja), (2, (.ptr 1 0)), (5, .int .i64)]
 H := [(1, .blk 29 [.rs Jb, .rs Jb, .rs Jb, .rs Jd, .int .i64, .rs Iv4, .rs Je])]
 W := [4, 6, 7, 8, 9, 10, 11, 12, 13, 14, 15, 16, 17, 18, 19, 20, 21, 22, 23, 24, 25, 26, 27, 28, 29, 30, 31, 32, 33, 34, 35, 36, 37, 38, 39, 40, 41, 42]
 outs := [⟨.exit 0, [], [], [1, 2, 4, 5, 6, 7, 8, 9, 10, 11, 12, 13, 14, 15, 16, 17, 18, 19, 20, 21, 22, 23, 24, 25, 26, 27, 28, 29, 30, 31, 32, 33, 34, 35, 36, 37, 38, 39, 40, 41, 42]⟩, ⟨.ret, [(4, (.lit (.bool false)))], [], [1, 2, 5, 6, 7, 8, 9, 10, 11, 12, 13, 14, 15, 16, 17, 18, 19, 20, 21, 22, 23, 24, 25, 26, 27, 28, 29, 30, 31, 32, 33, 34, 35, 36, 37, 38, 39, 40, 41, 42]⟩]
 spec := Xjh
def Zdv [W : InW] (l : Ro Ja) (i : Int) := decide (Za <= i) && decide (i < (↑(l.xs.length) : Int))
def Xiu [W : InW] (l : Ro Ja) (i : Int) (pl sh ti : Ro Jb) (st : Ro Jd) (ce : Int) (hd : Ro Iv4) (rt : Ro Je) (A : List Ed -> Prop) (K : Nat -> List Ed -> Prop) : Prop :=
 Vif (decide (i < (↑(l.xs.length) : Int))) (Need (Zdv l i) (Need (decide (i.toNat < l.xs.length)) (Vif (decide ((cel l.xs i.toNat Zbe).int < Za)) (K (0+1 : Nat) []) (Need (Zdv l i) (Need (decide (i.toNat < l.xs.length)) (Vif (decide ((↑(rt.xs.length) : Int) <= (cel l.xs i.toNat Zbe).int)) (K (0+1 : Nat) []) (Vif (decide (Za < i)) (Need (Zdv l i) (Need (decide (i.toNat < l.xs.length)) (Ar .i64 (i - (1 : Int)) fun z => Need (decide (Za <= z) && decide (z < (↑(l.xs.length) : Int))) (Need (decide (z.toNat < l.xs.length)) (Vif (decide ((cel l.xs i.toNat Zbe).int <= (cel l.xs z.toNat Zbe).int)) (K (0+1 : Nat) []) (Ar .i64 (i + (1 : Int)) fun z => A [.ro _ l, .i z, .ro _ pl, .ro _ sh, .ro _ ti, .ro Zc st, .i ce, .ro _ hd, .ro Zca rt])))))) (Ar .i64 (i + (1 : Int)) fun z => A [.ro _ l, .i z, .ro _ pl, .ro _ sh, .ro _ ti, .ro Zc st, .i ce, .ro _ hd, .ro Zca rt])))))))) (K Zbe [])
theorem Xsq (W : InW) (l i pl sh ti st ce hd rt A K) : Yer { cxT Try.prog TT T111 1000 50 with fn := 35 } 1000 (Yl5 Try.prog 35 3) (Ydl 43 [(1, .rs _ l), (2, .ptr 1 0), (5, .si .i64 i)] [4, 6, 7, 8, 9, 10, 11, 12, 13, 14, 15, 16, 17, 18, 19, 20, 21, 22, 23, 24, 25, 26, 27, 28, 29, 30, 31, 32, 33, 34, 35, 36, 37, 38, 39, 40, 41, 42]) [(1, .blk 29 [.rs _ pl, .rs _ sh, .rs _ ti, .rs _ st, .si .i64 ce, .rs _ hd, .rs _ rt])] (Yrh Xk2 A K) = Xiu l i pl sh ti st ce hd rt A K := by kernel_rfl
def Xki : Prop := ∀ (W : InW) (body a : Code), (Try.prog.funcs[35]?).bind (·.body) = some body -> a ∈ Ys body -> Ye9 a = 3 -> @Yk2 W Try.prog a (@Yqt W Xk2)
theorem Xt9 (meas : [InW] -> List Ed -> Nat) (hyp_ : ∀ (W : InW) (l : Ro Ja) (i : Int) (pl sh ti : Ro Jb) (st : Ro Jd) (ce : Int) (hd : Ro Iv4) (rt : Ro Je) (K : Nat -> List Ed -> Prop), Xjh [.ro _ l, .i i, .ro _ pl, .ro _ sh, .ro _ ti, .ro _ st, .i ce, .ro _ hd, .ro _ rt] K -> ∀ A : List Ed -> Prop, (∀ e, meas e < meas [.ro _ l, .i i, .ro _ pl, .ro _ sh, .ro _ ti, .ro _ st, .i ce, .ro _ hd, .ro _ rt] -> Xjh e K -> A e) -> Xiu l i pl sh ti st ce hd rt A K) : Xki :=
 LE.okOf' (fun W => @TT W) (fun W => @Xb W) Xa T111 1000 50 (by kernel_rfl) Xk2 (fun W => @meas W) fun W l i pl sh ti st ce hd rt K hs =>
  (Xsq W l i pl sh ti st ce hd rt (fun e => meas e < meas [.ro _ l, .i i, .ro _ pl, .ro _ sh, .ro _ ti, .ro _ st, .i ce, .ro _ hd, .ro _ rt] /\ Xjh e K) K).mpr (hyp_ W l i pl sh ti st ce hd rt K hs _ fun e h1 h2 => ⟨h1, h2⟩)
theorem Xw9 : Xki := Xt9 (fun e => match e with | .ro _ l :: .i i :: _ => ((l.xs.length : Int) - i).toNat | _ => 0) fun W l i pl sh ti st ce hd rt K hs A hA => by
 obtain ⟨⟨i0, i1⟩, hk⟩ := hs;unfold Xiu;delta Zdv Zbe Zca Zc Za;have xl := l.len;simp only [maxLen] at xl;refine vifd (fun e => ?_) fun e => ?_
 ·rw [show l.xs.length - i.toNat = (l.xs.length - (i.toNat + 1)) + 1 by omega] at hk;simp only [Sp.wiF] at hk;have hA' : decide (0 <= (cel l.xs i.toNat 0).int) = true -> decide ((cel l.xs i.toNat 0).int < rt.xs.length) = true -> (decide (i.toNat = 0) || decide ((cel l.xs (i.toNat - 1) 0).int < (cel l.xs i.toNat 0).int)) = true -> A [.ro _ l, .i (i + 1), .ro _ pl, .ro _ sh, .ro _ ti, .ro _ st, .i ce, .ro _ hd, .ro _ rt] := fun f g h => hA _ (by show ((l.xs.length : Int) - (i + 1)).toNat < ((l.xs.length : Int) - i).toNat; omega) ⟨⟨by omega, by omega⟩, by
   rw [f, g, h, Bool.true_and, Bool.true_and, Bool.true_and] at hk;rw [show (i + 1).toNat = i.toNat + 1 by omega];exact hk⟩
  clear hA;refine Xg ⟨i0, e⟩ (nedd (by omega) (vifd (fun f => ?_) fun f => Xg ⟨i0, e⟩ (nedd (by omega) (vifd (fun g => ?_) fun g => vifd (fun h => Xg ⟨i0, e⟩ (nedd (by omega) (ar64 (by omega) (Xg ⟨by omega, by omega⟩ (nedd (by omega) (vifd (fun j => ?_) fun j => ar64 (by omega) (hA' (by simpa using f) (by simpa using g) ?_))))))) fun h => ar64 (by omega) (hA' (by simpa using f) (by simpa using g) ?_)))))
  ·rw [show decide (0 <= (cel l.xs i.toNat 0).int) = false by simpa using f, Bool.false_and, Bool.false_and, Bool.false_and] at hk;exact hk.2 rfl
  ·rw [show decide ((cel l.xs i.toNat 0).int < rt.xs.length) = false by simpa using g, Bool.and_false, Bool.false_and, Bool.false_and] at hk;exact hk.2 rfl
  ·rw [show (i - 1).toNat = i.toNat - 1 by omega] at j;rw [show (decide (i.toNat = 0) || decide ((cel l.xs (i.toNat - 1) 0).int < (cel l.xs i.toNat 0).int)) = false by simp; omega, Bool.and_false, Bool.false_and] at hk;exact hk.2 rfl
  ·rw [show (i - 1).toNat = i.toNat - 1 by omega] at j;simp; omega
  ·simp; omega
 ·rw [show l.xs.length - i.toNat = 0 by omega] at hk;exact hk.1 rfl
noncomputable def Xxz : LE Try.prog := ⟨35, 3, fun W => @Yqt W Xk2, Xw9⟩
noncomputable def T114 : Tab Try.prog := ⟨[], [Xxz], []⟩
def Xdi [W : InW] (c_Pl c_Sh c_Ti : Ro Jb) (c_St : Ro Jd) (c_Ce : Int) (c_Hd : Ro Iv4) (c_Rt : Ro Je) (l : Ro Ja) (Q : DS -> Prop) : Prop :=
 Pre ((0 : Int) <= (0 : Int) /\ (0 : Int) <= (↑(l.xs.length) : Int)) (Vif (Sp.wiF (c_Rt.xs.length) l.xs (Int.toNat (0 : Int)) (l.xs.length - Int.toNat (0 : Int))) (Q [[Cl.b true]]) (Q [[Cl.b false]]))
theorem Xmc (W : InW) (c_Pl c_Sh c_Ti c_St c_Ce c_Hd c_Rt l Q) : Yte (cxT Try.prog TT T114 1000 50) 1000 35 [.agg [.rs _ c_Pl, .rs _ c_Sh, .rs _ c_Ti, .rs _ c_St, .si .i64 c_Ce, .rs _ c_Hd, .rs _ c_Rt], .rs _ l] [] 0 (Ywt [(false, [.bool])] Q) (fun _ _ _ _ => Stuck 421) = Xdi c_Pl c_Sh c_Ti c_St c_Ce c_Hd c_Rt l Q := by kernel_rfl
abbrev Xbq : List AT := [.agg [.sl Jb, .sl Jb, .sl Jb, .sl Jd, .int .i64, .sl Iv4, .sl Je], .one (.sl Ja)]
theorem Xnt {pre : DS -> Prop} {res : DS -> DS} (hyp_ : ∀ (W : InW) (c_Pl c_Sh c_Ti : Ro Jb) (c_St : Ro Jd) (c_Ce : Int) (c_Hd : Ro Iv4) (c_Rt : Ro Je) (l : Ro Ja), pre [[.l c_Pl.xs, .l c_Sh.xs, .l c_Ti.xs, .l c_St.xs, .i c_Ce, .l c_Hd.xs, .l c_Rt.xs], [.l l.xs]] -> ∀ Q : DS -> Prop, Q (res [[.l c_Pl.xs, .l c_Sh.xs, .l c_Ti.xs, .l c_St.xs, .i c_Ce, .l c_Hd.xs, .l c_Rt.xs], [.l l.xs]]) -> Xdi c_Pl c_Sh c_Ti c_St c_Ce c_Hd c_Rt l Q) : PureOk Try.prog 35 Xbq [(false, [.bool])] pre res :=
 PureOk.of' (fun W => @TT W) (fun W => @Xb W) Xa T114 1000 50 fun W c_Pl c_Sh c_Ti c_St c_Ce c_Hd c_Rt l hp =>
  (Xmc W c_Pl c_Sh c_Ti c_St c_Ce c_Hd c_Rt l (fun o => o = res [[.l c_Pl.xs, .l c_Sh.xs, .l c_Ti.xs, .l c_St.xs, .i c_Ce, .l c_Hd.xs, .l c_Rt.xs], [.l l.xs]])).mpr (hyp_ W c_Pl c_Sh c_Ti c_St c_Ce c_Hd c_Rt l hp _ rfl)
abbrev Xbh (ds : DS) : DS := match ds with | [[.l pl, .l sh, .l ti, .l st, .i ce, .l hd, .l rt], [.l l]] => [[.b (Sp.wiF rt.length l 0 l.length)]] | _ => []
theorem Xqd : PureOk Try.prog 35 Xbq [(false, [.bool])] (fun _ => True) Xbh :=
 Xnt fun W pl sh ti st ce hd rt l hp Q h => by
  unfold Xdi;simp only [Xbh] at h;refine ⟨⟨by omega, by omega⟩, vif (fun f => ?_) fun f => ?_⟩
  ·rw [show Sp.wiF rt.xs.length l.xs 0 l.xs.length = true from f] at h; exact h
  ·rw [show Sp.wiF rt.xs.length l.xs 0 l.xs.length = false from f] at h; exact h
noncomputable def Xm3 : PC Try.prog := ⟨35, Xbq, [(false, [.bool])], fun _ => True, Xbh, Xqd⟩
open Go.RowKit
open Go.RowKit
theorem Xh2 (p : Nat -> Bool) : ∀ (n i : Nat), (Sp.selF p i n).Sublist (Sp.rwF i n)
 | 0, _ => .slnil
 | n + 1, i => by
  simp only [Sp.selF, Sp.rwF]
  split
  ·exact (Xh2 p n (i + 1)).cons_cons _
  ·exact (Xh2 p n (i + 1)).cons _
theorem Xmv : ∀ (n i : Nat), (Sp.rwF i n).length = n
 | 0, _ => rfl
 | n + 1, i => by simp [Sp.rwF, Xmv n (i + 1)]
theorem Xil {n : Nat} {l : Dt} (h : Sp.Asc n l) : l.length <= n := by
 have := h.sub.length_le;rwa [Xmv] at this
theorem Xid {l : Dt} {k : Nat} (h : k < l.length) : cel l k 0 = (l[k].getD 0 .z) := by
 unfold cel;rw [show l.getD k [] = l[k] by rw [List.getD_eq_getElem?_getD, List.getElem?_eq_getElem h]; rfl]
theorem Xon {n : Nat} {l : Dt} (h : Sp.Asc n l) : Sp.LsOk n l := by
 have key : ∀ k : Nat, k < l.length -> ∃ j : Nat, (cel l k 0).int = j /\ j < n := fun k hk => by
  obtain ⟨j, e, hj⟩ := h.row (List.getElem_mem hk);exact ⟨j, by rw [Xid hk, e]; rfl, hj⟩
 exact ⟨fun k hk => by obtain ⟨j, e, _⟩ := key k hk; rw [e]; omega, fun k hk => by obtain ⟨j, e, h2⟩ := key k hk; rw [e]; omega⟩
theorem Xyn {n : Nat} {l : Dt} (h : Sp.Asc n l) {i j : Nat} (hij : i < j) (hj : j < l.length) : (cel l i 0).int < (cel l j 0).int := by
 have h1 := List.pairwise_iff_getElem.1 h.up i j (by omega) hj hij;rw [Xid hj, Xid (by omega)];exact h1
theorem Xym {n : Nat} {l : Dt} (h : Sp.Asc n l) : Sp.wiF n l 0 l.length = true := by
 have hl := Xon h;have key : ∀ m i, i + m = l.length -> Sp.wiF n l i m = true := fun m => by
  induction m with
  | zero => intro i _; rfl
  | succ m ih =>
   intro i hi;have a0 := hl.at0 i (by omega);have a1 := hl.at1 i (by omega);have a2 : i = 0 \/ (cel l (i - 1) 0).int < (cel l i 0).int := by
    rcases Nat.eq_zero_or_pos i with e | e
    ·exact .inl e
    ·exact .inr (Xyn h (by omega) (by omega))
   simp only [Sp.wiF];rw [ih (i + 1) (by omega)];simp [a0, a1, a2]
 exact key _ 0 (by omega)
theorem Xwc {sh ti : Dt} {wm wd ws wt : Int} (h : ¬ Sp.wsE sh ti wm wd ws wt = 0) : Sp.wsE sh ti wm wd ws wt ≠ 9 := by
 intro e;unfold Sp.wsE at e
 split at e
 ·split at e <;> exact absurd e (by decide)
 ·exact absurd e (by decide)
theorem Xsp {sh ti : Dt} {wm wd ws wt : Int} (h : Sp.wsE sh ti wm wd ws wt = 0) {m : Int} (h1 : 1 <= m) (h2 : m <= 10) : Sp.wsE sh ti m wd ws wt = 0 := by
 have hm : Sp.inr m 1 10 = true := Sp.inr_iff.2 ⟨h1, h2⟩;unfold Sp.wsE at *;rw [hm]
 split at h
 ·rename_i g;rw [Bool.and_eq_true] at g;rw [g.2];exact h
 ·exact absurd h (by decide)
theorem Xr3 {l : Dt} : Sp.empD l = true ↔ l = [] := by
 unfold Sp.empD;cases l <;> simp
theorem Xse {pl sh ti st : Dt} {ce : Int} {hd rt : Dt} {wm wd ws wt : Int} (hc : Sp.cE pl sh ti st ce hd rt = 0) (hw : Sp.wsE sh ti wm wd ws wt = 0) :
  (Sp.pkE pl sh ti st ce hd rt wm wd ws wt = 9 /\ ∀ l, Sp.Asc rt.length l -> Sp.meets (Sp.shP pl sh ti st ce rt ws wt) rt hd.length wd wm l = false) \/
  (Sp.pkE pl sh ti st ce hd rt wm wd ws wt = 0 /\ Sp.pkL pl sh ti st ce hd rt wm wd ws wt ≠ [] /\ Sp.Asc rt.length (Sp.pkL pl sh ti st ce hd rt wm wd ws wt) /\ Sp.meets (Sp.shP pl sh ti st ce rt ws wt) rt hd.length wd wm (Sp.pkL pl sh ti st ce hd rt wm wd ws wt) = true /\
   Sp.bound hd rt (Sp.pkL pl sh ti st ce hd rt wm wd ws wt) = Sp.pkB pl sh ti st ce hd rt wm wd ws wt /\
   ∀ l, Sp.Asc rt.length l -> Sp.meets (Sp.shP pl sh ti st ce rt ws wt) rt hd.length wd wm l = true -> Sp.pkB pl sh ti st ce hd rt wm wd ws wt <= Sp.bound hd rt l) := by
 unfold Sp.pkE Sp.pkL Sp.pkB;rw [if_pos hc, if_pos hc, if_pos hc, if_pos hw, if_pos hw, if_pos hw];rcases Sp.pick_facts (Sp.shP pl sh ti st ce rt ws wt) hd rt wd wm (Xl6 hw).wm0 with h1 | ⟨h1, h2, h3, h4, h5⟩
 ·refine .inl ⟨?_, h1.2⟩;unfold Sp.pkX;rw [h1.1];rfl
 ·refine .inr ⟨if_neg fun e => h1 (Xr3.1 e), h1, h2, h3, h4.symm, h5⟩
theorem Xwm {pl sh ti st : Dt} {ce : Int} {hd rt : Dt} {wm wd ws wt : Int} (hc : ¬ Sp.cE pl sh ti st ce hd rt = 0) : Sp.pkE pl sh ti st ce hd rt wm wd ws wt = Sp.cE pl sh ti st ce hd rt /\ Sp.pkL pl sh ti st ce hd rt wm wd ws wt = [] := by
 unfold Sp.pkE Sp.pkL;rw [if_neg hc, if_neg hc];exact ⟨rfl, rfl⟩
theorem Xtq {pl sh ti st : Dt} {ce : Int} {hd rt : Dt} {wm wd ws wt : Int} (hc : Sp.cE pl sh ti st ce hd rt = 0) (hw : ¬ Sp.wsE sh ti wm wd ws wt = 0) : Sp.pkE pl sh ti st ce hd rt wm wd ws wt = Sp.wsE sh ti wm wd ws wt /\ Sp.pkL pl sh ti st ce hd rt wm wd ws wt = [] := by
 unfold Sp.pkE Sp.pkL;rw [if_pos hc, if_pos hc, if_neg hw, if_neg hw];exact ⟨rfl, rfl⟩
theorem Xxx {pl sh ti st : Dt} {ce : Int} {hd rt l : Dt} {wm wd ws wt m : Int} (hn : Sp.NamesOk pl /\ Sp.NamesOk sh /\ Sp.NamesOk ti) (hC : Sp.CrOk pl sh ti st ce hd rt) (hW : Sp.WiOk sh ti wm wd ws wt) (h : Sp.Asc rt.length l) (hr : rt.length <= 10) : Sp.MtOk pl sh ti st ce hd rt m wd ws wt l := ⟨hn, hC, hW.ws0, by have := Sp.sets_le hC.tw.shL; have := hW.ws1; omega, hW.wt0, hW.wt1, Xon h, by have := Xil h; omega⟩
theorem Xyk {pl sh ti st : Dt} {ce : Int} {hd rt l : Dt} (hC : Sp.CrOk pl sh ti st ce hd rt) (h : Sp.Asc rt.length l) (hr : rt.length <= 10) : Sp.BdOk hd rt l := ⟨fun a h0 h1 => Xh7 hC h0 h1, Xon h, by have := Xil h; omega⟩
end Go.Proofs.Ytmogofidmchdoaa
