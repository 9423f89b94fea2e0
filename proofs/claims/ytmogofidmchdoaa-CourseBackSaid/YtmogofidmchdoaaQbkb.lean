/-
  'CourseBack': for every input the law returns true, and what is handed in reads as before. No condition.
-/
import Derived.Test.YtmogofidmchdoaaQbka
set_option linter.unusedVariables false
set_option linter.unusedSectionVars false
set_option linter.unusedSimpArgs false
namespace Go.Proofs.Ytmogofidmchdoaa
open Go.RowKit
abbrev Jc : List Ty := [.int .i64, .int .i64, .int .i64, .int .i64, .int .i64, .int .i64, .int .i64, .int .i64, .int .i64, .int .i64, .int .i64, .int .i64, .int .i64, .int .i64, .int .i64, .int .i64, .int .i64, .int .i64, .int .i64, .int .i64, .int .i64, .int .i64, .int .i64, .int .i64, .int .i64, .int .i64, .int .i64, .int .i64, .int .i64, .int .i64, .int .i64, .int .i64, .int .i64, .int .i64, .int .i64, .int .i64, .int .i64, .int .i64, .int .i64, .int .i64]
abbrev Jd : List Ty := [.int .i64, .int .i64, .int .i64, .int .i64, .int .i64, .bool, .sl [.int .i64]]
abbrev Je : List Ty := [.sl [.int .i64, .bool]]
abbrev Jf : List Ty := [.int .i64, .bool]
set_option maxRecDepth 100000
set_option maxHeartbeats 1600000
abbrev Xd : List Ty := [.int .i64, .bool]
namespace Sp
def eFr (st : Dt) (s : Int) (b : Bool) : Int := if b then sTo st s.toNat else sFr st s.toNat
def eTo (st : Dt) (s : Int) (b : Bool) : Int := if b then sFr st s.toNat else sTo st s.toNat
end Sp
noncomputable def T21 : Tab Try.prog := ⟨[], [], []⟩
def Xfb [W : InW] (t_Pl t_Sh t_Ti : Ro Jb) (t_St : Ro Jd) (x_St : Int) (x_Bk : Bool) (Q : DS -> Prop) : Prop :=
 Need (decide (0 <= x_St) && decide (x_St < (↑(t_St.xs.length) : Int))) (Need (decide (x_St.toNat < t_St.xs.length)) (Vif x_Bk (Q [[Cl.i (cel t_St.xs x_St.toNat (0+1)).int], [Cl.i (cel t_St.xs x_St.toNat (0 : Nat)).int]]) (Q [[Cl.i (cel t_St.xs x_St.toNat (0 : Nat)).int], [Cl.i (cel t_St.xs x_St.toNat (0+1)).int]])))
theorem Xnb (W : InW) (t_Pl t_Sh t_Ti t_St x_St x_Bk Q) : Yvd (cxT Try.prog TT T21 1000 50) 1000 84 [.agg [.rs _ t_Pl, .rs _ t_Sh, .rs _ t_Ti, .rs _ t_St], .agg [.si .i64 x_St, .sb x_Bk]] [] 0 (Yzg [(false, [.int .i64]), (false, [.int .i64])] Q) (fun _ _ _ _ => Stuck 421) = Xfb t_Pl t_Sh t_Ti t_St x_St x_Bk Q := by kernel_rfl
abbrev Xcz : List AT := [.agg [.sl Jb, .sl Jb, .sl Jb, .sl Jd], .agg [.int .i64, .bool]]
theorem Xow {pre : DS -> Prop} {res : DS -> DS} (hyp_ : ∀ (W : InW) (t_Pl t_Sh t_Ti : Ro Jb) (t_St : Ro Jd) (x_St : Int) (x_Bk : Bool), pre [[.l t_Pl.xs, .l t_Sh.xs, .l t_Ti.xs, .l t_St.xs], [.i x_St, .b x_Bk]] -> ∀ Q : DS -> Prop, Q (res [[.l t_Pl.xs, .l t_Sh.xs, .l t_Ti.xs, .l t_St.xs], [.i x_St, .b x_Bk]]) -> Xfb t_Pl t_Sh t_Ti t_St x_St x_Bk Q) : PureOk Try.prog 84 Xcz [(false, [.int .i64]), (false, [.int .i64])] pre res :=
 PureOk.of' (fun W => @TT W) (fun W => @Xb W) Xa T21 1000 50 fun W t_Pl t_Sh t_Ti t_St x_St x_Bk hp =>
  (Xnb W t_Pl t_Sh t_Ti t_St x_St x_Bk (fun o => o = res [[.l t_Pl.xs, .l t_Sh.xs, .l t_Ti.xs, .l t_St.xs], [.i x_St, .b x_Bk]])).mpr (hyp_ W t_Pl t_Sh t_Ti t_St x_St x_Bk hp _ rfl)
def Xfe [W : InW] (t_Pl t_Sh t_Ti : Ro Jb) (t_St : Ro Jd) (x_St : Int) (x_Bk : Bool) (Q : DS -> Prop) : Prop :=
 Need (decide (0 <= x_St) && decide (x_St < (↑(t_St.xs.length) : Int))) (Need (decide (x_St.toNat < t_St.xs.length)) (Vif x_Bk (Q [[Cl.i (cel t_St.xs x_St.toNat (0+1)).int], [Cl.i (cel t_St.xs x_St.toNat (0 : Nat)).int]]) (Q [[Cl.i (cel t_St.xs x_St.toNat (0 : Nat)).int], [Cl.i (cel t_St.xs x_St.toNat (0+1)).int]])))
theorem Xne (W : InW) (t_Pl t_Sh t_Ti t_St x_St x_Bk Q) : Yvd (cxT Try.prog TT T21 1000 50) 1000 93 [.agg [.rs _ t_Pl, .rs _ t_Sh, .rs _ t_Ti, .rs _ t_St], .agg [.si .i64 x_St, .sb x_Bk]] [] 0 (Yzg [(false, [.int .i64]), (false, [.int .i64])] Q) (fun _ _ _ _ => Stuck 421) = Xfe t_Pl t_Sh t_Ti t_St x_St x_Bk Q := by kernel_rfl
abbrev Xc2 : List AT := [.agg [.sl Jb, .sl Jb, .sl Jb, .sl Jd], .agg [.int .i64, .bool]]
theorem Xoz {pre : DS -> Prop} {res : DS -> DS} (hyp_ : ∀ (W : InW) (t_Pl t_Sh t_Ti : Ro Jb) (t_St : Ro Jd) (x_St : Int) (x_Bk : Bool), pre [[.l t_Pl.xs, .l t_Sh.xs, .l t_Ti.xs, .l t_St.xs], [.i x_St, .b x_Bk]] -> ∀ Q : DS -> Prop, Q (res [[.l t_Pl.xs, .l t_Sh.xs, .l t_Ti.xs, .l t_St.xs], [.i x_St, .b x_Bk]]) -> Xfe t_Pl t_Sh t_Ti t_St x_St x_Bk Q) : PureOk Try.prog 93 Xc2 [(false, [.int .i64]), (false, [.int .i64])] pre res :=
 PureOk.of' (fun W => @TT W) (fun W => @Xb W) Xa T21 1000 50 fun W t_Pl t_Sh t_Ti t_St x_St x_Bk hp =>
  (Xne W t_Pl t_Sh t_Ti t_St x_St x_Bk (fun o => o = res [[.l t_Pl.xs, .l t_Sh.xs, .l t_Ti.xs, .l t_St.xs], [.i x_St, .b x_Bk]])).mpr (hyp_ W t_Pl t_Sh t_Ti t_St x_St x_Bk hp _ rfl)
abbrev Xu (ds : DS) : DS := match ds with | [[.l _, .l _, .l _, .l st], [.i s, .b b]] => [[.i (Sp.eFr st s b)], [.i (Sp.eTo st s b)]] | _ => []
abbrev Xce (ds : DS) : Prop := match ds with | [[.l _, .l _, .l _, .l st], [.i s, .b _]] => 0 <= s /\ s < st.length | _ => False
theorem Xq2 : PureOk Try.prog 84 Xcz [(false, [.int .i64]), (false, [.int .i64])] Xce Xu :=
 Xow fun W pl sh ti st s b hp Q h => by
  unfold Xfb;obtain ⟨h1, h2⟩ : 0 <= s /\ s < st.xs.length := hp;simp only [Xu, Sp.eFr, Sp.eTo] at h;cases b <;> repeat' (first | omega | with_reducible refine vifd (fun _ => ?_) fun _ => ?_ | with_reducible refine vifn (fun _ => ?_) fun _ => ?_ | with_reducible refine vifq (fun _ => ?_) fun _ => ?_ | with_reducible refine vifq0 (fun _ => ?_) fun _ => ?_ | with_reducible refine vifq1 (fun _ => ?_) fun _ => ?_ | with_reducible refine vifb (fun _ => ?_) fun _ => ?_ | with_reducible refine vif (fun _ => ?_) fun _ => ?_ | (with_reducible refine nedd ?_ ?_; omega) | (with_reducible refine ned ?_ ?_; simp only [Bool.and_eq_true, decide_eq_true_eq]; omega) | (with_reducible refine ar64 ?_ ?_; omega) | (with_reducible refine Xe ?_ ?_; (first | trivial | omega | assumption | (refine ⟨?_, ?_⟩ <;> first | trivial | omega | assumption) | (refine ⟨?_, ?_, ?_⟩ <;> first | trivial | omega | assumption) | (refine ⟨?_, ?_, ?_, ?_⟩ <;> first | trivial | omega | assumption))))
  all_goals first | contradiction | exact h
theorem Xq6 : PureOk Try.prog 93 Xc2 [(false, [.int .i64]), (false, [.int .i64])] Xce Xu :=
 Xoz fun W pl sh ti st s b hp Q h => by
  unfold Xfe;obtain ⟨h1, h2⟩ : 0 <= s /\ s < st.xs.length := hp;simp only [Xu, Sp.eFr, Sp.eTo] at h;cases b <;> repeat' (first | omega | with_reducible refine vifd (fun _ => ?_) fun _ => ?_ | with_reducible refine vifn (fun _ => ?_) fun _ => ?_ | with_reducible refine vifq (fun _ => ?_) fun _ => ?_ | with_reducible refine vifq0 (fun _ => ?_) fun _ => ?_ | with_reducible refine vifq1 (fun _ => ?_) fun _ => ?_ | with_reducible refine vifb (fun _ => ?_) fun _ => ?_ | with_reducible refine vif (fun _ => ?_) fun _ => ?_ | (with_reducible refine nedd ?_ ?_; omega) | (with_reducible refine ned ?_ ?_; simp only [Bool.and_eq_true, decide_eq_true_eq]; omega) | (with_reducible refine ar64 ?_ ?_; omega) | (with_reducible refine Xe ?_ ?_; (first | trivial | omega | assumption | (refine ⟨?_, ?_⟩ <;> first | trivial | omega | assumption) | (refine ⟨?_, ?_, ?_⟩ <;> first | trivial | omega | assumption) | (refine ⟨?_, ?_, ?_, ?_⟩ <;> first | trivial | omega | assumption))))
  all_goals first | contradiction | exact h
noncomputable def Xns : PC Try.prog := ⟨84, Xcz, [(false, [.int .i64]), (false, [.int .i64])], Xce, Xu, Xq2⟩
noncomputable def Xnv : PC Try.prog := ⟨93, Xc2, [(false, [.int .i64]), (false, [.int .i64])], Xce, Xu, Xq6⟩
noncomputable def T22 : Tab Try.prog := ⟨[Xns, Xnv, Xdt, Xcq], [], []⟩
theorem Xcj {st l : Dt} {i n : Nat} {p : Int} :
  Sp.folE st l i (n + 1) p = (if Sp.inr (Sp.xS l i) 0 ((st.length : Int) - 1) then (if Sp.xB l i && !Sp.sBo st (Sp.xS l i).toNat then 2 else if Sp.eFr st (Sp.xS l i) (Sp.xB l i) = p then Sp.folE st l (i + 1) n (Sp.eTo st (Sp.xS l i) (Sp.xB l i)) else 9) else 4) /\
  Sp.folT st l i (n + 1) p = (if Sp.inr (Sp.xS l i) 0 ((st.length : Int) - 1) then (if Sp.xB l i && !Sp.sBo st (Sp.xS l i).toNat then 0 else if Sp.eFr st (Sp.xS l i) (Sp.xB l i) = p then Sp.folT st l (i + 1) n (Sp.eTo st (Sp.xS l i) (Sp.xB l i)) else 0) else 0) := ⟨rfl, rfl⟩
theorem Xjt [InW] {st l : Dt} {i n : Nat} {p : Int} {K0 K1 : Int -> Prop} (h : Vif (decide (Sp.folE st l i (n + 1) p = 0)) (K0 (Sp.folT st l i (n + 1) p)) (K1 (Sp.folE st l i (n + 1) p))) :
  (Sp.inr (Sp.xS l i) 0 ((st.length : Int) - 1) = false -> K1 4) /\
  (Sp.inr (Sp.xS l i) 0 ((st.length : Int) - 1) = true -> Sp.xB l i = true -> Sp.sBo st (Sp.xS l i).toNat = false -> K1 2) /\
  (Sp.inr (Sp.xS l i) 0 ((st.length : Int) - 1) = true -> (Sp.xB l i = false \/ Sp.sBo st (Sp.xS l i).toNat = true) -> ¬ Sp.eFr st (Sp.xS l i) (Sp.xB l i) = p -> K1 9) /\
  (Sp.inr (Sp.xS l i) 0 ((st.length : Int) - 1) = true -> (Sp.xB l i = false \/ Sp.sBo st (Sp.xS l i).toNat = true) -> Sp.eFr st (Sp.xS l i) (Sp.xB l i) = p ->
   Vif (decide (Sp.folE st l (i + 1) n (Sp.eTo st (Sp.xS l i) (Sp.xB l i)) = 0)) (K0 (Sp.folT st l (i + 1) n (Sp.eTo st (Sp.xS l i) (Sp.xB l i)))) (K1 (Sp.folE st l (i + 1) n (Sp.eTo st (Sp.xS l i) (Sp.xB l i))))) := by
 rw [Xcj.1, Xcj.2] at h;have nb : (Sp.xB l i = false \/ Sp.sBo st (Sp.xS l i).toNat = true) -> ¬ (Sp.xB l i && !Sp.sBo st (Sp.xS l i).toNat) = true := fun e => by rcases e with e | e <;> simp [e]
 refine ⟨fun e => ?_, fun e e2 e3 => ?_, fun e e2 e3 => ?_, fun e e2 e3 => ?_⟩
 ·rw [if_neg (by simp [e]), if_neg (by simp [e])] at h;exact h.2 rfl
 ·rw [if_pos e, if_pos (by simp [e2, e3]), if_pos e, if_pos (by simp [e2, e3])] at h;exact h.2 rfl
 ·rw [if_pos e, if_neg (nb e2), if_neg e3, if_pos e, if_neg (nb e2), if_neg e3] at h;exact h.2 rfl
 ·rw [if_pos e, if_neg (nb e2), if_pos e3, if_pos e, if_neg (nb e2), if_pos e3] at h;exact h
def Xd1 [InW] (e : List Ed) (K : Nat -> List Ed -> Prop) : Prop := match e with
 | [.ro _ l, .i p, .i i, .ro _ pl, .ro _ sh, .ro _ ti, .ro _ st] => Pre (0 <= i /\ i <= l.xs.length) (Vif (decide (Sp.folE st.xs l.xs i.toNat (l.xs.length - i.toNat) p = 0)) (K 0 [.i (Sp.folT st.xs l.xs i.toNat (l.xs.length - i.toNat) p)]) (K 1 [.i (Sp.folE st.xs l.xs i.toNat (l.xs.length - i.toNat) p)]))
 | _ => False
noncomputable def Xem : LC where
 len := 65
 T := [(2, .rs Xd), (3, (.ptr 1 0)), (8, .int .i64), (9, .int .i64)]
 H := [(1, .blk 25 [.rs Jb, .rs Jb, .rs Jb, .rs Jd])]
 W := ([6, 7, 10, 11] ++ rg 16 48)
 outs := [⟨.exit 0, [(8, .int .i64)], [], ([2, 3, 6, 7, 9, 10, 11] ++ rg 16 48)⟩, ⟨.ret, [(6, (.lit (.int .i64 0))), (7, .int .i64)], [], ([2, 3] ++ rg 8 4 ++ rg 16 48)⟩]
 spec := Xd1
def Zo [W : InW] (l : Ro Xd) (i : Int) := decide (0 <= i) && decide (i < (↑(l.xs.length) : Int))
def Zp [W : InW] (l : Ro Xd) (i : Int) := cel l.xs i.toNat (0 : Nat)
def Zn [W : InW] (l : Ro Xd) (p i : Int) (pl sh ti : Ro Jb) (st : Ro Jd) (A : List Ed -> Prop) (K : Nat -> List Ed -> Prop) := Need (Zo l i) (Need (decide (i.toNat < l.xs.length)) (Pre (Zh <= (Zp l i).int /\ (Zp l i).int < (↑(st.xs.length) : Int)) (Vif (!decide (Sp.eFr st.xs (Zp l i).int (cel l.xs i.toNat (0+1)).bool = p)) (K (0+1) [.i (9 : Int)]) (Ar .i64 (i + 1) fun z => A [.ro _ l, .i (Sp.eTo st.xs (Zp l i).int (cel l.xs i.toNat (0+1)).bool), .i z, .ro _ pl, .ro _ sh, .ro _ ti, .ro Zc st]))))
def Xfk [W : InW] (l : Ro Xd) (p i : Int) (pl sh ti : Ro Jb) (st : Ro Jd) (A : List Ed -> Prop) (K : Nat -> List Ed -> Prop) : Prop :=
 Vif (decide (i < (↑(l.xs.length) : Int))) (Need (Zo l i) (Need (decide (i.toNat < l.xs.length)) (Ar .i64 ((↑(st.xs.length) : Int) - 1) fun z => Pre True (Vif (!Sp.inr (Zp l i).int Zh z) (K (0+1) [.i (4 : Int)]) (Need (Zo l i) (Need (decide (i.toNat < l.xs.length)) (Vif (cel l.xs i.toNat (0+1)).bool (Need (Zo l i) (Need (decide (i.toNat < l.xs.length)) (Need (decide (Zh <= (Zp l i).int) && decide ((Zp l i).int < (↑(st.xs.length) : Int))) (Need (decide ((Zp l i).int.toNat < st.xs.length)) (Vif (!(cel st.xs (Zp l i).int.toNat (4+1)).bool) (K (0+1) [.i (2 : Int)]) (Zn l p i pl sh ti st A K)))))) (Zn l p i pl sh ti st A K)))))))) (K 0 [.i p])
theorem Xmu (W : InW) (l p i pl sh ti st A K) : Ye6 { cxT Try.prog TT T22 1000 50 with fn := 69 } 1000 (Ym7 Try.prog 69 6) (Yd5 65 [(2, .rs _ l), (3, .ptr 1 0), (8, .si .i64 p), (9, .si .i64 i)] ([6, 7, 10, 11] ++ rg 16 48)) [(1, .blk 25 [.rs _ pl, .rs _ sh, .rs _ ti, .rs _ st])] (Ys7 Xem A K) = Xfk l p i pl sh ti st A K := by kernel_rfl
def Xgh : Prop := ∀ (W : InW) (body a : Code), (Try.prog.funcs[69]?).bind (·.body) = some body -> a ∈ Yu body -> Yfq a = 6 -> @Yl3 W Try.prog a (@Ysd W Xem)
theorem Xoc (meas : [InW] -> List Ed -> Nat) (hyp_ : ∀ (W : InW) l p i pl sh ti st K, Xd1 [.ro _ l, .i p, .i i, .ro _ pl, .ro _ sh, .ro _ ti, .ro _ st] K -> ∀ A : List Ed -> Prop, (∀ e, meas e < meas [.ro _ l, .i p, .i i, .ro _ pl, .ro _ sh, .ro _ ti, .ro _ st] -> Xd1 e K -> A e) -> Xfk l p i pl sh ti st A K) : Xgh :=
 LE.okOf' (fun W => @TT W) (fun W => @Xb W) Xa T22 1000 50 (by kernel_rfl) Xem (fun W => @meas W) fun W l p i pl sh ti st K hs =>
  (Xmu W l p i pl sh ti st (fun e => meas e < meas [.ro _ l, .i p, .i i, .ro _ pl, .ro _ sh, .ro _ ti, .ro _ st] /\ Xd1 e K) K).mpr (hyp_ W l p i pl sh ti st K hs _ fun e h1 h2 => ⟨h1, h2⟩)
theorem Xr2 : Xgh := Xoc (fun e => match e with | .ro _ l :: _ :: .i i :: _ => ((l.xs.length : Int) - i).toNat | _ => 0) fun W l p i pl sh ti st K hs A hA => by
 obtain ⟨⟨h0, h1⟩, hk⟩ := hs;unfold Xfk;delta Zn Zc Zp Zh Zo;have hm := l.len;have hm2 := st.len;simp only [maxLen] at hm hm2;refine vifd (fun e => ?_) fun e => ?_
 ·rw [show l.xs.length - i.toNat = (l.xs.length - (i.toNat + 1)) + 1 by omega] at hk;obtain ⟨f1, f2, f3, f4⟩ := Xjt (K0 := fun q => K 0 [.i q]) (K1 := fun q => K 1 [.i q]) hk;have ez : (i + 1).toNat = i.toNat + 1 := by omega
  have hA' : ∀ q, Vif (decide (Sp.folE st.xs l.xs (i.toNat + 1) (l.xs.length - (i.toNat + 1)) q = 0)) (K 0 [.i (Sp.folT st.xs l.xs (i.toNat + 1) (l.xs.length - (i.toNat + 1)) q)]) (K 1 [.i (Sp.folE st.xs l.xs (i.toNat + 1) (l.xs.length - (i.toNat + 1)) q)]) -> A [.ro _ l, .i q, .i (i + 1), .ro _ pl, .ro _ sh, .ro _ ti, .ro _ st] := fun q f => hA _ (by show ((l.xs.length : Int) - (i + 1)).toNat < ((l.xs.length : Int) - i).toNat; omega) ⟨⟨by omega, by omega⟩, by rw [ez]; exact f⟩;clear hA hk;simp only [Nat.zero_add, Nat.reduceAdd, <- show Sp.xS l.xs i.toNat = (cel l.xs i.toNat 0).int from rfl, <- show Sp.xB l.xs i.toNat = (cel l.xs i.toNat 1).bool from rfl];have hst : Sp.sBo st.xs (Sp.xS l.xs i.toNat).toNat = (cel st.xs (Sp.xS l.xs i.toNat).toNat 5).bool := rfl;rw [<- hst];refine ned (by simp; omega) (nedd (by omega) (ar64 (by omega) ⟨trivial, vifb (fun e1 => f1 e1) fun e1 => ?_⟩));have e2 := Sp.inr_iff.1 e1
  repeat' (first | omega | with_reducible refine vifd (fun _ => ?_) fun _ => ?_ | with_reducible refine vifn (fun _ => ?_) fun _ => ?_ | with_reducible refine vifq (fun _ => ?_) fun _ => ?_ | with_reducible refine vifq0 (fun _ => ?_) fun _ => ?_ | with_reducible refine vifq1 (fun _ => ?_) fun _ => ?_ | with_reducible refine vifb (fun _ => ?_) fun _ => ?_ | with_reducible refine vif (fun _ => ?_) fun _ => ?_ | (with_reducible refine nedd ?_ ?_; omega) | (with_reducible refine ned ?_ ?_; simp only [Bool.and_eq_true, decide_eq_true_eq]; omega) | (with_reducible refine ar64 ?_ ?_; omega) | (with_reducible refine Xe ?_ ?_; (first | trivial | omega | assumption | (refine ⟨?_, ?_⟩ <;> first | trivial | omega | assumption) | (refine ⟨?_, ?_, ?_⟩ <;> first | trivial | omega | assumption) | (refine ⟨?_, ?_, ?_, ?_⟩ <;> first | trivial | omega | assumption))))
  all_goals first | exact f2 e1 (by assumption) (by assumption) | exact f3 e1 (.inl (by assumption)) (by assumption) | exact f3 e1 (.inr (by assumption)) (by assumption) | exact hA' _ (f4 e1 (.inl (by assumption)) (by assumption)) | exact hA' _ (f4 e1 (.inr (by assumption)) (by assumption))
 ·rw [show l.xs.length - i.toNat = 0 by omega] at hk;exact hk.1 rfl
noncomputable def Xsj : LE Try.prog := ⟨69, 6, fun W => @Ysd W Xem, Xr2⟩
def Xd4 [InW] (e : List Ed) (K : Nat -> List Ed -> Prop) : Prop := match e with
 | [.i p, .ro _ l, .i n, .i i, .ro _ pl, .ro _ sh, .ro _ ti, .ro _ st] => Pre (n = l.xs.length /\ 0 <= i /\ i <= l.xs.length) (Vif (decide (Sp.folE st.xs l.xs i.toNat (l.xs.length - i.toNat) p = 0)) (K 0 [.i (Sp.folT st.xs l.xs i.toNat (l.xs.length - i.toNat) p)]) (K 1 [.i (Sp.folE st.xs l.xs i.toNat (l.xs.length - i.toNat) p)]))
 | _ => False
noncomputable def Xep : LC where
 len := 55
 T := [(1, .int .i64), (3, (.ptr 1 0)), (15, .rs Xd), (16, .int .i64), (17, .int .i64)]
 H := [(1, .blk 137 [.rs Jb, .rs Jb, .rs Jb, .rs Jd])]
 W := ([6, 7, 9, 10, 11] ++ rg 18 36)
 outs := [⟨.exit 0, [(1, .int .i64)], [], ([3, 6, 7, 9, 10, 11] ++ rg 15 39)⟩, ⟨.ret, [(6, (.lit (.int .i64 0))), (7, .int .i64)], [], ([1, 3, 9, 10, 11] ++ rg 15 39)⟩]
 spec := Xd4
def Zq [W : InW] (l : Ro Xd) (i : Int) := cel l.xs i.toNat (0 : Nat)
def Zr [W : InW] (p : Int) (l : Ro Xd) (n i : Int) (pl sh ti : Ro Jb) (st : Ro Jd) (A : List Ed -> Prop) (K : Nat -> List Ed -> Prop) := Pre (Zh <= (Zq l i).int /\ (Zq l i).int < (↑(st.xs.length) : Int)) (Vif (!decide (Sp.eFr st.xs (Zq l i).int (cel l.xs i.toNat (0+1)).bool = p)) (K (0+1) [.i (9 : Int)]) (Ar .i64 (i + 1) fun z => A [.i (Sp.eTo st.xs (Zq l i).int (cel l.xs i.toNat (0+1)).bool), .ro _ l, .i n, .i z, .ro _ pl, .ro _ sh, .ro _ ti, .ro Zc st]))
def Xfn [W : InW] (p : Int) (l : Ro Xd) (n i : Int) (pl sh ti : Ro Jb) (st : Ro Jd) (A : List Ed -> Prop) (K : Nat -> List Ed -> Prop) : Prop :=
 Vif (decide (i < n)) (Need (decide (0 <= i) && decide (i < (↑(l.xs.length) : Int))) (Need (decide (i.toNat < l.xs.length)) (Ar .i64 ((↑(st.xs.length) : Int) - 1) fun z => Pre True (Vif (Sp.out Zh z [[Cl.i (Zq l i).int]]) (K (0+1) [.i (4 : Int)]) (Vif (cel l.xs i.toNat (0+1)).bool (Need (decide (Zh <= (Zq l i).int) && decide ((Zq l i).int < (↑(st.xs.length) : Int))) (Need (decide ((Zq l i).int.toNat < st.xs.length)) (Vif (!(cel st.xs (Zq l i).int.toNat (4+1)).bool) (K (0+1) [.i (2 : Int)]) (Zr p l n i pl sh ti st A K)))) (Zr p l n i pl sh ti st A K)))))) (K 0 [.i p])
theorem Xmx (W : InW) (p l n i pl sh ti st A K) : Ye6 { cxT Try.prog TT T22 1000 50 with fn := 78 } 1000 (Ym7 Try.prog 78 5) (Yd5 55 [(1, .si .i64 p), (3, .ptr 1 0), (15, .rs _ l), (16, .si .i64 n), (17, .si .i64 i)] ([6, 7, 9, 10, 11] ++ rg 18 36)) [(1, .blk 137 [.rs _ pl, .rs _ sh, .rs _ ti, .rs _ st])] (Ys7 Xep A K) = Xfn p l n i pl sh ti st A K := by kernel_rfl
def Xgk : Prop := ∀ (W : InW) (body a : Code), (Try.prog.funcs[78]?).bind (·.body) = some body -> a ∈ Yu body -> Yfq a = 5 -> @Yl3 W Try.prog a (@Ysd W Xep)
theorem Xof (meas : [InW] -> List Ed -> Nat) (hyp_ : ∀ (W : InW) p l n i pl sh ti st K, Xd4 [.i p, .ro _ l, .i n, .i i, .ro _ pl, .ro _ sh, .ro _ ti, .ro _ st] K -> ∀ A : List Ed -> Prop, (∀ e, meas e < meas [.i p, .ro _ l, .i n, .i i, .ro _ pl, .ro _ sh, .ro _ ti, .ro _ st] -> Xd4 e K -> A e) -> Xfn p l n i pl sh ti st A K) : Xgk :=
 LE.okOf' (fun W => @TT W) (fun W => @Xb W) Xa T22 1000 50 (by kernel_rfl) Xep (fun W => @meas W) fun W p l n i pl sh ti st K hs =>
  (Xmx W p l n i pl sh ti st (fun e => meas e < meas [.i p, .ro _ l, .i n, .i i, .ro _ pl, .ro _ sh, .ro _ ti, .ro _ st] /\ Xd4 e K) K).mpr (hyp_ W p l n i pl sh ti st K hs _ fun e h1 h2 => ⟨h1, h2⟩)
theorem Xr5 : Xgk := Xof (fun e => match e with | _ :: .ro _ l :: _ :: .i i :: _ => ((l.xs.length : Int) - i).toNat | _ => 0) fun W p l n i pl sh ti st K hs A hA => by
 obtain ⟨⟨rfl, h0, h1⟩, hk⟩ := hs;unfold Xfn;delta Zr Zc Zq Zh;have hm := l.len;have hm2 := st.len;simp only [maxLen] at hm hm2;refine vifd (fun e => ?_) fun e => ?_
 ·rw [show l.xs.length - i.toNat = (l.xs.length - (i.toNat + 1)) + 1 by omega] at hk;obtain ⟨f1, f2, f3, f4⟩ := Xjt (K0 := fun q => K 0 [.i q]) (K1 := fun q => K 1 [.i q]) hk;have ez : (i + 1).toNat = i.toNat + 1 := by omega
  have hA' : ∀ q, Vif (decide (Sp.folE st.xs l.xs (i.toNat + 1) (l.xs.length - (i.toNat + 1)) q = 0)) (K 0 [.i (Sp.folT st.xs l.xs (i.toNat + 1) (l.xs.length - (i.toNat + 1)) q)]) (K 1 [.i (Sp.folE st.xs l.xs (i.toNat + 1) (l.xs.length - (i.toNat + 1)) q)]) -> A [.i q, .ro _ l, .i l.xs.length, .i (i + 1), .ro _ pl, .ro _ sh, .ro _ ti, .ro _ st] := fun q f => hA _ (by show ((l.xs.length : Int) - (i + 1)).toNat < ((l.xs.length : Int) - i).toNat; omega) ⟨⟨rfl, by omega, by omega⟩, by rw [ez]; exact f⟩;clear hA hk;simp only [Nat.zero_add, Nat.reduceAdd, out1, <- show Sp.xS l.xs i.toNat = (cel l.xs i.toNat 0).int from rfl, <- show Sp.xB l.xs i.toNat = (cel l.xs i.toNat 1).bool from rfl];have hst : Sp.sBo st.xs (Sp.xS l.xs i.toNat).toNat = (cel st.xs (Sp.xS l.xs i.toNat).toNat 5).bool := rfl;rw [<- hst];refine ned (by simp; omega) (nedd (by omega) (ar64 (by omega) ⟨trivial, vifb (fun e1 => f1 e1) fun e1 => ?_⟩));have e2 := Sp.inr_iff.1 e1
  repeat' (first | omega | with_reducible refine vifd (fun _ => ?_) fun _ => ?_ | with_reducible refine vifn (fun _ => ?_) fun _ => ?_ | with_reducible refine vifq (fun _ => ?_) fun _ => ?_ | with_reducible refine vifq0 (fun _ => ?_) fun _ => ?_ | with_reducible refine vifq1 (fun _ => ?_) fun _ => ?_ | with_reducible refine vifb (fun _ => ?_) fun _ => ?_ | with_reducible refine vif (fun _ => ?_) fun _ => ?_ | (with_reducible refine nedd ?_ ?_; omega) | (with_reducible refine ned ?_ ?_; simp only [Bool.and_eq_true, decide_eq_true_eq]; omega) | (with_reducible refine ar64 ?_ ?_; omega) | (with_reducible refine Xe ?_ ?_; (first | trivial | omega | assumption | (refine ⟨?_, ?_⟩ <;> first | trivial | omega | assumption) | (refine ⟨?_, ?_, ?_⟩ <;> first | trivial | omega | assumption) | (refine ⟨?_, ?_, ?_, ?_⟩ <;> first | trivial | omega | assumption))))
  all_goals first | exact f2 e1 (by assumption) (by assumption) | exact f3 e1 (.inl (by assumption)) (by assumption) | exact f3 e1 (.inr (by assumption)) (by assumption) | exact hA' _ (f4 e1 (.inl (by assumption)) (by assumption)) | exact hA' _ (f4 e1 (.inr (by assumption)) (by assumption))
 ·rw [show l.xs.length - i.toNat = 0 by omega] at hk;exact hk.1 rfl
noncomputable def Xsl : LE Try.prog := ⟨78, 5, fun W => @Ysd W Xep, Xr5⟩
noncomputable def T23 : Tab Try.prog := ⟨[], [Xsj, Xsl], []⟩
def Xc8 [W : InW] (t_Pl t_Sh t_Ti : Ro Jb) (t_St : Ro Jd) (p : Int) (l : Ro Xd) (Q : DS -> Prop) : Prop :=
 Vif (decide ((1100 : Int) < (↑(l.xs.length) : Int))) (Q [[Cl.i 0], [Cl.i 3]]) (Pre (Zh <= 0 /\ Zh <= (↑(l.xs.length) : Int)) (Vif (decide (Sp.folE t_St.xs l.xs Zg (l.xs.length - Int.toNat Zh) p = 0)) (Q [[Cl.i (Sp.folT t_St.xs l.xs Zg (l.xs.length - Int.toNat Zh) p)], [Cl.i 0]]) (Q [[Cl.i 0], [Cl.i (Sp.folE t_St.xs l.xs Zg (l.xs.length - Int.toNat Zh) p)]])))
theorem Xkl (W : InW) (t_Pl t_Sh t_Ti t_St p l Q) : Yvd (cxT Try.prog TT T23 1000 50) 1000 69 [.agg [.rs _ t_Pl, .rs _ t_Sh, .rs _ t_Ti, .rs _ t_St], .si .i64 p, .rs _ l] [] 0 (Yzg [(false, [.int .i64]), (false, [.int .i64])] Q) (fun _ _ _ _ => Stuck 421) = Xc8 t_Pl t_Sh t_Ti t_St p l Q := by kernel_rfl
abbrev Xbm : List AT := [.agg [.sl Jb, .sl Jb, .sl Jb, .sl Jd], .one (.int .i64), .one (.sl Xd)]
theorem Xlu {pre : DS -> Prop} {res : DS -> DS} (hyp_ : ∀ (W : InW) (t_Pl t_Sh t_Ti : Ro Jb) (t_St : Ro Jd) (p : Int) (l : Ro Xd), pre [[.l t_Pl.xs, .l t_Sh.xs, .l t_Ti.xs, .l t_St.xs], [.i p], [.l l.xs]] -> ∀ Q : DS -> Prop, Q (res [[.l t_Pl.xs, .l t_Sh.xs, .l t_Ti.xs, .l t_St.xs], [.i p], [.l l.xs]]) -> Xc8 t_Pl t_Sh t_Ti t_St p l Q) : PureOk Try.prog 69 Xbm [(false, [.int .i64]), (false, [.int .i64])] pre res :=
 PureOk.of' (fun W => @TT W) (fun W => @Xb W) Xa T23 1000 50 fun W t_Pl t_Sh t_Ti t_St p l hp =>
  (Xkl W t_Pl t_Sh t_Ti t_St p l (fun o => o = res [[.l t_Pl.xs, .l t_Sh.xs, .l t_Ti.xs, .l t_St.xs], [.i p], [.l l.xs]])).mpr (hyp_ W t_Pl t_Sh t_Ti t_St p l hp _ rfl)
def Xdc [W : InW] (t_Pl t_Sh t_Ti : Ro Jb) (t_St : Ro Jd) (p : Int) (l : Ro Xd) (Q : DS -> Prop) : Prop :=
 Vif (decide ((1100 : Int) < (↑(l.xs.length) : Int))) (Q [[Cl.i 0], [Cl.i 3]]) (Pre ((↑(l.xs.length) : Int) = (↑(l.xs.length) : Int) /\ Zh <= 0 /\ Zh <= (↑(l.xs.length) : Int)) (Vif (decide (Sp.folE t_St.xs l.xs Zg (l.xs.length - Int.toNat Zh) p = 0)) (Q [[Cl.i (Sp.folT t_St.xs l.xs Zg (l.xs.length - Int.toNat Zh) p)], [Cl.i 0]]) (Q [[Cl.i 0], [Cl.i (Sp.folE t_St.xs l.xs Zg (l.xs.length - Int.toNat Zh) p)]])))
theorem Xkp (W : InW) (t_Pl t_Sh t_Ti t_St p l Q) : Yvd (cxT Try.prog TT T23 1000 50) 1000 78 [.agg [.rs _ t_Pl, .rs _ t_Sh, .rs _ t_Ti, .rs _ t_St], .si .i64 p, .rs _ l] [] 0 (Yzg [(false, [.int .i64]), (false, [.int .i64])] Q) (fun _ _ _ _ => Stuck 421) = Xdc t_Pl t_Sh t_Ti t_St p l Q := by kernel_rfl
abbrev Xbq : List AT := [.agg [.sl Jb, .sl Jb, .sl Jb, .sl Jd], .one (.int .i64), .one (.sl Xd)]
theorem Xly {pre : DS -> Prop} {res : DS -> DS} (hyp_ : ∀ (W : InW) (t_Pl t_Sh t_Ti : Ro Jb) (t_St : Ro Jd) (p : Int) (l : Ro Xd), pre [[.l t_Pl.xs, .l t_Sh.xs, .l t_Ti.xs, .l t_St.xs], [.i p], [.l l.xs]] -> ∀ Q : DS -> Prop, Q (res [[.l t_Pl.xs, .l t_Sh.xs, .l t_Ti.xs, .l t_St.xs], [.i p], [.l l.xs]]) -> Xdc t_Pl t_Sh t_Ti t_St p l Q) : PureOk Try.prog 78 Xbq [(false, [.int .i64]), (false, [.int .i64])] pre res :=
 PureOk.of' (fun W => @TT W) (fun W => @Xb W) Xa T23 1000 50 fun W t_Pl t_Sh t_Ti t_St p l hp =>
  (Xkp W t_Pl t_Sh t_Ti t_St p l (fun o => o = res [[.l t_Pl.xs, .l t_Sh.xs, .l t_Ti.xs, .l t_St.xs], [.i p], [.l l.xs]])).mpr (hyp_ W t_Pl t_Sh t_Ti t_St p l hp _ rfl)
abbrev Xm (ds : DS) : DS := match ds with | [[.l _, .l _, .l _, .l st], [.i p], [.l l]] => [[.i (Sp.stepsT st l p)], [.i (Sp.stepsE st l p)]] | _ => []
theorem Xe0 {st l : Dt} : ∀ {n i : Nat} {p : Int}, ¬ Sp.folE st l i n p = 0 -> Sp.folT st l i n p = 0
 | 0, _, _, h => absurd rfl h
 | n + 1, i, p, h => by
  rw [Xcj.1] at h;rw [Xcj.2]
  split
  ·rename_i h1;rw [if_pos h1] at h
   split
   ·rfl
   ·rename_i h2;rw [if_neg h2] at h
    split
    ·rename_i h3;rw [if_pos h3] at h;exact Xe0 h
    ·rfl
  ·rfl
theorem Xn1 : PureOk Try.prog 69 Xbm [(false, [.int .i64]), (false, [.int .i64])] (fun _ => True) Xm :=
 Xlu fun W pl sh ti st p l hp Q h => by
  unfold Xc8;delta Zg Zh;have hm := l.len; simp only [maxLen] at hm; simp only [Xm, Sp.stepsT, Sp.stepsE] at h; simp only [show Int.toNat 0 = 0 from rfl, Nat.sub_zero]; refine vifd (fun e => ?_) fun e => ⟨by first | omega | (refine ⟨?_, ?_, ?_⟩ <;> first | trivial | rfl | omega), vifd (fun e2 => ?_) fun e2 => ?_⟩
  ·rw [if_pos e, if_pos e] at h; exact h
  ·rw [if_neg e, if_neg e, e2] at h; exact h
  ·rw [if_neg e, if_neg e, Xe0 e2] at h; exact h
theorem Xn5 : PureOk Try.prog 78 Xbq [(false, [.int .i64]), (false, [.int .i64])] (fun _ => True) Xm :=
 Xly fun W pl sh ti st p l hp Q h => by
  unfold Xdc;delta Zg Zh;have hm := l.len; simp only [maxLen] at hm; simp only [Xm, Sp.stepsT, Sp.stepsE] at h; simp only [show Int.toNat 0 = 0 from rfl, Nat.sub_zero]; refine vifd (fun e => ?_) fun e => ⟨by first | omega | (refine ⟨?_, ?_, ?_⟩ <;> first | trivial | rfl | omega), vifd (fun e2 => ?_) fun e2 => ?_⟩
  ·rw [if_pos e, if_pos e] at h; exact h
  ·rw [if_neg e, if_neg e, e2] at h; exact h
  ·rw [if_neg e, if_neg e, Xe0 e2] at h; exact h
noncomputable def Xf8 : PC Try.prog := ⟨69, Xbm, [(false, [.int .i64]), (false, [.int .i64])], fun _ => True, Xm, Xn1⟩
noncomputable def Xlc : PC Try.prog := ⟨78, Xbq, [(false, [.int .i64]), (false, [.int .i64])], fun _ => True, Xm, Xn5⟩
namespace Sp
structure TourOk (pl sh ti st l : Dt) (time : Int) : Prop where
 tw : TwOk pl sh ti st
 ti0 : 0 <= time
 ti1 : time < ti.length
 ln : l.length <= 1100
 xs : ∀ k, k < l.length -> 0 <= xS l k /\ xS l k < st.length
structure TourAt (l : Dt) (i me lo hi sw : Int) : Prop where
 i0 : 0 <= i
 i1 : i <= l.length
 me : 0 <= me /\ me <= 10000 * i
 lo : 0 <= lo /\ lo <= 10000 * i
 hi : 0 <= hi /\ hi <= 10000 * i
 sw : 0 <= sw /\ sw < 64
def gMe (st l : Dt) (k : Nat) : Int := sMe st (xS l k).toNat
def gLo (st l : Dt) (k : Nat) : Int := sLo st (xS l k).toNat
def gHi (st l : Dt) (k : Nat) : Int := sHi st (xS l k).toNat
end Sp
theorem Xg2 {pl sh ti st l : Dt} {time : Int} (h : Sp.TourOk pl sh ti st l time) {k : Nat} (hk : k < l.length) : Sp.StOk pl.length sh.length ti.length st (Sp.xS l k).toNat /\ (0 <= Sp.xS l k /\ Sp.xS l k < st.length) /\ 0 <= Sp.shT st l time.toNat k /\ Sp.shT st l time.toNat k < 64 := by
 have h1 := h.xs k hk;have h2 := h.tw.each (Sp.xS l k).toNat (by omega);have h3 := h2.sh time.toNat (by have := h.ti0; have := h.ti1; omega);have h4 := Sp.sets_le h.tw.shL;refine ⟨h2, h1, ?_⟩;unfold Sp.shT;omega
def Xca [InW] (e : List Ed) (K : Nat -> List Ed -> Prop) : Prop := match e with
 | [.i time, .ro _ l, .i n, .i i, .ro _ pl, .ro _ sh, .ro _ ti, .ro _ st, .i me, .i lo, .i hi, .i sw, .l cs] => Pre (n = l.xs.length /\ Sp.TourOk pl.xs sh.xs ti.xs st.xs l.xs time /\ Sp.TourAt l.xs i me lo hi sw)
   (K 0 [.i (Sp.sumF (Sp.gMe st.xs l.xs) i.toNat (l.xs.length - i.toNat) me), .i (Sp.sumF (Sp.gLo st.xs l.xs) i.toNat (l.xs.length - i.toNat) lo), .i (Sp.sumF (Sp.gHi st.xs l.xs) i.toNat (l.xs.length - i.toNat) hi), .i (Sp.orF (Sp.shT st.xs l.xs time.toNat) i.toNat (l.xs.length - i.toNat) sw), .l cs])
 | _ => False
noncomputable def Xch : LC where
 len := 62
 T := [(1, .int .i64), (3, (.ptr 1 0)), (6, (.ptr 7 0)), (7, (.ptr 4 0)), (14, .rs Xd), (15, .int .i64), (16, .int .i64)]
 H := [(1, .blk 137 [.rs Jb, .rs Jb, .rs Jb, .rs Jd]), (4, .blk 93 [(.row 13), .int .i64, .int .i64, .int .i64, .int .i64]), (13, .arr 91 Xd), (7, .blk 93 [(.lit (.slice none 0 0)), (.lit (.int .i64 0)), (.lit (.int .i64 0)), (.lit (.int .i64 0)), (.lit (.int .i64 0))])]
 W := ([9, 10] ++ rg 17 44)
 outs := [⟨.exit 0, [(6, (.ptr 7 0)), (7, (.ptr 4 0))], [(4, .blk 93 [(.row 13), .int .i64, .int .i64, .int .i64, .int .i64]), (13, .arr 91 Xd), (7, .blk 93 [(.lit (.slice none 0 0)), (.lit (.int .i64 0)), (.lit (.int .i64 0)), (.lit (.int .i64 0)), (.lit (.int .i64 0))])], ([1, 3, 9, 10] ++ rg 14 47)⟩]
 spec := Xca
def Zs [W : InW] (l : Ro Xd) (i : Int) := cel l.xs i.toNat (0 : Nat)
def Zt := (0 : Nat) + 1 + 1 + 1 + 1 + 1 + 1
def Xdm [W : InW] (time : Int) (l : Ro Xd) (n i : Int) (pl sh ti : Ro Jb) (st : Ro Jd) (me lo hi sw : Int) (cs : Dt) (A : List Ed -> Prop) (K : Nat -> List Ed -> Prop) : Prop :=
 Vif (decide (i < n)) (Need (decide (0 <= i) && decide (i < (↑(l.xs.length) : Int))) (Need (decide (i.toNat < l.xs.length)) (Need (decide ((0 : Int) <= (Zs l i).int) && decide ((Zs l i).int < (↑(st.xs.length) : Int))) (Need (decide ((Zs l i).int.toNat < st.xs.length)) (Ar .i64 (me + (cel st.xs (Zs l i).int.toNat ((0 : Nat) + 1 + 1)).int) fun z => Ar .i64 (lo + (cel st.xs (Zs l i).int.toNat ((0 : Nat) + 1 + 1 + 1)).int) fun z_1 => Ar .i64 (hi + (cel st.xs (Zs l i).int.toNat ((0 : Nat) + 1 + 1 + 1 + 1)).int) fun z_2 => Need (decide (0 <= time) && decide (time < (↑(List.length (cel st.xs (Zs l i).int.toNat Zt).lst) : Int))) (Need (decide (time.toNat < List.length (cel st.xs (Zs l i).int.toNat Zt).lst)) (Ar .i64 (i + 1) fun z_3 => A [.i time, .ro _ l, .i n, .i z_3, .ro _ pl, .ro _ sh, .ro _ ti, .ro Zc st, .i z, .i z_1, .i z_2, .i (orI IntKind.i64 sw (cel (cel st.xs (Zs l i).int.toNat Zt).lst time.toNat (0 : Nat)).int), .l cs]))))))) (K 0 [.i me, .i lo, .i hi, .i sw, .l cs])
theorem Xkg (W : InW) (time l n i pl sh ti st me lo hi sw cs A K) : Ye6 { cxT Try.prog TT T22 1000 50 with fn := 79 } 1000 (Ym7 Try.prog 79 4) (Yd5 62 [(1, .si .i64 time), (3, .ptr 1 0), (6, .ptr 7 0), (7, .ptr 4 0), (14, .rs _ l), (15, .si .i64 n), (16, .si .i64 i)] ([9, 10] ++ rg 17 44)) [(1, .blk 137 [.rs _ pl, .rs _ sh, .rs _ ti, .rs _ st]), (4, .blk 93 [.rw 13, .si .i64 me, .si .i64 lo, .si .i64 hi, .si .i64 sw]), (13, .arr 91 Xd cs), (7, .blk 93 [.v (.slice none 0 0), .v (.int .i64 0), .v (.int .i64 0), .v (.int .i64 0), .v (.int .i64 0)])] (Ys7 Xch A K) = Xdm time l n i pl sh ti st me lo hi sw cs A K := by kernel_rfl
def Xdw : Prop := ∀ (W : InW) (body a : Code), (Try.prog.funcs[79]?).bind (·.body) = some body -> a ∈ Yu body -> Yfq a = 4 -> @Yl3 W Try.prog a (@Ysd W Xch)
theorem Xlo (meas : [InW] -> List Ed -> Nat) (hyp_ : ∀ (W : InW) time l n i pl sh ti st me lo hi sw cs K, Xca [.i time, .ro _ l, .i n, .i i, .ro _ pl, .ro _ sh, .ro _ ti, .ro _ st, .i me, .i lo, .i hi, .i sw, .l cs] K -> ∀ A : List Ed -> Prop, (∀ e, meas e < meas [.i time, .ro _ l, .i n, .i i, .ro _ pl, .ro _ sh, .ro _ ti, .ro _ st, .i me, .i lo, .i hi, .i sw, .l cs] -> Xca e K -> A e) -> Xdm time l n i pl sh ti st me lo hi sw cs A K) : Xdw :=
 LE.okOf' (fun W => @TT W) (fun W => @Xb W) Xa T22 1000 50 (by kernel_rfl) Xch (fun W => @meas W) fun W time l n i pl sh ti st me lo hi sw cs K hs =>
  (Xkg W time l n i pl sh ti st me lo hi sw cs (fun e => meas e < meas [.i time, .ro _ l, .i n, .i i, .ro _ pl, .ro _ sh, .ro _ ti, .ro _ st, .i me, .i lo, .i hi, .i sw, .l cs] /\ Xca e K) K).mpr (hyp_ W time l n i pl sh ti st me lo hi sw cs K hs _ fun e h1 h2 => ⟨h1, h2⟩)
theorem Xo6 : Xdw := Xlo (fun e => match e with | _ :: .ro _ l :: _ :: .i i :: _ => ((l.xs.length : Int) - i).toNat | _ => 0) fun W time l n i pl sh ti st me lo hi sw cs K hs A hA => by
 obtain ⟨⟨rfl, hT, hI⟩, hk⟩ := hs;unfold Xdm;delta Zt Zs Zc;have h0 := hI.i0;have h1 := hI.i1;have hln := hT.ln;have t0 := hT.ti0;have t1 := hT.ti1;refine vifd (fun e => ?_) fun e => ?_
 ·rw [show l.xs.length - i.toNat = (l.xs.length - (i.toNat + 1)) + 1 by omega] at hk;simp only [Sp.sumF, Sp.orF] at hk;obtain ⟨g1, g2, g3⟩ := Xg2 hT (k := i.toNat) (by omega);have u := Sp.un_or hI.sw.1 hI.sw.2 g3.1 g3.2;rw [u.1] at hk;have ez : (i + 1).toNat = i.toNat + 1 := by omega
  have hme := hI.me;have hlo := hI.lo;have hhi := hI.hi;have gme := g1.me;have glo := g1.lo;have ghi := g1.hi;have glen := g1.len;have hA' : ∀ a b c d, a = me + Sp.gMe st.xs l.xs i.toNat -> b = lo + Sp.gLo st.xs l.xs i.toNat -> c = hi + Sp.gHi st.xs l.xs i.toNat -> d = orI .i64 sw (Sp.shT st.xs l.xs time.toNat i.toNat) -> A [.i time, .ro _ l, .i l.xs.length, .i (i + 1), .ro _ pl, .ro _ sh, .ro _ ti, .ro _ st, .i a, .i b, .i c, .i d, .l cs] := fun a b c d ha hb hc hd => hA _ (by show ((l.xs.length : Int) - (i + 1)).toNat < ((l.xs.length : Int) - i).toNat; omega) ⟨⟨rfl, hT, ⟨by omega, by omega, by simp only [Sp.gMe] at ha; omega, by simp only [Sp.gLo] at hb; omega, by simp only [Sp.gHi] at hc; omega, by rw [hd, <- u.1]; exact u.2.1⟩⟩, by rw [ez, ha, hb, hc, hd]; exact hk⟩;clear hA hk;simp only [Sp.gMe, Sp.gLo, Sp.gHi, Sp.sMe, Sp.sLo, Sp.sHi, Sp.sSh, Sp.shT, Sp.xS] at *;simp only [Nat.zero_add, Nat.reduceAdd]
  repeat' (first | omega | with_reducible refine vifd (fun _ => ?_) fun _ => ?_ | with_reducible refine vifn (fun _ => ?_) fun _ => ?_ | with_reducible refine vifq (fun _ => ?_) fun _ => ?_ | with_reducible refine vifq0 (fun _ => ?_) fun _ => ?_ | with_reducible refine vifq1 (fun _ => ?_) fun _ => ?_ | with_reducible refine vifb (fun _ => ?_) fun _ => ?_ | with_reducible refine vif (fun _ => ?_) fun _ => ?_ | (with_reducible refine nedd ?_ ?_; omega) | (with_reducible refine ned ?_ ?_; simp only [Bool.and_eq_true, decide_eq_true_eq]; omega) | (with_reducible refine ar64 ?_ ?_; omega) | (with_reducible refine Xe ?_ ?_; (first | trivial | omega | assumption | (refine ⟨?_, ?_⟩ <;> first | trivial | omega | assumption) | (refine ⟨?_, ?_, ?_⟩ <;> first | trivial | omega | assumption) | (refine ⟨?_, ?_, ?_, ?_⟩ <;> first | trivial | omega | assumption))))
  all_goals first | exact hA' _ _ _ _ rfl rfl rfl rfl | skip
  all_goals trace_state
 ·rw [show l.xs.length - i.toNat = 0 by omega] at hk;exact hk
noncomputable def Xpb : LE Try.prog := ⟨79, 4, fun W => @Ysd W Xch, Xo6⟩
noncomputable def T24 : Tab Try.prog := ⟨[], [Xpb], []⟩
def Zv := Int.toNat Zh
def Zu [W : InW] (l : Ro Xd) := l.xs.length - Int.toNat Zh
def Xfc [W : InW] (t_Pl t_Sh t_Ti : Ro Jb) (t_St : Ro Jd) (time : Int) (l : Ro Xd) (Q : DS -> Prop) : Prop :=
 Vif (match l.v with | Value.slice none len cap => true | x => false) (Pre ((↑(l.xs.length) : Int) = (↑(l.xs.length) : Int) /\ Sp.TourOk t_Pl.xs t_Sh.xs t_Ti.xs t_St.xs l.xs time /\ Sp.TourAt l.xs Zh Zh Zh Zh Zh) (Q [[Cl.l [], Cl.i (Sp.sumF (Sp.gMe t_St.xs l.xs) Zv (Zu l) Zh), Cl.i (Sp.sumF (Sp.gLo t_St.xs l.xs) Zv (Zu l) Zh), Cl.i (Sp.sumF (Sp.gHi t_St.xs l.xs) Zv (Zu l) Zh), Cl.i (Sp.orF (Sp.shT t_St.xs l.xs time.toNat) Zv (Zu l) Zh)]])) (Need (decide (((0 : Nat) + l.xs.length) * 16 <= 140737488355328)) (Pre ((↑(l.xs.length) : Int) = (↑(l.xs.length) : Int) /\ Sp.TourOk t_Pl.xs t_Sh.xs t_Ti.xs t_St.xs l.xs time /\ Sp.TourAt l.xs Zh Zh Zh Zh Zh) (Q [[Cl.l l.xs, Cl.i (Sp.sumF (Sp.gMe t_St.xs l.xs) Zv (Zu l) Zh), Cl.i (Sp.sumF (Sp.gLo t_St.xs l.xs) Zv (Zu l) Zh), Cl.i (Sp.sumF (Sp.gHi t_St.xs l.xs) Zv (Zu l) Zh), Cl.i (Sp.orF (Sp.shT t_St.xs l.xs time.toNat) Zv (Zu l) Zh)]])))
theorem Xnc (W : InW) (t_Pl t_Sh t_Ti t_St time l Q) : Yvd (cxT Try.prog TT T24 1000 50) 1000 79 [.agg [.rs _ t_Pl, .rs _ t_Sh, .rs _ t_Ti, .rs _ t_St], .si .i64 time, .rs _ l] [] 0 (Yzg [(true, [.row 91 Xd, .int .i64, .int .i64, .int .i64, .int .i64])] Q) (fun _ _ _ _ => Stuck 421) = Xfc t_Pl t_Sh t_Ti t_St time l Q := by kernel_rfl
abbrev Xc0 : List AT := [.agg [.sl Jb, .sl Jb, .sl Jb, .sl Jd], .one (.int .i64), .one (.sl Xd)]
theorem Xox {pre : DS -> Prop} {res : DS -> DS} (hyp_ : ∀ (W : InW) (t_Pl t_Sh t_Ti : Ro Jb) (t_St : Ro Jd) (time : Int) (l : Ro Xd), pre [[.l t_Pl.xs, .l t_Sh.xs, .l t_Ti.xs, .l t_St.xs], [.i time], [.l l.xs]] -> ∀ Q : DS -> Prop, Q (res [[.l t_Pl.xs, .l t_Sh.xs, .l t_Ti.xs, .l t_St.xs], [.i time], [.l l.xs]]) -> Xfc t_Pl t_Sh t_Ti t_St time l Q) : PureOk Try.prog 79 Xc0 [(true, [.row 91 Xd, .int .i64, .int .i64, .int .i64, .int .i64])] pre res :=
 PureOk.of' (fun W => @TT W) (fun W => @Xb W) Xa T24 1000 50 fun W t_Pl t_Sh t_Ti t_St time l hp =>
  (Xnc W t_Pl t_Sh t_Ti t_St time l (fun o => o = res [[.l t_Pl.xs, .l t_Sh.xs, .l t_Ti.xs, .l t_St.xs], [.i time], [.l l.xs]])).mpr (hyp_ W t_Pl t_Sh t_Ti t_St time l hp _ rfl)
abbrev Xef (ds : DS) : DS := match ds with | [[.l _, .l _, .l _, .l st], [.i time], [.l l]] => [[.l l, .i (Sp.sumF (Sp.gMe st l) 0 l.length 0), .i (Sp.sumF (Sp.gLo st l) 0 l.length 0), .i (Sp.sumF (Sp.gHi st l) 0 l.length 0), .i (Sp.orF (Sp.shT st l time.toNat) 0 l.length 0)]] | _ => []
abbrev Xir (ds : DS) : Prop := match ds with | [[.l pl, .l sh, .l ti, .l st], [.i time], [.l l]] => Sp.TourOk pl sh ti st l time | _ => False
theorem Xq4 : PureOk Try.prog 79 Xc0 [(true, [.row 91 Xd, .int .i64, .int .i64, .int .i64, .int .i64])] Xir Xef :=
 Xox fun W pl sh ti st time l hp Q h => by
  unfold Xfc;delta Zu Zv Zh;have hT : Sp.TourOk pl.xs sh.xs ti.xs st.xs l.xs time := hp;have hln := hT.ln;have hm := l.len;simp only [Xef] at h;simp only [maxLen] at hm;have hA : Sp.TourAt l.xs 0 0 0 0 0 := ⟨by omega, by omega, by omega, by omega, by omega, by omega⟩;simp only [show Int.toNat 0 = 0 from rfl, Nat.sub_zero];refine vif (fun e => ⟨⟨trivial, hT, hA⟩, ?_⟩) fun e => nedd (by omega) ⟨⟨trivial, hT, hA⟩, ?_⟩
  ·rw [Y2k (r := l) e] at h ⊢;exact h
  ·exact h
noncomputable def Xnt : PC Try.prog := ⟨79, Xc0, [(true, [.row 91 Xd, .int .i64, .int .i64, .int .i64, .int .i64])], Xir, Xef, Xq4⟩
namespace Sp
def dvL (pl sh ti st : Dt) (p time : Int) (l : Dt) : Dt := if drvE pl sh ti st p time l = 0 then l else []
def dvMe (pl sh ti st : Dt) (p time : Int) (l : Dt) : Int := if drvE pl sh ti st p time l = 0 then sumF (gMe st l) 0 l.length 0 else 0
def dvLo (pl sh ti st : Dt) (p time : Int) (l : Dt) : Int := if drvE pl sh ti st p time l = 0 then sumF (gLo st l) 0 l.length 0 else 0
def dvHi (pl sh ti st : Dt) (p time : Int) (l : Dt) : Int := if drvE pl sh ti st p time l = 0 then sumF (gHi st l) 0 l.length 0 else 0
def dvSh (pl sh ti st : Dt) (p time : Int) (l : Dt) : Int := if drvE pl sh ti st p time l = 0 then orF (shT st l time.toNat) 0 l.length 0 else 0
def dvT (pl sh ti st : Dt) (p time : Int) (l : Dt) : Int := if drvE pl sh ti st p time l = 0 then stepsT st l p else 0
end Sp
abbrev Xi : RTs := [(true, [.row 91 Xd, .int .i64, .int .i64, .int .i64, .int .i64]), (false, [.int .i64]), (false, [.int .i64])]
abbrev X9 (ds : DS) : DS := match ds with | [[.l pl, .l sh, .l ti, .l st], [.i p], [.i time], [.l l]] => [[.l (Sp.dvL pl sh ti st p time l), .i (Sp.dvMe pl sh ti st p time l), .i (Sp.dvLo pl sh ti st p time l), .i (Sp.dvHi pl sh ti st p time l), .i (Sp.dvSh pl sh ti st p time l)], [.i (Sp.dvT pl sh ti st p time l)], [.i (Sp.drvE pl sh ti st p time l)]] | _ => []
abbrev Xba (ds : DS) : Prop := match ds with | [[.l pl, .l sh, .l ti, .l _], _, _, _] => Sp.NamesOk pl /\ Sp.NamesOk sh /\ Sp.NamesOk ti | _ => False
theorem Xgy {pl sh ti st l : Dt} {p time : Int} {Q : Dt -> Int -> Int -> Int -> Int -> Int -> Int -> Prop} (h : Q (Sp.dvL pl sh ti st p time l) (Sp.dvMe pl sh ti st p time l) (Sp.dvLo pl sh ti st p time l) (Sp.dvHi pl sh ti st p time l) (Sp.dvSh pl sh ti st p time l) (Sp.dvT pl sh ti st p time l) (Sp.drvE pl sh ti st p time l)) :
  (¬ Sp.tchkE pl sh ti st = 0 -> Q [] 0 0 0 0 0 (Sp.tchkE pl sh ti st)) /\
  (Sp.tchkE pl sh ti st = 0 -> (Sp.inr p 0 ((pl.length : Int) - 1) = false \/ Sp.inr time 0 ((ti.length : Int) - 1) = false) -> Q [] 0 0 0 0 0 4) /\
  (Sp.tchkE pl sh ti st = 0 -> Sp.inr p 0 ((pl.length : Int) - 1) = true -> Sp.inr time 0 ((ti.length : Int) - 1) = true -> ¬ Sp.stepsE st l p = 0 -> Q [] 0 0 0 0 0 (Sp.stepsE st l p)) /\
  (Sp.tchkE pl sh ti st = 0 -> Sp.inr p 0 ((pl.length : Int) - 1) = true -> Sp.inr time 0 ((ti.length : Int) - 1) = true -> Sp.stepsE st l p = 0 -> Sp.TourOk pl sh ti st l time /\ Q l (Sp.sumF (Sp.gMe st l) 0 l.length 0) (Sp.sumF (Sp.gLo st l) 0 l.length 0) (Sp.sumF (Sp.gHi st l) 0 l.length 0) (Sp.orF (Sp.shT st l time.toNat) 0 l.length 0) (Sp.stepsT st l p) 0) := by
 have bad : ∀ e, Sp.drvE pl sh ti st p time l = e -> ¬ e = 0 -> Q [] 0 0 0 0 0 e := fun e he hn => by
  unfold Sp.dvL Sp.dvMe Sp.dvLo Sp.dvHi Sp.dvSh Sp.dvT at h;rw [he] at h;rw [if_neg hn, if_neg hn, if_neg hn, if_neg hn, if_neg hn, if_neg hn] at h;exact h
 refine ⟨fun e => bad _ (by unfold Sp.drvE; rw [if_neg e]) e, fun e e2 => bad _ (by unfold Sp.drvE; rw [if_pos e, if_neg]; rcases e2 with e2 | e2 <;> simp [e2]) (by decide), fun e e2 e3 e4 => bad _ (by unfold Sp.drvE; rw [if_pos e, if_pos (by simp [e2, e3])]) e4, fun e e2 e3 e4 => ⟨?_, ?_⟩⟩
 ·have := Sp.inr_iff.1 e3;have := Sp.steps_street e4;exact ⟨Sp.tchk_ok e, by omega, by omega, this.1, this.2⟩
 ·have he : Sp.drvE pl sh ti st p time l = 0 := by unfold Sp.drvE; rw [if_pos e, if_pos (by simp [e2, e3]), e4]
  unfold Sp.dvL Sp.dvMe Sp.dvLo Sp.dvHi Sp.dvSh Sp.dvT at h;rw [if_pos he, if_pos he, if_pos he, if_pos he, if_pos he, if_pos he, he] at h;exact h
noncomputable def T25 : Tab Try.prog := ⟨[Xgb, Xcq, Xlc, Xnt], [], []⟩
def Zx := [Cl.l [], Cl.i 0, Cl.i 0, Cl.i 0, Cl.i 0]
def Zw [W : InW] (t_Pl t_Sh t_Ti : Ro Jb) (t_St : Ro Jd) (p time : Int) (l : Ro Xd) (Q : DS -> Prop) := Ar .i64 ((↑(t_Ti.xs.length) : Int) - 1) fun z => Pre True (Vif (Sp.out Zh z [[Cl.i time]]) (Q [Zx, [Cl.i 0], [Cl.i 4]]) (Pre True (Vif (!decide (Sp.stepsE t_St.xs l.xs p = 0)) (Q [Zx, [Cl.i 0], [Cl.i (Sp.stepsE t_St.xs l.xs p)]]) (Pre (Sp.TourOk t_Pl.xs t_Sh.xs t_Ti.xs t_St.xs l.xs time) (Q [[Cl.l l.xs, Cl.i (Sp.sumF (Sp.gMe t_St.xs l.xs) (0 : Nat) (l.xs.length) Zh), Cl.i (Sp.sumF (Sp.gLo t_St.xs l.xs) (0 : Nat) (l.xs.length) Zh), Cl.i (Sp.sumF (Sp.gHi t_St.xs l.xs) (0 : Nat) (l.xs.length) Zh), Cl.i (Sp.orF (Sp.shT t_St.xs l.xs time.toNat) (0 : Nat) (l.xs.length) Zh)], [Cl.i (Sp.stepsT t_St.xs l.xs p)], [Cl.i 0]])))))
def Xdd [W : InW] (t_Pl t_Sh t_Ti : Ro Jb) (t_St : Ro Jd) (p time : Int) (l : Ro Xd) (Q : DS -> Prop) : Prop :=
 Pre (Sp.NamesOk t_Pl.xs /\ Sp.NamesOk t_Sh.xs /\ Sp.NamesOk t_Ti.xs) (Vif (!decide (Sp.tchkE t_Pl.xs t_Sh.xs t_Ti.xs t_St.xs = 0)) (Vif (!decide (Sp.tchkE t_Pl.xs t_Sh.xs t_Ti.xs t_St.xs = 0)) (Q [Zx, [Cl.i 0], [Cl.i (Sp.tchkE t_Pl.xs t_Sh.xs t_Ti.xs t_St.xs)]]) (Zw t_Pl t_Sh t_Ti t_St p time l Q)) (Ar .i64 ((↑(t_Pl.xs.length) : Int) - 1) fun z => Pre True (Vif (Sp.out Zh z [[Cl.i p]]) (Q [Zx, [Cl.i 0], [Cl.i 4]]) (Zw t_Pl t_Sh t_Ti t_St p time l Q))))
theorem Xkq (W : InW) (t_Pl t_Sh t_Ti t_St p time l Q) : Yvd (cxT Try.prog TT T25 1000 50) 1000 53 [.agg [.rs _ t_Pl, .rs _ t_Sh, .rs _ t_Ti, .rs _ t_St], .si .i64 p, .si .i64 time, .rs _ l] [] 0 (Yzg Xi Q) (fun _ _ _ _ => Stuck 421) = Xdd t_Pl t_Sh t_Ti t_St p time l Q := by kernel_rfl
abbrev Xbr : List AT := [.agg [.sl Jb, .sl Jb, .sl Jb, .sl Jd], .one (.int .i64), .one (.int .i64), .one (.sl Xd)]
theorem Xlz {pre : DS -> Prop} {res : DS -> DS} (hyp_ : ∀ (W : InW) (t_Pl t_Sh t_Ti : Ro Jb) (t_St : Ro Jd) (p time : Int) (l : Ro Xd), pre [[.l t_Pl.xs, .l t_Sh.xs, .l t_Ti.xs, .l t_St.xs], [.i p], [.i time], [.l l.xs]] -> ∀ Q : DS -> Prop, Q (res [[.l t_Pl.xs, .l t_Sh.xs, .l t_Ti.xs, .l t_St.xs], [.i p], [.i time], [.l l.xs]]) -> Xdd t_Pl t_Sh t_Ti t_St p time l Q) : PureOk Try.prog 53 Xbr Xi pre res :=
 PureOk.of' (fun W => @TT W) (fun W => @Xb W) Xa T25 1000 50 fun W t_Pl t_Sh t_Ti t_St p time l hp =>
  (Xkq W t_Pl t_Sh t_Ti t_St p time l (fun o => o = res [[.l t_Pl.xs, .l t_Sh.xs, .l t_Ti.xs, .l t_St.xs], [.i p], [.i time], [.l l.xs]])).mpr (hyp_ W t_Pl t_Sh t_Ti t_St p time l hp _ rfl)
theorem Xn6 : PureOk Try.prog 53 Xbr Xi Xba X9 :=
 Xlz fun W pl sh ti st p time l hp Q h => by
  unfold Xdd;delta Zw Zh Zx;have hpl := pl.len;have hti := ti.len;simp only [maxLen] at hpl hti;have hp : Sp.NamesOk pl.xs /\ Sp.NamesOk sh.xs /\ Sp.NamesOk ti.xs := hp;obtain ⟨q0, q1, q2, q3⟩ := Xgy (Q := fun a b c d e f g => Q [[.l a, .i b, .i c, .i d, .i e], [.i f], [.i g]]) h;clear h;simp only [out1];have hA0 : Sp.TourAt l.xs 0 0 0 0 0 := ⟨by omega, by omega, by omega, by omega, by omega, by omega⟩
  try simp only [show Int.toNat 0 = 0 from rfl, Nat.sub_zero]
  repeat' (first | omega | with_reducible refine vifd (fun _ => ?_) fun _ => ?_ | with_reducible refine vifn (fun _ => ?_) fun _ => ?_ | with_reducible refine vifq (fun _ => ?_) fun _ => ?_ | with_reducible refine vifq0 (fun _ => ?_) fun _ => ?_ | with_reducible refine vifq1 (fun _ => ?_) fun _ => ?_ | with_reducible refine vifb (fun _ => ?_) fun _ => ?_ | with_reducible refine vif (fun _ => ?_) fun _ => ?_ | (with_reducible refine nedd ?_ ?_; omega) | (with_reducible refine ned ?_ ?_; simp only [Bool.and_eq_true, decide_eq_true_eq]; omega) | (with_reducible refine ar64 ?_ ?_; omega) | (with_reducible refine Xe ?_ ?_; (first | trivial | omega | assumption | (refine ⟨?_, ?_⟩ <;> first | trivial | omega | assumption) | (refine ⟨?_, ?_, ?_⟩ <;> first | trivial | omega | assumption) | (refine ⟨?_, ?_, ?_, ?_⟩ <;> first | trivial | omega | assumption))))
  all_goals first | contradiction | exact q0 (by assumption) | exact q1 (by assumption) (.inl (by assumption)) | exact q1 (by assumption) (.inr (by assumption)) | exact q2 (by assumption) (by assumption) (by assumption) (by assumption) | (have g := q3 (by assumption) (by assumption) (by assumption) (by assumption); exact ⟨g.1, g.2⟩) | (have g := q3 (by assumption) (by assumption) (by assumption) (by assumption); have gl := g.1.ln; exact nedd (by omega) ⟨⟨g.1, hA0⟩, g.2⟩) | skip
noncomputable def Xga : PC Try.prog := ⟨53, Xbr, Xi, Xba, X9, Xn6⟩
def Xb9 [InW] (e : List Ed) (K : Nat -> List Ed -> Prop) : Prop := match e with
 | [.i time, .ro _ l, .i to_, .i i, .ro _ pl, .ro _ sh, .ro _ ti, .ro _ st, .i me, .i lo, .i hi, .i sw, .l cs] => Pre (Sp.TourOk pl.xs sh.xs ti.xs st.xs l.xs time /\ Sp.TourAt l.xs i me lo hi sw)
   (K 0 [.i to_, .i (Sp.sumF (Sp.gMe st.xs l.xs) i.toNat (l.xs.length - i.toNat) me), .i (Sp.sumF (Sp.gLo st.xs l.xs) i.toNat (l.xs.length - i.toNat) lo), .i (Sp.sumF (Sp.gHi st.xs l.xs) i.toNat (l.xs.length - i.toNat) hi), .i (Sp.orF (Sp.shT st.xs l.xs time.toNat) i.toNat (l.xs.length - i.toNat) sw), .l cs])
 | _ => False
noncomputable def T26 : Tab Try.prog := ⟨[Xnq], [], []⟩
noncomputable def Xcg : LC where
 len := 111
 T := [(2, .int .i64), (3, .rs Xd), (4, (.ptr 1 0)), (8, (.ptr 7 0)), (14, .int .i64), (15, (.ptr 4 0)), (16, .int .i64)]
 H := [(1, .blk 25 [.rs Jb, .rs Jb, .rs Jb, .rs Jd]), (4, .blk 93 [(.row 13), .int .i64, .int .i64, .int .i64, .int .i64]), (13, .arr 91 Xd), (7, .blk 93 [(.lit (.slice none 0 0)), (.lit (.int .i64 0)), (.lit (.int .i64 0)), (.lit (.int .i64 0)), (.lit (.int .i64 0))])]
 W := ([17] ++ rg 63 46)
 outs := [⟨.exit 0, [(8, (.ptr 7 0)), (14, .int .i64), (15, (.ptr 4 0))], [(4, .blk 93 [(.row 13), .int .i64, .int .i64, .int .i64, .int .i64]), (13, .arr 91 Xd), (7, .blk 93 [(.lit (.slice none 0 0)), (.lit (.int .i64 0)), (.lit (.int .i64 0)), (.lit (.int .i64 0)), (.lit (.int .i64 0))])], ([2, 3, 4, 16, 17] ++ rg 63 46)⟩]
 spec := Xb9
def Zy [W : InW] (l : Ro Xd) (i : Int) := cel l.xs i.toNat (0 : Nat)
def Xdl [W : InW] (time : Int) (l : Ro Xd) (to_ i : Int) (pl sh ti : Ro Jb) (st : Ro Jd) (me lo hi sw : Int) (cs : Dt) (A : List Ed -> Prop) (K : Nat -> List Ed -> Prop) : Prop :=
 Vif (decide (i < (↑(l.xs.length) : Int))) (Need (decide (0 <= i) && decide (i < (↑(l.xs.length) : Int))) (Need (decide (i.toNat < l.xs.length)) (Need (decide (Zh <= (Zy l i).int) && decide ((Zy l i).int < (↑(st.xs.length) : Int))) (Need (decide ((Zy l i).int.toNat < st.xs.length)) (Ar .i64 (me + (cel st.xs (Zy l i).int.toNat ((0 : Nat) + 1 + 1)).int) fun z => Ar .i64 (lo + (cel st.xs (Zy l i).int.toNat ((0 : Nat) + 1 + 1 + 1)).int) fun z_1 => Ar .i64 (hi + (cel st.xs (Zy l i).int.toNat ((0 : Nat) + 1 + 1 + 1 + 1)).int) fun z_2 => Need (decide (0 <= time) && decide (time < (↑(List.length (cel st.xs (Zy l i).int.toNat Zt).lst) : Int))) (Need (decide (time.toNat < List.length (cel st.xs (Zy l i).int.toNat Zt).lst)) (Pre ((0 <= sw /\ sw <= 1048576) /\ Zh <= (cel (cel st.xs (Zy l i).int.toNat Zt).lst time.toNat (0 : Nat)).int /\ (cel (cel st.xs (Zy l i).int.toNat Zt).lst time.toNat (0 : Nat)).int <= 1048576) (Ar .i64 (i + 1) fun z_3 => A [.i time, .ro _ l, .i to_, .i z_3, .ro _ pl, .ro _ sh, .ro _ ti, .ro Zc st, .i z, .i z_1, .i z_2, .i (Sp.unF sw (cel (cel st.xs (Zy l i).int.toNat Zt).lst time.toNat (0 : Nat)).int (0 : Nat) (6 : Nat) Zh), .l cs])))))))) (K 0 [.i to_, .i me, .i lo, .i hi, .i sw, .l cs])
theorem Xkf (W : InW) (time l to_ i pl sh ti st me lo hi sw cs A K) : Ye6 { cxT Try.prog TT T26 1000 50 with fn := 41 } 1000 (Ym7 Try.prog 41 12) (Yd5 111 [(2, .si .i64 time), (3, .rs _ l), (4, .ptr 1 0), (8, .ptr 7 0), (14, .si .i64 to_), (15, .ptr 4 0), (16, .si .i64 i)] ([17] ++ rg 63 46)) [(1, .blk 25 [.rs _ pl, .rs _ sh, .rs _ ti, .rs _ st]), (4, .blk 93 [.rw 13, .si .i64 me, .si .i64 lo, .si .i64 hi, .si .i64 sw]), (13, .arr 91 Xd cs), (7, .blk 93 [.v (.slice none 0 0), .v (.int .i64 0), .v (.int .i64 0), .v (.int .i64 0), .v (.int .i64 0)])] (Ys7 Xcg A K) = Xdl time l to_ i pl sh ti st me lo hi sw cs A K := by kernel_rfl
def Xdv : Prop := ∀ (W : InW) (body a : Code), (Try.prog.funcs[41]?).bind (·.body) = some body -> a ∈ Yu body -> Yfq a = 12 -> @Yl3 W Try.prog a (@Ysd W Xcg)
theorem Xln (meas : [InW] -> List Ed -> Nat) (hyp_ : ∀ (W : InW) time l to_ i pl sh ti st me lo hi sw cs K, Xb9 [.i time, .ro _ l, .i to_, .i i, .ro _ pl, .ro _ sh, .ro _ ti, .ro _ st, .i me, .i lo, .i hi, .i sw, .l cs] K -> ∀ A : List Ed -> Prop, (∀ e, meas e < meas [.i time, .ro _ l, .i to_, .i i, .ro _ pl, .ro _ sh, .ro _ ti, .ro _ st, .i me, .i lo, .i hi, .i sw, .l cs] -> Xb9 e K -> A e) -> Xdl time l to_ i pl sh ti st me lo hi sw cs A K) : Xdv :=
 LE.okOf' (fun W => @TT W) (fun W => @Xb W) Xa T26 1000 50 (by kernel_rfl) Xcg (fun W => @meas W) fun W time l to_ i pl sh ti st me lo hi sw cs K hs =>
  (Xkf W time l to_ i pl sh ti st me lo hi sw cs (fun e => meas e < meas [.i time, .ro _ l, .i to_, .i i, .ro _ pl, .ro _ sh, .ro _ ti, .ro _ st, .i me, .i lo, .i hi, .i sw, .l cs] /\ Xb9 e K) K).mpr (hyp_ W time l to_ i pl sh ti st me lo hi sw cs K hs _ fun e h1 h2 => ⟨h1, h2⟩)
theorem Xo5 : Xdv := Xln (fun e => match e with | _ :: .ro _ l :: _ :: .i i :: _ => ((l.xs.length : Int) - i).toNat | _ => 0) fun W time l to_ i pl sh ti st me lo hi sw cs K hs A hA => by
 obtain ⟨⟨hT, hI⟩, hk⟩ := hs;unfold Xdl;delta Zh Zt Zy Zc;have h0 := hI.i0;have h1 := hI.i1;have hln := hT.ln;have t0 := hT.ti0;have t1 := hT.ti1;refine vifd (fun e => ?_) fun e => ?_
 ·rw [show l.xs.length - i.toNat = (l.xs.length - (i.toNat + 1)) + 1 by omega] at hk;simp only [Sp.sumF, Sp.orF] at hk;obtain ⟨g1, g2, g3⟩ := Xg2 hT (k := i.toNat) (by omega);have u := Sp.un_or hI.sw.1 hI.sw.2 g3.1 g3.2;have ez : (i + 1).toNat = i.toNat + 1 := by omega
  have hme := hI.me;have hlo := hI.lo;have hhi := hI.hi;have hsw := hI.sw;have gme := g1.me;have glo := g1.lo;have ghi := g1.hi;have glen := g1.len;have hA' : ∀ a b c d, a = me + Sp.gMe st.xs l.xs i.toNat -> b = lo + Sp.gLo st.xs l.xs i.toNat -> c = hi + Sp.gHi st.xs l.xs i.toNat -> d = Sp.unF sw (Sp.shT st.xs l.xs time.toNat i.toNat) 0 6 0 -> A [.i time, .ro _ l, .i to_, .i (i + 1), .ro _ pl, .ro _ sh, .ro _ ti, .ro _ st, .i a, .i b, .i c, .i d, .l cs] := fun a b c d ha hb hc hd => hA _ (by show ((l.xs.length : Int) - (i + 1)).toNat < ((l.xs.length : Int) - i).toNat; omega) ⟨⟨hT, ⟨by omega, by omega, by simp only [Sp.gMe] at ha; omega, by simp only [Sp.gLo] at hb; omega, by simp only [Sp.gHi] at hc; omega, by rw [hd]; exact u.2.1⟩⟩, by rw [ez, ha, hb, hc, hd]; exact hk⟩;clear hA hk u;simp only [Sp.gMe, Sp.gLo, Sp.gHi, Sp.sMe, Sp.sLo, Sp.sHi, Sp.sSh, Sp.shT, Sp.xS] at *;simp only [Nat.zero_add, Nat.reduceAdd]
  repeat' (first | omega | with_reducible refine vifd (fun _ => ?_) fun _ => ?_ | with_reducible refine vifn (fun _ => ?_) fun _ => ?_ | with_reducible refine vifq (fun _ => ?_) fun _ => ?_ | with_reducible refine vifq0 (fun _ => ?_) fun _ => ?_ | with_reducible refine vifq1 (fun _ => ?_) fun _ => ?_ | with_reducible refine vifb (fun _ => ?_) fun _ => ?_ | with_reducible refine vif (fun _ => ?_) fun _ => ?_ | (with_reducible refine nedd ?_ ?_; omega) | (with_reducible refine ned ?_ ?_; simp only [Bool.and_eq_true, decide_eq_true_eq]; omega) | (with_reducible refine ar64 ?_ ?_; omega) | (with_reducible refine Xe ?_ ?_; (first | trivial | omega | assumption | (refine ⟨?_, ?_⟩ <;> first | trivial | omega | assumption) | (refine ⟨?_, ?_, ?_⟩ <;> first | trivial | omega | assumption) | (refine ⟨?_, ?_, ?_, ?_⟩ <;> first | trivial | omega | assumption))))
  all_goals first | exact hA' _ _ _ _ rfl rfl rfl rfl | skip
  all_goals trace_state
 ·rw [show l.xs.length - i.toNat = 0 by omega] at hk;exact hk
noncomputable def Xpa : LE Try.prog := ⟨41, 12, fun W => @Ysd W Xcg, Xo5⟩
noncomputable def T27 : Tab Try.prog := ⟨[Xf9, Xdt, Xf8], [Xpa], []⟩
def Zz [W : InW] (t_Pl t_Sh t_Ti : Ro Jb) (t_St : Ro Jd) (p time : Int) (l : Ro Xd) (Q : DS -> Prop) := Vif (!decide (Sp.tchkE t_Pl.xs t_Sh.xs t_Ti.xs t_St.xs = 0)) (Q [Zx, [Cl.i 0], [Cl.i (Sp.tchkE t_Pl.xs t_Sh.xs t_Ti.xs t_St.xs)]]) (Pre True (Vif (!decide (Sp.stepsE t_St.xs l.xs p = 0)) (Q [Zx, [Cl.i 0], [Cl.i (Sp.stepsE t_St.xs l.xs p)]]) (Need (decide (((0 : Nat) + l.xs.length) * 16 <= 140737488355328)) (Pre (Sp.TourOk t_Pl.xs t_Sh.xs t_Ti.xs t_St.xs l.xs time /\ Sp.TourAt l.xs Zh Zh Zh Zh Zh) (Q [[Cl.l l.xs, Cl.i (Sp.sumF (Sp.gMe t_St.xs l.xs) Zv (l.xs.length - Int.toNat Zh) Zh), Cl.i (Sp.sumF (Sp.gLo t_St.xs l.xs) Zv (l.xs.length - Int.toNat Zh) Zh), Cl.i (Sp.sumF (Sp.gHi t_St.xs l.xs) Zv (l.xs.length - Int.toNat Zh) Zh), Cl.i (Sp.orF (Sp.shT t_St.xs l.xs time.toNat) Zv (l.xs.length - Int.toNat Zh) Zh)], [Cl.i (Sp.stepsT t_St.xs l.xs p)], [Cl.i 0]])))))
def Xda [W : InW] (t_Pl t_Sh t_Ti : Ro Jb) (t_St : Ro Jd) (p time : Int) (l : Ro Xd) (Q : DS -> Prop) : Prop :=
 Pre (Sp.NamesOk t_Pl.xs /\ Sp.NamesOk t_Sh.xs /\ Sp.NamesOk t_Ti.xs) (Vif (decide (Sp.tchkE t_Pl.xs t_Sh.xs t_Ti.xs t_St.xs = 0)) (Ar .i64 ((↑(t_Pl.xs.length) : Int) - 1) fun z => Pre True (Vif (!Sp.inr p Zh z) (Q [Zx, [Cl.i 0], [Cl.i 4]]) (Ar .i64 ((↑(t_Ti.xs.length) : Int) - 1) fun z => Pre True (Vif (!Sp.inr time Zh z) (Q [Zx, [Cl.i 0], [Cl.i 4]]) (Zz t_Pl t_Sh t_Ti t_St p time l Q))))) (Zz t_Pl t_Sh t_Ti t_St p time l Q))
theorem Xkn (W : InW) (t_Pl t_Sh t_Ti t_St p time l Q) : Yvd (cxT Try.prog TT T27 1000 50) 1000 41 [.agg [.rs _ t_Pl, .rs _ t_Sh, .rs _ t_Ti, .rs _ t_St], .si .i64 p, .si .i64 time, .rs _ l] [] 0 (Yzg Xi Q) (fun _ _ _ _ => Stuck 421) = Xda t_Pl t_Sh t_Ti t_St p time l Q := by kernel_rfl
abbrev Xbo : List AT := [.agg [.sl Jb, .sl Jb, .sl Jb, .sl Jd], .one (.int .i64), .one (.int .i64), .one (.sl Xd)]
theorem Xlw {pre : DS -> Prop} {res : DS -> DS} (hyp_ : ∀ (W : InW) (t_Pl t_Sh t_Ti : Ro Jb) (t_St : Ro Jd) (p time : Int) (l : Ro Xd), pre [[.l t_Pl.xs, .l t_Sh.xs, .l t_Ti.xs, .l t_St.xs], [.i p], [.i time], [.l l.xs]] -> ∀ Q : DS -> Prop, Q (res [[.l t_Pl.xs, .l t_Sh.xs, .l t_Ti.xs, .l t_St.xs], [.i p], [.i time], [.l l.xs]]) -> Xda t_Pl t_Sh t_Ti t_St p time l Q) : PureOk Try.prog 41 Xbo Xi pre res :=
 PureOk.of' (fun W => @TT W) (fun W => @Xb W) Xa T27 1000 50 fun W t_Pl t_Sh t_Ti t_St p time l hp =>
  (Xkn W t_Pl t_Sh t_Ti t_St p time l (fun o => o = res [[.l t_Pl.xs, .l t_Sh.xs, .l t_Ti.xs, .l t_St.xs], [.i p], [.i time], [.l l.xs]])).mpr (hyp_ W t_Pl t_Sh t_Ti t_St p time l hp _ rfl)
theorem Xn3 : PureOk Try.prog 41 Xbo Xi Xba X9 :=
 Xlw fun W pl sh ti st p time l hp Q h => by
  unfold Xda;delta Zz Zv Zh Zx;have hpl := pl.len;have hti := ti.len;simp only [maxLen] at hpl hti;have hp : Sp.NamesOk pl.xs /\ Sp.NamesOk sh.xs /\ Sp.NamesOk ti.xs := hp;obtain ⟨q0, q1, q2, q3⟩ := Xgy (Q := fun a b c d e f g => Q [[.l a, .i b, .i c, .i d, .i e], [.i f], [.i g]]) h;clear h;have hA0 : Sp.TourAt l.xs 0 0 0 0 0 := ⟨by omega, by omega, by omega, by omega, by omega, by omega⟩
  try simp only [show Int.toNat 0 = 0 from rfl, Nat.sub_zero]
  repeat' (first | omega | with_reducible refine vifd (fun _ => ?_) fun _ => ?_ | with_reducible refine vifn (fun _ => ?_) fun _ => ?_ | with_reducible refine vifq (fun _ => ?_) fun _ => ?_ | with_reducible refine vifq0 (fun _ => ?_) fun _ => ?_ | with_reducible refine vifq1 (fun _ => ?_) fun _ => ?_ | with_reducible refine vifb (fun _ => ?_) fun _ => ?_ | with_reducible refine vif (fun _ => ?_) fun _ => ?_ | (with_reducible refine nedd ?_ ?_; omega) | (with_reducible refine ned ?_ ?_; simp only [Bool.and_eq_true, decide_eq_true_eq]; omega) | (with_reducible refine ar64 ?_ ?_; omega) | (with_reducible refine Xe ?_ ?_; (first | trivial | omega | assumption | (refine ⟨?_, ?_⟩ <;> first | trivial | omega | assumption) | (refine ⟨?_, ?_, ?_⟩ <;> first | trivial | omega | assumption) | (refine ⟨?_, ?_, ?_, ?_⟩ <;> first | trivial | omega | assumption))))
  all_goals first | contradiction | exact q0 (by assumption) | exact q1 (by assumption) (.inl (by assumption)) | exact q1 (by assumption) (.inr (by assumption)) | exact q2 (by assumption) (by assumption) (by assumption) (by assumption) | (have g := q3 (by assumption) (by assumption) (by assumption) (by assumption); exact ⟨g.1, g.2⟩) | (have g := q3 (by assumption) (by assumption) (by assumption) (by assumption); have gl := g.1.ln; exact nedd (by omega) ⟨⟨g.1, hA0⟩, g.2⟩) | skip
noncomputable def Xlb : PC Try.prog := ⟨41, Xbo, Xi, Xba, X9, Xn3⟩
abbrev Xo : List Ty := [.int .i64, .int .i64, .int .i64, .int .i64]
abbrev tyRt : List Ty := [.sl Jf]
namespace Sp
def hrdE (ba pe lo hi : Int) : Int := if inr ba 0 1000 && (inr pe 0 100 && (inr lo 0 100 && inr hi 0 100)) then (if hi < lo then 2 else 0) else 7
def routeE (st l : Dt) (ce : Int) : Int := if inr l.length 1 60 then (if stepsE st l ce = 0 then (if stepsT st l ce = ce then 0 else 9) else stepsE st l ce) else 3
end Sp
noncomputable def T31 : Tab Try.prog := ⟨[Xle, Xl, Xf8], [], []⟩
def Xhn [W : InW] (h_Ba h_Pe h_Lo h_Hi : Int) (Q : DS -> Prop) : Prop :=
 Pre True (Vif (!Sp.inr h_Ba Zh (1000 : Int)) (Q [[Cl.i 7]]) (Pre True (Vif (!Sp.inr h_Pe Zh (100 : Int)) (Q [[Cl.i 7]]) (Pre True (Vif (!Sp.inr h_Lo Zh (100 : Int)) (Q [[Cl.i 7]]) (Pre True (Vif (!Sp.inr h_Hi Zh (100 : Int)) (Q [[Cl.i 7]]) (Vif (decide (h_Hi < h_Lo)) (Q [[Cl.i 2]]) (Q [[Cl.i 0]])))))))))
theorem Xqq (W : InW) (h_Ba h_Pe h_Lo h_Hi Q) : Yvd (cxT Try.prog TT T31 1000 50) 1000 72 [.agg [.si .i64 h_Ba, .si .i64 h_Pe, .si .i64 h_Lo, .si .i64 h_Hi]] [] 0 (Yzg [(false, [.int .i64])] Q) (fun _ _ _ _ => Stuck 421) = Xhn h_Ba h_Pe h_Lo h_Hi Q := by kernel_rfl
abbrev Xe7 : List AT := [.agg [.int .i64, .int .i64, .int .i64, .int .i64]]
theorem Xry {pre : DS -> Prop} {res : DS -> DS} (hyp_ : ∀ (W : InW) (h_Ba h_Pe h_Lo h_Hi : Int), pre [[.i h_Ba, .i h_Pe, .i h_Lo, .i h_Hi]] -> ∀ Q : DS -> Prop, Q (res [[.i h_Ba, .i h_Pe, .i h_Lo, .i h_Hi]]) -> Xhn h_Ba h_Pe h_Lo h_Hi Q) : PureOk Try.prog 72 Xe7 [(false, [.int .i64])] pre res :=
 PureOk.of' (fun W => @TT W) (fun W => @Xb W) Xa T31 1000 50 fun W h_Ba h_Pe h_Lo h_Hi hp =>
  (Xqq W h_Ba h_Pe h_Lo h_Hi (fun o => o = res [[.i h_Ba, .i h_Pe, .i h_Lo, .i h_Hi]])).mpr (hyp_ W h_Ba h_Pe h_Lo h_Hi hp _ rfl)
def Xc6 [W : InW] (h_Ba h_Pe h_Lo h_Hi : Int) (Q : DS -> Prop) : Prop :=
 Pre True (Vif (Sp.out Zh (1000 : Int) [[Cl.i h_Ba]]) (Q [[Cl.i 7]]) (Pre True (Vif (Sp.out Zh (100 : Int) [[Cl.i h_Pe]]) (Q [[Cl.i 7]]) (Pre True (Vif (Sp.out Zh (100 : Int) [[Cl.i h_Lo], [Cl.i h_Hi]]) (Q [[Cl.i 7]]) (Vif (decide (h_Hi < h_Lo)) (Q [[Cl.i 2]]) (Q [[Cl.i 0]])))))))
theorem Xkj (W : InW) (h_Ba h_Pe h_Lo h_Hi Q) : Yvd (cxT Try.prog TT T31 1000 50) 1000 88 [.agg [.si .i64 h_Ba, .si .i64 h_Pe, .si .i64 h_Lo, .si .i64 h_Hi]] [] 0 (Yzg [(false, [.int .i64])] Q) (fun _ _ _ _ => Stuck 421) = Xc6 h_Ba h_Pe h_Lo h_Hi Q := by kernel_rfl
abbrev Xbk : List AT := [.agg [.int .i64, .int .i64, .int .i64, .int .i64]]
theorem Xls {pre : DS -> Prop} {res : DS -> DS} (hyp_ : ∀ (W : InW) (h_Ba h_Pe h_Lo h_Hi : Int), pre [[.i h_Ba, .i h_Pe, .i h_Lo, .i h_Hi]] -> ∀ Q : DS -> Prop, Q (res [[.i h_Ba, .i h_Pe, .i h_Lo, .i h_Hi]]) -> Xc6 h_Ba h_Pe h_Lo h_Hi Q) : PureOk Try.prog 88 Xbk [(false, [.int .i64])] pre res :=
 PureOk.of' (fun W => @TT W) (fun W => @Xb W) Xa T31 1000 50 fun W h_Ba h_Pe h_Lo h_Hi hp =>
  (Xkj W h_Ba h_Pe h_Lo h_Hi (fun o => o = res [[.i h_Ba, .i h_Pe, .i h_Lo, .i h_Hi]])).mpr (hyp_ W h_Ba h_Pe h_Lo h_Hi hp _ rfl)
abbrev Xt (ds : DS) : DS := match ds with | [[.i ba, .i pe, .i lo, .i hi]] => [[.i (Sp.hrdE ba pe lo hi)]] | _ => []
theorem Xtl : PureOk Try.prog 72 Xe7 [(false, [.int .i64])] (fun _ => True) Xt :=
 Xry fun W ba pe lo hi hp Q h => by
  unfold Xhn;delta Zh;simp only [Xt, Sp.hrdE] at h
  repeat' (first | omega | with_reducible refine vifd (fun _ => ?_) fun _ => ?_ | with_reducible refine vifn (fun _ => ?_) fun _ => ?_ | with_reducible refine vifq (fun _ => ?_) fun _ => ?_ | with_reducible refine vifq0 (fun _ => ?_) fun _ => ?_ | with_reducible refine vifq1 (fun _ => ?_) fun _ => ?_ | with_reducible refine vifb (fun _ => ?_) fun _ => ?_ | with_reducible refine vif (fun _ => ?_) fun _ => ?_ | (with_reducible refine nedd ?_ ?_; omega) | (with_reducible refine ned ?_ ?_; simp only [Bool.and_eq_true, decide_eq_true_eq]; omega) | (with_reducible refine ar64 ?_ ?_; omega) | (with_reducible refine Xe ?_ ?_; (first | trivial | omega | assumption | (refine ⟨?_, ?_⟩ <;> first | trivial | omega | assumption) | (refine ⟨?_, ?_, ?_⟩ <;> first | trivial | omega | assumption) | (refine ⟨?_, ?_, ?_, ?_⟩ <;> first | trivial | omega | assumption))))
  all_goals ((repeat' split at h) <;> first | exact h | omega | (simp_all; done) | (simp_all; omega))
theorem Xnz : PureOk Try.prog 88 Xbk [(false, [.int .i64])] (fun _ => True) Xt :=
 Xls fun W ba pe lo hi hp Q h => by
  unfold Xc6;delta Zh;simp only [Xt, Sp.hrdE] at h;simp only [out1, out2]
  repeat' (first | omega | with_reducible refine vifd (fun _ => ?_) fun _ => ?_ | with_reducible refine vifn (fun _ => ?_) fun _ => ?_ | with_reducible refine vifq (fun _ => ?_) fun _ => ?_ | with_reducible refine vifq0 (fun _ => ?_) fun _ => ?_ | with_reducible refine vifq1 (fun _ => ?_) fun _ => ?_ | with_reducible refine vifb (fun _ => ?_) fun _ => ?_ | with_reducible refine vif (fun _ => ?_) fun _ => ?_ | (with_reducible refine nedd ?_ ?_; omega) | (with_reducible refine ned ?_ ?_; simp only [Bool.and_eq_true, decide_eq_true_eq]; omega) | (with_reducible refine ar64 ?_ ?_; omega) | (with_reducible refine Xe ?_ ?_; (first | trivial | omega | assumption | (refine ⟨?_, ?_⟩ <;> first | trivial | omega | assumption) | (refine ⟨?_, ?_, ?_⟩ <;> first | trivial | omega | assumption) | (refine ⟨?_, ?_, ?_, ?_⟩ <;> first | trivial | omega | assumption))))
  all_goals ((repeat' split at h) <;> first | exact h | omega | (simp_all; done) | (simp_all; omega))
noncomputable def Xqy : PC Try.prog := ⟨72, Xe7, [(false, [.int .i64])], fun _ => True, Xt, Xtl⟩
noncomputable def Xk8 : PC Try.prog := ⟨88, Xbk, [(false, [.int .i64])], fun _ => True, Xt, Xnz⟩
def Xfa [W : InW] (c_Pl c_Sh c_Ti : Ro Jb) (c_St : Ro Jd) (c_Ce : Int) (c_Hd : Ro Xo) (c_Rt : Ro tyRt) (l : Ro Jf) (Q : DS -> Prop) : Prop :=
 Pre True (Vif (!Sp.inr (↑(l.xs.length) : Int) (1 : Int) (60 : Int)) (Q [[Cl.i 3]]) (Pre True (Vif (decide (Sp.stepsE c_St.xs l.xs c_Ce = 0)) (Vif (!decide (Sp.stepsT c_St.xs l.xs c_Ce = c_Ce)) (Q [[Cl.i 9]]) (Q [[Cl.i (Sp.stepsE c_St.xs l.xs c_Ce)]])) (Q [[Cl.i (Sp.stepsE c_St.xs l.xs c_Ce)]]))))
theorem Xna (W : InW) (c_Pl c_Sh c_Ti c_St c_Ce c_Hd c_Rt l Q) : Yvd (cxT Try.prog TT T31 1000 50) 1000 73 [.agg [.rs _ c_Pl, .rs _ c_Sh, .rs _ c_Ti, .rs _ c_St, .si .i64 c_Ce, .rs _ c_Hd, .rs _ c_Rt], .rs _ l] [] 0 (Yzg [(false, [.int .i64])] Q) (fun _ _ _ _ => Stuck 421) = Xfa c_Pl c_Sh c_Ti c_St c_Ce c_Hd c_Rt l Q := by kernel_rfl
abbrev Xcy : List AT := [.agg [.sl Jb, .sl Jb, .sl Jb, .sl Jd, .int .i64, .sl Xo, .sl tyRt], .one (.sl Jf)]
theorem Xov {pre : DS -> Prop} {res : DS -> DS} (hyp_ : ∀ (W : InW) (c_Pl c_Sh c_Ti : Ro Jb) (c_St : Ro Jd) (c_Ce : Int) (c_Hd : Ro Xo) (c_Rt : Ro tyRt) (l : Ro Jf), pre [[.l c_Pl.xs, .l c_Sh.xs, .l c_Ti.xs, .l c_St.xs, .i c_Ce, .l c_Hd.xs, .l c_Rt.xs], [.l l.xs]] -> ∀ Q : DS -> Prop, Q (res [[.l c_Pl.xs, .l c_Sh.xs, .l c_Ti.xs, .l c_St.xs, .i c_Ce, .l c_Hd.xs, .l c_Rt.xs], [.l l.xs]]) -> Xfa c_Pl c_Sh c_Ti c_St c_Ce c_Hd c_Rt l Q) : PureOk Try.prog 73 Xcy [(false, [.int .i64])] pre res :=
 PureOk.of' (fun W => @TT W) (fun W => @Xb W) Xa T31 1000 50 fun W c_Pl c_Sh c_Ti c_St c_Ce c_Hd c_Rt l hp =>
  (Xna W c_Pl c_Sh c_Ti c_St c_Ce c_Hd c_Rt l (fun o => o = res [[.l c_Pl.xs, .l c_Sh.xs, .l c_Ti.xs, .l c_St.xs, .i c_Ce, .l c_Hd.xs, .l c_Rt.xs], [.l l.xs]])).mpr (hyp_ W c_Pl c_Sh c_Ti c_St c_Ce c_Hd c_Rt l hp _ rfl)
abbrev Xcm (ds : DS) : DS := match ds with | [[.l _, .l _, .l _, .l st, .i ce, .l _, .l _], [.l l]] => [[.i (Sp.routeE st l ce)]] | _ => []
theorem Xq1 : PureOk Try.prog 73 Xcy [(false, [.int .i64])] (fun _ => True) Xcm :=
 Xov fun W pl sh ti st ce hd rt l hp Q h => by
  unfold Xfa;simp only [Xcm, Sp.routeE] at h
  repeat' (first | omega | with_reducible refine vifd (fun _ => ?_) fun _ => ?_ | with_reducible refine vifn (fun _ => ?_) fun _ => ?_ | with_reducible refine vifq (fun _ => ?_) fun _ => ?_ | with_reducible refine vifq0 (fun _ => ?_) fun _ => ?_ | with_reducible refine vifq1 (fun _ => ?_) fun _ => ?_ | with_reducible refine vifb (fun _ => ?_) fun _ => ?_ | with_reducible refine vif (fun _ => ?_) fun _ => ?_ | (with_reducible refine nedd ?_ ?_; omega) | (with_reducible refine ned ?_ ?_; simp only [Bool.and_eq_true, decide_eq_true_eq]; omega) | (with_reducible refine ar64 ?_ ?_; omega) | (with_reducible refine Xe ?_ ?_; (first | trivial | omega | assumption | (refine ⟨?_, ?_⟩ <;> first | trivial | omega | assumption) | (refine ⟨?_, ?_, ?_⟩ <;> first | trivial | omega | assumption) | (refine ⟨?_, ?_, ?_, ?_⟩ <;> first | trivial | omega | assumption))))
  all_goals ((repeat' split at h) <;> first | exact h | omega | (simp_all; done) | (simp_all; omega))
noncomputable def Xnr : PC Try.prog := ⟨73, Xcy, [(false, [.int .i64])], fun _ => True, Xcm, Xq1⟩
noncomputable def T32 : Tab Try.prog := ⟨[Xqy, Xnr], [], []⟩
def Xib [InW] (e : List Ed) (K : Nat -> List Ed -> Prop) : Prop := match e with
 | [.i i, .ro _ pl, .ro _ sh, .ro _ ti, .ro _ st, .i ce, .ro _ hd, .ro _ rt] => Pre (0 <= i /\ i <= hd.xs.length) (Vif (Sp.hasE (Sp.hdErr hd.xs) i.toNat (hd.xs.length - i.toNat))
   (K 1 [.i (Sp.idxE (Sp.hdErr hd.xs) i.toNat (hd.xs.length - i.toNat)), .i (Sp.hdErr hd.xs (Sp.idxE (Sp.hdErr hd.xs) i.toNat (hd.xs.length - i.toNat)))]) (K 0 [.ro _ pl, .ro _ sh, .ro _ ti, .ro _ st, .i ce, .ro _ hd, .ro _ rt]))
 | _ => False
noncomputable def Xji : LC where
 len := 86
 T := [(1, (.ptr 1 0)), (8, .int .i64)]
 H := [(1, .blk 29 [.rs Jb, .rs Jb, .rs Jb, .rs Jd, .int .i64, .rs Xo, .rs tyRt])]
 W := ([2, 3, 4, 7] ++ rg 51 17)
 outs := [⟨.exit 0, [(1, (.ptr 1 0))], [(1, .blk 29 [.rs Jb, .rs Jb, .rs Jb, .rs Jd, .int .i64, .rs Xo, .rs tyRt])], ([2, 3, 4, 7, 8] ++ rg 51 17)⟩, ⟨.ret, [(2, (.lit (.int .i64 2))), (3, .int .i64), (4, .int .i64)], [], ([1, 7, 8] ++ rg 51 17)⟩]
 spec := Xib
def Xhs [W : InW] (i : Int) (pl sh ti : Ro Jb) (st : Ro Jd) (ce : Int) (hd : Ro Xo) (rt : Ro tyRt) (A : List Ed -> Prop) (K : Nat -> List Ed -> Prop) : Prop :=
 Vif (decide (i < (↑(hd.xs.length) : Int))) (Need (decide (0 <= i) && decide (i < (↑(hd.xs.length) : Int))) (Need (decide (i.toNat < hd.xs.length)) (Pre True (Vif (!decide (Sp.hrdE (cel hd.xs i.toNat (0 : Nat)).int (cel hd.xs i.toNat (0+1)).int (cel hd.xs i.toNat ((0 : Nat) + 1 + 1)).int (cel hd.xs i.toNat ((0 : Nat) + 1 + 1 + 1)).int = 0)) (K (0+1) [.i i, .i (Sp.hrdE (cel hd.xs i.toNat (0 : Nat)).int (cel hd.xs i.toNat (0+1)).int (cel hd.xs i.toNat ((0 : Nat) + 1 + 1)).int (cel hd.xs i.toNat ((0 : Nat) + 1 + 1 + 1)).int)]) (Ar .i64 (i + 1) fun z => A [.i z, .ro _ pl, .ro _ sh, .ro _ ti, .ro Zc st, .i ce, .ro _ hd, .ro [Ty.sl [Ty.int IntKind.i64, Ty.bool]] rt]))))) (K 0 [.ro _ pl, .ro _ sh, .ro _ ti, .ro Zc st, .i ce, .ro _ hd, .ro [Ty.sl [Ty.int IntKind.i64, Ty.bool]] rt])
theorem Xp6 (W : InW) (i pl sh ti st ce hd rt A K) : Ye6 { cxT Try.prog TT T32 1000 50 with fn := 43 } 1000 (Ym7 Try.prog 43 10) (Yd5 86 [(1, .ptr 1 0), (8, .si .i64 i)] ([2, 3, 4, 7] ++ rg 51 17)) [(1, .blk 29 [.rs _ pl, .rs _ sh, .rs _ ti, .rs _ st, .si .i64 ce, .rs _ hd, .rs _ rt])] (Ys7 Xji A K) = Xhs i pl sh ti st ce hd rt A K := by kernel_rfl
def Xi2 : Prop := ∀ (W : InW) (body a : Code), (Try.prog.funcs[43]?).bind (·.body) = some body -> a ∈ Yu body -> Yfq a = 10 -> @Yl3 W Try.prog a (@Ysd W Xji)
theorem Xrd (meas : [InW] -> List Ed -> Nat) (hyp_ : ∀ (W : InW) i pl sh ti st ce hd rt K, Xib [.i i, .ro _ pl, .ro _ sh, .ro _ ti, .ro _ st, .i ce, .ro _ hd, .ro _ rt] K -> ∀ A : List Ed -> Prop, (∀ e, meas e < meas [.i i, .ro _ pl, .ro _ sh, .ro _ ti, .ro _ st, .i ce, .ro _ hd, .ro _ rt] -> Xib e K -> A e) -> Xhs i pl sh ti st ce hd rt A K) : Xi2 :=
 LE.okOf' (fun W => @TT W) (fun W => @Xb W) Xa T32 1000 50 (by kernel_rfl) Xji (fun W => @meas W) fun W i pl sh ti st ce hd rt K hs =>
  (Xp6 W i pl sh ti st ce hd rt (fun e => meas e < meas [.i i, .ro _ pl, .ro _ sh, .ro _ ti, .ro _ st, .i ce, .ro _ hd, .ro _ rt] /\ Xib e K) K).mpr (hyp_ W i pl sh ti st ce hd rt K hs _ fun e h1 h2 => ⟨h1, h2⟩)
def Xh9 [InW] (e : List Ed) (K : Nat -> List Ed -> Prop) : Prop := match e with
 | [.i i, .ro _ pl, .ro _ sh, .ro _ ti, .ro _ st, .i ce, .ro _ hd, .ro _ rt] => Pre (0 <= i /\ i <= rt.xs.length) (Vif (Sp.hasE (Sp.rtErr st.xs rt.xs ce) i.toNat (rt.xs.length - i.toNat))
   (K 1 [.i (Sp.idxE (Sp.rtErr st.xs rt.xs ce) i.toNat (rt.xs.length - i.toNat)), .i (Sp.rtErr st.xs rt.xs ce (Sp.idxE (Sp.rtErr st.xs rt.xs ce) i.toNat (rt.xs.length - i.toNat)))]) (K 0 []))
 | _ => False
noncomputable def Xjg : LC where
 len := 86
 T := [(1, (.ptr 1 0)), (9, .int .i64)]
 H := [(1, .blk 29 [.rs Jb, .rs Jb, .rs Jb, .rs Jd, .int .i64, .rs Xo, .rs tyRt])]
 W := ([2, 3, 4, 7] ++ rg 68 18)
 outs := [⟨.exit 2, [], [], (rg 1 4 ++ [7, 9] ++ rg 68 18)⟩, ⟨.ret, [(2, (.lit (.int .i64 3))), (3, .int .i64), (4, .int .i64)], [], ([1, 7, 9] ++ rg 68 18)⟩]
 spec := Xh9
def Xhq [W : InW] (i : Int) (pl sh ti : Ro Jb) (st : Ro Jd) (ce : Int) (hd : Ro Xo) (rt : Ro tyRt) (A : List Ed -> Prop) (K : Nat -> List Ed -> Prop) : Prop :=
 Vif (decide (i < (↑(rt.xs.length) : Int))) (Need (decide (0 <= i) && decide (i < (↑(rt.xs.length) : Int))) (Need (decide (i.toNat < rt.xs.length)) (Pre True (Vif (!decide (Sp.routeE st.xs (cel rt.xs i.toNat (0 : Nat)).lst ce = 0)) (K (0+1) [.i i, .i (Sp.routeE st.xs (cel rt.xs i.toNat (0 : Nat)).lst ce)]) (Ar .i64 (i + 1) fun z => A [.i z, .ro _ pl, .ro _ sh, .ro _ ti, .ro Zc st, .i ce, .ro _ hd, .ro [Ty.sl [Ty.int IntKind.i64, Ty.bool]] rt]))))) (K 0 [])
theorem Xp4 (W : InW) (i pl sh ti st ce hd rt A K) : Ye6 { cxT Try.prog TT T32 1000 50 with fn := 43 } 1000 (Ym7 Try.prog 43 16) (Yd5 86 [(1, .ptr 1 0), (9, .si .i64 i)] ([2, 3, 4, 7] ++ rg 68 18)) [(1, .blk 29 [.rs _ pl, .rs _ sh, .rs _ ti, .rs _ st, .si .i64 ce, .rs _ hd, .rs _ rt])] (Ys7 Xjg A K) = Xhq i pl sh ti st ce hd rt A K := by kernel_rfl
def Xi0 : Prop := ∀ (W : InW) (body a : Code), (Try.prog.funcs[43]?).bind (·.body) = some body -> a ∈ Yu body -> Yfq a = 16 -> @Yl3 W Try.prog a (@Ysd W Xjg)
theorem Xrb (meas : [InW] -> List Ed -> Nat) (hyp_ : ∀ (W : InW) i pl sh ti st ce hd rt K, Xh9 [.i i, .ro _ pl, .ro _ sh, .ro _ ti, .ro _ st, .i ce, .ro _ hd, .ro _ rt] K -> ∀ A : List Ed -> Prop, (∀ e, meas e < meas [.i i, .ro _ pl, .ro _ sh, .ro _ ti, .ro _ st, .i ce, .ro _ hd, .ro _ rt] -> Xh9 e K -> A e) -> Xhq i pl sh ti st ce hd rt A K) : Xi0 :=
 LE.okOf' (fun W => @TT W) (fun W => @Xb W) Xa T32 1000 50 (by kernel_rfl) Xjg (fun W => @meas W) fun W i pl sh ti st ce hd rt K hs =>
  (Xp4 W i pl sh ti st ce hd rt (fun e => meas e < meas [.i i, .ro _ pl, .ro _ sh, .ro _ ti, .ro _ st, .i ce, .ro _ hd, .ro _ rt] /\ Xh9 e K) K).mpr (hyp_ W i pl sh ti st ce hd rt K hs _ fun e h1 h2 => ⟨h1, h2⟩)
theorem Xtw : Xi2 := Xrd (fun e => match e with | [.i i, _, _, _, _, _, .ro _ hd, _] => ((hd.xs.length : Int) - i).toNat | _ => 0) fun W i pl sh ti st ce hd rt K hs A hA => by
 obtain ⟨⟨h0, h1⟩, hk⟩ := hs;unfold Xhs;delta Zc;have hm := hd.len;simp only [maxLen] at hm;refine vifd (fun e => ?_) fun e => ?_
 ·rw [show hd.xs.length - i.toNat = (hd.xs.length - (i.toNat + 1)) + 1 by omega] at hk;obtain ⟨g1, g2⟩ := Xfy (K1 := fun j e => K 1 [.i j, .i e]) hk;rw [Int.toNat_of_nonneg h0] at g1;have ez : (i + 1).toNat = i.toNat + 1 := by omega
  have hA' : Sp.hdErr hd.xs i.toNat = 0 -> A [.i (i + 1), .ro _ pl, .ro _ sh, .ro _ ti, .ro _ st, .i ce, .ro _ hd, .ro _ rt] := fun f => hA _ (by show ((hd.xs.length : Int) - (i + 1)).toNat < ((hd.xs.length : Int) - i).toNat; omega) ⟨⟨by omega, by omega⟩, by rw [ez]; exact g2 f⟩;clear g2 hk hA;simp only [Nat.zero_add, Nat.reduceAdd];rw [show Sp.hrdE (cel hd.xs i.toNat 0).int (cel hd.xs i.toNat 1).int (cel hd.xs i.toNat 2).int (cel hd.xs i.toNat 3).int = Sp.hdErr hd.xs i.toNat from rfl];refine ned (by simp; omega) (nedd (by omega) ⟨trivial, vifn (fun e2 => g1 e2) fun e2 => ar64 (by omega) (hA' e2)⟩)
 ·rw [show hd.xs.length - i.toNat = 0 by omega] at hk;exact hk.2 rfl
theorem Xtu : Xi0 := Xrb (fun e => match e with | [.i i, _, _, _, _, _, _, .ro _ rt] => ((rt.xs.length : Int) - i).toNat | _ => 0) fun W i pl sh ti st ce hd rt K hs A hA => by
 obtain ⟨⟨h0, h1⟩, hk⟩ := hs;unfold Xhq;delta Zc;have hm := rt.len;simp only [maxLen] at hm;refine vifd (fun e => ?_) fun e => ?_
 ·rw [show rt.xs.length - i.toNat = (rt.xs.length - (i.toNat + 1)) + 1 by omega] at hk;obtain ⟨g1, g2⟩ := Xfy (K1 := fun j e => K 1 [.i j, .i e]) hk;rw [Int.toNat_of_nonneg h0] at g1;have ez : (i + 1).toNat = i.toNat + 1 := by omega
  have hA' : Sp.rtErr st.xs rt.xs ce i.toNat = 0 -> A [.i (i + 1), .ro _ pl, .ro _ sh, .ro _ ti, .ro _ st, .i ce, .ro _ hd, .ro _ rt] := fun f => hA _ (by show ((rt.xs.length : Int) - (i + 1)).toNat < ((rt.xs.length : Int) - i).toNat; omega) ⟨⟨by omega, by omega⟩, by rw [ez]; exact g2 f⟩;clear g2 hk hA;simp only [Nat.zero_add, Nat.reduceAdd];rw [show Sp.routeE st.xs (cel rt.xs i.toNat 0).lst ce = Sp.rtErr st.xs rt.xs ce i.toNat from rfl];refine ned (by simp; omega) (nedd (by omega) ⟨trivial, vifn (fun e2 => g1 e2) fun e2 => ar64 (by omega) (hA' e2)⟩)
 ·rw [show rt.xs.length - i.toNat = 0 by omega] at hk;exact hk.2 rfl
noncomputable def Xuh : LE Try.prog := ⟨43, 10, fun W => @Ysd W Xji, Xtw⟩
noncomputable def Xuf : LE Try.prog := ⟨43, 16, fun W => @Ysd W Xjg, Xtu⟩
noncomputable def T33 : Tab Try.prog := ⟨[Xf9, Xle], [Xuh, Xuf], []⟩
def Zba [W : InW] (c_Pl c_Sh c_Ti : Ro Jb) (c_St : Ro Jd) (c_Ce : Int) (c_Hd : Ro Xo) (c_Rt : Ro tyRt) (Q : DS -> Prop) := Vif (!decide (Sp.tchkE c_Pl.xs c_Sh.xs c_Ti.xs c_St.xs = 0)) (Q [[Cl.i 1], [Cl.i 0], [Cl.i (Sp.tchkE c_Pl.xs c_Sh.xs c_Ti.xs c_St.xs)]]) (Pre (Zh <= 0 /\ Zh <= (↑(c_Hd.xs.length) : Int)) (Vif (Sp.hasE (Sp.hdErr c_Hd.xs) Zv (c_Hd.xs.length - Int.toNat Zh)) (Q [[Cl.i 2], [Cl.i (↑(Sp.idxE (Sp.hdErr c_Hd.xs) Zv (c_Hd.xs.length - Int.toNat Zh)) : Int)], [Cl.i (Sp.hdErr c_Hd.xs (Sp.idxE (Sp.hdErr c_Hd.xs) Zv (c_Hd.xs.length - Int.toNat Zh)))]]) (Pre (Zh <= 0 /\ Zh <= (↑(c_Rt.xs.length) : Int)) (Vif (Sp.hasE (Sp.rtErr c_St.xs c_Rt.xs c_Ce) Zv (c_Rt.xs.length - Int.toNat Zh)) (Q [[Cl.i 3], [Cl.i (↑(Sp.idxE (Sp.rtErr c_St.xs c_Rt.xs c_Ce) Zv (c_Rt.xs.length - Int.toNat Zh)) : Int)], [Cl.i (Sp.rtErr c_St.xs c_Rt.xs c_Ce (Sp.idxE (Sp.rtErr c_St.xs c_Rt.xs c_Ce) Zv (c_Rt.xs.length - Int.toNat Zh)))]]) (Q [[Cl.i 0], [Cl.i 0], [Cl.i 0]])))))
def Xdi [W : InW] (c_Pl c_Sh c_Ti : Ro Jb) (c_St : Ro Jd) (c_Ce : Int) (c_Hd : Ro Xo) (c_Rt : Ro tyRt) (Q : DS -> Prop) : Prop :=
 Pre (Sp.NamesOk c_Pl.xs /\ Sp.NamesOk c_Sh.xs /\ Sp.NamesOk c_Ti.xs) (Vif (decide (Sp.tchkE c_Pl.xs c_Sh.xs c_Ti.xs c_St.xs = 0)) (Ar .i64 ((↑(c_Pl.xs.length) : Int) - 1) fun z => Pre True (Vif (!Sp.inr c_Ce Zh z) (Q [[Cl.i 1], [Cl.i 0], [Cl.i 4]]) (Vif (decide (Sp.tchkE c_Pl.xs c_Sh.xs c_Ti.xs c_St.xs = 0)) (Vif (!decide ((↑(c_Hd.xs.length) : Int) = (↑(c_St.xs.length) : Int))) (Q Zm) (Vif (decide ((10 : Int) < (↑(c_Rt.xs.length) : Int))) (Q Zm) (Zba c_Pl c_Sh c_Ti c_St c_Ce c_Hd c_Rt Q))) (Zba c_Pl c_Sh c_Ti c_St c_Ce c_Hd c_Rt Q)))) (Vif (decide (Sp.tchkE c_Pl.xs c_Sh.xs c_Ti.xs c_St.xs = 0)) (Vif (!decide ((↑(c_Hd.xs.length) : Int) = (↑(c_St.xs.length) : Int))) (Q Zm) (Vif (decide ((10 : Int) < (↑(c_Rt.xs.length) : Int))) (Q Zm) (Zba c_Pl c_Sh c_Ti c_St c_Ce c_Hd c_Rt Q))) (Zba c_Pl c_Sh c_Ti c_St c_Ce c_Hd c_Rt Q)))
theorem Xkv (W : InW) (c_Pl c_Sh c_Ti c_St c_Ce c_Hd c_Rt Q) : Yvd (cxT Try.prog TT T33 1000 50) 1000 43 [.agg [.rs _ c_Pl, .rs _ c_Sh, .rs _ c_Ti, .rs _ c_St, .si .i64 c_Ce, .rs _ c_Hd, .rs _ c_Rt]] [] 0 (Yzg [(false, [.int .i64]), (false, [.int .i64]), (false, [.int .i64])] Q) (fun _ _ _ _ => Stuck 421) = Xdi c_Pl c_Sh c_Ti c_St c_Ce c_Hd c_Rt Q := by kernel_rfl
abbrev Xbw : List AT := [.agg [.sl Jb, .sl Jb, .sl Jb, .sl Jd, .int .i64, .sl Xo, .sl tyRt]]
theorem Xl4 {pre : DS -> Prop} {res : DS -> DS} (hyp_ : ∀ (W : InW) (c_Pl c_Sh c_Ti : Ro Jb) (c_St : Ro Jd) (c_Ce : Int) (c_Hd : Ro Xo) (c_Rt : Ro tyRt), pre [[.l c_Pl.xs, .l c_Sh.xs, .l c_Ti.xs, .l c_St.xs, .i c_Ce, .l c_Hd.xs, .l c_Rt.xs]] -> ∀ Q : DS -> Prop, Q (res [[.l c_Pl.xs, .l c_Sh.xs, .l c_Ti.xs, .l c_St.xs, .i c_Ce, .l c_Hd.xs, .l c_Rt.xs]]) -> Xdi c_Pl c_Sh c_Ti c_St c_Ce c_Hd c_Rt Q) : PureOk Try.prog 43 Xbw [(false, [.int .i64]), (false, [.int .i64]), (false, [.int .i64])] pre res :=
 PureOk.of' (fun W => @TT W) (fun W => @Xb W) Xa T33 1000 50 fun W c_Pl c_Sh c_Ti c_St c_Ce c_Hd c_Rt hp =>
  (Xkv W c_Pl c_Sh c_Ti c_St c_Ce c_Hd c_Rt (fun o => o = res [[.l c_Pl.xs, .l c_Sh.xs, .l c_Ti.xs, .l c_St.xs, .i c_Ce, .l c_Hd.xs, .l c_Rt.xs]])).mpr (hyp_ W c_Pl c_Sh c_Ti c_St c_Ce c_Hd c_Rt hp _ rfl)
abbrev Xdq (ds : DS) : DS := match ds with | [[.l pl, .l sh, .l ti, .l st, .i ce, .l hd, .l rt]] => [[.i (Sp.cP pl sh ti st ce hd rt)], [.i (Sp.cI pl sh ti st ce hd rt)], [.i (Sp.cE pl sh ti st ce hd rt)]] | _ => []
abbrev Xw (ds : DS) : Prop := match ds with | [.l pl :: .l sh :: .l ti :: _] => Sp.NamesOk pl /\ Sp.NamesOk sh /\ Sp.NamesOk ti | _ => False
theorem Xjw {pl sh ti st : Dt} {ce : Int} {hd rt : Dt} {Q : Int × Int × Int -> Prop} (h : Q (Sp.cchk pl sh ti st ce hd rt)) :
  (¬ Sp.tchkE pl sh ti st = 0 -> Q (1, 0, Sp.tchkE pl sh ti st)) /\
  (Sp.tchkE pl sh ti st = 0 -> Sp.inr ce 0 ((pl.length : Int) - 1) = false -> Q (1, 0, 4)) /\
  (Sp.tchkE pl sh ti st = 0 -> Sp.inr ce 0 ((pl.length : Int) - 1) = true -> (¬ (hd.length : Int) = st.length \/ 10 < (rt.length : Int)) -> Q (1, 0, 3)) /\
  (Sp.tchkE pl sh ti st = 0 -> Sp.inr ce 0 ((pl.length : Int) - 1) = true -> (hd.length : Int) = st.length -> ¬ 10 < (rt.length : Int) -> Sp.hasE (Sp.hdErr hd) 0 hd.length = true -> Q (2, Sp.idxE (Sp.hdErr hd) 0 hd.length, Sp.hdErr hd (Sp.idxE (Sp.hdErr hd) 0 hd.length))) /\
  (Sp.tchkE pl sh ti st = 0 -> Sp.inr ce 0 ((pl.length : Int) - 1) = true -> (hd.length : Int) = st.length -> ¬ 10 < (rt.length : Int) -> Sp.hasE (Sp.hdErr hd) 0 hd.length = false -> Sp.hasE (Sp.rtErr st rt ce) 0 rt.length = true -> Q (3, Sp.idxE (Sp.rtErr st rt ce) 0 rt.length, Sp.rtErr st rt ce (Sp.idxE (Sp.rtErr st rt ce) 0 rt.length))) /\
  (Sp.tchkE pl sh ti st = 0 -> Sp.inr ce 0 ((pl.length : Int) - 1) = true -> (hd.length : Int) = st.length -> ¬ 10 < (rt.length : Int) -> Sp.hasE (Sp.hdErr hd) 0 hd.length = false -> Sp.hasE (Sp.rtErr st rt ce) 0 rt.length = false -> Q (0, 0, 0)) := by
 unfold Sp.cchk at h;refine ⟨fun e => ?_, fun e e1 => ?_, fun e e1 e2 => ?_, fun e e1 e2 e3 e4 => ?_, fun e e1 e2 e3 e4 e5 => ?_, fun e e1 e2 e3 e4 e5 => ?_⟩
 ·rw [if_neg e] at h; exact h
 ·rw [if_pos e, if_neg (by simp [e1])] at h; exact h
 ·rw [if_pos e, if_pos e1, if_neg (by rcases e2 with e2 | e2 <;> omega)] at h; exact h
 ·rw [if_pos e, if_pos e1, if_pos ⟨e2, e3⟩, if_pos e4] at h; exact h
 ·rw [if_pos e, if_pos e1, if_pos ⟨e2, e3⟩, if_neg (by simp [e4]), if_pos e5] at h; exact h
 ·rw [if_pos e, if_pos e1, if_pos ⟨e2, e3⟩, if_neg (by simp [e4]), if_neg (by simp [e5])] at h; exact h
theorem Xor : PureOk Try.prog 43 Xbw [(false, [.int .i64]), (false, [.int .i64]), (false, [.int .i64])] Xw Xdq :=
 Xl4 fun W pl sh ti st ce hd rt hp Q h => by
  have hp : Sp.NamesOk pl.xs /\ Sp.NamesOk sh.xs /\ Sp.NamesOk ti.xs := hp;have hpl := pl.len;simp only [maxLen] at hpl;unfold Xdi;delta Zba Zv Zh Zm;obtain ⟨q0, q1, q2, q3, q4, q5⟩ := Xjw (Q := fun r => Q [[.i r.1], [.i r.2.1], [.i r.2.2]]) h;clear h;simp only [show Int.toNat 0 = 0 from rfl, Nat.sub_zero]
  repeat' (first | omega | with_reducible refine vifd (fun _ => ?_) fun _ => ?_ | with_reducible refine vifn (fun _ => ?_) fun _ => ?_ | with_reducible refine vifq (fun _ => ?_) fun _ => ?_ | with_reducible refine vifq0 (fun _ => ?_) fun _ => ?_ | with_reducible refine vifq1 (fun _ => ?_) fun _ => ?_ | with_reducible refine vifb (fun _ => ?_) fun _ => ?_ | with_reducible refine vif (fun _ => ?_) fun _ => ?_ | (with_reducible refine nedd ?_ ?_; omega) | (with_reducible refine ned ?_ ?_; simp only [Bool.and_eq_true, decide_eq_true_eq]; omega) | (with_reducible refine ar64 ?_ ?_; omega) | (with_reducible refine Xe ?_ ?_; (first | trivial | omega | assumption | (refine ⟨?_, ?_⟩ <;> first | trivial | omega | assumption) | (refine ⟨?_, ?_, ?_⟩ <;> first | trivial | omega | assumption) | (refine ⟨?_, ?_, ?_, ?_⟩ <;> first | trivial | omega | assumption))))
  all_goals first | contradiction | exact q0 (by assumption) | exact q1 (by assumption) (by assumption) | exact q2 (by assumption) (by assumption) (.inl (by assumption)) | exact q2 (by assumption) (by assumption) (.inr (by assumption)) | exact q3 (by assumption) (by assumption) (by assumption) (by assumption) (by assumption) | exact q4 (by assumption) (by assumption) (by assumption) (by assumption) (by assumption) (by assumption) | exact q5 (by assumption) (by assumption) (by assumption) (by assumption) (by assumption) (by assumption) | skip
  all_goals trace_state
noncomputable def Xlg : PC Try.prog := ⟨43, Xbw, [(false, [.int .i64]), (false, [.int .i64]), (false, [.int .i64])], Xw, Xdq, Xor⟩
def Xh7 [InW] (e : List Ed) (K : Nat -> List Ed -> Prop) : Prop := match e with
 | [.i a, .i s, .i n, .i i, .ro _ pl, .ro _ sh, .ro _ ti, .ro _ st, .i ce, .ro _ hd, .ro _ rt] => Pre ((0 <= a /\ a < rt.xs.length) /\ 0 <= s /\ (Sp.rtL rt.xs a.toNat).length <= 60 /\ (0 <= i /\ i <= (Sp.rtL rt.xs a.toNat).length) /\ 0 <= n /\ n <= i)
   (K 0 [.i (Sp.cnt (Sp.rtL rt.xs a.toNat) s.toNat i.toNat ((Sp.rtL rt.xs a.toNat).length - i.toNat) n)])
 | _ => False
noncomputable def Xje : LC where
 len := 33
 T := [(1, .int .i64), (2, .int .i64), (3, (.ptr 1 0)), (7, .int .i64), (8, .int .i64)]
 H := [(1, .blk 29 [.rs Jb, .rs Jb, .rs Jb, .rs Jd, .int .i64, .rs Iv4, .rs Je])]
 W := (rg 9 23)
 outs := [⟨.exit 0, [(7, .int .i64)], [], ([1, 2, 3] ++ rg 8 24)⟩]
 spec := Xh7
def Xho [W : InW] (a s n i : Int) (pl sh ti : Ro Jb) (st : Ro Jd) (ce : Int) (hd : Ro Iv4) (rt : Ro Je) (A : List Ed -> Prop) (K : Nat -> List Ed -> Prop) : Prop :=
 Need (decide (0 <= a) && decide (a < (↑(rt.xs.length) : Int))) (Need (decide (a.toNat < rt.xs.length)) (Vif (decide (i < (↑(List.length (cel rt.xs a.toNat (0 : Nat)).lst) : Int))) (Need (decide (0 <= a) && decide (a < (↑(rt.xs.length) : Int))) (Need (decide (a.toNat < rt.xs.length)) (Need (decide (0 <= i) && decide (i < (↑(List.length (cel rt.xs a.toNat (0 : Nat)).lst) : Int))) (Need (decide (i.toNat < List.length (cel rt.xs a.toNat (0 : Nat)).lst)) (Vif (decide ((cel (cel rt.xs a.toNat (0 : Nat)).lst i.toNat (0 : Nat)).int = s)) (Ar .i64 (n + 1) fun z => Ar .i64 (i + 1) fun z_1 => A [.i a, .i s, .i z, .i z_1, .ro _ pl, .ro _ sh, .ro _ ti, .ro Zc st, .i ce, .ro _ hd, .ro [Ty.sl [Ty.int IntKind.i64, Ty.bool]] rt]) (Ar .i64 (i + 1) fun z => A [.i a, .i s, .i n, .i z, .ro _ pl, .ro _ sh, .ro _ ti, .ro Zc st, .i ce, .ro _ hd, .ro [Ty.sl [Ty.int IntKind.i64, Ty.bool]] rt])))))) (K 0 [.i n])))
theorem Xp2 (W : InW) (a s n i pl sh ti st ce hd rt A K) : Ye6 { cxT Try.prog TT T21 1000 50 with fn := 40 } 1000 (Ym7 Try.prog 40 4) (Yd5 33 [(1, .si .i64 a), (2, .si .i64 s), (3, .ptr 1 0), (7, .si .i64 n), (8, .si .i64 i)] (rg 9 23)) [(1, .blk 29 [.rs _ pl, .rs _ sh, .rs _ ti, .rs _ st, .si .i64 ce, .rs _ hd, .rs _ rt])] (Ys7 Xje A K) = Xho a s n i pl sh ti st ce hd rt A K := by kernel_rfl
def Xiy : Prop := ∀ (W : InW) (body a : Code), (Try.prog.funcs[40]?).bind (·.body) = some body -> a ∈ Yu body -> Yfq a = 4 -> @Yl3 W Try.prog a (@Ysd W Xje)
theorem Xq9 (meas : [InW] -> List Ed -> Nat) (hyp_ : ∀ (W : InW) a s n i pl sh ti st ce hd rt K, Xh7 [.i a, .i s, .i n, .i i, .ro _ pl, .ro _ sh, .ro _ ti, .ro _ st, .i ce, .ro _ hd, .ro _ rt] K -> ∀ A : List Ed -> Prop, (∀ e, meas e < meas [.i a, .i s, .i n, .i i, .ro _ pl, .ro _ sh, .ro _ ti, .ro _ st, .i ce, .ro _ hd, .ro _ rt] -> Xh7 e K -> A e) -> Xho a s n i pl sh ti st ce hd rt A K) : Xiy :=
 LE.okOf' (fun W => @TT W) (fun W => @Xb W) Xa T21 1000 50 (by kernel_rfl) Xje (fun W => @meas W) fun W a s n i pl sh ti st ce hd rt K hs =>
  (Xp2 W a s n i pl sh ti st ce hd rt (fun e => meas e < meas [.i a, .i s, .i n, .i i, .ro _ pl, .ro _ sh, .ro _ ti, .ro _ st, .i ce, .ro _ hd, .ro _ rt] /\ Xh7 e K) K).mpr (hyp_ W a s n i pl sh ti st ce hd rt K hs _ fun e h1 h2 => ⟨h1, h2⟩)
theorem Xts : Xiy := Xq9 (fun e => match e with | [.i a, _, _, .i i, _, _, _, _, _, _, .ro _ rt] => (((Sp.rtL rt.xs a.toNat).length : Int) - i).toNat | _ => 0) fun W a s n i pl sh ti st ce hd rt K hs A hA => by
 obtain ⟨⟨h1, h2, h3, h4, h5, h6⟩, hk⟩ := hs;unfold Xho;delta Zc;simp only [show (cel rt.xs a.toNat 0).lst = Sp.rtL rt.xs a.toNat from rfl];refine ned (by simp; omega) (nedd (by omega) (vifd (fun e => ?_) fun e => ?_))
 ·rw [show (Sp.rtL rt.xs a.toNat).length - i.toNat = ((Sp.rtL rt.xs a.toNat).length - (i.toNat + 1)) + 1 by omega] at hk;simp only [Sp.cnt] at hk;have ez : (i + 1).toNat = i.toNat + 1 := by omega
  have hA' : ∀ m, m = (if Sp.xS (Sp.rtL rt.xs a.toNat) i.toNat = s.toNat then n + 1 else n) -> A [.i a, .i s, .i m, .i (i + 1), .ro _ pl, .ro _ sh, .ro _ ti, .ro _ st, .i ce, .ro _ hd, .ro _ rt] := fun m hm => hA _ (by show (((Sp.rtL rt.xs a.toNat).length : Int) - (i + 1)).toNat < (((Sp.rtL rt.xs a.toNat).length : Int) - i).toNat; omega) ⟨⟨h1, h2, h3, by omega, by split at hm <;> omega, by split at hm <;> omega⟩, by rw [ez, hm]; exact hk⟩;clear hA hk;simp only [Nat.zero_add, Nat.reduceAdd, <- show Sp.xS (Sp.rtL rt.xs a.toNat) i.toNat = (cel (Sp.rtL rt.xs a.toNat) i.toNat 0).int from rfl] at *
  repeat' (first | omega | with_reducible refine vifd (fun _ => ?_) fun _ => ?_ | with_reducible refine vifn (fun _ => ?_) fun _ => ?_ | with_reducible refine vifq (fun _ => ?_) fun _ => ?_ | with_reducible refine vifq0 (fun _ => ?_) fun _ => ?_ | with_reducible refine vifq1 (fun _ => ?_) fun _ => ?_ | with_reducible refine vifb (fun _ => ?_) fun _ => ?_ | with_reducible refine vif (fun _ => ?_) fun _ => ?_ | (with_reducible refine nedd ?_ ?_; omega) | (with_reducible refine ned ?_ ?_; simp only [Bool.and_eq_true, decide_eq_true_eq]; omega) | (with_reducible refine ar64 ?_ ?_; omega) | (with_reducible refine Xe ?_ ?_; (first | trivial | omega | assumption | (refine ⟨?_, ?_⟩ <;> first | trivial | omega | assumption) | (refine ⟨?_, ?_, ?_⟩ <;> first | trivial | omega | assumption) | (refine ⟨?_, ?_, ?_, ?_⟩ <;> first | trivial | omega | assumption))))
  all_goals first | exact hA' _ (by rw [if_pos (by omega)]) | exact hA' _ (by rw [if_neg (by omega)]) | skip
  all_goals trace_state
 ·rw [show (Sp.rtL rt.xs a.toNat).length - i.toNat = 0 by omega] at hk;exact hk
noncomputable def Xud : LE Try.prog := ⟨40, 4, fun W => @Ysd W Xje, Xts⟩
noncomputable def T34 : Tab Try.prog := ⟨[], [Xud], []⟩
def Xfh [W : InW] (c_Pl c_Sh c_Ti : Ro Jb) (c_St : Ro Jd) (c_Ce : Int) (c_Hd : Ro Iv4) (c_Rt : Ro Je) (a s : Int) (Q : DS -> Prop) : Prop :=
 Pre ((0 <= a /\ a < (↑(c_Rt.xs.length) : Int)) /\ 0 <= s /\ List.length (Sp.rtL c_Rt.xs a.toNat) <= 60 /\ (Zh <= 0 /\ Zh <= (↑(List.length (Sp.rtL c_Rt.xs a.toNat)) : Int)) /\ Zh <= 0 /\ Zh <= 0) (Q [[Cl.i (Sp.cnt (Sp.rtL c_Rt.xs a.toNat) s.toNat (Int.toNat Zh) (List.length (Sp.rtL c_Rt.xs a.toNat) - Int.toNat Zh) Zh)]])
theorem Xni (W : InW) (c_Pl c_Sh c_Ti c_St c_Ce c_Hd c_Rt a s Q) : Yvd (cxT Try.prog TT T34 1000 50) 1000 40 [.agg [.rs _ c_Pl, .rs _ c_Sh, .rs _ c_Ti, .rs _ c_St, .si .i64 c_Ce, .rs _ c_Hd, .rs _ c_Rt], .si .i64 a, .si .i64 s] [] 0 (Yzg [(false, [.int .i64])] Q) (fun _ _ _ _ => Stuck 421) = Xfh c_Pl c_Sh c_Ti c_St c_Ce c_Hd c_Rt a s Q := by kernel_rfl
abbrev Xc5 : List AT := [.agg [.sl Jb, .sl Jb, .sl Jb, .sl Jd, .int .i64, .sl Iv4, .sl Je], .one (.int .i64), .one (.int .i64)]
theorem Xo3 {pre : DS -> Prop} {res : DS -> DS} (hyp_ : ∀ (W : InW) (c_Pl c_Sh c_Ti : Ro Jb) (c_St : Ro Jd) (c_Ce : Int) (c_Hd : Ro Iv4) (c_Rt : Ro Je) (a s : Int), pre [[.l c_Pl.xs, .l c_Sh.xs, .l c_Ti.xs, .l c_St.xs, .i c_Ce, .l c_Hd.xs, .l c_Rt.xs], [.i a], [.i s]] -> ∀ Q : DS -> Prop, Q (res [[.l c_Pl.xs, .l c_Sh.xs, .l c_Ti.xs, .l c_St.xs, .i c_Ce, .l c_Hd.xs, .l c_Rt.xs], [.i a], [.i s]]) -> Xfh c_Pl c_Sh c_Ti c_St c_Ce c_Hd c_Rt a s Q) : PureOk Try.prog 40 Xc5 [(false, [.int .i64])] pre res :=
 PureOk.of' (fun W => @TT W) (fun W => @Xb W) Xa T34 1000 50 fun W c_Pl c_Sh c_Ti c_St c_Ce c_Hd c_Rt a s hp =>
  (Xni W c_Pl c_Sh c_Ti c_St c_Ce c_Hd c_Rt a s (fun o => o = res [[.l c_Pl.xs, .l c_Sh.xs, .l c_Ti.xs, .l c_St.xs, .i c_Ce, .l c_Hd.xs, .l c_Rt.xs], [.i a], [.i s]])).mpr (hyp_ W c_Pl c_Sh c_Ti c_St c_Ce c_Hd c_Rt a s hp _ rfl)
abbrev Xf2 (ds : DS) : DS := match ds with | [[_, _, _, _, _, _, .l rt], [.i a], [.i s]] => [[.i (Sp.tms rt a.toNat s.toNat)]] | _ => []
abbrev Xf7 (ds : DS) : Prop := match ds with | [[_, _, _, _, _, _, .l rt], [.i a], [.i s]] => (0 <= a /\ a < rt.length) /\ 0 <= s /\ (Sp.rtL rt a.toNat).length <= 60 | _ => False
theorem Xrz : PureOk Try.prog 40 Xc5 [(false, [.int .i64])] Xf7 Xf2 :=
 Xo3 fun W pl sh ti st ce hd rt a s hp Q h => by
  obtain ⟨h1, h2, h3⟩ : (0 <= a /\ a < rt.xs.length) /\ 0 <= s /\ (Sp.rtL rt.xs a.toNat).length <= 60 := hp;unfold Xfh;delta Zh;exact ⟨⟨h1, h2, h3, by omega, by omega, by omega⟩, h⟩
noncomputable def Xnx : PC Try.prog := ⟨40, Xc5, [(false, [.int .i64])], Xf7, Xf2, Xrz⟩
namespace Sp
def rtsE (pl sh ti st : Dt) (ce : Int) (hd rt l : Dt) : Int := if cE pl sh ti st ce hd rt = 0 then (if out 0 ((rt.length : Int) - 1) l then 4 else 0) else cE pl sh ti st ce hd rt
end Sp
abbrev Xf (ds : DS) : Prop := match ds with | (.l pl :: .l sh :: .l ti :: _) :: _ => Sp.NamesOk pl /\ Sp.NamesOk sh /\ Sp.NamesOk ti | _ => False
namespace Sp
def dAt (l : Dt) (i : Nat) : List Int := (List.range 40).map fun s => cnt l s 0 i 0
structure DOk (l : Dt) (i : Int) (ds : List Int) : Prop where
 i0 : 0 <= i
 i1 : i <= l.length
 ln : l.length <= 60
 xs : ∀ k, k < l.length -> 0 <= xS l k /\ xS l k < 40
 ds : ds = dAt l i.toNat
end Sp
def edI [InW] : List Ed -> List Int
 | .i n :: es => n :: edI es
 | _ => []
def Xnm [InW] (e : List Ed) (K : Nat -> List Ed -> Prop) : Prop := match e with
 | .ro _ l :: .i n :: .i i :: ds => Pre (n = l.xs.length /\ Sp.DOk l.xs i (edI ds)) (K 0 ((Sp.dAt l.xs l.xs.length).map Ed.i))
 | _ => False
noncomputable def Xpe : LC where
 len := 59
 T := [(8, (.ptr 1 0)), (36, .rs Jf), (37, .int .i64), (38, .int .i64)]
 H := [(1, .blk 125 [.int .i64, .int .i64, .int .i64, .int .i64, .int .i64, .int .i64, .int .i64, .int .i64, .int .i64, .int .i64, .int .i64, .int .i64, .int .i64, .int .i64, .int .i64, .int .i64, .int .i64, .int .i64, .int .i64, .int .i64, .int .i64, .int .i64, .int .i64, .int .i64, .int .i64, .int .i64, .int .i64, .int .i64, .int .i64, .int .i64, .int .i64, .int .i64, .int .i64, .int .i64, .int .i64, .int .i64, .int .i64, .int .i64, .int .i64, .int .i64])]
 W := ([10] ++ rg 39 10)
 outs := [⟨.exit 0, [(8, (.ptr 1 0))], [(1, .blk 125 [.int .i64, .int .i64, .int .i64, .int .i64, .int .i64, .int .i64, .int .i64, .int .i64, .int .i64, .int .i64, .int .i64, .int .i64, .int .i64, .int .i64, .int .i64, .int .i64, .int .i64, .int .i64, .int .i64, .int .i64, .int .i64, .int .i64, .int .i64, .int .i64, .int .i64, .int .i64, .int .i64, .int .i64, .int .i64, .int .i64, .int .i64, .int .i64, .int .i64, .int .i64, .int .i64, .int .i64, .int .i64, .int .i64, .int .i64, .int .i64])], ([10] ++ rg 36 13)⟩]
 spec := Xnm
def Zbb [W : InW] (l : Ro Jf) (i : Int) := cel l.xs i.toNat (0 : Nat)
def Xmq [W : InW] (l : Ro Jf) (n i d0 d1 d2 d3 d4 d5 d6 d7 d8 d9 d10 d11 d12 d13 d14 d15 d16 d17 d18 d19 d20 d21 d22 d23 d24 d25 d26 d27 d28 d29 d30 d31 d32 d33 d34 d35 d36 d37 d38 d39 : Int) (A : List Ed -> Prop) (K : Nat -> List Ed -> Prop) : Prop :=
 Vif (decide (i < n)) (Need (decide (0 <= i) && decide (i < (↑(l.xs.length) : Int))) (Need (decide (i.toNat < l.xs.length)) (Need (decide (Zh <= (Zbb l i).int) && decide ((Zbb l i).int < (↑(40 : Nat) : Int))) (Need (decide ((Zbb l i).int.toNat < [d0, d1, d2, d3, d4, d5, d6, d7, d8, d9, d10, d11, d12, d13, d14, d15, d16, d17, d18, d19, d20, d21, d22, d23, d24, d25, d26, d27, d28, d29, d30, d31, d32, d33, d34, d35, d36, d37, d38, d39].length)) (Ar .i64 ([d0, d1, d2, d3, d4, d5, d6, d7, d8, d9, d10, d11, d12, d13, d14, d15, d16, d17, d18, d19, d20, d21, d22, d23, d24, d25, d26, d27, d28, d29, d30, d31, d32, d33, d34, d35, d36, d37, d38, d39].getD (Zbb l i).int.toNat Zh + 1) fun z => Need (decide (Zh <= (Zbb l i).int) && decide ((Zbb l i).int < (↑(40 : Nat) : Int))) (Need (decide ((Zbb l i).int.toNat < [d0, d1, d2, d3, d4, d5, d6, d7, d8, d9, d10, d11, d12, d13, d14, d15, d16, d17, d18, d19, d20, d21, d22, d23, d24, d25, d26, d27, d28, d29, d30, d31, d32, d33, d34, d35, d36, d37, d38, d39].length)) (Ar .i64 (i + 1) fun z_1 => A [.ro _ l, .i n, .i z_1, .i (Decidable.rec (fun h => (fun x => d0) h) (fun h => (fun x => z) h) (instDecidableEqNat (Zbb l i).int.toNat (0 : Nat))), .i (Decidable.rec (fun h => (fun x => d1) h) (fun h => (fun x => z) h) (instDecidableEqNat (Zbb l i).int.toNat (0+1))), .i (Decidable.rec (fun h => (fun x => d2) h) (fun h => (fun x => z) h) (instDecidableEqNat (Zbb l i).int.toNat (1+1))), .i (Decidable.rec (fun h => (fun x => d3) h) (fun h => (fun x => z) h) (instDecidableEqNat (Zbb l i).int.toNat (2+1))), .i (Decidable.rec (fun h => (fun x => d4) h) (fun h => (fun x => z) h) (instDecidableEqNat (Zbb l i).int.toNat (3+1))), .i (Decidable.rec (fun h => (fun x => d5) h) (fun h => (fun x => z) h) (instDecidableEqNat (Zbb l i).int.toNat (4+1))), .i (Decidable.rec (fun h => (fun x => d6) h) (fun h => (fun x => z) h) (instDecidableEqNat (Zbb l i).int.toNat (5+1))), .i (Decidable.rec (fun h => (fun x => d7) h) (fun h => (fun x => z) h) (instDecidableEqNat (Zbb l i).int.toNat (6+1))), .i (Decidable.rec (fun h => (fun x => d8) h) (fun h => (fun x => z) h) (instDecidableEqNat (Zbb l i).int.toNat (7+1))), .i (Decidable.rec (fun h => (fun x => d9) h) (fun h => (fun x => z) h) (instDecidableEqNat (Zbb l i).int.toNat (8+1))), .i (Decidable.rec (fun h => (fun x => d10) h) (fun h => (fun x => z) h) (instDecidableEqNat (Zbb l i).int.toNat (9+1))), .i (Decidable.rec (fun h => (fun x => d11) h) (fun h => (fun x => z) h) (instDecidableEqNat (Zbb l i).int.toNat (10+1))), .i (Decidable.rec (fun h => (fun x => d12) h) (fun h => (fun x => z) h) (instDecidableEqNat (Zbb l i).int.toNat (11+1))), .i (Decidable.rec (fun h => (fun x => d13) h) (fun h => (fun x => z) h) (instDecidableEqNat (Zbb l i).int.toNat (12+1))), .i (Decidable.rec (fun h => (fun x => d14) h) (fun h => (fun x => z) h) (instDecidableEqNat (Zbb l i).int.toNat (13+1))), .i (Decidable.rec (fun h => (fun x => d15) h) (fun h => (fun x => z) h) (instDecidableEqNat (Zbb l i).int.toNat (14+1))), .i (Decidable.rec (fun h => (fun x => d16) h) (fun h => (fun x => z) h) (instDecidableEqNat (Zbb l i).int.toNat (15+1))), .i (Decidable.rec (fun h => (fun x => d17) h) (fun h => (fun x => z) h) (instDecidableEqNat (Zbb l i).int.toNat (16+1))), .i (Decidable.rec (fun h => (fun x => d18) h) (fun h => (fun x => z) h) (instDecidableEqNat (Zbb l i).int.toNat (17+1))), .i (Decidable.rec (fun h => (fun x => d19) h) (fun h => (fun x => z) h) (instDecidableEqNat (Zbb l i).int.toNat (18+1))), .i (Decidable.rec (fun h => (fun x => d20) h) (fun h => (fun x => z) h) (instDecidableEqNat (Zbb l i).int.toNat (19+1))), .i (Decidable.rec (fun h => (fun x => d21) h) (fun h => (fun x => z) h) (instDecidableEqNat (Zbb l i).int.toNat (20+1))), .i (Decidable.rec (fun h => (fun x => d22) h) (fun h => (fun x => z) h) (instDecidableEqNat (Zbb l i).int.toNat (21+1))), .i (Decidable.rec (fun h => (fun x => d23) h) (fun h => (fun x => z) h) (instDecidableEqNat (Zbb l i).int.toNat (22+1))), .i (Decidable.rec (fun h => (fun x => d24) h) (fun h => (fun x => z) h) (instDecidableEqNat (Zbb l i).int.toNat (23+1))), .i (Decidable.rec (fun h => (fun x => d25) h) (fun h => (fun x => z) h) (instDecidableEqNat (Zbb l i).int.toNat (24+1))), .i (Decidable.rec (fun h => (fun x => d26) h) (fun h => (fun x => z) h) (instDecidableEqNat (Zbb l i).int.toNat (25+1))), .i (Decidable.rec (fun h => (fun x => d27) h) (fun h => (fun x => z) h) (instDecidableEqNat (Zbb l i).int.toNat (26+1))), .i (Decidable.rec (fun h => (fun x => d28) h) (fun h => (fun x => z) h) (instDecidableEqNat (Zbb l i).int.toNat (27+1))), .i (Decidable.rec (fun h => (fun x => d29) h) (fun h => (fun x => z) h) (instDecidableEqNat (Zbb l i).int.toNat (28+1))), .i (Decidable.rec (fun h => (fun x => d30) h) (fun h => (fun x => z) h) (instDecidableEqNat (Zbb l i).int.toNat (29+1))), .i (Decidable.rec (fun h => (fun x => d31) h) (fun h => (fun x => z) h) (instDecidableEqNat (Zbb l i).int.toNat (30+1))), .i (Decidable.rec (fun h => (fun x => d32) h) (fun h => (fun x => z) h) (instDecidableEqNat (Zbb l i).int.toNat (31+1))), .i (Decidable.rec (fun h => (fun x => d33) h) (fun h => (fun x => z) h) (instDecidableEqNat (Zbb l i).int.toNat (32+1))), .i (Decidable.rec (fun h => (fun x => d34) h) (fun h => (fun x => z) h) (instDecidableEqNat (Zbb l i).int.toNat (33+1))), .i (Decidable.rec (fun h => (fun x => d35) h) (fun h => (fun x => z) h) (instDecidableEqNat (Zbb l i).int.toNat (34+1))), .i (Decidable.rec (fun h => (fun x => d36) h) (fun h => (fun x => z) h) (instDecidableEqNat (Zbb l i).int.toNat (35+1))), .i (Decidable.rec (fun h => (fun x => d37) h) (fun h => (fun x => z) h) (instDecidableEqNat (Zbb l i).int.toNat (36+1))), .i (Decidable.rec (fun h => (fun x => d38) h) (fun h => (fun x => z) h) (instDecidableEqNat (Zbb l i).int.toNat (37+1))), .i (Decidable.rec (fun h => (fun x => d39) h) (fun h => (fun x => z) h) (instDecidableEqNat (Zbb l i).int.toNat (38+1)))]))))))) (K 0 [.i d0, .i d1, .i d2, .i d3, .i d4, .i d5, .i d6, .i d7, .i d8, .i d9, .i d10, .i d11, .i d12, .i d13, .i d14, .i d15, .i d16, .i d17, .i d18, .i d19, .i d20, .i d21, .i d22, .i d23, .i d24, .i d25, .i d26, .i d27, .i d28, .i d29, .i d30, .i d31, .i d32, .i d33, .i d34, .i d35, .i d36, .i d37, .i d38, .i d39])
theorem Xsz (W : InW) (l n i d0 d1 d2 d3 d4 d5 d6 d7 d8 d9 d10 d11 d12 d13 d14 d15 d16 d17 d18 d19 d20 d21 d22 d23 d24 d25 d26 d27 d28 d29 d30 d31 d32 d33 d34 d35 d36 d37 d38 d39 A K) : Ye6 { cxT Try.prog TT T21 1000 50 with fn := 90 } 1000 (Ym7 Try.prog 90 11) (Yd5 59 [(8, .ptr 1 0), (36, .rs _ l), (37, .si .i64 n), (38, .si .i64 i)] ([10] ++ rg 39 10)) [(1, .blk 125 [.si .i64 d0, .si .i64 d1, .si .i64 d2, .si .i64 d3, .si .i64 d4, .si .i64 d5, .si .i64 d6, .si .i64 d7, .si .i64 d8, .si .i64 d9, .si .i64 d10, .si .i64 d11, .si .i64 d12, .si .i64 d13, .si .i64 d14, .si .i64 d15, .si .i64 d16, .si .i64 d17, .si .i64 d18, .si .i64 d19, .si .i64 d20, .si .i64 d21, .si .i64 d22, .si .i64 d23, .si .i64 d24, .si .i64 d25, .si .i64 d26, .si .i64 d27, .si .i64 d28, .si .i64 d29, .si .i64 d30, .si .i64 d31, .si .i64 d32, .si .i64 d33, .si .i64 d34, .si .i64 d35, .si .i64 d36, .si .i64 d37, .si .i64 d38, .si .i64 d39])] (Ys7 Xpe A K) = Xmq l n i d0 d1 d2 d3 d4 d5 d6 d7 d8 d9 d10 d11 d12 d13 d14 d15 d16 d17 d18 d19 d20 d21 d22 d23 d24 d25 d26 d27 d28 d29 d30 d31 d32 d33 d34 d35 d36 d37 d38 d39 A K := by kernel_rfl
def Xl6 : Prop := ∀ (W : InW) (body a : Code), (Try.prog.funcs[90]?).bind (·.body) = some body -> a ∈ Yu body -> Yfq a = 11 -> @Yl3 W Try.prog a (@Ysd W Xpe)
theorem Xtj (meas : [InW] -> List Ed -> Nat) (hyp_ : ∀ (W : InW) l n i d0 d1 d2 d3 d4 d5 d6 d7 d8 d9 d10 d11 d12 d13 d14 d15 d16 d17 d18 d19 d20 d21 d22 d23 d24 d25 d26 d27 d28 d29 d30 d31 d32 d33 d34 d35 d36 d37 d38 d39 K, Xnm [.ro _ l, .i n, .i i, .i d0, .i d1, .i d2, .i d3, .i d4, .i d5, .i d6, .i d7, .i d8, .i d9, .i d10, .i d11, .i d12, .i d13, .i d14, .i d15, .i d16, .i d17, .i d18, .i d19, .i d20, .i d21, .i d22, .i d23, .i d24, .i d25, .i d26, .i d27, .i d28, .i d29, .i d30, .i d31, .i d32, .i d33, .i d34, .i d35, .i d36, .i d37, .i d38, .i d39] K -> ∀ A : List Ed -> Prop, (∀ e, meas e < meas [.ro _ l, .i n, .i i, .i d0, .i d1, .i d2, .i d3, .i d4, .i d5, .i d6, .i d7, .i d8, .i d9, .i d10, .i d11, .i d12, .i d13, .i d14, .i d15, .i d16, .i d17, .i d18, .i d19, .i d20, .i d21, .i d22, .i d23, .i d24, .i d25, .i d26, .i d27, .i d28, .i d29, .i d30, .i d31, .i d32, .i d33, .i d34, .i d35, .i d36, .i d37, .i d38, .i d39] -> Xnm e K -> A e) -> Xmq l n i d0 d1 d2 d3 d4 d5 d6 d7 d8 d9 d10 d11 d12 d13 d14 d15 d16 d17 d18 d19 d20 d21 d22 d23 d24 d25 d26 d27 d28 d29 d30 d31 d32 d33 d34 d35 d36 d37 d38 d39 A K) : Xl6 :=
 LE.okOf' (fun W => @TT W) (fun W => @Xb W) Xa T21 1000 50 (by kernel_rfl) Xpe (fun W => @meas W) fun W l n i d0 d1 d2 d3 d4 d5 d6 d7 d8 d9 d10 d11 d12 d13 d14 d15 d16 d17 d18 d19 d20 d21 d22 d23 d24 d25 d26 d27 d28 d29 d30 d31 d32 d33 d34 d35 d36 d37 d38 d39 K hs =>
  (Xsz W l n i d0 d1 d2 d3 d4 d5 d6 d7 d8 d9 d10 d11 d12 d13 d14 d15 d16 d17 d18 d19 d20 d21 d22 d23 d24 d25 d26 d27 d28 d29 d30 d31 d32 d33 d34 d35 d36 d37 d38 d39 (fun e => meas e < meas [.ro _ l, .i n, .i i, .i d0, .i d1, .i d2, .i d3, .i d4, .i d5, .i d6, .i d7, .i d8, .i d9, .i d10, .i d11, .i d12, .i d13, .i d14, .i d15, .i d16, .i d17, .i d18, .i d19, .i d20, .i d21, .i d22, .i d23, .i d24, .i d25, .i d26, .i d27, .i d28, .i d29, .i d30, .i d31, .i d32, .i d33, .i d34, .i d35, .i d36, .i d37, .i d38, .i d39] /\ Xnm e K) K).mpr (hyp_ W l n i d0 d1 d2 d3 d4 d5 d6 d7 d8 d9 d10 d11 d12 d13 d14 d15 d16 d17 d18 d19 d20 d21 d22 d23 d24 d25 d26 d27 d28 d29 d30 d31 d32 d33 d34 d35 d36 d37 d38 d39 K hs _ fun e h1 h2 => ⟨h1, h2⟩)
theorem Xjv (l : Dt) (s : Nat) : ∀ (n i : Nat) (a : Int), Sp.cnt l s i (n + 1) a = if Sp.xS l (i + n) = s then Sp.cnt l s i n a + 1 else Sp.cnt l s i n a
 | 0, i, a => rfl
 | n + 1, i, a => by
  rw [show Sp.cnt l s i (n + 1 + 1) a = Sp.cnt l s (i + 1) (n + 1) (if Sp.xS l i = s then a + 1 else a) from rfl, Xjv l s n (i + 1), show i + 1 + n = i + (n + 1) by omega];rfl
theorem okLdl : Xl6 := Xtj (fun e => match e with | .ro _ l :: _ :: .i i :: _ => ((l.xs.length : Int) - i).toNat | _ => 0) fun W l n i d0 d1 d2 d3 d4 d5 d6 d7 d8 d9 d10 d11 d12 d13 d14 d15 d16 d17 d18 d19 d20 d21 d22 d23 d24 d25 d26 d27 d28 d29 d30 d31 d32 d33 d34 d35 d36 d37 d38 d39 K hs A hA => by
 obtain ⟨⟨rfl, hD⟩, hk⟩ := hs;unfold Xmq;delta Zbb Zh;have hns : [d0, d1, d2, d3, d4, d5, d6, d7, d8, d9, d10, d11, d12, d13, d14, d15, d16, d17, d18, d19, d20, d21, d22, d23, d24, d25, d26, d27, d28, d29, d30, d31, d32, d33, d34, d35, d36, d37, d38, d39] = Sp.dAt l.xs i.toNat := hD.ds;have h0 := hD.i0;have h1 := hD.i1;have h2 := hD.ln;have hget : ∀ s, s < 40 -> ([d0, d1, d2, d3, d4, d5, d6, d7, d8, d9, d10, d11, d12, d13, d14, d15, d16, d17, d18, d19, d20, d21, d22, d23, d24, d25, d26, d27, d28, d29, d30, d31, d32, d33, d34, d35, d36, d37, d38, d39] : List Int).getD s 0 = Sp.cnt l.xs s 0 i.toNat 0 := fun s hs => by
  rw [hns, List.getD_eq_getElem?_getD];unfold Sp.dAt;rw [List.getElem?_map, List.getElem?_range hs];rfl
 refine vifd (fun e => ?_) fun e => ?_
 ·have hx := hD.xs i.toNat (by omega);have hx' : 0 <= (cel l.xs i.toNat 0).int /\ (cel l.xs i.toNat 0).int < 40 := hx;have hp : (cel l.xs i.toNat 0).int.toNat < 40 := by omega
  have hv := hget _ hp;have hc := Sp.cnt_in l.xs (cel l.xs i.toNat 0).int.toNat i.toNat 0 0;have ez : (i + 1).toNat = i.toNat + 1 := by omega
  refine ned (by simp; omega) (nedd (by omega) (ned (by simp; omega) (nedd hp (ar64 (by rw [hv]; omega) (ned (by simp; omega) (nedd hp (ar64 (by omega) (hA _ ?_ ?_))))))))
  ·show ((l.xs.length : Int) - (i + 1)).toNat < ((l.xs.length : Int) - i).toNat
   omega
  ·refine ⟨⟨rfl, ⟨by omega, by omega, h2, hD.xs, ?_⟩⟩, hk⟩;refine Eq.trans (b := (List.range 40).map fun s => selU (cel l.xs i.toNat 0).int.toNat s (([d0, d1, d2, d3, d4, d5, d6, d7, d8, d9, d10, d11, d12, d13, d14, d15, d16, d17, d18, d19, d20, d21, d22, d23, d24, d25, d26, d27, d28, d29, d30, d31, d32, d33, d34, d35, d36, d37, d38, d39] : List Int).getD (cel l.xs i.toNat 0).int.toNat 0 + 1) (([d0, d1, d2, d3, d4, d5, d6, d7, d8, d9, d10, d11, d12, d13, d14, d15, d16, d17, d18, d19, d20, d21, d22, d23, d24, d25, d26, d27, d28, d29, d30, d31, d32, d33, d34, d35, d36, d37, d38, d39] : List Int).getD s 0)) rfl ?_;unfold Sp.dAt;refine List.map_congr_left fun s hs => ?_;rw [List.mem_range] at hs;rw [hget s hs, hv, ez, Xjv, Nat.zero_add];unfold selU;have hxs : Sp.xS l.xs i.toNat = (cel l.xs i.toNat 0).int := rfl
   by_cases hps : (cel l.xs i.toNat 0).int.toNat = s
   ·rw [if_pos hps, if_pos (by omega), hps]
   ·rw [if_neg hps, if_neg (by omega)]
 ·have hl : i.toNat = l.xs.length := by omega
  rw [hl] at hns;rw [<- hns] at hk;exact hk
noncomputable def le_dl : LE Try.prog := ⟨90, 11, fun W => @Ysd W Xpe, okLdl⟩
noncomputable def T41 : Tab Try.prog := ⟨[Xk8], [], []⟩
def Xie [InW] (e : List Ed) (K : Nat -> List Ed -> Prop) : Prop := match e with
 | [.ro _ hd, .i n, .i i] => Pre (n = hd.xs.length /\ 0 <= i /\ i <= n) (Vif (Sp.hasE (Sp.hdErr hd.xs) i.toNat (hd.xs.length - i.toNat))
   (K 1 [.i (Sp.idxE (Sp.hdErr hd.xs) i.toNat (hd.xs.length - i.toNat)), .i (Sp.hdErr hd.xs (Sp.idxE (Sp.hdErr hd.xs) i.toNat (hd.xs.length - i.toNat)))]) (K 0 []))
 | _ => False
noncomputable def Xjl : LC where
 len := 23
 T := [(1, (.fn (.func 87) [] [])), (8, .rs Iv4), (9, .int .i64), (10, .int .i64)]
 H := []
 W := (rg 4 4 ++ rg 11 12)
 outs := [⟨.exit 0, [], [], ([1] ++ rg 4 19)⟩, ⟨.ret, [(4, .int .i64), (5, .int .i64)], [], ([1] ++ rg 6 17)⟩]
 spec := Xie
def Xhv [W : InW] (hd : Ro Iv4) (n i : Int) (A : List Ed -> Prop) (K : Nat -> List Ed -> Prop) : Prop :=
 Vif (decide (i < n)) (Need (decide (0 <= i) && decide (i < (↑(hd.xs.length) : Int))) (Need (decide (i.toNat < hd.xs.length)) (Pre True (Vif (!decide (Sp.hrdE (cel hd.xs i.toNat (0 : Nat)).int (cel hd.xs i.toNat (0+1)).int (cel hd.xs i.toNat ((0 : Nat) + 1 + 1)).int (cel hd.xs i.toNat ((0 : Nat) + 1 + 1 + 1)).int = 0)) (K (0+1) [.i i, .i (Sp.hrdE (cel hd.xs i.toNat (0 : Nat)).int (cel hd.xs i.toNat (0+1)).int (cel hd.xs i.toNat ((0 : Nat) + 1 + 1)).int (cel hd.xs i.toNat ((0 : Nat) + 1 + 1 + 1)).int)]) (Ar .i64 (i + 1) fun z => A [.ro _ hd, .i n, .i z]))))) (K 0 [])
theorem Xp9 (W : InW) (hd n i A K) : Ye6 { cxT Try.prog TT T41 1000 50 with fn := 86 } 1000 (Ym7 Try.prog 86 3) (Yd5 23 [(1, .fn (.func 87) [] []), (8, .rs _ hd), (9, .si .i64 n), (10, .si .i64 i)] (rg 4 4 ++ rg 11 12)) [] (Ys7 Xjl A K) = Xhv hd n i A K := by kernel_rfl
def Xi5 : Prop := ∀ (W : InW) (body a : Code), (Try.prog.funcs[86]?).bind (·.body) = some body -> a ∈ Yu body -> Yfq a = 3 -> @Yl3 W Try.prog a (@Ysd W Xjl)
theorem Xrg (meas : [InW] -> List Ed -> Nat) (hyp_ : ∀ (W : InW) hd n i K, Xie [.ro _ hd, .i n, .i i] K -> ∀ A : List Ed -> Prop, (∀ e, meas e < meas [.ro _ hd, .i n, .i i] -> Xie e K -> A e) -> Xhv hd n i A K) : Xi5 :=
 LE.okOf' (fun W => @TT W) (fun W => @Xb W) Xa T41 1000 50 (by kernel_rfl) Xjl (fun W => @meas W) fun W hd n i K hs =>
  (Xp9 W hd n i (fun e => meas e < meas [.ro _ hd, .i n, .i i] /\ Xie e K) K).mpr (hyp_ W hd n i K hs _ fun e h1 h2 => ⟨h1, h2⟩)
theorem Xtz : Xi5 := Xrg (fun e => match e with | [.ro _ hd, _, .i i] => ((hd.xs.length : Int) - i).toNat | _ => 0) fun W hd n i K hs A hA => by
 obtain ⟨⟨rfl, h0, h1⟩, hk⟩ := hs;unfold Xhv;have hm := hd.len;simp only [maxLen] at hm;refine vifd (fun e => ?_) fun e => ?_
 ·rw [show hd.xs.length - i.toNat = (hd.xs.length - (i.toNat + 1)) + 1 by omega] at hk;obtain ⟨g1, g2⟩ := Xfy (K1 := fun j e => K 1 [.i j, .i e]) hk;rw [Int.toNat_of_nonneg h0] at g1;have ez : (i + 1).toNat = i.toNat + 1 := by omega
  have hA' : Sp.hdErr hd.xs i.toNat = 0 -> A [.ro _ hd, .i hd.xs.length, .i (i + 1)] := fun f => hA _ (by show ((hd.xs.length : Int) - (i + 1)).toNat < ((hd.xs.length : Int) - i).toNat; omega) ⟨⟨rfl, by omega, by omega⟩, by rw [ez]; exact g2 f⟩;clear g2 hk hA;simp only [Nat.zero_add, Nat.reduceAdd];rw [show Sp.hrdE (cel hd.xs i.toNat 0).int (cel hd.xs i.toNat 1).int (cel hd.xs i.toNat 2).int (cel hd.xs i.toNat 3).int = Sp.hdErr hd.xs i.toNat from rfl];refine ned (by simp; omega) (nedd (by omega) ⟨trivial, vifn (fun e2 => g1 e2) fun e2 => ar64 (by omega) (hA' e2)⟩)
 ·rw [show hd.xs.length - i.toNat = 0 by omega] at hk;exact hk.2 rfl
noncomputable def Xuk : LE Try.prog := ⟨86, 3, fun W => @Ysd W Xjl, Xtz⟩
namespace Sp
def drvN (rt : Dt) (n : Nat) : Dt := (List.range n).map fun a => (List.range 40).map fun s => Cl.i (tms rt a s)
structure OpOk (pl sh ti st : Dt) (ce : Int) (rt : Dt) (i : Int) (dr : Dt) : Prop where
 i0 : 0 <= i
 i1 : i <= rt.length
 rl : rt.length <= 10
 nm : NamesOk pl /\ NamesOk sh /\ NamesOk ti
 te : tchkE pl sh ti st = 0
 ce : inr ce 0 ((pl.length : Int) - 1) = true
 dr : dr = drvN rt i.toNat
end Sp
noncomputable def T42 : Tab Try.prog := ⟨[Xl, Xga], [le_dl], []⟩
def Xic [InW] (e : List Ed) (K : Nat -> List Ed -> Prop) : Prop := match e with
 | [.ro _ rt, .i n, .i i, .ro _ pl, .ro _ sh, .ro _ ti, .ro _ st, .i ce, .l dr] => Pre (n = rt.xs.length /\ Sp.OpOk pl.xs sh.xs ti.xs st.xs ce rt.xs i dr) (Vif (Sp.hasE (Sp.rtErr st.xs rt.xs ce) i.toNat (rt.xs.length - i.toNat))
   (K 1 [.i (Sp.idxE (Sp.rtErr st.xs rt.xs ce) i.toNat (rt.xs.length - i.toNat)), .i (Sp.rtErr st.xs rt.xs ce (Sp.idxE (Sp.rtErr st.xs rt.xs ce) i.toNat (rt.xs.length - i.toNat))), .ro _ pl, .ro _ sh, .ro _ ti, .ro _ st, .i ce, .l (Sp.drvN rt.xs (Sp.idxE (Sp.rtErr st.xs rt.xs ce) i.toNat (rt.xs.length - i.toNat)))])
   (K 0 [.ro _ pl, .ro _ sh, .ro _ ti, .ro _ st, .i ce, .l (Sp.drvN rt.xs rt.xs.length)]))
 | _ => False
noncomputable def Xjj : LC where
 len := 23
 T := [(1, (.fn (.func 90) [] [(.ptr 1 0), (.ptr 4 0)])), (8, .rs Je), (9, .int .i64), (10, .int .i64)]
 H := [(1, .blk 29 [.rs Jb, .rs Jb, .rs Jb, .rs Jd, .int .i64, (.opq 1051), (.opq 1054)]), (4, .blk 100 [(.ptr 7 0)]), (7, .blk 111 [(.opq 1021), (.opq 1024), (.opq 1027), (.opq 1030), (.opq 1033), (.opq 1036), (.opq 1039), (.row 6)]), (6, .arr 125 Jc)]
 W := (rg 4 4 ++ rg 11 12)
 outs := [⟨.exit 0, [(1, (.fn (.func 90) [] [(.ptr 1 0), (.ptr 4 0)]))], [(1, .blk 29 [.rs Jb, .rs Jb, .rs Jb, .rs Jd, .int .i64, (.opq 1051), (.opq 1054)]), (4, .blk 100 [(.ptr 7 0)]), (7, .blk 111 [(.opq 1021), (.opq 1024), (.opq 1027), (.opq 1030), (.opq 1033), (.opq 1036), (.opq 1039), (.row 9)]), (9, .arr 125 Jc)], (rg 4 19)⟩, ⟨.ret, [(1, (.fn (.func 90) [] [(.ptr 1 0), (.ptr 4 0)])), (4, .int .i64), (5, .int .i64)], [(1, .blk 29 [.rs Jb, .rs Jb, .rs Jb, .rs Jd, .int .i64, (.opq 1051), (.opq 1054)]), (4, .blk 100 [(.ptr 7 0)]), (7, .blk 111 [(.opq 1021), (.opq 1024), (.opq 1027), (.opq 1030), (.opq 1033), (.opq 1036), (.opq 1039), (.row 9)]), (9, .arr 125 Jc)], (rg 6 17)⟩]
 spec := Xic
def Zbg := (0 : Nat)
def Zbd [W : InW] (rt : Ro Je) (i : Int) := cel rt.xs i.toNat Zbg
def Zbf [W : InW] (rt : Ro Je) (i : Int) := List.length (Zbd rt i).lst
def Zbc [W : InW] (rt : Ro Je) (i : Int) := [[Cl.i (Sp.cnt (Zbd rt i).lst (Zbg) Zbg (Zbf rt i) Zh), Cl.i (Sp.cnt (Zbd rt i).lst ((1 : Nat)) Zbg (Zbf rt i) Zh), Cl.i (Sp.cnt (Zbd rt i).lst ((2 : Nat)) Zbg (Zbf rt i) Zh), Cl.i (Sp.cnt (Zbd rt i).lst ((3 : Nat)) Zbg (Zbf rt i) Zh), Cl.i (Sp.cnt (Zbd rt i).lst ((4 : Nat)) Zbg (Zbf rt i) Zh), Cl.i (Sp.cnt (Zbd rt i).lst ((5 : Nat)) Zbg (Zbf rt i) Zh), Cl.i (Sp.cnt (Zbd rt i).lst ((6 : Nat)) Zbg (Zbf rt i) Zh), Cl.i (Sp.cnt (Zbd rt i).lst ((7 : Nat)) Zbg (Zbf rt i) Zh), Cl.i (Sp.cnt (Zbd rt i).lst ((8 : Nat)) Zbg (Zbf rt i) Zh), Cl.i (Sp.cnt (Zbd rt i).lst ((9 : Nat)) Zbg (Zbf rt i) Zh), Cl.i (Sp.cnt (Zbd rt i).lst ((10 : Nat)) Zbg (Zbf rt i) Zh), Cl.i (Sp.cnt (Zbd rt i).lst ((11 : Nat)) Zbg (Zbf rt i) Zh), Cl.i (Sp.cnt (Zbd rt i).lst ((12 : Nat)) Zbg (Zbf rt i) Zh), Cl.i (Sp.cnt (Zbd rt i).lst ((13 : Nat)) Zbg (Zbf rt i) Zh), Cl.i (Sp.cnt (Zbd rt i).lst ((14 : Nat)) Zbg (Zbf rt i) Zh), Cl.i (Sp.cnt (Zbd rt i).lst ((15 : Nat)) Zbg (Zbf rt i) Zh), Cl.i (Sp.cnt (Zbd rt i).lst ((16 : Nat)) Zbg (Zbf rt i) Zh), Cl.i (Sp.cnt (Zbd rt i).lst ((17 : Nat)) Zbg (Zbf rt i) Zh), Cl.i (Sp.cnt (Zbd rt i).lst ((18 : Nat)) Zbg (Zbf rt i) Zh), Cl.i (Sp.cnt (Zbd rt i).lst ((19 : Nat)) Zbg (Zbf rt i) Zh), Cl.i (Sp.cnt (Zbd rt i).lst ((20 : Nat)) Zbg (Zbf rt i) Zh), Cl.i (Sp.cnt (Zbd rt i).lst ((21 : Nat)) Zbg (Zbf rt i) Zh), Cl.i (Sp.cnt (Zbd rt i).lst ((22 : Nat)) Zbg (Zbf rt i) Zh), Cl.i (Sp.cnt (Zbd rt i).lst ((23 : Nat)) Zbg (Zbf rt i) Zh), Cl.i (Sp.cnt (Zbd rt i).lst ((24 : Nat)) Zbg (Zbf rt i) Zh), Cl.i (Sp.cnt (Zbd rt i).lst ((25 : Nat)) Zbg (Zbf rt i) Zh), Cl.i (Sp.cnt (Zbd rt i).lst ((26 : Nat)) Zbg (Zbf rt i) Zh), Cl.i (Sp.cnt (Zbd rt i).lst ((27 : Nat)) Zbg (Zbf rt i) Zh), Cl.i (Sp.cnt (Zbd rt i).lst ((28 : Nat)) Zbg (Zbf rt i) Zh), Cl.i (Sp.cnt (Zbd rt i).lst ((29 : Nat)) Zbg (Zbf rt i) Zh), Cl.i (Sp.cnt (Zbd rt i).lst ((30 : Nat)) Zbg (Zbf rt i) Zh), Cl.i (Sp.cnt (Zbd rt i).lst ((31 : Nat)) Zbg (Zbf rt i) Zh), Cl.i (Sp.cnt (Zbd rt i).lst ((32 : Nat)) Zbg (Zbf rt i) Zh), Cl.i (Sp.cnt (Zbd rt i).lst ((33 : Nat)) Zbg (Zbf rt i) Zh), Cl.i (Sp.cnt (Zbd rt i).lst ((34 : Nat)) Zbg (Zbf rt i) Zh), Cl.i (Sp.cnt (Zbd rt i).lst ((35 : Nat)) Zbg (Zbf rt i) Zh), Cl.i (Sp.cnt (Zbd rt i).lst ((36 : Nat)) Zbg (Zbf rt i) Zh), Cl.i (Sp.cnt (Zbd rt i).lst ((37 : Nat)) Zbg (Zbf rt i) Zh), Cl.i (Sp.cnt (Zbd rt i).lst ((38 : Nat)) Zbg (Zbf rt i) Zh), Cl.i (Sp.cnt (Zbd rt i).lst ((39 : Nat)) Zbg (Zbf rt i) Zh)]]
def Zbe [W : InW] (rt : Ro Je) (n i : Int) (pl sh ti : Ro Jb) (st : Ro Jd) (ce : Int) (dr : Dt) (A : List Ed -> Prop) (K : Nat -> List Ed -> Prop) := Vif (!decide (Sp.drvE pl.xs sh.xs ti.xs st.xs ce Zh (Zbd rt i).lst = 0)) (Vif (!decide (Sp.drvE pl.xs sh.xs ti.xs st.xs ce Zh (Zbd rt i).lst = 0)) (K (0+1) [.i i, .i (Sp.drvE pl.xs sh.xs ti.xs st.xs ce Zh (Zbd rt i).lst), .ro _ pl, .ro _ sh, .ro _ ti, .ro Zc st, .i ce, .l dr]) (Ar .i64 (i + 1) fun z => A [.ro [Ty.sl [Ty.int IntKind.i64, Ty.bool]] rt, .i n, .i z, .ro _ pl, .ro _ sh, .ro _ ti, .ro Zc st, .i ce, .l dr])) (Pre ((↑(Zbf rt i) : Int) = (↑(Zbf rt i) : Int) /\ Sp.DOk (Zbd rt i).lst Zh [Zh, Zh, Zh, Zh, Zh, Zh, Zh, Zh, Zh, Zh, Zh, Zh, Zh, Zh, Zh, Zh, Zh, Zh, Zh, Zh, Zh, Zh, Zh, Zh, Zh, Zh, Zh, Zh, Zh, Zh, Zh, Zh, Zh, Zh, Zh, Zh, Zh, Zh, Zh, Zh]) (Need (decide ((dr.length + (Zbc rt i).length) * 320 <= 140737488355328)) (Ar .i64 (i + 1) fun z => A [.ro [Ty.sl [Ty.int IntKind.i64, Ty.bool]] rt, .i n, .i z, .ro _ pl, .ro _ sh, .ro _ ti, .ro Zc st, .i ce, .l (dr ++ (Zbc rt i))])))
def Xht [W : InW] (rt : Ro Je) (n i : Int) (pl sh ti : Ro Jb) (st : Ro Jd) (ce : Int) (dr : Dt) (A : List Ed -> Prop) (K : Nat -> List Ed -> Prop) : Prop :=
 Vif (decide (i < n)) (Need (decide (0 <= i) && decide (i < (↑(rt.xs.length) : Int))) (Need (decide (i.toNat < rt.xs.length)) (Pre True (Vif (Sp.out (1 : Int) (60 : Int) [[Cl.i (↑(Zbf rt i) : Int)]]) (K (0+1) [.i i, .i (3 : Int), .ro _ pl, .ro _ sh, .ro _ ti, .ro Zc st, .i ce, .l dr]) (Pre (Sp.NamesOk pl.xs /\ Sp.NamesOk sh.xs /\ Sp.NamesOk ti.xs) (Vif (decide (Sp.drvE pl.xs sh.xs ti.xs st.xs ce Zh (Zbd rt i).lst = 0)) (Vif (!decide (Sp.dvT pl.xs sh.xs ti.xs st.xs ce Zh (Zbd rt i).lst = ce)) (K (0+1) [.i i, .i (9 : Int), .ro _ pl, .ro _ sh, .ro _ ti, .ro Zc st, .i ce, .l dr]) (Zbe rt n i pl sh ti st ce dr A K)) (Zbe rt n i pl sh ti st ce dr A K))))))) (K 0 [.ro _ pl, .ro _ sh, .ro _ ti, .ro Zc st, .i ce, .l dr])
theorem Xp7 (W : InW) (rt n i pl sh ti st ce dr A K) : Ye6 { cxT Try.prog TT T42 1000 50 with fn := 89 } 1000 (Ym7 Try.prog 89 3) (Yd5 23 [(1, .fn (.func 90) [] [.ptr 1 0, .ptr 4 0]), (8, .rs _ rt), (9, .si .i64 n), (10, .si .i64 i)] (rg 4 4 ++ rg 11 12)) [(1, .blk 29 [.rs _ pl, .rs _ sh, .rs _ ti, .rs _ st, .si .i64 ce, .opq 1051, .opq 1054]), (4, .blk 100 [.ptr 7 0]), (7, .blk 111 [.opq 1021, .opq 1024, .opq 1027, .opq 1030, .opq 1033, .opq 1036, .opq 1039, .rw 6]), (6, .arr 125 Jc dr)] (Ys7 Xjj A K) = Xht rt n i pl sh ti st ce dr A K := by kernel_rfl
def Xi3 : Prop := ∀ (W : InW) (body a : Code), (Try.prog.funcs[89]?).bind (·.body) = some body -> a ∈ Yu body -> Yfq a = 3 -> @Yl3 W Try.prog a (@Ysd W Xjj)
theorem Xre (meas : [InW] -> List Ed -> Nat) (hyp_ : ∀ (W : InW) rt n i pl sh ti st ce dr K, Xic [.ro _ rt, .i n, .i i, .ro _ pl, .ro _ sh, .ro _ ti, .ro _ st, .i ce, .l dr] K -> ∀ A : List Ed -> Prop, (∀ e, meas e < meas [.ro _ rt, .i n, .i i, .ro _ pl, .ro _ sh, .ro _ ti, .ro _ st, .i ce, .l dr] -> Xic e K -> A e) -> Xht rt n i pl sh ti st ce dr A K) : Xi3 :=
 LE.okOf' (fun W => @TT W) (fun W => @Xb W) Xa T42 1000 50 (by kernel_rfl) Xjj (fun W => @meas W) fun W rt n i pl sh ti st ce dr K hs =>
  (Xp7 W rt n i pl sh ti st ce dr (fun e => meas e < meas [.ro _ rt, .i n, .i i, .ro _ pl, .ro _ sh, .ro _ ti, .ro _ st, .i ce, .l dr] /\ Xic e K) K).mpr (hyp_ W rt n i pl sh ti st ce dr K hs _ fun e h1 h2 => ⟨h1, h2⟩)
theorem Xmc (rt : Dt) (n : Nat) : Sp.drvN rt (n + 1) = Sp.drvN rt n ++ [(List.range 40).map fun s => Cl.i (Sp.tms rt n s)] := by
 unfold Sp.drvN;rw [show List.range (n + 1) = List.range n ++ [n] from List.range_succ, List.map_append];rfl
theorem Xtx : Xi3 := Xre (fun e => match e with | .ro _ rt :: _ :: .i i :: _ => ((rt.xs.length : Int) - i).toNat | _ => 0) fun W rt n i pl sh ti st ce dr K hs A hA => by
 obtain ⟨⟨rfl, hO⟩, hk⟩ := hs;unfold Xht;delta Zbe Zbc Zbf Zbd Zc Zh Zbg;have hm := rt.len;simp only [maxLen] at hm;have h0 := hO.i0;have h1 := hO.i1;have hrl := hO.rl;have htw := Sp.tchk_ok hO.te;refine vifd (fun e => ?_) fun e => ?_
 ·rw [show rt.xs.length - i.toNat = (rt.xs.length - (i.toNat + 1)) + 1 by omega] at hk;obtain ⟨g1, g2⟩ := Xfy (K1 := fun j e => K 1 [.i j, .i e, .ro _ pl, .ro _ sh, .ro _ ti, .ro _ st, .i ce, .l (Sp.drvN rt.xs j)]) hk;rw [Int.toNat_of_nonneg h0] at g1;have ez : (i + 1).toNat = i.toNat + 1 := by omega
  have hA' : Sp.rtErr st.xs rt.xs ce i.toNat = 0 -> A [.ro _ rt, .i rt.xs.length, .i (i + 1), .ro _ pl, .ro _ sh, .ro _ ti, .ro _ st, .i ce, .l (Sp.drvN rt.xs (i.toNat + 1))] := fun f => hA _ (by show ((rt.xs.length : Int) - (i + 1)).toNat < ((rt.xs.length : Int) - i).toNat; omega) ⟨⟨rfl, ⟨by omega, by omega, hrl, hO.nm, hO.te, hO.ce, by rw [ez]⟩⟩, by rw [ez]; exact g2 f⟩;clear g2 hk hA;have hdr := hO.dr;rw [Xmc, <- hdr] at hA';rw [<- hdr] at g1;have eT : ∀ s, Sp.tms rt.xs i.toNat s = Sp.cnt (cel rt.xs i.toNat 0).lst s 0 (cel rt.xs i.toNat 0).lst.length 0 := fun s => rfl;have hE : Sp.rtErr st.xs rt.xs ce i.toNat = Sp.routeE st.xs (cel rt.xs i.toNat 0).lst ce := rfl;have hti := htw.tiL;have hsl := htw.stL;have hD : Sp.drvE pl.xs sh.xs ti.xs st.xs ce 0 (cel rt.xs i.toNat 0).lst = Sp.stepsE st.xs (cel rt.xs i.toNat 0).lst ce := by
   unfold Sp.drvE;rw [if_pos hO.te, hO.ce, if_pos (by simp only [Bool.true_and]; exact Sp.inr_iff.2 ⟨by omega, by omega⟩)]
  have hT : Sp.stepsE st.xs (cel rt.xs i.toNat 0).lst ce = 0 -> Sp.dvT pl.xs sh.xs ti.xs st.xs ce 0 (cel rt.xs i.toNat 0).lst = Sp.stepsT st.xs (cel rt.xs i.toNat 0).lst ce := fun e => by
   unfold Sp.dvT;rw [if_pos (by rw [hD]; exact e)]
  have hdl : dr.length = i.toNat := by rw [hdr]; unfold Sp.drvN; simp
  simp only [Nat.zero_add, Nat.reduceAdd, out1, hD];unfold Sp.routeE at hE;refine ned (by simp; omega) (nedd (by omega) ⟨trivial, vifb (fun e1 => ?_) fun e1 => ⟨hO.nm, vifd (fun e2 => vifn (fun e3 => ?_) fun e3 => vifn (fun e4 => absurd e2 e4) fun e4 => ⟨⟨trivial, ?_⟩, nedd ?_ ?_⟩) fun e2 => vifn (fun e4 => vifn (fun _ => ?_) fun e5 => absurd e5 e2) fun e4 => absurd e4 e2⟩⟩)
  ·rw [if_neg (by simp [e1])] at hE;rw [hE] at g1;exact g1 (by decide)
  ·rw [if_pos e1, if_pos e2, if_neg (by rw [<- hT e2]; exact e3)] at hE;rw [hE] at g1;exact g1 (by decide)
  ·have e1' := Sp.inr_iff.1 e1;have hs := (Sp.steps_street e2).2;exact ⟨by omega, by omega, by omega, fun k hk => by have := hs k hk; omega, rfl⟩
  ·simp only [List.length_cons, List.length_nil];omega
  ·rw [if_pos e1, if_pos e2, if_pos (by rw [<- hT e2]; exact e3)] at hE;have := hA' hE;refine ar64 (by omega) ?_;exact this
  ·rw [if_pos e1, if_neg e2] at hE;rw [hE] at g1;exact g1 e2
 ·rw [show rt.xs.length - i.toNat = 0 by omega] at hk;have hl : i.toNat = rt.xs.length := by omega
  have := hk.2 rfl;rw [<- hl, <- hO.dr] at this;exact this
noncomputable def Xui : LE Try.prog := ⟨89, 3, fun W => @Ysd W Xjj, Xtx⟩
noncomputable def T43 : Tab Try.prog := ⟨[Xl, Xgb], [Xuk, Xui], []⟩
def Xkx [InW] (e : List Ed) (K : Nat -> List Ed -> Prop) : Prop := match e with
 | [.ro _ pl, .ro _ sh, .ro _ ti, .ro _ st, .i ce, .ro _ hd, .ro _ rt] => Pre (Sp.NamesOk pl.xs /\ Sp.NamesOk sh.xs /\ Sp.NamesOk ti.xs) (Vif (decide (Sp.cE pl.xs sh.xs ti.xs st.xs ce hd.xs rt.xs = 0))
   (K 1 [.ro _ pl, .ro _ sh, .ro _ ti, .ro _ st, .i ce, .ro _ hd, .ro _ rt, .l (Sp.drvN rt.xs rt.xs.length)])
   (K 0 [.i (Sp.cP pl.xs sh.xs ti.xs st.xs ce hd.xs rt.xs), .i (Sp.cI pl.xs sh.xs ti.xs st.xs ce hd.xs rt.xs), .i (Sp.cE pl.xs sh.xs ti.xs st.xs ce hd.xs rt.xs)]))
 | _ => False
noncomputable def Xq : CC where
 g := 71
 args := [.agg [.rs Jb, .rs Jb, .rs Jb, .rs Jd, .int .i64, .rs Iv4, .rs Je]]
 H := []
 outs := [⟨false, .tup [(.lit (.pointer none)), .int .i64, .int .i64, .int .i64], [], false⟩, ⟨false, .tup [(.ptr 6 0), (.lit (.int .i64 0)), (.lit (.int .i64 0)), (.lit (.int .i64 0))], [(6, .blk 111 [.rs Jb, .rs Jb, .rs Jb, .rs Jd, .int .i64, .rs Iv4, .rs Je, (.row 12)]), (12, .arr 125 Jc)], false⟩]
 spec := Xkx
def Zbi [W : InW] (hd : Ro Iv4) := Sp.idxE (Sp.hdErr hd.xs) Zv (hd.xs.length - Int.toNat Zh)
def Zbh [W : InW] (pl sh ti : Ro Jb) (st : Ro Jd) (ce : Int) (hd : Ro Iv4) (rt : Ro Je) (K : Nat -> List Ed -> Prop) := Pre ((↑(rt.xs.length) : Int) = (↑(rt.xs.length) : Int) /\ Sp.OpOk pl.xs sh.xs ti.xs st.xs ce rt.xs Zh []) (Vif (Sp.hasE (Sp.rtErr st.xs rt.xs ce) Zv (rt.xs.length - Int.toNat Zh)) (Vif (!decide (Sp.rtErr st.xs rt.xs ce (Sp.idxE (Sp.rtErr st.xs rt.xs ce) Zv (rt.xs.length - Int.toNat Zh)) = 0)) (K 0 [.i (3 : Int), .i (↑(Sp.idxE (Sp.rtErr st.xs rt.xs ce) Zv (rt.xs.length - Int.toNat Zh)) : Int), .i (Sp.rtErr st.xs rt.xs ce (Sp.idxE (Sp.rtErr st.xs rt.xs ce) Zv (rt.xs.length - Int.toNat Zh)))]) (K (0+1) [.ro _ pl, .ro _ sh, .ro _ ti, .ro Zc st, .i ce, .ro _ hd, .ro [Ty.sl [Ty.int IntKind.i64, Ty.bool]] rt, .l (Sp.drvN rt.xs (Sp.idxE (Sp.rtErr st.xs rt.xs ce) Zv (rt.xs.length - Int.toNat Zh)))])) (K (0+1) [.ro _ pl, .ro _ sh, .ro _ ti, .ro Zc st, .i ce, .ro _ hd, .ro [Ty.sl [Ty.int IntKind.i64, Ty.bool]] rt, .l (Sp.drvN rt.xs (rt.xs.length))]))
def Xfw [W : InW] (pl sh ti : Ro Jb) (st : Ro Jd) (ce : Int) (hd : Ro Iv4) (rt : Ro Je) (K : Nat -> List Ed -> Prop) : Prop :=
 Pre (Sp.NamesOk pl.xs /\ Sp.NamesOk sh.xs /\ Sp.NamesOk ti.xs) (Vif (!decide (Sp.tchkE pl.xs sh.xs ti.xs st.xs = 0)) (K 0 [.i (1 : Int), .i Zh, .i (Sp.tchkE pl.xs sh.xs ti.xs st.xs)]) (Ar .i64 ((↑(pl.xs.length) : Int) - 1) fun z => Pre True (Vif (Sp.out Zh z [[Cl.i ce]]) (K 0 [.i (1 : Int), .i Zh, .i (4 : Int)]) (Vif (!decide ((↑(hd.xs.length) : Int) = (↑(st.xs.length) : Int))) (K 0 [.i (1 : Int), .i Zh, .i (3 : Int)]) (Vif (decide ((10 : Int) < (↑(rt.xs.length) : Int))) (K 0 [.i (1 : Int), .i Zh, .i (3 : Int)]) (Pre ((↑(hd.xs.length) : Int) = (↑(hd.xs.length) : Int) /\ Zh <= 0 /\ Zh <= (↑(hd.xs.length) : Int)) (Vif (Sp.hasE (Sp.hdErr hd.xs) Zv (hd.xs.length - Int.toNat Zh)) (Vif (!decide (Sp.hdErr hd.xs (Zbi hd) = 0)) (K 0 [.i (2 : Int), .i (↑(Zbi hd) : Int), .i (Sp.hdErr hd.xs (Zbi hd))]) (Zbh pl sh ti st ce hd rt K)) (Zbh pl sh ti st ce hd rt K))))))))
theorem Xm6 (W : InW) (pl sh ti st ce hd rt K) : Yva (cxT Try.prog TT T43 1000 50) 1000 71 [.agg [.rs _ pl, .rs _ sh, .rs _ ti, .rs _ st, .si .i64 ce, .rs _ hd, .rs _ rt]] [] (fun v h => outC Xq.H [] Xq.outs 0 false v h K) (fun v h => outC Xq.H [] Xq.outs 0 true v h K) = Xfw pl sh ti st ce hd rt K := by kernel_rfl
theorem Xop (hyp_ : ∀ (W : InW) pl sh ti st ce hd rt K, Xkx [.ro _ pl, .ro _ sh, .ro _ ti, .ro _ st, .i ce, .ro _ hd, .ro _ rt] K -> Xfw pl sh ti st ce hd rt K) : ∀ W : InW, @CallC W Try.prog Xq :=
 CC.okOf (fun W => @TT W) (fun W => @Xb W) Xa T43 1000 50 Xq fun W pl sh ti st ce hd rt K hs => (Xm6 W pl sh ti st ce hd rt K).mpr (hyp_ W pl sh ti st ce hd rt K hs)
theorem Xse : ∀ W : InW, @CallC W Try.prog Xq := Xop fun W pl sh ti st ce hd rt K hs => by
 obtain ⟨hp, hk⟩ := hs;unfold Xfw;delta Zbh Zbi Zv Zc Zh;have hpl := pl.len;simp only [maxLen] at hpl;have i1 := fun e => (Sp.hasE_ix (f := Sp.hdErr hd.xs) (n := hd.xs.length) (i := 0) e).2.2;have i2 := fun e => (Sp.hasE_ix (f := Sp.rtErr st.xs rt.xs ce) (n := rt.xs.length) (i := 0) e).2.2;have hop : Sp.tchkE pl.xs sh.xs ti.xs st.xs = 0 -> Sp.inr ce 0 ((pl.xs.length : Int) - 1) = true -> ¬ 10 < (rt.xs.length : Int) -> Sp.OpOk pl.xs sh.xs ti.xs st.xs ce rt.xs 0 [] := fun e1 e2 e3 => ⟨by omega, by omega, by omega, hp, e1, e2, rfl⟩;obtain ⟨q0, q1, q2, q3, q4, q5⟩ := Xjw (pl := pl.xs) (sh := sh.xs) (ti := ti.xs) (st := st.xs) (ce := ce) (hd := hd.xs) (rt := rt.xs) (Q := fun r => Vif (decide (r.2.2 = 0)) (K 1 [.ro _ pl, .ro _ sh, .ro _ ti, .ro _ st, .i ce, .ro _ hd, .ro _ rt, .l (Sp.drvN rt.xs rt.xs.length)]) (K 0 [.i r.1, .i r.2.1, .i r.2.2])) hk;clear hk;simp only [show Int.toNat 0 = 0 from rfl, Nat.sub_zero, out1]
 repeat' (first | (refine ⟨⟨trivial, hop (by assumption) (by assumption) (by assumption)⟩, ?_⟩) | (refine ⟨⟨rfl, hop (by assumption) (by assumption) (by assumption)⟩, ?_⟩) | omega | with_reducible refine vifd (fun _ => ?_) fun _ => ?_ | with_reducible refine vifn (fun _ => ?_) fun _ => ?_ | with_reducible refine vifq (fun _ => ?_) fun _ => ?_ | with_reducible refine vifq0 (fun _ => ?_) fun _ => ?_ | with_reducible refine vifq1 (fun _ => ?_) fun _ => ?_ | with_reducible refine vifb (fun _ => ?_) fun _ => ?_ | with_reducible refine vif (fun _ => ?_) fun _ => ?_ | (with_reducible refine nedd ?_ ?_; omega) | (with_reducible refine ned ?_ ?_; simp only [Bool.and_eq_true, decide_eq_true_eq]; omega) | (with_reducible refine ar64 ?_ ?_; omega) | (with_reducible refine Xe ?_ ?_; (first | trivial | omega | assumption | (refine ⟨?_, ?_⟩ <;> first | trivial | omega | assumption) | (refine ⟨?_, ?_, ?_⟩ <;> first | trivial | omega | assumption) | (refine ⟨?_, ?_, ?_, ?_⟩ <;> first | trivial | omega | assumption))))
 all_goals first | contradiction | exact absurd (by assumption) (i1 (by assumption)) | exact absurd (by assumption) (i2 (by assumption)) | exact (q0 (by assumption)).2 (decide_eq_false (by assumption)) | exact (q1 (by assumption) (by assumption)).2 rfl | exact (q2 (by assumption) (by assumption) (.inl (by assumption))).2 rfl | exact (q2 (by assumption) (by assumption) (.inr (by assumption))).2 rfl | exact (q3 (by assumption) (by assumption) (by assumption) (by assumption) (by assumption)).2 (decide_eq_false (i1 (by assumption))) | exact (q4 (by assumption) (by assumption) (by assumption) (by assumption) (by assumption) (by assumption)).2 (decide_eq_false (i2 (by assumption))) | exact (q5 (by assumption) (by assumption) (by assumption) (by assumption) (by assumption) (by assumption)).1 rfl | skip
noncomputable def Xbi := ceOf Xq Xse
namespace Sp
def tD (dr : Dt) (a s : Nat) : Int := (cel dr a s).int
def atV (ba pe t : Int) : Int := ba + pe * t
structure DrOk (hd dr : Dt) : Prop where
 hl : hd.length <= 40
 hdO : ∀ i, i < hd.length -> HdOk hd i
 drO : ∀ a s, 0 <= tD dr a s /\ tD dr a s <= 60
structure Acc (n : Nat) (i lo : Int) : Prop where
 i0 : 0 <= i
 i1 : i <= n
 lo : -660000 * i <= lo /\ lo <= 660000 * i
def haL (hd dr : Dt) (a s : Nat) : Int := tD dr a s * atH hd s (hLo hd s)
def haH (hd dr : Dt) (a s : Nat) : Int := tD dr a s * atH hd s (hHi hd s)
def haT (hd dr tr : Dt) (a s : Nat) : Int := tD dr a s * atH hd s (cel tr s 0).int
end Sp
theorem Xgx {pl sh ti st : Dt} {ce : Int} {hd rt : Dt} (h : Sp.CrOk pl sh ti st ce hd rt) : Sp.DrOk hd (Sp.drvN rt rt.length) := by
 refine ⟨by have := h.tw.stL; have := h.hl; omega, h.hdO, fun a s => ?_⟩;unfold Sp.tD cel
 by_cases ha : a < rt.length
 ·rw [show (Sp.drvN rt rt.length).getD a [] = (List.range 40).map fun s => Cl.i (Sp.tms rt a s) by
   unfold Sp.drvN;rw [List.getD_eq_getElem?_getD, List.getElem?_map, List.getElem?_range ha];rfl]
  by_cases hs : s < 40
  ·rw [List.getD_eq_getElem?_getD, List.getElem?_map, List.getElem?_range hs];have := Sp.tms_in rt a s;have := (h.rtO a ha).len
   show 0 <= Sp.tms rt a s /\ Sp.tms rt a s <= 60
   omega
  ·rw [List.getD_eq_getElem?_getD, List.getElem?_eq_none (by simp; omega)]
   show (0 : Int) <= 0 /\ (0 : Int) <= 60
   omega
 ·rw [show (Sp.drvN rt rt.length).getD a [] = [] by
   unfold Sp.drvN;rw [List.getD_eq_getElem?_getD, List.getElem?_eq_none (by simp; omega)];rfl]
  show (0 : Int) <= 0 /\ (0 : Int) <= 60
  omega
theorem Xct {rt : Dt} {a s : Nat} (ha : a < rt.length) (hs : s < 40) : Sp.tD (Sp.drvN rt rt.length) a s = Sp.tms rt a s := by
 unfold Sp.tD cel;rw [show (Sp.drvN rt rt.length).getD a [] = (List.range 40).map fun s => Cl.i (Sp.tms rt a s) by
  unfold Sp.drvN;rw [List.getD_eq_getElem?_getD, List.getElem?_map, List.getElem?_range ha];rfl]
 rw [List.getD_eq_getElem?_getD, List.getElem?_map, List.getElem?_range hs];rfl
def Xmn [W : InW] (h_Ba h_Pe h_Lo h_Hi t : Int) (Q : DS -> Prop) : Prop :=
 Ar .i64 (h_Pe * t) fun z => Ar .i64 (h_Ba + z) fun z => Q [[Cl.i z]]
theorem Xs1 (W : InW) (h_Ba h_Pe h_Lo h_Hi t Q) : Yvd (cxT Try.prog TT T21 1000 50) 1000 62 [.agg [.si .i64 h_Ba, .si .i64 h_Pe, .si .i64 h_Lo, .si .i64 h_Hi], .si .i64 t] [] 0 (Yzg [(false, [.int .i64])] Q) (fun _ _ _ _ => Stuck 421) = Xmn h_Ba h_Pe h_Lo h_Hi t Q := by kernel_rfl
abbrev Xhd : List AT := [.agg [.int .i64, .int .i64, .int .i64, .int .i64], .one (.int .i64)]
theorem Xtn {pre : DS -> Prop} {res : DS -> DS} (hyp_ : ∀ (W : InW) (h_Ba h_Pe h_Lo h_Hi t : Int), pre [[.i h_Ba, .i h_Pe, .i h_Lo, .i h_Hi], [.i t]] -> ∀ Q : DS -> Prop, Q (res [[.i h_Ba, .i h_Pe, .i h_Lo, .i h_Hi], [.i t]]) -> Xmn h_Ba h_Pe h_Lo h_Hi t Q) : PureOk Try.prog 62 Xhd [(false, [.int .i64])] pre res :=
 PureOk.of' (fun W => @TT W) (fun W => @Xb W) Xa T21 1000 50 fun W h_Ba h_Pe h_Lo h_Hi t hp =>
  (Xs1 W h_Ba h_Pe h_Lo h_Hi t (fun o => o = res [[.i h_Ba, .i h_Pe, .i h_Lo, .i h_Hi], [.i t]])).mpr (hyp_ W h_Ba h_Pe h_Lo h_Hi t hp _ rfl)
def Xmm [W : InW] (h_Ba h_Pe h_Lo h_Hi t : Int) (Q : DS -> Prop) : Prop :=
 Ar .i64 (h_Pe * t) fun z => Ar .i64 (h_Ba + z) fun z => Q [[Cl.i z]]
theorem Xs0 (W : InW) (h_Ba h_Pe h_Lo h_Hi t Q) : Yvd (cxT Try.prog TT T21 1000 50) 1000 66 [.agg [.si .i64 h_Ba, .si .i64 h_Pe, .si .i64 h_Lo, .si .i64 h_Hi], .si .i64 t] [] 0 (Yzg [(false, [.int .i64])] Q) (fun _ _ _ _ => Stuck 421) = Xmm h_Ba h_Pe h_Lo h_Hi t Q := by kernel_rfl
abbrev Xhc : List AT := [.agg [.int .i64, .int .i64, .int .i64, .int .i64], .one (.int .i64)]
theorem Xtm {pre : DS -> Prop} {res : DS -> DS} (hyp_ : ∀ (W : InW) (h_Ba h_Pe h_Lo h_Hi t : Int), pre [[.i h_Ba, .i h_Pe, .i h_Lo, .i h_Hi], [.i t]] -> ∀ Q : DS -> Prop, Q (res [[.i h_Ba, .i h_Pe, .i h_Lo, .i h_Hi], [.i t]]) -> Xmm h_Ba h_Pe h_Lo h_Hi t Q) : PureOk Try.prog 66 Xhc [(false, [.int .i64])] pre res :=
 PureOk.of' (fun W => @TT W) (fun W => @Xb W) Xa T21 1000 50 fun W h_Ba h_Pe h_Lo h_Hi t hp =>
  (Xs0 W h_Ba h_Pe h_Lo h_Hi t (fun o => o = res [[.i h_Ba, .i h_Pe, .i h_Lo, .i h_Hi], [.i t]])).mpr (hyp_ W h_Ba h_Pe h_Lo h_Hi t hp _ rfl)
abbrev Xip (ds : DS) : DS := match ds with | [[.i ba, .i pe, .i _, .i _], [.i t]] => [[.i (Sp.atV ba pe t)]] | _ => []
abbrev Xit (ds : DS) : Prop := match ds with | [[.i ba, .i pe, .i _, .i _], [.i t]] => (0 <= ba /\ ba <= 1000) /\ (0 <= pe /\ pe <= 100) /\ 0 <= t /\ t <= 100 | _ => False
theorem Xpz {pe t : Int} (h1 : 0 <= pe /\ pe <= 100) (h2 : 0 <= t /\ t <= 100) : 0 <= pe * t /\ pe * t <= 10000 := ⟨Int.mul_nonneg h1.1 h2.1, by have := Int.mul_le_mul h1.2 h2.2 h2.1 (by omega); omega⟩
theorem okpat : PureOk Try.prog 62 Xhd [(false, [.int .i64])] Xit Xip :=
 Xtn fun W ba pe lo hi t hp Q h => by
  unfold Xmn;obtain ⟨h1, h2, h3⟩ : (0 <= ba /\ ba <= 1000) /\ (0 <= pe /\ pe <= 100) /\ 0 <= t /\ t <= 100 := hp;have := Xpz h2 h3;exact ar64 (by omega) (ar64 (by omega) h)
theorem okrat : PureOk Try.prog 66 Xhc [(false, [.int .i64])] Xit Xip :=
 Xtm fun W ba pe lo hi t hp Q h => by
  unfold Xmm;obtain ⟨h1, h2, h3⟩ : (0 <= ba /\ ba <= 1000) /\ (0 <= pe /\ pe <= 100) /\ 0 <= t /\ t <= 100 := hp;have := Xpz h2 h3;exact ar64 (by omega) (ar64 (by omega) h)
noncomputable def Xta : PC Try.prog := ⟨62, Xhd, [(false, [.int .i64])], Xit, Xip, okpat⟩
noncomputable def Xs9 : PC Try.prog := ⟨66, Xhc, [(false, [.int .i64])], Xit, Xip, okrat⟩
noncomputable def T51 : Tab Try.prog := ⟨[Xta, Xs9, Xl, Xle, Xnx], [], []⟩
def Xcb [InW] (e : List Ed) (K : Nat -> List Ed -> Prop) : Prop := match e with
 | [.i a, .ro _ hd, .i n, .i i, .l dr, .i lo, .i hi] => Pre (n = hd.xs.length /\ Sp.DrOk hd.xs dr /\ (0 <= a /\ a < dr.length) /\ Sp.Acc hd.xs.length i lo /\ Sp.Acc hd.xs.length i hi)
   (K 0 [.i (Sp.sumF (Sp.haL hd.xs dr a.toNat) i.toNat (hd.xs.length - i.toNat) lo), .i (Sp.sumF (Sp.haH hd.xs dr a.toNat) i.toNat (hd.xs.length - i.toNat) hi)])
 | _ => False
noncomputable def Xci : LC where
 len := 70
 T := [(1, .int .i64), (4, (.ptr 4 0)), (6, (.ptr 1 0)), (7, (.fn (.func 62) [] [])), (26, .rs Iv4), (27, .int .i64), (28, .int .i64)]
 H := [(1, .blk 111 [(.opq 1021), (.opq 1024), (.opq 1027), (.opq 1030), (.opq 1033), (.opq 1036), (.opq 1039), (.row 13)]), (13, .arr 125 Jc), (4, .blk 32 [.int .i64, .int .i64])]
 W := ([8, 9, 10] ++ rg 29 40)
 outs := [⟨.exit 0, [(4, (.ptr 4 0))], [(4, .blk 32 [.int .i64, .int .i64])], ([1] ++ rg 6 5 ++ rg 26 43)⟩]
 spec := Xcb
def Xdn [W : InW] (a : Int) (hd : Ro Iv4) (n i : Int) (dr : Dt) (lo hi : Int) (A : List Ed -> Prop) (K : Nat -> List Ed -> Prop) : Prop :=
 Vif (decide (i < n)) (Need (decide (0 <= i) && decide (i < (↑(hd.xs.length) : Int))) (Need (decide (i.toNat < hd.xs.length)) (Need (decide (0 <= a) && decide (a < (↑(dr.length) : Int))) (Need (decide (0 <= i) && decide (i < (↑(40 : Nat) : Int))) (Need (decide (i.toNat < [Ty.int IntKind.i64, Ty.int IntKind.i64, Ty.int IntKind.i64, Ty.int IntKind.i64, Ty.int IntKind.i64, Ty.int IntKind.i64, Ty.int IntKind.i64, Ty.int IntKind.i64, Ty.int IntKind.i64, Ty.int IntKind.i64, Ty.int IntKind.i64, Ty.int IntKind.i64, Ty.int IntKind.i64, Ty.int IntKind.i64, Ty.int IntKind.i64, Ty.int IntKind.i64, Ty.int IntKind.i64, Ty.int IntKind.i64, Ty.int IntKind.i64, Ty.int IntKind.i64, Ty.int IntKind.i64, Ty.int IntKind.i64, Ty.int IntKind.i64, Ty.int IntKind.i64, Ty.int IntKind.i64, Ty.int IntKind.i64, Ty.int IntKind.i64, Ty.int IntKind.i64, Ty.int IntKind.i64, Ty.int IntKind.i64, Ty.int IntKind.i64, Ty.int IntKind.i64, Ty.int IntKind.i64, Ty.int IntKind.i64, Ty.int IntKind.i64, Ty.int IntKind.i64, Ty.int IntKind.i64, Ty.int IntKind.i64, Ty.int IntKind.i64, Ty.int IntKind.i64].length) && decide (a.toNat < dr.length)) (Pre ((Zh <= (cel hd.xs i.toNat Zbg).int /\ (cel hd.xs i.toNat Zbg).int <= 1000) /\ (Zh <= (cel hd.xs i.toNat (0+1)).int /\ (cel hd.xs i.toNat (0+1)).int <= 100) /\ Zh <= (cel hd.xs i.toNat (Zbg + 1 + 1)).int /\ (cel hd.xs i.toNat (Zbg + 1 + 1)).int <= 100) (Ar .i64 ((cel dr a.toNat i.toNat).int * Sp.atV (cel hd.xs i.toNat Zbg).int (cel hd.xs i.toNat (0+1)).int (cel hd.xs i.toNat (Zbg + 1 + 1)).int) fun z => Ar .i64 (lo + z) fun z => Pre ((Zh <= (cel hd.xs i.toNat Zbg).int /\ (cel hd.xs i.toNat Zbg).int <= 1000) /\ (Zh <= (cel hd.xs i.toNat (0+1)).int /\ (cel hd.xs i.toNat (0+1)).int <= 100) /\ Zh <= (cel hd.xs i.toNat (Zbg + 1 + 1 + 1)).int /\ (cel hd.xs i.toNat (Zbg + 1 + 1 + 1)).int <= 100) (Ar .i64 ((cel dr a.toNat i.toNat).int * Sp.atV (cel hd.xs i.toNat Zbg).int (cel hd.xs i.toNat (0+1)).int (cel hd.xs i.toNat (Zbg + 1 + 1 + 1)).int) fun z_1 => Ar .i64 (hi + z_1) fun z_2 => Ar .i64 (i + 1) fun z_3 => A [.i a, .ro _ hd, .i n, .i z_3, .l dr, .i z, .i z_2])))))))) (K 0 [.i lo, .i hi])
theorem Xkh (W : InW) (a hd n i dr lo hi A K) : Ye6 { cxT Try.prog TT T51 1000 50 with fn := 27 } 1000 (Ym7 Try.prog 27 7) (Yd5 70 [(1, .si .i64 a), (4, .ptr 4 0), (6, .ptr 1 0), (7, .fn (.func 62) [] []), (26, .rs _ hd), (27, .si .i64 n), (28, .si .i64 i)] ([8, 9, 10] ++ rg 29 40)) [(1, .blk 111 [.opq 1021, .opq 1024, .opq 1027, .opq 1030, .opq 1033, .opq 1036, .opq 1039, .rw 13]), (13, .arr 125 Jc dr), (4, .blk 32 [.si .i64 lo, .si .i64 hi])] (Ys7 Xci A K) = Xdn a hd n i dr lo hi A K := by kernel_rfl
def Xdx : Prop := ∀ (W : InW) (body a : Code), (Try.prog.funcs[27]?).bind (·.body) = some body -> a ∈ Yu body -> Yfq a = 7 -> @Yl3 W Try.prog a (@Ysd W Xci)
theorem Xlp (meas : [InW] -> List Ed -> Nat) (hyp_ : ∀ (W : InW) a hd n i dr lo hi K, Xcb [.i a, .ro _ hd, .i n, .i i, .l dr, .i lo, .i hi] K -> ∀ A : List Ed -> Prop, (∀ e, meas e < meas [.i a, .ro _ hd, .i n, .i i, .l dr, .i lo, .i hi] -> Xcb e K -> A e) -> Xdn a hd n i dr lo hi A K) : Xdx :=
 LE.okOf' (fun W => @TT W) (fun W => @Xb W) Xa T51 1000 50 (by kernel_rfl) Xci (fun W => @meas W) fun W a hd n i dr lo hi K hs =>
  (Xkh W a hd n i dr lo hi (fun e => meas e < meas [.i a, .ro _ hd, .i n, .i i, .l dr, .i lo, .i hi] /\ Xcb e K) K).mpr (hyp_ W a hd n i dr lo hi K hs _ fun e h1 h2 => ⟨h1, h2⟩)
theorem Xo7 : Xdx := Xlp (fun e => match e with | _ :: .ro _ hd :: _ :: .i i :: _ => ((hd.xs.length : Int) - i).toNat | _ => 0) fun W a hd n i dr lo hi K hs A hA => by
 obtain ⟨⟨rfl, hD, ha, hl, hh⟩, hk⟩ := hs;unfold Xdn;delta Zbg Zh;have h0 := hl.i0;have h1 := hl.i1;have hhl := hD.hl;refine vifd (fun e => ?_) fun e => ?_
 ·rw [show hd.xs.length - i.toNat = (hd.xs.length - (i.toNat + 1)) + 1 by omega] at hk;simp only [Sp.sumF] at hk;have ez : (i + 1).toNat = i.toNat + 1 := by omega
  have hO := hD.hdO i.toNat (by omega);have hT := hD.drO a.toNat i.toNat;have a1 := Sp.at_in hO (t := Sp.hLo hd.xs i.toNat) hO.lo (by have := hO.le; have := hO.hi; omega);have a2 := Sp.at_in hO (t := Sp.hHi hd.xs i.toNat) (by have := hO.le; have := hO.lo; omega) hO.hi;have m1 := Sp.mul_in (show -60 <= Sp.tD dr a.toNat i.toNat by omega) hT.2 a1.1 a1.2;have m2 := Sp.mul_in (show -60 <= Sp.tD dr a.toNat i.toNat by omega) hT.2 a2.1 a2.2;have hA' : ∀ x y, x = lo + Sp.haL hd.xs dr a.toNat i.toNat -> y = hi + Sp.haH hd.xs dr a.toNat i.toNat -> A [.i a, .ro _ hd, .i hd.xs.length, .i (i + 1), .l dr, .i x, .i y] := fun x y hx hy => hA _ (by show ((hd.xs.length : Int) - (i + 1)).toNat < ((hd.xs.length : Int) - i).toNat; omega) ⟨⟨rfl, hD, ha, ⟨by omega, by omega, by have := hl.lo; unfold Sp.haL at hx; omega⟩, ⟨by omega, by omega, by have := hh.lo; unfold Sp.haH at hy; omega⟩⟩, by rw [ez, hx, hy]; exact hk⟩;have l1 := hl.lo;have l2 := hh.lo;have b1 := hO.ba;have b2 := hO.pe;have b3 := hO.lo;have b4 := hO.hi;have b5 := hO.le;clear hA hk;simp only [Nat.zero_add, List.length_cons, List.length_nil, Nat.reduceAdd];simp only [Sp.tD, Sp.atH, Sp.hBa, Sp.hPe, Sp.hLo, Sp.hHi, Sp.atV, Sp.haL, Sp.haH] at *
  repeat' (first | omega | with_reducible refine vifd (fun _ => ?_) fun _ => ?_ | with_reducible refine vifn (fun _ => ?_) fun _ => ?_ | with_reducible refine vifq (fun _ => ?_) fun _ => ?_ | with_reducible refine vifq0 (fun _ => ?_) fun _ => ?_ | with_reducible refine vifq1 (fun _ => ?_) fun _ => ?_ | with_reducible refine vifb (fun _ => ?_) fun _ => ?_ | with_reducible refine vif (fun _ => ?_) fun _ => ?_ | (with_reducible refine nedd ?_ ?_; omega) | (with_reducible refine ned ?_ ?_; simp only [Bool.and_eq_true, decide_eq_true_eq]; omega) | (with_reducible refine ar64 ?_ ?_; omega) | (with_reducible refine Xe ?_ ?_; (first | trivial | omega | assumption | (refine ⟨?_, ?_⟩ <;> first | trivial | omega | assumption) | (refine ⟨?_, ?_, ?_⟩ <;> first | trivial | omega | assumption) | (refine ⟨?_, ?_, ?_, ?_⟩ <;> first | trivial | omega | assumption))))
  all_goals first | exact hA' _ _ rfl rfl | skip
  all_goals trace_state
 ·rw [show hd.xs.length - i.toNat = 0 by omega] at hk;exact hk
noncomputable def Xpc : LE Try.prog := ⟨27, 7, fun W => @Ysd W Xci, Xo7⟩
namespace Sp
def haE (pl sh ti st : Dt) (ce : Int) (hd rt : Dt) (a : Int) : Int := rtsE pl sh ti st ce hd rt [[.i a]]
def hvLo (pl sh ti st : Dt) (ce : Int) (hd rt : Dt) (a : Int) : Int := if haE pl sh ti st ce hd rt a = 0 then haLo hd rt a.toNat else 0
def hvHi (pl sh ti st : Dt) (ce : Int) (hd rt : Dt) (a : Int) : Int := if haE pl sh ti st ce hd rt a = 0 then haHi hd rt a.toNat else 0
structure RfOk (hd rt : Dt) (a : Int) : Prop where
 hl : hd.length <= 40
 hdO : ∀ i, i < hd.length -> HdOk hd i
 a0 : 0 <= a
 a1 : a < rt.length
 ln : (rtL rt a.toNat).length <= 60
end Sp
theorem Xno {pl sh ti st : Dt} {ce : Int} {hd rt : Dt} (h : Sp.CrOk pl sh ti st ce hd rt) {a : Int} (h0 : 0 <= a) (h1 : a < rt.length) : Sp.RfOk hd rt a := ⟨by have := h.tw.stL; have := h.hl; omega, h.hdO, h0, h1, (h.rtO a.toNat (by omega)).len.2⟩
theorem Xpp {hd rt : Dt} {a : Int} (h : Sp.RfOk hd rt a) (s : Nat) : 0 <= Sp.tms rt a.toNat s /\ Sp.tms rt a.toNat s <= 60 := by
 have := Sp.tms_in rt a.toNat s;have := h.ln;omega
theorem Xqs {hd rt : Dt} {a : Nat} (ha : a < rt.length) (hl : hd.length <= 40) : Sp.sumF (Sp.haL hd (Sp.drvN rt rt.length) a) 0 hd.length 0 = Sp.haLo hd rt a /\ Sp.sumF (Sp.haH hd (Sp.drvN rt rt.length) a) 0 hd.length 0 = Sp.haHi hd rt a := by
 unfold Sp.haLo Sp.haHi;exact ⟨Sp.sumF_congr fun k _ hk => by unfold Sp.haL; rw [Xct ha (by omega)], Sp.sumF_congr fun k _ hk => by unfold Sp.haH; rw [Xct ha (by omega)]⟩
theorem Xg4 {pl sh ti st : Dt} {ce : Int} {hd rt : Dt} {a : Int} : (Sp.haE pl sh ti st ce hd rt a = if Sp.cE pl sh ti st ce hd rt = 0 then (if Sp.inr a 0 ((rt.length : Int) - 1) then 0 else 4) else Sp.cE pl sh ti st ce hd rt) := by
 unfold Sp.haE Sp.rtsE;rw [out1];cases Sp.inr a 0 ((rt.length : Int) - 1) <;> rfl
theorem Xst {pl sh ti st : Dt} {ce : Int} {hd rt : Dt} {a : Int} (h : Sp.haE pl sh ti st ce hd rt a = 0) : Sp.CrOk pl sh ti st ce hd rt /\ 0 <= a /\ a < rt.length := by
 rw [Xg4] at h
 split at h
 ·rename_i e
  split at h
  ·rename_i e2;have := Sp.inr_iff.1 e2;exact ⟨Sp.cchk_ok e, by omega, by omega⟩
  ·omega
 ·contradiction
theorem acc0 (n : Nat) : Sp.Acc n 0 0 := ⟨by omega, by omega, by omega⟩
theorem Xh (rt : Dt) : (Sp.drvN rt rt.length).length = rt.length := by unfold Sp.drvN; simp
theorem Xuq {pl sh ti st : Dt} {ce : Int} {hd rt : Dt} {a : Int} {Q : Int -> Int -> Int -> Prop} (h : Q (Sp.hvLo pl sh ti st ce hd rt a) (Sp.hvHi pl sh ti st ce hd rt a) (Sp.haE pl sh ti st ce hd rt a)) :
  (¬ Sp.cE pl sh ti st ce hd rt = 0 -> Q 0 0 (Sp.cE pl sh ti st ce hd rt)) /\ (Sp.cE pl sh ti st ce hd rt = 0 -> Sp.inr a 0 ((rt.length : Int) - 1) = false -> Q 0 0 4) /\
  (Sp.cE pl sh ti st ce hd rt = 0 -> Sp.inr a 0 ((rt.length : Int) - 1) = true -> Sp.CrOk pl sh ti st ce hd rt /\ (0 <= a /\ a < rt.length) /\ Q (Sp.haLo hd rt a.toNat) (Sp.haHi hd rt a.toNat) 0) := by
 unfold Sp.hvLo Sp.hvHi at h;rw [Xg4] at h;refine ⟨fun e => ?_, fun e e2 => ?_, fun e e2 => ⟨Sp.cchk_ok e, by have := Sp.inr_iff.1 e2; omega, ?_⟩⟩
 ·rw [if_neg e, if_neg e, if_neg e] at h; exact h
 ·rw [if_pos e, e2, if_neg (by decide), if_neg (by decide), if_neg (by decide)] at h; exact h
 ·rw [if_pos e, e2, if_pos rfl, if_pos rfl, if_pos rfl] at h; exact h
noncomputable def T52 : Tab Try.prog := ⟨[Xl], [Xpc], [Xbi]⟩
abbrev Xed : RTs := [(true, [.int .i64, .int .i64]), (false, [.int .i64])]
def Xfg [W : InW] (c_Pl c_Sh c_Ti : Ro Jb) (c_St : Ro Jd) (c_Ce : Int) (c_Hd : Ro Iv4) (c_Rt : Ro Je) (a : Int) (Q : DS -> Prop) : Prop :=
 Pre (Sp.NamesOk c_Pl.xs /\ Sp.NamesOk c_Sh.xs /\ Sp.NamesOk c_Ti.xs) (Vif (decide (Sp.cE c_Pl.xs c_Sh.xs c_Ti.xs c_St.xs c_Ce c_Hd.xs c_Rt.xs = 0)) (Ar .i64 ((↑(c_Rt.xs.length) : Int) - 1) fun z => Pre True (Vif (Sp.out Zh z [[Cl.i a]]) (Q [[Cl.i 0, Cl.i 0], [Cl.i 4]]) (Pre ((↑(c_Hd.xs.length) : Int) = (↑(c_Hd.xs.length) : Int) /\ Sp.DrOk c_Hd.xs (Sp.drvN c_Rt.xs (c_Rt.xs.length)) /\ (0 <= a /\ a < (↑(List.length (Sp.drvN c_Rt.xs (c_Rt.xs.length))) : Int)) /\ Sp.Acc (c_Hd.xs.length) Zh Zh /\ Sp.Acc (c_Hd.xs.length) Zh Zh) (Q [[Cl.i (Sp.sumF (Sp.haL c_Hd.xs (Sp.drvN c_Rt.xs (c_Rt.xs.length)) a.toNat) Zv (c_Hd.xs.length - Int.toNat Zh) Zh), Cl.i (Sp.sumF (Sp.haH c_Hd.xs (Sp.drvN c_Rt.xs (c_Rt.xs.length)) a.toNat) Zv (c_Hd.xs.length - Int.toNat Zh) Zh)], [Cl.i 0]])))) (Vif (decide (Sp.cE c_Pl.xs c_Sh.xs c_Ti.xs c_St.xs c_Ce c_Hd.xs c_Rt.xs = 0)) ((16 : Nat) = 16 + 1) (Vif (!decide (Sp.cE c_Pl.xs c_Sh.xs c_Ti.xs c_St.xs c_Ce c_Hd.xs c_Rt.xs = 0)) (Q [[Cl.i 0, Cl.i 0], [Cl.i (Sp.cE c_Pl.xs c_Sh.xs c_Ti.xs c_St.xs c_Ce c_Hd.xs c_Rt.xs)]]) ((16 : Nat) = 16 + 1))))
theorem Xng (W : InW) (c_Pl c_Sh c_Ti c_St c_Ce c_Hd c_Rt a Q) : Yvd (cxT Try.prog TT T52 1000 50) 1000 27 [.agg [.rs _ c_Pl, .rs _ c_Sh, .rs _ c_Ti, .rs _ c_St, .si .i64 c_Ce, .rs _ c_Hd, .rs _ c_Rt], .si .i64 a] [] 0 (Yzg Xed Q) (fun _ _ _ _ => Stuck 421) = Xfg c_Pl c_Sh c_Ti c_St c_Ce c_Hd c_Rt a Q := by kernel_rfl
abbrev Xc4 : List AT := [.agg [.sl Jb, .sl Jb, .sl Jb, .sl Jd, .int .i64, .sl Iv4, .sl Je], .one (.int .i64)]
theorem Xo1 {pre : DS -> Prop} {res : DS -> DS} (hyp_ : ∀ (W : InW) (c_Pl c_Sh c_Ti : Ro Jb) (c_St : Ro Jd) (c_Ce : Int) (c_Hd : Ro Iv4) (c_Rt : Ro Je) (a : Int), pre [[.l c_Pl.xs, .l c_Sh.xs, .l c_Ti.xs, .l c_St.xs, .i c_Ce, .l c_Hd.xs, .l c_Rt.xs], [.i a]] -> ∀ Q : DS -> Prop, Q (res [[.l c_Pl.xs, .l c_Sh.xs, .l c_Ti.xs, .l c_St.xs, .i c_Ce, .l c_Hd.xs, .l c_Rt.xs], [.i a]]) -> Xfg c_Pl c_Sh c_Ti c_St c_Ce c_Hd c_Rt a Q) : PureOk Try.prog 27 Xc4 Xed pre res :=
 PureOk.of' (fun W => @TT W) (fun W => @Xb W) Xa T52 1000 50 fun W c_Pl c_Sh c_Ti c_St c_Ce c_Hd c_Rt a hp =>
  (Xng W c_Pl c_Sh c_Ti c_St c_Ce c_Hd c_Rt a (fun o => o = res [[.l c_Pl.xs, .l c_Sh.xs, .l c_Ti.xs, .l c_St.xs, .i c_Ce, .l c_Hd.xs, .l c_Rt.xs], [.i a]])).mpr (hyp_ W c_Pl c_Sh c_Ti c_St c_Ce c_Hd c_Rt a hp _ rfl)
abbrev Xpq (ds : DS) : DS := match ds with | [[.l pl, .l sh, .l ti, .l st, .i ce, .l hd, .l rt], [.i a]] => [[.i (Sp.hvLo pl sh ti st ce hd rt a), .i (Sp.hvHi pl sh ti st ce hd rt a)], [.i (Sp.haE pl sh ti st ce hd rt a)]] | _ => []
theorem Xq8 : PureOk Try.prog 27 Xc4 Xed Xf Xpq :=
 Xo1 fun W pl sh ti st ce hd rt a hp Q h => by
  have hp : Sp.NamesOk pl.xs /\ Sp.NamesOk sh.xs /\ Sp.NamesOk ti.xs := hp;unfold Xfg;delta Zv Zh;have hrt := rt.len;simp only [maxLen] at hrt;obtain ⟨q0, q1, q2⟩ := Xuq (Q := fun x y z => Q [[.i x, .i y], [.i z]]) h;clear h;simp only [out1, show Int.toNat 0 = 0 from rfl, Nat.sub_zero];refine ⟨hp, vifd (fun e => ar64 (by omega) ⟨trivial, vifb (fun e2 => q1 e e2) fun e2 => ?_⟩) fun e => vifd (fun e3 => absurd e3 e) fun _ => vifn (fun _ => q0 e) fun e3 => absurd e3 e⟩;obtain ⟨hC, ha, hq⟩ := q2 e e2;have hl : hd.xs.length <= 40 := by have := hC.tw.stL; have := hC.hl; omega
  have hs := Xqs (hd := hd.xs) (rt := rt.xs) (a := a.toNat) (by omega) hl;refine ⟨⟨trivial, Xgx hC, by rw [Xh]; exact ha, acc0 _, acc0 _⟩, ?_⟩;rw [hs.1, hs.2];exact hq
noncomputable def Xiw : PC Try.prog := ⟨27, Xc4, Xed, Xf, Xpq, Xq8⟩
def Xd7 [InW] (e : List Ed) (K : Nat -> List Ed -> Prop) : Prop := match e with
 | [.i a, .ro _ tr, .i x, .ro _ hd, .i n, .i i, .l dr] => Pre (n = hd.xs.length /\ Sp.DrOk hd.xs dr /\ (0 <= a /\ a < dr.length) /\ tr.xs.length = hd.xs.length /\ Sp.Acc hd.xs.length i x)
   (Vif (Sp.hasE (Sp.trB hd.xs tr.xs) i.toNat (hd.xs.length - i.toNat)) (K 1 []) (K 0 [.i (Sp.sumF (Sp.haT hd.xs dr tr.xs a.toNat) i.toNat (hd.xs.length - i.toNat) x)]))
 | _ => False
noncomputable def Xes : LC where
 len := 76
 T := [(1, .int .i64), (2, .rs Ja), (6, .int .i64), (8, (.ptr 1 0)), (36, .rs Iv4), (37, .int .i64), (38, .int .i64)]
 H := [(1, .blk 111 [(.opq 1021), (.opq 1024), (.opq 1027), (.opq 1030), (.opq 1033), (.opq 1036), (.opq 1039), (.row 13)]), (13, .arr 125 Jc)]
 W := ([7, 9, 10] ++ rg 39 36)
 outs := [⟨.exit 1, [(6, .int .i64)], [], ([1, 2] ++ rg 7 4 ++ rg 36 39)⟩, ⟨.ret, [(6, (.lit (.int .i64 0))), (7, (.lit (.int .i64 7)))], [], ([1, 2, 8, 9, 10] ++ rg 36 39)⟩]
 spec := Xd7
def Xfq [W : InW] (a : Int) (tr : Ro Ja) (x : Int) (hd : Ro Iv4) (n i : Int) (dr : Dt) (A : List Ed -> Prop) (K : Nat -> List Ed -> Prop) : Prop :=
 Vif (decide (i < n)) (Need (decide (0 <= i) && decide (i < (↑(hd.xs.length) : Int))) (Need (decide (i.toNat < hd.xs.length)) (Need (decide (0 <= i) && decide (i < (↑(tr.xs.length) : Int))) (Need (decide (i.toNat < tr.xs.length)) (Pre True (Vif (Sp.out (cel hd.xs i.toNat (Zbg + 1 + 1)).int (cel hd.xs i.toNat (Zbg + 1 + 1 + 1)).int [[Cl.i (cel tr.xs i.toNat Zbg).int]]) (K (0+1) []) (Need (decide (0 <= a) && decide (a < (↑(dr.length) : Int))) (Need (decide (0 <= i) && decide (i < (↑(40 : Nat) : Int))) (Need (decide (i.toNat < [Ty.int IntKind.i64, Ty.int IntKind.i64, Ty.int IntKind.i64, Ty.int IntKind.i64, Ty.int IntKind.i64, Ty.int IntKind.i64, Ty.int IntKind.i64, Ty.int IntKind.i64, Ty.int IntKind.i64, Ty.int IntKind.i64, Ty.int IntKind.i64, Ty.int IntKind.i64, Ty.int IntKind.i64, Ty.int IntKind.i64, Ty.int IntKind.i64, Ty.int IntKind.i64, Ty.int IntKind.i64, Ty.int IntKind.i64, Ty.int IntKind.i64, Ty.int IntKind.i64, Ty.int IntKind.i64, Ty.int IntKind.i64, Ty.int IntKind.i64, Ty.int IntKind.i64, Ty.int IntKind.i64, Ty.int IntKind.i64, Ty.int IntKind.i64, Ty.int IntKind.i64, Ty.int IntKind.i64, Ty.int IntKind.i64, Ty.int IntKind.i64, Ty.int IntKind.i64, Ty.int IntKind.i64, Ty.int IntKind.i64, Ty.int IntKind.i64, Ty.int IntKind.i64, Ty.int IntKind.i64, Ty.int IntKind.i64, Ty.int IntKind.i64, Ty.int IntKind.i64].length) && decide (a.toNat < dr.length)) (Need (decide (0 <= i) && decide (i < (↑(tr.xs.length) : Int))) (Need (decide (i.toNat < tr.xs.length)) (Pre ((Zh <= (cel hd.xs i.toNat Zbg).int /\ (cel hd.xs i.toNat Zbg).int <= 1000) /\ (Zh <= (cel hd.xs i.toNat (0+1)).int /\ (cel hd.xs i.toNat (0+1)).int <= 100) /\ Zh <= (cel tr.xs i.toNat Zbg).int /\ (cel tr.xs i.toNat Zbg).int <= 100) (Ar .i64 ((cel dr a.toNat i.toNat).int * Sp.atV (cel hd.xs i.toNat Zbg).int (cel hd.xs i.toNat (0+1)).int (cel tr.xs i.toNat Zbg).int) fun z => Ar .i64 (x + z) fun z => Ar .i64 (i + 1) fun z_1 => A [.i a, .ro _ tr, .i z, .ro _ hd, .i n, .i z_1, .l dr]))))))))))))) (K 0 [.i x])
theorem Xm0 (W : InW) (a tr x hd n i dr A K) : Ye6 { cxT Try.prog TT T51 1000 50 with fn := 38 } 1000 (Ym7 Try.prog 38 8) (Yd5 76 [(1, .si .i64 a), (2, .rs _ tr), (6, .si .i64 x), (8, .ptr 1 0), (36, .rs _ hd), (37, .si .i64 n), (38, .si .i64 i)] ([7, 9, 10] ++ rg 39 36)) [(1, .blk 111 [.opq 1021, .opq 1024, .opq 1027, .opq 1030, .opq 1033, .opq 1036, .opq 1039, .rw 13]), (13, .arr 125 Jc dr)] (Ys7 Xes A K) = Xfq a tr x hd n i dr A K := by kernel_rfl
def Xgn : Prop := ∀ (W : InW) (body a : Code), (Try.prog.funcs[38]?).bind (·.body) = some body -> a ∈ Yu body -> Yfq a = 8 -> @Yl3 W Try.prog a (@Ysd W Xes)
theorem Xoi (meas : [InW] -> List Ed -> Nat) (hyp_ : ∀ (W : InW) a tr x hd n i dr K, Xd7 [.i a, .ro _ tr, .i x, .ro _ hd, .i n, .i i, .l dr] K -> ∀ A : List Ed -> Prop, (∀ e, meas e < meas [.i a, .ro _ tr, .i x, .ro _ hd, .i n, .i i, .l dr] -> Xd7 e K -> A e) -> Xfq a tr x hd n i dr A K) : Xgn :=
 LE.okOf' (fun W => @TT W) (fun W => @Xb W) Xa T51 1000 50 (by kernel_rfl) Xes (fun W => @meas W) fun W a tr x hd n i dr K hs =>
  (Xm0 W a tr x hd n i dr (fun e => meas e < meas [.i a, .ro _ tr, .i x, .ro _ hd, .i n, .i i, .l dr] /\ Xd7 e K) K).mpr (hyp_ W a tr x hd n i dr K hs _ fun e h1 h2 => ⟨h1, h2⟩)
theorem Xr8 : Xgn := Xoi (fun e => match e with | [_, _, _, .ro _ hd, _, .i i, _] => ((hd.xs.length : Int) - i).toNat | _ => 0) fun W a tr x hd n i dr K hs A hA => by
 obtain ⟨⟨rfl, hD, ha, htl, hl⟩, hk⟩ := hs;unfold Xfq;delta Zbg Zh;have h0 := hl.i0;have h1 := hl.i1;have hhl := hD.hl;refine vifd (fun e => ?_) fun e => ?_
 ·rw [show hd.xs.length - i.toNat = (hd.xs.length - (i.toNat + 1)) + 1 by omega] at hk;simp only [Sp.sumF, Sp.hasE] at hk;have ez : (i + 1).toNat = i.toNat + 1 := by omega
  have hO := hD.hdO i.toNat (by omega);have hT := hD.drO a.toNat i.toNat;have bad : Sp.inr (cel tr.xs i.toNat 0).int (cel hd.xs i.toNat 2).int (cel hd.xs i.toNat 3).int = false -> K 1 [] := fun f => by
   have e7 : Sp.trB hd.xs tr.xs i.toNat = 7 := if_neg (show ¬ Sp.inr (cel tr.xs i.toNat 0).int (cel hd.xs i.toNat 2).int (cel hd.xs i.toNat 3).int = true by simp [f]);rw [decide_eq_false (show ¬ Sp.trB hd.xs tr.xs i.toNat = 0 by rw [e7]; decide)] at hk;exact hk.1 rfl
  have hin : Sp.inr (cel tr.xs i.toNat 0).int (cel hd.xs i.toNat 2).int (cel hd.xs i.toNat 3).int = true -> (0 <= (cel tr.xs i.toNat 0).int /\ (cel tr.xs i.toNat 0).int <= 100) /\ -660000 <= Sp.haT hd.xs dr tr.xs a.toNat i.toNat /\ Sp.haT hd.xs dr tr.xs a.toNat i.toNat <= 660000 := fun f => by
   have f' := Sp.inr_iff.1 f;have b3 := hO.lo;have b4 := hO.hi;simp only [Sp.hLo, Sp.hHi] at b3 b4;have a1 := Sp.at_in hO (t := (cel tr.xs i.toNat 0).int) (by omega) (by omega);exact ⟨by omega, Sp.mul_in (by omega) hT.2 a1.1 a1.2⟩
  have hA' : Sp.inr (cel tr.xs i.toNat 0).int (cel hd.xs i.toNat 2).int (cel hd.xs i.toNat 3).int = true -> ∀ y, y = x + Sp.haT hd.xs dr tr.xs a.toNat i.toNat -> A [.i a, .ro _ tr, .i y, .ro _ hd, .i hd.xs.length, .i (i + 1), .l dr] := fun f y hy => hA _ (by show ((hd.xs.length : Int) - (i + 1)).toNat < ((hd.xs.length : Int) - i).toNat; omega) ⟨⟨rfl, hD, ha, htl, ⟨by omega, by omega, by have := hl.lo; have := (hin f).2; omega⟩⟩, by
   rw [ez, hy];rw [decide_eq_true (show Sp.trB hd.xs tr.xs i.toNat = 0 from if_pos f)] at hk;exact hk⟩
  have l1 := hl.lo;have b1 := hO.ba;have b2 := hO.pe;clear hA hk;simp only [Nat.zero_add, List.length_cons, List.length_nil, Nat.reduceAdd, out1];simp only [Sp.tD, Sp.atH, Sp.hBa, Sp.hPe, Sp.atV, Sp.haT] at *;refine ned (by simp; omega) (nedd (by omega) ?_);refine ned (by simp; omega) (nedd (by omega) ⟨trivial, vifb (fun e1 => bad e1) fun e1 => ?_⟩);have g := hin e1
  repeat' (first | omega | with_reducible refine vifd (fun _ => ?_) fun _ => ?_ | with_reducible refine vifn (fun _ => ?_) fun _ => ?_ | with_reducible refine vifq (fun _ => ?_) fun _ => ?_ | with_reducible refine vifq0 (fun _ => ?_) fun _ => ?_ | with_reducible refine vifq1 (fun _ => ?_) fun _ => ?_ | with_reducible refine vifb (fun _ => ?_) fun _ => ?_ | with_reducible refine vif (fun _ => ?_) fun _ => ?_ | (with_reducible refine nedd ?_ ?_; omega) | (with_reducible refine ned ?_ ?_; simp only [Bool.and_eq_true, decide_eq_true_eq]; omega) | (with_reducible refine ar64 ?_ ?_; omega) | (with_reducible refine Xe ?_ ?_; (first | trivial | omega | assumption | (refine ⟨?_, ?_⟩ <;> first | trivial | omega | assumption) | (refine ⟨?_, ?_, ?_⟩ <;> first | trivial | omega | assumption) | (refine ⟨?_, ?_, ?_, ?_⟩ <;> first | trivial | omega | assumption))))
  all_goals first | exact hA' e1 _ rfl | skip
  all_goals trace_state
 ·rw [show hd.xs.length - i.toNat = 0 by omega] at hk;exact hk.2 rfl
noncomputable def Xsn : LE Try.prog := ⟨38, 8, fun W => @Ysd W Xes, Xr8⟩
namespace Sp
def aeE (pl sh ti st : Dt) (ce : Int) (hd rt : Dt) (a : Int) (tr : Dt) : Int := if haE pl sh ti st ce hd rt a = 0 then trErr hd tr else haE pl sh ti st ce hd rt a
def avN (pl sh ti st : Dt) (ce : Int) (hd rt : Dt) (a : Int) (tr : Dt) : Int := if aeE pl sh ti st ce hd rt a tr = 0 then sumT hd rt a.toNat tr else 0
end Sp
noncomputable def T56 : Tab Try.prog := ⟨[Xl], [Xsn], [Xbi]⟩
def Xmo [W : InW] (c_Pl c_Sh c_Ti : Ro Jb) (c_St : Ro Jd) (c_Ce : Int) (c_Hd : Ro Iv4) (c_Rt : Ro Je) (a : Int) (tr : Ro Ja) (Q : DS -> Prop) : Prop :=
 Pre (Sp.NamesOk c_Pl.xs /\ Sp.NamesOk c_Sh.xs /\ Sp.NamesOk c_Ti.xs) (Vif (decide (Sp.cE c_Pl.xs c_Sh.xs c_Ti.xs c_St.xs c_Ce c_Hd.xs c_Rt.xs = 0)) (Ar .i64 ((↑(c_Rt.xs.length) : Int) - 1) fun z => Pre True (Vif (Sp.out Zh z [[Cl.i a]]) (Q [[Cl.i 0], [Cl.i 4]]) (Vif (!decide ((↑(tr.xs.length) : Int) = (↑(c_Hd.xs.length) : Int))) (Q [[Cl.i 0], [Cl.i 3]]) (Pre ((↑(c_Hd.xs.length) : Int) = (↑(c_Hd.xs.length) : Int) /\ Sp.DrOk c_Hd.xs (Sp.drvN c_Rt.xs (c_Rt.xs.length)) /\ (0 <= a /\ a < (↑(List.length (Sp.drvN c_Rt.xs (c_Rt.xs.length))) : Int)) /\ tr.xs.length = c_Hd.xs.length /\ Sp.Acc (c_Hd.xs.length) Zh Zh) (Vif (Sp.hasE (Sp.trB c_Hd.xs tr.xs) Zv (c_Hd.xs.length - Int.toNat Zh)) (Q [[Cl.i 0], [Cl.i 7]]) (Q [[Cl.i (Sp.sumF (Sp.haT c_Hd.xs (Sp.drvN c_Rt.xs (c_Rt.xs.length)) tr.xs a.toNat) Zv (c_Hd.xs.length - Int.toNat Zh) Zh)], [Cl.i 0]])))))) (Vif (decide (Sp.cE c_Pl.xs c_Sh.xs c_Ti.xs c_St.xs c_Ce c_Hd.xs c_Rt.xs = 0)) ((16 : Nat) = 16 + 1) (Vif (!decide (Sp.cE c_Pl.xs c_Sh.xs c_Ti.xs c_St.xs c_Ce c_Hd.xs c_Rt.xs = 0)) (Q [[Cl.i 0], [Cl.i (Sp.cE c_Pl.xs c_Sh.xs c_Ti.xs c_St.xs c_Ce c_Hd.xs c_Rt.xs)]]) ((16 : Nat) = 16 + 1))))
theorem Xs2 (W : InW) (c_Pl c_Sh c_Ti c_St c_Ce c_Hd c_Rt a tr Q) : Yvd (cxT Try.prog TT T56 1000 50) 1000 38 [.agg [.rs _ c_Pl, .rs _ c_Sh, .rs _ c_Ti, .rs _ c_St, .si .i64 c_Ce, .rs _ c_Hd, .rs _ c_Rt], .si .i64 a, .rs _ tr] [] 0 (Yzg [(false, [.int .i64]), (false, [.int .i64])] Q) (fun _ _ _ _ => Stuck 421) = Xmo c_Pl c_Sh c_Ti c_St c_Ce c_Hd c_Rt a tr Q := by kernel_rfl
abbrev Xhe : List AT := [.agg [.sl Jb, .sl Jb, .sl Jb, .sl Jd, .int .i64, .sl Iv4, .sl Je], .one (.int .i64), .one (.sl Ja)]
theorem Xto {pre : DS -> Prop} {res : DS -> DS} (hyp_ : ∀ (W : InW) (c_Pl c_Sh c_Ti : Ro Jb) (c_St : Ro Jd) (c_Ce : Int) (c_Hd : Ro Iv4) (c_Rt : Ro Je) (a : Int) (tr : Ro Ja), pre [[.l c_Pl.xs, .l c_Sh.xs, .l c_Ti.xs, .l c_St.xs, .i c_Ce, .l c_Hd.xs, .l c_Rt.xs], [.i a], [.l tr.xs]] -> ∀ Q : DS -> Prop, Q (res [[.l c_Pl.xs, .l c_Sh.xs, .l c_Ti.xs, .l c_St.xs, .i c_Ce, .l c_Hd.xs, .l c_Rt.xs], [.i a], [.l tr.xs]]) -> Xmo c_Pl c_Sh c_Ti c_St c_Ce c_Hd c_Rt a tr Q) : PureOk Try.prog 38 Xhe [(false, [.int .i64]), (false, [.int .i64])] pre res :=
 PureOk.of' (fun W => @TT W) (fun W => @Xb W) Xa T56 1000 50 fun W c_Pl c_Sh c_Ti c_St c_Ce c_Hd c_Rt a tr hp =>
  (Xs2 W c_Pl c_Sh c_Ti c_St c_Ce c_Hd c_Rt a tr (fun o => o = res [[.l c_Pl.xs, .l c_Sh.xs, .l c_Ti.xs, .l c_St.xs, .i c_Ce, .l c_Hd.xs, .l c_Rt.xs], [.i a], [.l tr.xs]])).mpr (hyp_ W c_Pl c_Sh c_Ti c_St c_Ce c_Hd c_Rt a tr hp _ rfl)
abbrev Xpr (ds : DS) : DS := match ds with | [[.l pl, .l sh, .l ti, .l st, .i ce, .l hd, .l rt], [.i a], [.l tr]] => [[.i (Sp.avN pl sh ti st ce hd rt a tr)], [.i (Sp.aeE pl sh ti st ce hd rt a tr)]] | _ => []
theorem Xnl {hd rt tr : Dt} {a : Nat} (ha : a < rt.length) (hl : hd.length <= 40) : Sp.sumF (Sp.haT hd (Sp.drvN rt rt.length) tr a) 0 hd.length 0 = Sp.sumT hd rt a tr := by
 unfold Sp.sumT;exact Sp.sumF_congr fun k _ hk => by unfold Sp.haT; rw [Xct ha (by omega)]
theorem Xuu {pl sh ti st : Dt} {ce : Int} {hd rt tr : Dt} {a : Int} {Q : Int -> Int -> Prop} (h : Q (Sp.avN pl sh ti st ce hd rt a tr) (Sp.aeE pl sh ti st ce hd rt a tr)) :
  (¬ Sp.haE pl sh ti st ce hd rt a = 0 -> Q 0 (Sp.haE pl sh ti st ce hd rt a)) /\ (Sp.haE pl sh ti st ce hd rt a = 0 -> ¬ Sp.trErr hd tr = 0 -> Q 0 (Sp.trErr hd tr)) /\
  (Sp.haE pl sh ti st ce hd rt a = 0 -> Sp.trErr hd tr = 0 -> Q (Sp.sumT hd rt a.toNat tr) 0) := by
 unfold Sp.avN at h;refine ⟨fun e => ?_, fun e e2 => ?_, fun e e2 => ?_⟩
 ·have g : Sp.aeE pl sh ti st ce hd rt a tr = Sp.haE pl sh ti st ce hd rt a := by unfold Sp.aeE; rw [if_neg e]
  rw [g, if_neg e] at h; exact h
 ·have g : Sp.aeE pl sh ti st ce hd rt a tr = Sp.trErr hd tr := by unfold Sp.aeE; rw [if_pos e]
  rw [g, if_neg e2] at h; exact h
 ·have g : Sp.aeE pl sh ti st ce hd rt a tr = 0 := by unfold Sp.aeE; rw [if_pos e, e2]
  rw [g, if_pos rfl] at h; exact h
theorem Xpk {hd tr : Dt} {Q : Int -> Prop} (h : Q (Sp.trErr hd tr)) : (¬ (tr.length : Int) = hd.length -> Q 3) /\ ((tr.length : Int) = hd.length -> Sp.hasE (Sp.trB hd tr) 0 hd.length = true -> Q 7) := by
 unfold Sp.trErr at h;refine ⟨fun e => ?_, fun e e2 => ?_⟩
 ·rw [if_neg e] at h; exact h
 ·rw [if_pos e, show tr.length = hd.length by omega, if_pos e2] at h; exact h
theorem Xqr {hd tr : Dt} (e : (tr.length : Int) = hd.length) (e2 : Sp.hasE (Sp.trB hd tr) 0 hd.length = false) : Sp.trErr hd tr = 0 := by
 unfold Sp.trErr;rw [if_pos e, show tr.length = hd.length by omega, if_neg (by simp [e2])]
theorem okpAt : PureOk Try.prog 38 Xhe [(false, [.int .i64]), (false, [.int .i64])] Xf Xpr :=
 Xto fun W pl sh ti st ce hd rt a tr hp Q h => by
  have hp : Sp.NamesOk pl.xs /\ Sp.NamesOk sh.xs /\ Sp.NamesOk ti.xs := hp;unfold Xmo;delta Zv Zh;have hrt := rt.len;simp only [maxLen] at hrt;obtain ⟨q0, q1, q2⟩ := Xuu (Q := fun x y => Q [[.i x], [.i y]]) h;clear h;have hx := Xg4 (pl := pl.xs) (sh := sh.xs) (ti := ti.xs) (st := st.xs) (ce := ce) (hd := hd.xs) (rt := rt.xs) (a := a);simp only [out1, show Int.toNat 0 = 0 from rfl, Nat.sub_zero];refine ⟨hp, vifd (fun e => ar64 (by omega) ⟨trivial, vifb (fun e2 => ?_) fun e2 => ?_⟩) fun e => vifd (fun e3 => absurd e3 e) fun _ => vifn (fun _ => ?_) fun e3 => absurd e3 e⟩
  ·rw [if_pos e, e2, if_neg (by decide)] at hx;rw [hx] at q0;exact q0 (by decide)
  ·rw [if_pos e, e2, if_pos rfl] at hx;obtain ⟨hC, g0, g1⟩ := Xst hx;have hl : hd.xs.length <= 40 := by have := hC.tw.stL; have := hC.hl; omega
   refine vifn (fun e3 => ?_) fun e3 => ⟨⟨trivial, Xgx hC, by rw [Xh]; omega, by omega, acc0 _⟩, vif (fun e4 => ?_) fun e4 => ?_⟩
   ·have g := (Xpk (hd := hd.xs) (tr := tr.xs) (Q := fun z => Sp.trErr hd.xs tr.xs = z) rfl).1 e3;have := q1 hx (by rw [g]; decide);rw [g] at this;exact this
   ·have g := (Xpk (hd := hd.xs) (tr := tr.xs) (Q := fun z => Sp.trErr hd.xs tr.xs = z) rfl).2 e3 e4;have := q1 hx (by rw [g]; decide);rw [g] at this;exact this
   ·rw [Xnl (by omega) hl];exact q2 hx (Xqr e3 e4)
  ·rw [if_neg e] at hx;rw [hx] at q0;exact q0 e
noncomputable def Xtb : PC Try.prog := ⟨38, Xhe, [(false, [.int .i64]), (false, [.int .i64])], Xf, Xpr, okpAt⟩
namespace Sp
def difD (dr : Dt) (a b s : Nat) : Int := tD dr a s - tD dr b s
def leD (hd dr : Dt) (a b n : Nat) : Dt := (List.range n).map fun s => [Cl.i (leT hd (difD dr a b s) s)]
def grD (hd dr : Dt) (a b n : Nat) : Dt := (List.range n).map fun s => [Cl.i (grT hd (difD dr a b s) s)]
def adL (hd dr : Dt) (a b s : Nat) : Int := difD dr a b s * atH hd s (leT hd (difD dr a b s) s)
def adH (hd dr : Dt) (a b s : Nat) : Int := difD dr a b s * atH hd s (grT hd (difD dr a b s) s)
structure ApOk (hd dr : Dt) (a b i lo hi : Int) (le gr : Dt) : Prop where
 drK : DrOk hd dr
 a0 : 0 <= a
 a1 : a < dr.length
 b0 : 0 <= b
 b1 : b < dr.length
 loA : Acc hd.length i lo
 hiA : Acc hd.length i hi
 leE : le = leD hd dr a.toNat b.toNat i.toNat
 grE : gr = grD hd dr a.toNat b.toNat i.toNat
end Sp
def Xd8 [InW] (e : List Ed) (K : Nat -> List Ed -> Prop) : Prop := match e with
 | [.i a, .i b, .ro _ hd, .i n, .i i, .l dr, .i lo, .i hi, .l le, .l gr] => Pre (n = hd.xs.length /\ Sp.ApOk hd.xs dr a b i lo hi le gr)
   (K 0 [.l dr, .i (Sp.sumF (Sp.adL hd.xs dr a.toNat b.toNat) i.toNat (hd.xs.length - i.toNat) lo), .i (Sp.sumF (Sp.adH hd.xs dr a.toNat b.toNat) i.toNat (hd.xs.length - i.toNat) hi), .l (Sp.leD hd.xs dr a.toNat b.toNat hd.xs.length), .l (Sp.grD hd.xs dr a.toNat b.toNat hd.xs.length)])
 | _ => False
noncomputable def Xet : LC where
 len := 102
 T := [(0, (.ptr 1 0)), (1, .int .i64), (2, .int .i64), (6, (.ptr 4 0)), (16, .rs Iv4), (17, .int .i64), (18, .int .i64)]
 H := [(1, .blk 111 [(.opq 1021), (.opq 1024), (.opq 1027), (.opq 1030), (.opq 1033), (.opq 1036), (.opq 1039), (.row 13)]), (13, .arr 125 Jc), (4, .blk 35 [.int .i64, .int .i64, (.row 6), (.row 9)]), (6, .arr 3 Ja), (9, .arr 3 Ja)]
 W := (rg 7 5 ++ rg 19 82)
 outs := [⟨.exit 0, [(0, (.ptr 1 0)), (6, (.ptr 4 0))], [(1, .blk 111 [(.opq 1021), (.opq 1024), (.opq 1027), (.opq 1030), (.opq 1033), (.opq 1036), (.opq 1039), (.row 13)]), (13, .arr 125 Jc), (4, .blk 35 [.int .i64, .int .i64, (.row 12), (.row 15)]), (12, .arr 3 Ja), (15, .arr 3 Ja)], ([1, 2] ++ rg 7 5 ++ rg 16 85)⟩]
 spec := Xd8
def Zbk := [Ty.int IntKind.i64, Ty.int IntKind.i64, Ty.int IntKind.i64, Ty.int IntKind.i64, Ty.int IntKind.i64, Ty.int IntKind.i64, Ty.int IntKind.i64, Ty.int IntKind.i64, Ty.int IntKind.i64, Ty.int IntKind.i64, Ty.int IntKind.i64, Ty.int IntKind.i64, Ty.int IntKind.i64, Ty.int IntKind.i64, Ty.int IntKind.i64, Ty.int IntKind.i64, Ty.int IntKind.i64, Ty.int IntKind.i64, Ty.int IntKind.i64, Ty.int IntKind.i64, Ty.int IntKind.i64, Ty.int IntKind.i64, Ty.int IntKind.i64, Ty.int IntKind.i64, Ty.int IntKind.i64, Ty.int IntKind.i64, Ty.int IntKind.i64, Ty.int IntKind.i64, Ty.int IntKind.i64, Ty.int IntKind.i64, Ty.int IntKind.i64, Ty.int IntKind.i64, Ty.int IntKind.i64, Ty.int IntKind.i64, Ty.int IntKind.i64, Ty.int IntKind.i64, Ty.int IntKind.i64, Ty.int IntKind.i64, Ty.int IntKind.i64, Ty.int IntKind.i64]
def Zbp [W : InW] (hd : Ro Iv4) (i : Int) := cel hd.xs i.toNat (0+1)
def Zbo [W : InW] (hd : Ro Iv4) (i : Int) := cel hd.xs i.toNat Zbg
def Zbl [W : InW] (hd : Ro Iv4) (i : Int) := cel hd.xs i.toNat (Zbg + 1 + 1)
def Zbj [W : InW] (hd : Ro Iv4) (i : Int) := (Zh <= (Zbo hd i).int /\ (Zbo hd i).int <= 1000) /\ (Zh <= (Zbp hd i).int /\ (Zbp hd i).int <= 100) /\ Zh <= (Zbl hd i).int /\ (Zbl hd i).int <= 100
def Zbq [W : InW] (hd : Ro Iv4) (i : Int) := [[Cl.i (Zbl hd i).int]]
def Zbr [W : InW] (hd : Ro Iv4) (i : Int) (le : Dt) := decide ((le.length + (Zbq hd i).length) * 8 <= 140737488355328)
def Zbs [W : InW] (hd : Ro Iv4) (i : Int) (gr : Dt) := decide ((gr.length + (Zbq hd i).length) * 8 <= 140737488355328)
def Zbn [W : InW] (hd : Ro Iv4) (i : Int) := cel hd.xs i.toNat (Zbg + 1 + 1 + 1)
def Zbm [W : InW] (hd : Ro Iv4) (i : Int) := (Zh <= (Zbo hd i).int /\ (Zbo hd i).int <= 1000) /\ (Zh <= (Zbp hd i).int /\ (Zbp hd i).int <= 100) /\ Zh <= (Zbn hd i).int /\ (Zbn hd i).int <= 100
def Xfr [W : InW] (a b : Int) (hd : Ro Iv4) (n i : Int) (dr : Dt) (lo hi : Int) (le gr : Dt) (A : List Ed -> Prop) (K : Nat -> List Ed -> Prop) : Prop :=
 Vif (decide (i < n)) (Need (decide (0 <= i) && decide (i < (↑(hd.xs.length) : Int))) (Need (decide (i.toNat < hd.xs.length)) (Need (decide (0 <= a) && decide (a < (↑(dr.length) : Int))) (Need (decide (0 <= i) && decide (i < (↑(40 : Nat) : Int))) (Need (decide (i.toNat < Zbk.length) && decide (a.toNat < dr.length)) (Need (decide (0 <= b) && decide (b < (↑(dr.length) : Int))) (Need (decide (0 <= i) && decide (i < (↑(40 : Nat) : Int))) (Need (decide (i.toNat < Zbk.length) && decide (b.toNat < dr.length)) (Ar .i64 ((cel dr a.toNat i.toNat).int - (cel dr b.toNat i.toNat).int) fun z => Vif (decide ((Zbp hd i).int = 0)) (Pre (Zbj hd i) (Ar .i64 (z * Sp.atV (Zbo hd i).int (Zbp hd i).int (Zbl hd i).int) fun z_1 => Ar .i64 (lo + z_1) fun z_2 => Pre (Zbj hd i) (Ar .i64 (z * Sp.atV (Zbo hd i).int (Zbp hd i).int (Zbl hd i).int) fun z => Ar .i64 (hi + z) fun z => Need (Zbr hd i le) (Need (Zbs hd i gr) (Ar .i64 (i + 1) fun z_3 => A [.i a, .i b, .ro _ hd, .i n, .i z_3, .l dr, .i z_2, .i z, .l (le ++ (Zbq hd i)), .l (gr ++ (Zbq hd i))]))))) (Vif (decide (0 < z)) (Pre (Zbj hd i) (Ar .i64 (z * Sp.atV (Zbo hd i).int (Zbp hd i).int (Zbl hd i).int) fun z_1 => Ar .i64 (lo + z_1) fun z_2 => Pre (Zbm hd i) (Ar .i64 (z * Sp.atV (Zbo hd i).int (Zbp hd i).int (Zbn hd i).int) fun z => Ar .i64 (hi + z) fun z => Need (Zbr hd i le) (Need (decide ((gr.length + [[Cl.i (Zbn hd i).int]].length) * 8 <= 140737488355328)) (Ar .i64 (i + 1) fun z_3 => A [.i a, .i b, .ro _ hd, .i n, .i z_3, .l dr, .i z_2, .i z, .l (le ++ (Zbq hd i)), .l (gr ++ [[Cl.i (Zbn hd i).int]])]))))) (Vif (decide (z < 0)) (Pre (Zbm hd i) (Ar .i64 (z * Sp.atV (Zbo hd i).int (Zbp hd i).int (Zbn hd i).int) fun z_1 => Ar .i64 (lo + z_1) fun z_2 => Pre (Zbj hd i) (Ar .i64 (z * Sp.atV (Zbo hd i).int (Zbp hd i).int (Zbl hd i).int) fun z => Ar .i64 (hi + z) fun z => Need (decide ((le.length + [[Cl.i (Zbn hd i).int]].length) * 8 <= 140737488355328)) (Need (Zbs hd i gr) (Ar .i64 (i + 1) fun z_3 => A [.i a, .i b, .ro _ hd, .i n, .i z_3, .l dr, .i z_2, .i z, .l (le ++ [[Cl.i (Zbn hd i).int]]), .l (gr ++ (Zbq hd i))]))))) (Pre (Zbj hd i) (Ar .i64 (z * Sp.atV (Zbo hd i).int (Zbp hd i).int (Zbl hd i).int) fun z_1 => Ar .i64 (lo + z_1) fun z_2 => Pre (Zbj hd i) (Ar .i64 (z * Sp.atV (Zbo hd i).int (Zbp hd i).int (Zbl hd i).int) fun z => Ar .i64 (hi + z) fun z => Need (Zbr hd i le) (Need (Zbs hd i gr) (Ar .i64 (i + 1) fun z_3 => A [.i a, .i b, .ro _ hd, .i n, .i z_3, .l dr, .i z_2, .i z, .l (le ++ (Zbq hd i)), .l (gr ++ (Zbq hd i))])))))))))))))))) (K 0 [.l dr, .i lo, .i hi, .l le, .l gr])
theorem Xm1 (W : InW) (a b hd n i dr lo hi le gr A K) : Ye6 { cxT Try.prog TT T51 1000 50 with fn := 47 } 1000 (Ym7 Try.prog 47 3) (Yd5 102 [(0, .ptr 1 0), (1, .si .i64 a), (2, .si .i64 b), (6, .ptr 4 0), (16, .rs _ hd), (17, .si .i64 n), (18, .si .i64 i)] (rg 7 5 ++ rg 19 82)) [(1, .blk 111 [.opq 1021, .opq 1024, .opq 1027, .opq 1030, .opq 1033, .opq 1036, .opq 1039, .rw 13]), (13, .arr 125 Jc dr), (4, .blk 35 [.si .i64 lo, .si .i64 hi, .rw 6, .rw 9]), (6, .arr 3 Ja le), (9, .arr 3 Ja gr)] (Ys7 Xet A K) = Xfr a b hd n i dr lo hi le gr A K := by kernel_rfl
def Xgo : Prop := ∀ (W : InW) (body a : Code), (Try.prog.funcs[47]?).bind (·.body) = some body -> a ∈ Yu body -> Yfq a = 3 -> @Yl3 W Try.prog a (@Ysd W Xet)
theorem Xoj (meas : [InW] -> List Ed -> Nat) (hyp_ : ∀ (W : InW) a b hd n i dr lo hi le gr K, Xd8 [.i a, .i b, .ro _ hd, .i n, .i i, .l dr, .i lo, .i hi, .l le, .l gr] K -> ∀ A : List Ed -> Prop, (∀ e, meas e < meas [.i a, .i b, .ro _ hd, .i n, .i i, .l dr, .i lo, .i hi, .l le, .l gr] -> Xd8 e K -> A e) -> Xfr a b hd n i dr lo hi le gr A K) : Xgo :=
 LE.okOf' (fun W => @TT W) (fun W => @Xb W) Xa T51 1000 50 (by kernel_rfl) Xet (fun W => @meas W) fun W a b hd n i dr lo hi le gr K hs =>
  (Xm1 W a b hd n i dr lo hi le gr (fun e => meas e < meas [.i a, .i b, .ro _ hd, .i n, .i i, .l dr, .i lo, .i hi, .l le, .l gr] /\ Xd8 e K) K).mpr (hyp_ W a b hd n i dr lo hi le gr K hs _ fun e h1 h2 => ⟨h1, h2⟩)
theorem Xpd (hd dr : Dt) (a b n : Nat) : Sp.leD hd dr a b (n + 1) = Sp.leD hd dr a b n ++ [[Cl.i (Sp.leT hd (Sp.difD dr a b n) n)]] := by
 unfold Sp.leD;rw [show List.range (n + 1) = List.range n ++ [n] from List.range_succ, List.map_append];rfl
theorem Xpg (hd dr : Dt) (a b n : Nat) : Sp.grD hd dr a b (n + 1) = Sp.grD hd dr a b n ++ [[Cl.i (Sp.grT hd (Sp.difD dr a b n) n)]] := by
 unfold Sp.grD;rw [show List.range (n + 1) = List.range n ++ [n] from List.range_succ, List.map_append];rfl
theorem Xr9 : Xgo := Xoj (fun e => match e with | [_, _, .ro _ hd, _, .i i, _, _, _, _, _] => ((hd.xs.length : Int) - i).toNat | _ => 0) fun W a b hd n i dr lo hi le gr K hs A hA => by
 obtain ⟨⟨rfl, hO⟩, hk⟩ := hs;unfold Xfr;delta Zbs Zbr Zbq Zbj Zbm Zbl Zbo Zbn Zbg Zbp Zh Zbk;have hD := hO.drK;have h0 := hO.loA.i0;have h1 := hO.loA.i1;have hhl := hD.hl;have ha0 := hO.a0;have ha1 := hO.a1;have hb0 := hO.b0;have hb1 := hO.b1;refine vifd (fun e => ?_) fun e => ?_
 ·rw [show hd.xs.length - i.toNat = (hd.xs.length - (i.toNat + 1)) + 1 by omega] at hk;simp only [Sp.sumF] at hk;have ez : (i + 1).toNat = i.toNat + 1 := by omega
  have hH := hD.hdO i.toNat (by omega);have ta := hD.drO a.toNat i.toNat;have tb := hD.drO b.toNat i.toNat;have gl := Sp.leT_in (n := Sp.difD dr a.toNat b.toNat i.toNat) hH;have gg := Sp.grT_in (n := Sp.difD dr a.toNat b.toNat i.toNat) hH;have b3 := hH.lo;have b4 := hH.hi;have a1 := Sp.at_in hH (t := Sp.leT hd.xs (Sp.difD dr a.toNat b.toNat i.toNat) i.toNat) (by omega) (by omega);have a2 := Sp.at_in hH (t := Sp.grT hd.xs (Sp.difD dr a.toNat b.toNat i.toNat) i.toNat) (by omega) (by omega);have m1 := Sp.mul_in (n := Sp.difD dr a.toNat b.toNat i.toNat) (by unfold Sp.difD; omega) (by unfold Sp.difD; omega) a1.1 a1.2;have m2 := Sp.mul_in (n := Sp.difD dr a.toNat b.toNat i.toNat) (by unfold Sp.difD; omega) (by unfold Sp.difD; omega) a2.1 a2.2;have hle : le.length = i.toNat := by rw [hO.leE]; unfold Sp.leD; simp
  have hgr : gr.length = i.toNat := by rw [hO.grE]; unfold Sp.grD; simp
  have hA' : ∀ u v x y, u = Sp.leT hd.xs (Sp.difD dr a.toNat b.toNat i.toNat) i.toNat -> v = Sp.grT hd.xs (Sp.difD dr a.toNat b.toNat i.toNat) i.toNat -> x = lo + Sp.difD dr a.toNat b.toNat i.toNat * Sp.atH hd.xs i.toNat u -> y = hi + Sp.difD dr a.toNat b.toNat i.toNat * Sp.atH hd.xs i.toNat v -> A [.i a, .i b, .ro _ hd, .i hd.xs.length, .i (i + 1), .l dr, .i x, .i y, .l (le ++ [[.i u]]), .l (gr ++ [[.i v]])] := fun u v x y hu hv hx hy => hA _ (by show ((hd.xs.length : Int) - (i + 1)).toNat < ((hd.xs.length : Int) - i).toNat; omega) ⟨⟨rfl, ⟨hD, ha0, ha1, hb0, hb1, ⟨by omega, by omega, by have := hO.loA.lo; rw [hu] at hx; omega⟩, ⟨by omega, by omega, by have := hO.hiA.lo; rw [hv] at hy; omega⟩, by rw [ez, Xpd, hO.leE, hu], by rw [ez, Xpg, hO.grE, hv]⟩⟩, by rw [ez, hx, hy, hu, hv]; exact hk⟩;have l1 := hO.loA.lo;have l2 := hO.hiA.lo;have b1 := hH.ba;have b2 := hH.pe;have b5 := hH.le;clear hA hk;simp only [Nat.zero_add, List.length_cons, List.length_nil, Nat.reduceAdd];simp only [show (cel hd.xs i.toNat 0).int = Sp.hBa hd.xs i.toNat from rfl, show (cel hd.xs i.toNat 1).int = Sp.hPe hd.xs i.toNat from rfl, show (cel hd.xs i.toNat 2).int = Sp.hLo hd.xs i.toNat from rfl, show (cel hd.xs i.toNat 3).int = Sp.hHi hd.xs i.toNat from rfl];simp only [show ∀ t, Sp.atV (Sp.hBa hd.xs i.toNat) (Sp.hPe hd.xs i.toNat) t = Sp.atH hd.xs i.toNat t from fun _ => rfl, show (cel dr a.toNat i.toNat).int - (cel dr b.toNat i.toNat).int = Sp.difD dr a.toNat b.toNat i.toNat from rfl];have hn : -60 <= Sp.difD dr a.toNat b.toNat i.toNat /\ Sp.difD dr a.toNat b.toNat i.toNat <= 60 := by unfold Sp.difD; omega
  generalize hN : Sp.difD dr a.toNat b.toNat i.toNat = N at *
  repeat (first | (with_reducible refine nedd ?_ ?_; omega) | (with_reducible refine ned ?_ ?_; simp only [Bool.and_eq_true, decide_eq_true_eq]; omega))
  refine ar64 (by omega) (vifd (fun c1 => ?_) fun c1 => vifd (fun c2 => ?_) fun c2 => vifd (fun c3 => ?_) fun c3 => ?_)
  ·have e1 : Sp.leT hd.xs N i.toNat = Sp.hLo hd.xs i.toNat := by unfold Sp.leT; rw [if_pos c1]
   have e2 : Sp.grT hd.xs N i.toNat = Sp.hLo hd.xs i.toNat := by unfold Sp.grT; rw [if_pos c1]
   rw [e1] at m1;rw [e2] at m2
   repeat' (first | omega | with_reducible refine vifd (fun _ => ?_) fun _ => ?_ | with_reducible refine vifn (fun _ => ?_) fun _ => ?_ | with_reducible refine vifq (fun _ => ?_) fun _ => ?_ | with_reducible refine vifq0 (fun _ => ?_) fun _ => ?_ | with_reducible refine vifq1 (fun _ => ?_) fun _ => ?_ | with_reducible refine vifb (fun _ => ?_) fun _ => ?_ | with_reducible refine vif (fun _ => ?_) fun _ => ?_ | (with_reducible refine nedd ?_ ?_; omega) | (with_reducible refine ned ?_ ?_; simp only [Bool.and_eq_true, decide_eq_true_eq]; omega) | (with_reducible refine ar64 ?_ ?_; omega) | (with_reducible refine Xe ?_ ?_; (first | trivial | omega | assumption | (refine ⟨?_, ?_⟩ <;> first | trivial | omega | assumption) | (refine ⟨?_, ?_, ?_⟩ <;> first | trivial | omega | assumption) | (refine ⟨?_, ?_, ?_, ?_⟩ <;> first | trivial | omega | assumption))))
   all_goals exact hA' _ _ _ _ e1.symm e2.symm rfl rfl
  ·have e1 : Sp.leT hd.xs N i.toNat = Sp.hLo hd.xs i.toNat := by unfold Sp.leT; rw [if_neg c1, if_neg (by omega)]
   have e2 : Sp.grT hd.xs N i.toNat = Sp.hHi hd.xs i.toNat := by unfold Sp.grT; rw [if_neg c1, if_pos c2]
   rw [e1] at m1;rw [e2] at m2
   repeat' (first | omega | with_reducible refine vifd (fun _ => ?_) fun _ => ?_ | with_reducible refine vifn (fun _ => ?_) fun _ => ?_ | with_reducible refine vifq (fun _ => ?_) fun _ => ?_ | with_reducible refine vifq0 (fun _ => ?_) fun _ => ?_ | with_reducible refine vifq1 (fun _ => ?_) fun _ => ?_ | with_reducible refine vifb (fun _ => ?_) fun _ => ?_ | with_reducible refine vif (fun _ => ?_) fun _ => ?_ | (with_reducible refine nedd ?_ ?_; omega) | (with_reducible refine ned ?_ ?_; simp only [Bool.and_eq_true, decide_eq_true_eq]; omega) | (with_reducible refine ar64 ?_ ?_; omega) | (with_reducible refine Xe ?_ ?_; (first | trivial | omega | assumption | (refine ⟨?_, ?_⟩ <;> first | trivial | omega | assumption) | (refine ⟨?_, ?_, ?_⟩ <;> first | trivial | omega | assumption) | (refine ⟨?_, ?_, ?_, ?_⟩ <;> first | trivial | omega | assumption))))
   all_goals exact hA' _ _ _ _ e1.symm e2.symm rfl rfl
  ·have e1 : Sp.leT hd.xs N i.toNat = Sp.hHi hd.xs i.toNat := by unfold Sp.leT; rw [if_neg c1, if_pos c3]
   have e2 : Sp.grT hd.xs N i.toNat = Sp.hLo hd.xs i.toNat := by unfold Sp.grT; rw [if_neg c1, if_neg c2]
   rw [e1] at m1;rw [e2] at m2
   repeat' (first | omega | with_reducible refine vifd (fun _ => ?_) fun _ => ?_ | with_reducible refine vifn (fun _ => ?_) fun _ => ?_ | with_reducible refine vifq (fun _ => ?_) fun _ => ?_ | with_reducible refine vifq0 (fun _ => ?_) fun _ => ?_ | with_reducible refine vifq1 (fun _ => ?_) fun _ => ?_ | with_reducible refine vifb (fun _ => ?_) fun _ => ?_ | with_reducible refine vif (fun _ => ?_) fun _ => ?_ | (with_reducible refine nedd ?_ ?_; omega) | (with_reducible refine ned ?_ ?_; simp only [Bool.and_eq_true, decide_eq_true_eq]; omega) | (with_reducible refine ar64 ?_ ?_; omega) | (with_reducible refine Xe ?_ ?_; (first | trivial | omega | assumption | (refine ⟨?_, ?_⟩ <;> first | trivial | omega | assumption) | (refine ⟨?_, ?_, ?_⟩ <;> first | trivial | omega | assumption) | (refine ⟨?_, ?_, ?_, ?_⟩ <;> first | trivial | omega | assumption))))
   all_goals exact hA' _ _ _ _ e1.symm e2.symm rfl rfl
  ·have e1 : Sp.leT hd.xs N i.toNat = Sp.hLo hd.xs i.toNat := by unfold Sp.leT; rw [if_neg c1, if_neg c3]
   have e2 : Sp.grT hd.xs N i.toNat = Sp.hLo hd.xs i.toNat := by unfold Sp.grT; rw [if_neg c1, if_neg c2]
   rw [e1] at m1;rw [e2] at m2
   repeat' (first | omega | with_reducible refine vifd (fun _ => ?_) fun _ => ?_ | with_reducible refine vifn (fun _ => ?_) fun _ => ?_ | with_reducible refine vifq (fun _ => ?_) fun _ => ?_ | with_reducible refine vifq0 (fun _ => ?_) fun _ => ?_ | with_reducible refine vifq1 (fun _ => ?_) fun _ => ?_ | with_reducible refine vifb (fun _ => ?_) fun _ => ?_ | with_reducible refine vif (fun _ => ?_) fun _ => ?_ | (with_reducible refine nedd ?_ ?_; omega) | (with_reducible refine ned ?_ ?_; simp only [Bool.and_eq_true, decide_eq_true_eq]; omega) | (with_reducible refine ar64 ?_ ?_; omega) | (with_reducible refine Xe ?_ ?_; (first | trivial | omega | assumption | (refine ⟨?_, ?_⟩ <;> first | trivial | omega | assumption) | (refine ⟨?_, ?_, ?_⟩ <;> first | trivial | omega | assumption) | (refine ⟨?_, ?_, ?_, ?_⟩ <;> first | trivial | omega | assumption))))
   all_goals exact hA' _ _ _ _ e1.symm e2.symm rfl rfl
 ·have hl : i.toNat = hd.xs.length := by omega
  rw [show hd.xs.length - i.toNat = 0 by omega] at hk;rw [<- hl, <- hO.leE, <- hO.grE] at hk;exact hk
noncomputable def Xso : LE Try.prog := ⟨47, 3, fun W => @Ysd W Xet, Xr9⟩
noncomputable def T61 : Tab Try.prog := ⟨[], [Xso], []⟩
def Xim [InW] (e : List Ed) (K : Nat -> List Ed -> Prop) : Prop := match e with
 | [.i a, .i b, .ro _ pl, .ro _ sh, .ro _ ti, .ro _ st, .i ce, .ro _ hd, .ro _ rt, .l dr] => Pre (Sp.DrOk hd.xs dr /\ (0 <= a /\ a < dr.length) /\ 0 <= b /\ b < dr.length)
   (K 0 [.i (Sp.sumF (Sp.adL hd.xs dr a.toNat b.toNat) 0 hd.xs.length 0), .i (Sp.sumF (Sp.adH hd.xs dr a.toNat b.toNat) 0 hd.xs.length 0), .ro _ pl, .ro _ sh, .ro _ ti, .ro _ st, .i ce, .ro _ hd, .ro _ rt, .l dr, .l (Sp.leD hd.xs dr a.toNat b.toNat hd.xs.length), .l (Sp.grD hd.xs dr a.toNat b.toNat hd.xs.length)])
 | _ => False
noncomputable def Xk : CC where
 g := 47
 args := [(.ptr 1 0), .int .i64, .int .i64]
 H := [(1, .blk 111 [.rs Jb, .rs Jb, .rs Jb, .rs Jd, .int .i64, .rs Iv4, .rs Je, (.row 4)]), (4, .arr 125 Jc)]
 outs := [⟨false, .agg [.int .i64, .int .i64, (.row 9), (.row 12)], [(1, .blk 111 [.rs Jb, .rs Jb, .rs Jb, .rs Jd, .int .i64, .rs Iv4, .rs Je, (.row 4)]), (4, .arr 125 Jc), (9, .arr 3 Ja), (12, .arr 3 Ja)], false⟩]
 spec := Xim
def Xdo [W : InW] (a b : Int) (pl sh ti : Ro Jb) (st : Ro Jd) (ce : Int) (hd : Ro Iv4) (rt : Ro Je) (dr : Dt) (K : Nat -> List Ed -> Prop) : Prop :=
 Pre ((↑(hd.xs.length) : Int) = (↑(hd.xs.length) : Int) /\ Sp.ApOk hd.xs dr a b Zh Zh Zh [] []) (K 0 [.i (Sp.sumF (Sp.adL hd.xs dr a.toNat b.toNat) Zv (hd.xs.length - Int.toNat Zh) Zh), .i (Sp.sumF (Sp.adH hd.xs dr a.toNat b.toNat) Zv (hd.xs.length - Int.toNat Zh) Zh), .ro _ pl, .ro _ sh, .ro _ ti, .ro Zc st, .i ce, .ro _ hd, .ro [Ty.sl [Ty.int IntKind.i64, Ty.bool]] rt, .l dr, .l (Sp.leD hd.xs dr a.toNat b.toNat (hd.xs.length)), .l (Sp.grD hd.xs dr a.toNat b.toNat (hd.xs.length))])
theorem Xki (W : InW) (a b pl sh ti st ce hd rt dr K) : Yva (cxT Try.prog TT T61 1000 50) 1000 47 [.ptr 1 0, .si .i64 a, .si .i64 b] [(1, .blk 111 [.rs _ pl, .rs _ sh, .rs _ ti, .rs _ st, .si .i64 ce, .rs _ hd, .rs _ rt, .rw 4]), (4, .arr 125 Jc dr)] (fun v h => outC Xk.H [.ro _ pl, .ro _ sh, .ro _ ti, .ro _ st, .i ce, .ro _ hd, .ro _ rt, .l dr] Xk.outs 0 false v h K) (fun v h => outC Xk.H [.ro _ pl, .ro _ sh, .ro _ ti, .ro _ st, .i ce, .ro _ hd, .ro _ rt, .l dr] Xk.outs 0 true v h K) = Xdo a b pl sh ti st ce hd rt dr K := by kernel_rfl
theorem Xlr (hyp_ : ∀ (W : InW) a b pl sh ti st ce hd rt dr K, Xim [.i a, .i b, .ro _ pl, .ro _ sh, .ro _ ti, .ro _ st, .i ce, .ro _ hd, .ro _ rt, .l dr] K -> Xdo a b pl sh ti st ce hd rt dr K) : ∀ W : InW, @CallC W Try.prog Xk :=
 CC.okOf (fun W => @TT W) (fun W => @Xb W) Xa T61 1000 50 Xk fun W a b pl sh ti st ce hd rt dr K hs => (Xki W a b pl sh ti st ce hd rt dr K).mpr (hyp_ W a b pl sh ti st ce hd rt dr K hs)
theorem Xo8 : ∀ W : InW, @CallC W Try.prog Xk := Xlr fun W a b pl sh ti st ce hd rt dr K hs => by
 obtain ⟨⟨h1, h2, h3, h4⟩, hk⟩ := hs;unfold Xdo;delta Zv Zc Zh;refine ⟨⟨rfl, ⟨h1, h2.1, h2.2, h3, h4, acc0 _, acc0 _, rfl, rfl⟩⟩, ?_⟩;exact hk
noncomputable def Xe1 := ceOf Xk Xo8
namespace Sp
def pairE (pl sh ti st : Dt) (ce : Int) (hd rt : Dt) (a b : Int) : Int := rtsE pl sh ti st ce hd rt [[.i a], [.i b]]
def paLo (pl sh ti st : Dt) (ce : Int) (hd rt : Dt) (a b : Int) : Int := if pairE pl sh ti st ce hd rt a b = 0 then apLo hd rt a.toNat b.toNat else 0
def paHi (pl sh ti st : Dt) (ce : Int) (hd rt : Dt) (a b : Int) : Int := if pairE pl sh ti st ce hd rt a b = 0 then apHi hd rt a.toNat b.toNat else 0
def paLe (pl sh ti st : Dt) (ce : Int) (hd rt : Dt) (a b : Int) : Dt := if pairE pl sh ti st ce hd rt a b = 0 then apLe hd rt a.toNat b.toNat hd.length else []
def paGr (pl sh ti st : Dt) (ce : Int) (hd rt : Dt) (a b : Int) : Dt := if pairE pl sh ti st ce hd rt a b = 0 then apGr hd rt a.toNat b.toNat hd.length else []
end Sp
theorem Xg3 {pl sh ti st : Dt} {ce : Int} {hd rt : Dt} {a b : Int} : (Sp.pairE pl sh ti st ce hd rt a b = if Sp.cE pl sh ti st ce hd rt = 0 then (if Sp.inr a 0 ((rt.length : Int) - 1) && Sp.inr b 0 ((rt.length : Int) - 1) then 0 else 4) else Sp.cE pl sh ti st ce hd rt) := by
 unfold Sp.pairE Sp.rtsE;rw [out2];cases Sp.inr a 0 ((rt.length : Int) - 1) <;> cases Sp.inr b 0 ((rt.length : Int) - 1) <;> rfl
theorem Xge {pl sh ti st : Dt} {ce : Int} {hd rt : Dt} {a b : Int} (h : Sp.pairE pl sh ti st ce hd rt a b = 0) : Sp.CrOk pl sh ti st ce hd rt /\ (0 <= a /\ a < rt.length) /\ 0 <= b /\ b < rt.length := by
 rw [Xg3] at h
 split at h
 ·rename_i e
  split at h
  ·rename_i e2;simp only [Bool.and_eq_true, Sp.inr_iff] at e2;exact ⟨Sp.cchk_ok e, by omega, by omega⟩
  ·omega
 ·contradiction
theorem Xha {rt : Dt} {a b s : Nat} (ha : a < rt.length) (hb : b < rt.length) (hs : s < 40) : Sp.difD (Sp.drvN rt rt.length) a b s = Sp.dif rt a b s := by
 unfold Sp.difD Sp.dif;rw [Xct ha hs, Xct hb hs]
theorem Xmk {hd rt : Dt} {a b : Nat} (ha : a < rt.length) (hb : b < rt.length) (hl : hd.length <= 40) :
  Sp.sumF (Sp.adL hd (Sp.drvN rt rt.length) a b) 0 hd.length 0 = Sp.apLo hd rt a b /\ Sp.sumF (Sp.adH hd (Sp.drvN rt rt.length) a b) 0 hd.length 0 = Sp.apHi hd rt a b /\
  Sp.leD hd (Sp.drvN rt rt.length) a b hd.length = Sp.apLe hd rt a b hd.length /\ Sp.grD hd (Sp.drvN rt rt.length) a b hd.length = Sp.apGr hd rt a b hd.length := by
 unfold Sp.apLo Sp.apHi Sp.leD Sp.grD Sp.apLe Sp.apGr;refine ⟨Sp.sumF_congr fun k _ hk => by unfold Sp.adL; rw [Xha ha hb (by omega)], Sp.sumF_congr fun k _ hk => by unfold Sp.adH; rw [Xha ha hb (by omega)], List.map_congr_left fun k hk => ?_, List.map_congr_left fun k hk => ?_⟩ <;>
 ·rw [List.mem_range] at hk;rw [Xha ha hb (by omega)]
theorem Xtc {pl sh ti st : Dt} {ce : Int} {hd rt : Dt} {a b : Int} {Q : Int -> Int -> Dt -> Dt -> Int -> Prop} (h : Q (Sp.paLo pl sh ti st ce hd rt a b) (Sp.paHi pl sh ti st ce hd rt a b) (Sp.paLe pl sh ti st ce hd rt a b) (Sp.paGr pl sh ti st ce hd rt a b) (Sp.pairE pl sh ti st ce hd rt a b)) :
  (¬ Sp.pairE pl sh ti st ce hd rt a b = 0 -> Q 0 0 [] [] (Sp.pairE pl sh ti st ce hd rt a b)) /\
  (Sp.pairE pl sh ti st ce hd rt a b = 0 -> Q (Sp.apLo hd rt a.toNat b.toNat) (Sp.apHi hd rt a.toNat b.toNat) (Sp.apLe hd rt a.toNat b.toNat hd.length) (Sp.apGr hd rt a.toNat b.toNat hd.length) 0) := by
 unfold Sp.paLo Sp.paHi Sp.paLe Sp.paGr at h;refine ⟨fun e => ?_, fun e => ?_⟩
 ·rw [if_neg e, if_neg e, if_neg e, if_neg e] at h; exact h
 ·rw [if_pos e, if_pos e, if_pos e, if_pos e, e] at h; exact h
abbrev Xcd : RTs := [(true, [.int .i64, .int .i64, .row 3 Ja, .row 3 Ja]), (false, [.int .i64])]
abbrev Xf4 (ds : DS) : DS := match ds with | [[.l pl, .l sh, .l ti, .l st, .i ce, .l hd, .l rt], [.i a], [.i b]] => [[.i (Sp.paLo pl sh ti st ce hd rt a b), .i (Sp.paHi pl sh ti st ce hd rt a b), .l (Sp.paLe pl sh ti st ce hd rt a b), .l (Sp.paGr pl sh ti st ce hd rt a b)], [.i (Sp.pairE pl sh ti st ce hd rt a b)]] | _ => []
noncomputable def T62 : Tab Try.prog := ⟨[Xl], [], [Xbi, Xe1]⟩
def Zbt [W : InW] (c_Rt : Ro Je) := Sp.drvN c_Rt.xs (c_Rt.xs.length)
def Xdg [W : InW] (c_Pl c_Sh c_Ti : Ro Jb) (c_St : Ro Jd) (c_Ce : Int) (c_Hd : Ro Iv4) (c_Rt : Ro Je) (a b : Int) (Q : DS -> Prop) : Prop :=
 Pre (Sp.NamesOk c_Pl.xs /\ Sp.NamesOk c_Sh.xs /\ Sp.NamesOk c_Ti.xs) (Vif (decide (Sp.cE c_Pl.xs c_Sh.xs c_Ti.xs c_St.xs c_Ce c_Hd.xs c_Rt.xs = 0)) (Ar .i64 ((↑(c_Rt.xs.length) : Int) - 1) fun z => Pre True (Vif (Sp.out Zh z [[Cl.i a], [Cl.i b]]) (Q [[Cl.i 0, Cl.i 0, Cl.l [], Cl.l []], [Cl.i 4]]) (Pre (Sp.DrOk c_Hd.xs (Zbt c_Rt) /\ (0 <= a /\ a < (↑(List.length (Zbt c_Rt)) : Int)) /\ 0 <= b /\ b < (↑(List.length (Zbt c_Rt)) : Int)) (Q [[Cl.i (Sp.sumF (Sp.adL c_Hd.xs (Zbt c_Rt) a.toNat b.toNat) (0 : Nat) (c_Hd.xs.length) Zh), Cl.i (Sp.sumF (Sp.adH c_Hd.xs (Zbt c_Rt) a.toNat b.toNat) (0 : Nat) (c_Hd.xs.length) Zh), Cl.l (Sp.leD c_Hd.xs (Zbt c_Rt) a.toNat b.toNat (c_Hd.xs.length)), Cl.l (Sp.grD c_Hd.xs (Zbt c_Rt) a.toNat b.toNat (c_Hd.xs.length))], [Cl.i 0]])))) (Vif (decide (Sp.cE c_Pl.xs c_Sh.xs c_Ti.xs c_St.xs c_Ce c_Hd.xs c_Rt.xs = 0)) ((16 : Nat) = 16 + 1) (Vif (!decide (Sp.cE c_Pl.xs c_Sh.xs c_Ti.xs c_St.xs c_Ce c_Hd.xs c_Rt.xs = 0)) (Q [[Cl.i 0, Cl.i 0, Cl.l [], Cl.l []], [Cl.i (Sp.cE c_Pl.xs c_Sh.xs c_Ti.xs c_St.xs c_Ce c_Hd.xs c_Rt.xs)]]) ((16 : Nat) = 16 + 1))))
theorem Xkt (W : InW) (c_Pl c_Sh c_Ti c_St c_Ce c_Hd c_Rt a b Q) : Yvd (cxT Try.prog TT T62 1000 50) 1000 14 [.agg [.rs _ c_Pl, .rs _ c_Sh, .rs _ c_Ti, .rs _ c_St, .si .i64 c_Ce, .rs _ c_Hd, .rs _ c_Rt], .si .i64 a, .si .i64 b] [] 0 (Yzg Xcd Q) (fun _ _ _ _ => Stuck 421) = Xdg c_Pl c_Sh c_Ti c_St c_Ce c_Hd c_Rt a b Q := by kernel_rfl
abbrev Xbu : List AT := [.agg [.sl Jb, .sl Jb, .sl Jb, .sl Jd, .int .i64, .sl Iv4, .sl Je], .one (.int .i64), .one (.int .i64)]
theorem Xl2 {pre : DS -> Prop} {res : DS -> DS} (hyp_ : ∀ (W : InW) (c_Pl c_Sh c_Ti : Ro Jb) (c_St : Ro Jd) (c_Ce : Int) (c_Hd : Ro Iv4) (c_Rt : Ro Je) (a b : Int), pre [[.l c_Pl.xs, .l c_Sh.xs, .l c_Ti.xs, .l c_St.xs, .i c_Ce, .l c_Hd.xs, .l c_Rt.xs], [.i a], [.i b]] -> ∀ Q : DS -> Prop, Q (res [[.l c_Pl.xs, .l c_Sh.xs, .l c_Ti.xs, .l c_St.xs, .i c_Ce, .l c_Hd.xs, .l c_Rt.xs], [.i a], [.i b]]) -> Xdg c_Pl c_Sh c_Ti c_St c_Ce c_Hd c_Rt a b Q) : PureOk Try.prog 14 Xbu Xcd pre res :=
 PureOk.of' (fun W => @TT W) (fun W => @Xb W) Xa T62 1000 50 fun W c_Pl c_Sh c_Ti c_St c_Ce c_Hd c_Rt a b hp =>
  (Xkt W c_Pl c_Sh c_Ti c_St c_Ce c_Hd c_Rt a b (fun o => o = res [[.l c_Pl.xs, .l c_Sh.xs, .l c_Ti.xs, .l c_St.xs, .i c_Ce, .l c_Hd.xs, .l c_Rt.xs], [.i a], [.i b]])).mpr (hyp_ W c_Pl c_Sh c_Ti c_St c_Ce c_Hd c_Rt a b hp _ rfl)
theorem Xn9 : PureOk Try.prog 14 Xbu Xcd Xf Xf4 :=
 Xl2 fun W pl sh ti st ce hd rt a b hp Q h => by
  have hp : Sp.NamesOk pl.xs /\ Sp.NamesOk sh.xs /\ Sp.NamesOk ti.xs := hp;unfold Xdg;delta Zbt Zh;have hrt := rt.len;simp only [maxLen] at hrt;obtain ⟨q0, q1⟩ := Xtc (Q := fun u v x y z => Q [[.i u, .i v, .l x, .l y], [.i z]]) h;clear h;have hx := Xg3 (pl := pl.xs) (sh := sh.xs) (ti := ti.xs) (st := st.xs) (ce := ce) (hd := hd.xs) (rt := rt.xs) (a := a) (b := b);simp only [out2];refine ⟨hp, vifd (fun e => ar64 (by omega) ⟨trivial, ?_⟩) fun e => vifd (fun e3 => absurd e3 e) fun _ => vifn (fun _ => ?_) fun e3 => absurd e3 e⟩
  ·rw [if_pos e] at hx;generalize hg : (!Sp.inr a 0 ((rt.xs.length : Int) - 1) || !Sp.inr b 0 ((rt.xs.length : Int) - 1)) = g at *;refine vif (fun e2 => ?_) fun e2 => ?_
   ·rw [if_neg (by rw [e2] at hg; intro hc; simp only [Bool.and_eq_true] at hc; simp [hc.1, hc.2] at hg)] at hx;rw [hx] at q0;exact q0 (by decide)
   ·rw [if_pos (by rw [e2] at hg; simpa using hg)] at hx;obtain ⟨hC, ha, hb⟩ := Xge hx;have hl : hd.xs.length <= 40 := by have := hC.tw.stL; have := hC.hl; omega
    have hs := Xmk (hd := hd.xs) (rt := rt.xs) (a := a.toNat) (b := b.toNat) (by omega) (by omega) hl;refine ⟨⟨Xgx hC, by rw [Xh]; exact ha, by rw [Xh]; exact hb⟩, ?_⟩;rw [hs.1, hs.2.1, hs.2.2.1, hs.2.2.2];exact q1 hx
  ·rw [if_neg e] at hx;rw [hx] at q0;exact q0 e
noncomputable def Xgc : PC Try.prog := ⟨14, Xbu, Xcd, Xf, Xf4, Xn9⟩
theorem Xjx {hd rt : Dt} {a b : Int} (ha : Sp.RfOk hd rt a) (hb : Sp.RfOk hd rt b) : (-26400000 <= Sp.apLo hd rt a.toNat b.toNat /\ Sp.apLo hd rt a.toNat b.toNat <= 26400000) /\ -26400000 <= Sp.apHi hd rt a.toNat b.toNat /\ Sp.apHi hd rt a.toNat b.toNat <= 26400000 := by
 have hl := ha.hl;have key : ∀ f : Nat -> Int, (∀ k, k < hd.length -> -660000 <= f k /\ f k <= 660000) -> -26400000 <= Sp.sumF f 0 hd.length 0 /\ Sp.sumF f 0 hd.length 0 <= 26400000 := fun f hf => by
  have := Sp.sumF_in (f := f) (c := 660000) (n := hd.length) (i := 0) (a := 0) fun k _ hk => hf k (by omega);omega
 have hd2 : ∀ k, -60 <= Sp.dif rt a.toNat b.toNat k /\ Sp.dif rt a.toNat b.toNat k <= 60 := fun k => by
  have ta := Xpp ha k;have tb := Xpp hb k;unfold Sp.dif; omega
 refine ⟨key _ fun k hk => ?_, key _ fun k hk => ?_⟩
 ·have hH := ha.hdO k hk;have g := Sp.leT_in (n := Sp.dif rt a.toNat b.toNat k) hH;have a1 := Sp.at_in hH (t := Sp.leT hd (Sp.dif rt a.toNat b.toNat k) k) (by have := hH.lo; omega) (by have := hH.hi; omega);exact Sp.mul_in (hd2 k).1 (hd2 k).2 a1.1 a1.2
 ·have hH := ha.hdO k hk;have g := Sp.grT_in (n := Sp.dif rt a.toNat b.toNat k) hH;have a1 := Sp.at_in hH (t := Sp.grT hd (Sp.dif rt a.toNat b.toNat k) k) (by have := hH.lo; omega) (by have := hH.hi; omega);exact Sp.mul_in (hd2 k).1 (hd2 k).2 a1.1 a1.2
noncomputable def T71 : Tab Try.prog := ⟨[Xg7], [], []⟩
def Xdj [W : InW] (x_Lo x_Hi : Int) (x_Le x_Gr : Ro Ja) (y_Lo y_Hi : Int) (y_Le y_Gr : Ro Ja) (Q : DS -> Prop) : Prop :=
 Vif (decide (x_Lo = y_Lo) && (decide (x_Hi = y_Hi) && true)) (Pre True (Vif (Sp.ints x_Le.xs y_Le.xs) (Pre True (Q [[Cl.b (Sp.ints x_Gr.xs y_Gr.xs)]])) (Q [[Cl.b false]]))) (Q [[Cl.b false]])
theorem Xkw (W : InW) (x_Lo x_Hi x_Le x_Gr y_Lo y_Hi y_Le y_Gr Q) : Yvd (cxT Try.prog TT T71 1000 50) 1000 16 [.agg [.si .i64 x_Lo, .si .i64 x_Hi, .rs _ x_Le, .rs _ x_Gr], .agg [.si .i64 y_Lo, .si .i64 y_Hi, .rs _ y_Le, .rs _ y_Gr]] [] 0 (Yzg [(false, [.bool])] Q) (fun _ _ _ _ => Stuck 421) = Xdj x_Lo x_Hi x_Le x_Gr y_Lo y_Hi y_Le y_Gr Q := by kernel_rfl
abbrev Xbx : List AT := [.agg [.int .i64, .int .i64, .sl Ja, .sl Ja], .agg [.int .i64, .int .i64, .sl Ja, .sl Ja]]
theorem Xl5 {pre : DS -> Prop} {res : DS -> DS} (hyp_ : ∀ (W : InW) (x_Lo x_Hi : Int) (x_Le x_Gr : Ro Ja) (y_Lo y_Hi : Int) (y_Le y_Gr : Ro Ja), pre [[.i x_Lo, .i x_Hi, .l x_Le.xs, .l x_Gr.xs], [.i y_Lo, .i y_Hi, .l y_Le.xs, .l y_Gr.xs]] -> ∀ Q : DS -> Prop, Q (res [[.i x_Lo, .i x_Hi, .l x_Le.xs, .l x_Gr.xs], [.i y_Lo, .i y_Hi, .l y_Le.xs, .l y_Gr.xs]]) -> Xdj x_Lo x_Hi x_Le x_Gr y_Lo y_Hi y_Le y_Gr Q) : PureOk Try.prog 16 Xbx [(false, [.bool])] pre res :=
 PureOk.of' (fun W => @TT W) (fun W => @Xb W) Xa T71 1000 50 fun W x_Lo x_Hi x_Le x_Gr y_Lo y_Hi y_Le y_Gr hp =>
  (Xkw W x_Lo x_Hi x_Le x_Gr y_Lo y_Hi y_Le y_Gr (fun o => o = res [[.i x_Lo, .i x_Hi, .l x_Le.xs, .l x_Gr.xs], [.i y_Lo, .i y_Hi, .l y_Le.xs, .l y_Gr.xs]])).mpr (hyp_ W x_Lo x_Hi x_Le x_Gr y_Lo y_Hi y_Le y_Gr hp _ rfl)
def Xb2 [W : InW] (x_Ro : Ro Ja) (x_Bo : Int) (y_Ro : Ro Ja) (y_Bo : Int) (Q : DS -> Prop) : Prop :=
 Vif (decide (x_Bo = y_Bo)) (Pre True (Q [[Cl.b (Sp.ints x_Ro.xs y_Ro.xs)]])) (Q [[Cl.b false]])
theorem Xj2 (W : InW) (x_Ro x_Bo y_Ro y_Bo Q) : Yvd (cxT Try.prog TT T71 1000 50) 1000 23 [.agg [.rs _ x_Ro, .si .i64 x_Bo], .agg [.rs _ y_Ro, .si .i64 y_Bo]] [] 0 (Yzg [(false, [.bool])] Q) (fun _ _ _ _ => Stuck 421) = Xb2 x_Ro x_Bo y_Ro y_Bo Q := by kernel_rfl
abbrev X6 : List AT := [.agg [.sl Ja, .int .i64], .agg [.sl Ja, .int .i64]]
theorem Xkc {pre : DS -> Prop} {res : DS -> DS} (hyp_ : ∀ (W : InW) (x_Ro : Ro Ja) (x_Bo : Int) (y_Ro : Ro Ja) (y_Bo : Int), pre [[.l x_Ro.xs, .i x_Bo], [.l y_Ro.xs, .i y_Bo]] -> ∀ Q : DS -> Prop, Q (res [[.l x_Ro.xs, .i x_Bo], [.l y_Ro.xs, .i y_Bo]]) -> Xb2 x_Ro x_Bo y_Ro y_Bo Q) : PureOk Try.prog 23 X6 [(false, [.bool])] pre res :=
 PureOk.of' (fun W => @TT W) (fun W => @Xb W) Xa T71 1000 50 fun W x_Ro x_Bo y_Ro y_Bo hp =>
  (Xj2 W x_Ro x_Bo y_Ro y_Bo (fun o => o = res [[.l x_Ro.xs, .i x_Bo], [.l y_Ro.xs, .i y_Bo]])).mpr (hyp_ W x_Ro x_Bo y_Ro y_Bo hp _ rfl)
def Xdh [W : InW] (x_A x_B : Int) (x_Tr : Ro Ja) (y_A y_B : Int) (y_Tr : Ro Ja) (Q : DS -> Prop) : Prop :=
 Vif (decide (x_A = y_A)) (Vif (decide (x_B = y_B)) (Pre True (Q [[Cl.b (Sp.ints x_Tr.xs y_Tr.xs)]])) (Q [[Cl.b false]])) (Q [[Cl.b false]])
theorem Xku (W : InW) (x_A x_B x_Tr y_A y_B y_Tr Q) : Yvd (cxT Try.prog TT T71 1000 50) 1000 26 [.agg [.si .i64 x_A, .si .i64 x_B, .rs _ x_Tr], .agg [.si .i64 y_A, .si .i64 y_B, .rs _ y_Tr]] [] 0 (Yzg [(false, [.bool])] Q) (fun _ _ _ _ => Stuck 421) = Xdh x_A x_B x_Tr y_A y_B y_Tr Q := by kernel_rfl
abbrev Xbv : List AT := [.agg [.int .i64, .int .i64, .sl Ja], .agg [.int .i64, .int .i64, .sl Ja]]
theorem Xl3 {pre : DS -> Prop} {res : DS -> DS} (hyp_ : ∀ (W : InW) (x_A x_B : Int) (x_Tr : Ro Ja) (y_A y_B : Int) (y_Tr : Ro Ja), pre [[.i x_A, .i x_B, .l x_Tr.xs], [.i y_A, .i y_B, .l y_Tr.xs]] -> ∀ Q : DS -> Prop, Q (res [[.i x_A, .i x_B, .l x_Tr.xs], [.i y_A, .i y_B, .l y_Tr.xs]]) -> Xdh x_A x_B x_Tr y_A y_B y_Tr Q) : PureOk Try.prog 26 Xbv [(false, [.bool])] pre res :=
 PureOk.of' (fun W => @TT W) (fun W => @Xb W) Xa T71 1000 50 fun W x_A x_B x_Tr y_A y_B y_Tr hp =>
  (Xku W x_A x_B x_Tr y_A y_B y_Tr (fun o => o = res [[.i x_A, .i x_B, .l x_Tr.xs], [.i y_A, .i y_B, .l y_Tr.xs]])).mpr (hyp_ W x_A x_B x_Tr y_A y_B y_Tr hp _ rfl)
abbrev Xbg (ds : DS) : DS := match ds with | [[.i a, .i b, .l c, .l d], [.i a', .i b', .l c', .l d']] => [[.b ((decide (a = a') && decide (b = b')) && (Sp.ints c c' && Sp.ints d d'))]] | _ => []
abbrev X0 (ds : DS) : DS := match ds with | [[.l c, .i b], [.l c', .i b']] => [[.b (decide (b = b') && Sp.ints c c')]] | _ => []
abbrev Xbf (ds : DS) : DS := match ds with | [[.i a, .i b, .l c], [.i a', .i b', .l c']] => [[.b (decide (a = a') && (decide (b = b') && Sp.ints c c'))]] | _ => []
theorem Xos : PureOk Try.prog 16 Xbx [(false, [.bool])] (fun _ => True) Xbg :=
 Xl5 fun W a b c d a' b' c' d' hp Q h => by
  unfold Xdj;simp only [Xbg] at h;simp only [Vif_iff, Pre_iff];generalize Sp.ints c.xs c'.xs = p at *;generalize Sp.ints d.xs d'.xs = q at *;generalize decide (a = a') = u at *;generalize decide (b = b') = v at *;cases p <;> cases q <;> cases u <;> cases v <;> simp_all
theorem Xlq : PureOk Try.prog 23 X6 [(false, [.bool])] (fun _ => True) X0 :=
 Xkc fun W c b c' b' hp Q h => by
  unfold Xb2;simp only [X0] at h;simp only [Vif_iff, Pre_iff];generalize Sp.ints c.xs c'.xs = p at *;generalize decide (b = b') = v at *;cases p <;> cases v <;> simp_all
theorem Xoo : PureOk Try.prog 26 Xbv [(false, [.bool])] (fun _ => True) Xbf :=
 Xl3 fun W a b c a' b' c' hp Q h => by
  unfold Xdh;simp only [Xbf] at h;simp only [Vif_iff, Pre_iff];generalize Sp.ints c.xs c'.xs = p at *;generalize decide (a = a') = u at *;generalize decide (b = b') = v at *;cases p <;> cases u <;> cases v <;> simp_all
noncomputable def Xgd : PC Try.prog := ⟨16, Xbx, [(false, [.bool])], fun _ => True, Xbg, Xos⟩
noncomputable def Xj7 : PC Try.prog := ⟨23, X6, [(false, [.bool])], fun _ => True, X0, Xlq⟩
noncomputable def Xlf : PC Try.prog := ⟨26, Xbv, [(false, [.bool])], fun _ => True, Xbf, Xoo⟩
namespace Sp
def pdL (pl sh ti st : Dt) (ce : Int) (hd rt : Dt) (a b : Int) : Dt := if pairE pl sh ti st ce hd rt a b = 0 then dfF rt a.toNat b.toNat 0 hd.length else []
end Sp
abbrev X8 : RTs := [(false, [.row 3 Ja]), (false, [.int .i64])]
abbrev Xdr (ds : DS) : DS := match ds with | [[.l pl, .l sh, .l ti, .l st, .i ce, .l hd, .l rt], [.i a], [.i b]] => [[.l (Sp.pdL pl sh ti st ce hd rt a b)], [.i (Sp.pairE pl sh ti st ce hd rt a b)]] | _ => []
end Go.Proofs.Ytmogofidmchdoaa
