/-
  A machine over abstract states, proved sound: the help of the proof of a law.
-/
import Derived.Test.YtmogofidmchdoaaQd
set_option linter.unusedVariables false
set_option linter.unusedSectionVars false
set_option linter.unusedSimpArgs false
namespace Go.Proofs.Ytmogofidmchdoaa
open Go.RowKit
abbrev Jc : List Ty := [.int .i64, .int .i64, .int .i64, .int .i64, .int .i64, .int .i64, .int .i64, .int .i64, .int .i64, .int .i64, .int .i64, .int .i64, .int .i64, .int .i64, .int .i64, .int .i64, .int .i64, .int .i64, .int .i64, .int .i64, .int .i64, .int .i64, .int .i64, .int .i64, .int .i64, .int .i64, .int .i64, .int .i64, .int .i64, .int .i64, .int .i64, .int .i64, .int .i64, .int .i64, .int .i64, .int .i64, .int .i64, .int .i64, .int .i64, .int .i64]
abbrev Jd : List Ty := [.int .i64, .int .i64, .int .i64, .int .i64, .int .i64, .bool, .sl [.int .i64]]
abbrev Je : List Ty := [.sl [.int .i64, .bool]]
abbrev Jf : List Ty := [.int .i64, .bool]
set_option maxRecDepth 100000
set_option maxHeartbeats 1600000
abbrev Ybf : List Ty := [.int .i64, .bool]
namespace Sp
def eFr (st : Dt) (s : Int) (b : Bool) : Int := if b then sTo st s.toNat else sFr st s.toNat
def eTo (st : Dt) (s : Int) (b : Bool) : Int := if b then sFr st s.toNat else sTo st s.toNat
end Sp
noncomputable def T21 : Tab Try.prog := ⟨[], [], []⟩
def Yts [W : InW] (t_Pl t_Sh t_Ti : Ro Jb) (t_St : Ro Jd) (x_St : Int) (x_Bk : Bool) (Q : DS -> Prop) : Prop :=
 Need (decide ((0 : Int) <= x_St) && decide (x_St < (↑(t_St.xs.length) : Int))) (Need (decide (x_St.toNat < t_St.xs.length)) (Vif x_Bk (Q [[Cl.i (cel t_St.xs x_St.toNat (0+1 : Nat)).int], [Cl.i (cel t_St.xs x_St.toNat (0 : Nat)).int]]) (Q [[Cl.i (cel t_St.xs x_St.toNat (0 : Nat)).int], [Cl.i (cel t_St.xs x_St.toNat (0+1 : Nat)).int]])))
theorem Ybao (W : InW) (t_Pl t_Sh t_Ti t_St x_St x_Bk Q) : Ybh (cxT Try.prog TT T21 1000 50) 1000 84 [.agg [.rs _ t_Pl, .rs _ t_Sh, .rs _ t_Ti, .rs _ t_St], .agg [.si .i64 x_St, .sb x_Bk]] [] 0 (Ybj [(false, [.int .i64]), (false, [.int .i64])] Q) (fun _ _ _ _ => Stuck 421) = Yts t_Pl t_Sh t_Ti t_St x_St x_Bk Q := by kernel_rfl
abbrev Yob : List AT := [.agg [.sl Jb, .sl Jb, .sl Jb, .sl Jd], .agg [.int .i64, .bool]]
theorem Ybc1 {pre : DS -> Prop} {res : DS -> DS} (hyp_ : ∀ (W : InW) (t_Pl t_Sh t_Ti : Ro Jb) (t_St : Ro Jd) (x_St : Int) (x_Bk : Bool), pre [[.l t_Pl.xs, .l t_Sh.xs, .l t_Ti.xs, .l t_St.xs], [.i x_St, .b x_Bk]] -> ∀ Q : DS -> Prop, Q (res [[.l t_Pl.xs, .l t_Sh.xs, .l t_Ti.xs, .l t_St.xs], [.i x_St, .b x_Bk]]) -> Yts t_Pl t_Sh t_Ti t_St x_St x_Bk Q) : PureOk Try.prog 84 Yob [(false, [.int .i64]), (false, [.int .i64])] pre res :=
 PureOk.of' (fun W => @TT W) (fun W => @Yo W) Yd T21 1000 50 fun W t_Pl t_Sh t_Ti t_St x_St x_Bk hp =>
  (Ybao W t_Pl t_Sh t_Ti t_St x_St x_Bk (fun o => o = res [[.l t_Pl.xs, .l t_Sh.xs, .l t_Ti.xs, .l t_St.xs], [.i x_St, .b x_Bk]])).mpr (hyp_ W t_Pl t_Sh t_Ti t_St x_St x_Bk hp _ rfl)
def Ytw [W : InW] (t_Pl t_Sh t_Ti : Ro Jb) (t_St : Ro Jd) (x_St : Int) (x_Bk : Bool) (Q : DS -> Prop) : Prop :=
 Need (decide ((0 : Int) <= x_St) && decide (x_St < (↑(t_St.xs.length) : Int))) (Need (decide (x_St.toNat < t_St.xs.length)) (Vif x_Bk (Q [[Cl.i (cel t_St.xs x_St.toNat (0+1 : Nat)).int], [Cl.i (cel t_St.xs x_St.toNat (0 : Nat)).int]]) (Q [[Cl.i (cel t_St.xs x_St.toNat (0 : Nat)).int], [Cl.i (cel t_St.xs x_St.toNat (0+1 : Nat)).int]])))
theorem Ybas (W : InW) (t_Pl t_Sh t_Ti t_St x_St x_Bk Q) : Ybh (cxT Try.prog TT T21 1000 50) 1000 93 [.agg [.rs _ t_Pl, .rs _ t_Sh, .rs _ t_Ti, .rs _ t_St], .agg [.si .i64 x_St, .sb x_Bk]] [] 0 (Ybj [(false, [.int .i64]), (false, [.int .i64])] Q) (fun _ _ _ _ => Stuck 421) = Ytw t_Pl t_Sh t_Ti t_St x_St x_Bk Q := by kernel_rfl
abbrev Yof : List AT := [.agg [.sl Jb, .sl Jb, .sl Jb, .sl Jd], .agg [.int .i64, .bool]]
theorem Ybc5 {pre : DS -> Prop} {res : DS -> DS} (hyp_ : ∀ (W : InW) (t_Pl t_Sh t_Ti : Ro Jb) (t_St : Ro Jd) (x_St : Int) (x_Bk : Bool), pre [[.l t_Pl.xs, .l t_Sh.xs, .l t_Ti.xs, .l t_St.xs], [.i x_St, .b x_Bk]] -> ∀ Q : DS -> Prop, Q (res [[.l t_Pl.xs, .l t_Sh.xs, .l t_Ti.xs, .l t_St.xs], [.i x_St, .b x_Bk]]) -> Ytw t_Pl t_Sh t_Ti t_St x_St x_Bk Q) : PureOk Try.prog 93 Yof [(false, [.int .i64]), (false, [.int .i64])] pre res :=
 PureOk.of' (fun W => @TT W) (fun W => @Yo W) Yd T21 1000 50 fun W t_Pl t_Sh t_Ti t_St x_St x_Bk hp =>
  (Ybas W t_Pl t_Sh t_Ti t_St x_St x_Bk (fun o => o = res [[.l t_Pl.xs, .l t_Sh.xs, .l t_Ti.xs, .l t_St.xs], [.i x_St, .b x_Bk]])).mpr (hyp_ W t_Pl t_Sh t_Ti t_St x_St x_Bk hp _ rfl)
abbrev Ygo (ds : DS) : DS := match ds with | [[.l _, .l _, .l _, .l st], [.i s, .b b]] => [[.i (Sp.eFr st s b)], [.i (Sp.eTo st s b)]] | _ => []
abbrev Ylu (ds : DS) : Prop := match ds with | [[.l _, .l _, .l _, .l st], [.i s, .b _]] => 0 <= s /\ s < st.length | _ => False
theorem Ybg0 : PureOk Try.prog 84 Yob [(false, [.int .i64]), (false, [.int .i64])] Ylu Ygo :=
 Ybc1 fun W pl sh ti st s b hp Q h => by
  unfold Yts;obtain ⟨h1, h2⟩ : 0 <= s /\ s < st.xs.length := hp;simp only [Ygo, Sp.eFr, Sp.eTo] at h;cases b <;> repeat' (first | omega | with_reducible refine vifd (fun _ => ?_) fun _ => ?_ | with_reducible refine vifn (fun _ => ?_) fun _ => ?_ | with_reducible refine vifq (fun _ => ?_) fun _ => ?_ | with_reducible refine vifq0 (fun _ => ?_) fun _ => ?_ | with_reducible refine vifq1 (fun _ => ?_) fun _ => ?_ | with_reducible refine vifb (fun _ => ?_) fun _ => ?_ | with_reducible refine vif (fun _ => ?_) fun _ => ?_ | (with_reducible refine nedd ?_ ?_; omega) | (with_reducible refine ned ?_ ?_; simp only [Bool.and_eq_true, decide_eq_true_eq]; omega) | (with_reducible refine ar64 ?_ ?_; omega) | (with_reducible refine Ybo ?_ ?_; (first | trivial | omega | assumption | (refine ⟨?_, ?_⟩ <;> first | trivial | omega | assumption) | (refine ⟨?_, ?_, ?_⟩ <;> first | trivial | omega | assumption) | (refine ⟨?_, ?_, ?_, ?_⟩ <;> first | trivial | omega | assumption))))
  all_goals first | contradiction | exact h
theorem Ybg5 : PureOk Try.prog 93 Yof [(false, [.int .i64]), (false, [.int .i64])] Ylu Ygo :=
 Ybc5 fun W pl sh ti st s b hp Q h => by
  unfold Ytw;obtain ⟨h1, h2⟩ : 0 <= s /\ s < st.xs.length := hp;simp only [Ygo, Sp.eFr, Sp.eTo] at h;cases b <;> repeat' (first | omega | with_reducible refine vifd (fun _ => ?_) fun _ => ?_ | with_reducible refine vifn (fun _ => ?_) fun _ => ?_ | with_reducible refine vifq (fun _ => ?_) fun _ => ?_ | with_reducible refine vifq0 (fun _ => ?_) fun _ => ?_ | with_reducible refine vifq1 (fun _ => ?_) fun _ => ?_ | with_reducible refine vifb (fun _ => ?_) fun _ => ?_ | with_reducible refine vif (fun _ => ?_) fun _ => ?_ | (with_reducible refine nedd ?_ ?_; omega) | (with_reducible refine ned ?_ ?_; simp only [Bool.and_eq_true, decide_eq_true_eq]; omega) | (with_reducible refine ar64 ?_ ?_; omega) | (with_reducible refine Ybo ?_ ?_; (first | trivial | omega | assumption | (refine ⟨?_, ?_⟩ <;> first | trivial | omega | assumption) | (refine ⟨?_, ?_, ?_⟩ <;> first | trivial | omega | assumption) | (refine ⟨?_, ?_, ?_, ?_⟩ <;> first | trivial | omega | assumption))))
  all_goals first | contradiction | exact h
noncomputable def Ybbk : PC Try.prog := ⟨84, Yob, [(false, [.int .i64]), (false, [.int .i64])], Ylu, Ygo, Ybg0⟩
noncomputable def Ybbn : PC Try.prog := ⟨93, Yof, [(false, [.int .i64]), (false, [.int .i64])], Ylu, Ygo, Ybg5⟩
noncomputable def T22 : Tab Try.prog := ⟨[Ybbk, Ybbn, Yvm, Ym2], [], []⟩
theorem Yl0 {st l : Dt} {i n : Nat} {p : Int} :
  Sp.folE st l i (n + 1) p = (if Sp.inr (Sp.xS l i) 0 ((st.length : Int) - 1) then (if Sp.xB l i && !Sp.sBo st (Sp.xS l i).toNat then 2 else if Sp.eFr st (Sp.xS l i) (Sp.xB l i) = p then Sp.folE st l (i + 1) n (Sp.eTo st (Sp.xS l i) (Sp.xB l i)) else 9) else 4) /\
  Sp.folT st l i (n + 1) p = (if Sp.inr (Sp.xS l i) 0 ((st.length : Int) - 1) then (if Sp.xB l i && !Sp.sBo st (Sp.xS l i).toNat then 0 else if Sp.eFr st (Sp.xS l i) (Sp.xB l i) = p then Sp.folT st l (i + 1) n (Sp.eTo st (Sp.xS l i) (Sp.xB l i)) else 0) else 0) := ⟨rfl, rfl⟩
theorem Y2q [InW] {st l : Dt} {i n : Nat} {p : Int} {K0 K1 : Int -> Prop} (h : Vif (decide (Sp.folE st l i (n + 1) p = 0)) (K0 (Sp.folT st l i (n + 1) p)) (K1 (Sp.folE st l i (n + 1) p))) :
  (Sp.inr (Sp.xS l i) 0 ((st.length : Int) - 1) = false -> K1 4) /\
  (Sp.inr (Sp.xS l i) 0 ((st.length : Int) - 1) = true -> Sp.xB l i = true -> Sp.sBo st (Sp.xS l i).toNat = false -> K1 2) /\
  (Sp.inr (Sp.xS l i) 0 ((st.length : Int) - 1) = true -> (Sp.xB l i = false \/ Sp.sBo st (Sp.xS l i).toNat = true) -> ¬ Sp.eFr st (Sp.xS l i) (Sp.xB l i) = p -> K1 9) /\
  (Sp.inr (Sp.xS l i) 0 ((st.length : Int) - 1) = true -> (Sp.xB l i = false \/ Sp.sBo st (Sp.xS l i).toNat = true) -> Sp.eFr st (Sp.xS l i) (Sp.xB l i) = p ->
   Vif (decide (Sp.folE st l (i + 1) n (Sp.eTo st (Sp.xS l i) (Sp.xB l i)) = 0)) (K0 (Sp.folT st l (i + 1) n (Sp.eTo st (Sp.xS l i) (Sp.xB l i)))) (K1 (Sp.folE st l (i + 1) n (Sp.eTo st (Sp.xS l i) (Sp.xB l i))))) := by
 rw [Yl0.1, Yl0.2] at h;have nb : (Sp.xB l i = false \/ Sp.sBo st (Sp.xS l i).toNat = true) -> ¬ (Sp.xB l i && !Sp.sBo st (Sp.xS l i).toNat) = true := fun e => by rcases e with e | e <;> simp [e]
 refine ⟨fun e => ?_, fun e e2 e3 => ?_, fun e e2 e3 => ?_, fun e e2 e3 => ?_⟩
 ·rw [if_neg (by simp [e]), if_neg (by simp [e])] at h;exact h.2 rfl
 ·rw [if_pos e, if_pos (by simp [e2, e3]), if_pos e, if_pos (by simp [e2, e3])] at h;exact h.2 rfl
 ·rw [if_pos e, if_neg (nb e2), if_neg e3, if_pos e, if_neg (nb e2), if_neg e3] at h;exact h.2 rfl
 ·rw [if_pos e, if_neg (nb e2), if_pos e3, if_pos e, if_neg (nb e2), if_pos e3] at h;exact h
def Yrj [InW] (e : List Ed) (K : Nat -> List Ed -> Prop) : Prop := match e with
 | [.ro _ l, .i p, .i i, .ro _ pl, .ro _ sh, .ro _ ti, .ro _ st] => Pre (0 <= i /\ i <= l.xs.length) (Vif (decide (Sp.folE st.xs l.xs i.toNat (l.xs.length - i.toNat) p = 0)) (K 0 [.i (Sp.folT st.xs l.xs i.toNat (l.xs.length - i.toNat) p)]) (K 1 [.i (Sp.folE st.xs l.xs i.toNat (l.xs.length - i.toNat) p)]))
 | _ => False
noncomputable def Ysk : LC where
 len := 65
 T := [(2, .rs Ybf), (3, (.ptr 1 0)), (8, .int .i64), (9, .int .i64)]
 H := [(1, .blk 25 [.rs Jb, .rs Jb, .rs Jb, .rs Jd])]
 W := [6, 7, 10, 11, 16, 17, 18, 19, 20, 21, 22, 23, 24, 25, 26, 27, 28, 29, 30, 31, 32, 33, 34, 35, 36, 37, 38, 39, 40, 41, 42, 43, 44, 45, 46, 47, 48, 49, 50, 51, 52, 53, 54, 55, 56, 57, 58, 59, 60, 61, 62, 63]
 outs := [⟨.exit 0, [(8, .int .i64)], [], [2, 3, 6, 7, 9, 10, 11, 16, 17, 18, 19, 20, 21, 22, 23, 24, 25, 26, 27, 28, 29, 30, 31, 32, 33, 34, 35, 36, 37, 38, 39, 40, 41, 42, 43, 44, 45, 46, 47, 48, 49, 50, 51, 52, 53, 54, 55, 56, 57, 58, 59, 60, 61, 62, 63]⟩, ⟨.ret, [(6, (.lit (.int .i64 0))), (7, .int .i64)], [], [2, 3, 8, 9, 10, 11, 16, 17, 18, 19, 20, 21, 22, 23, 24, 25, 26, 27, 28, 29, 30, 31, 32, 33, 34, 35, 36, 37, 38, 39, 40, 41, 42, 43, 44, 45, 46, 47, 48, 49, 50, 51, 52, 53, 54, 55, 56, 57, 58, 59, 60, 61, 62, 63]⟩]
 spec := Yrj
def Zn [W : InW] (l : Ro Ybf) (i : Int) := decide (Zf <= i) && decide (i < (↑(l.xs.length) : Int))
def Zo [W : InW] (l : Ro Ybf) (i : Int) := cel l.xs i.toNat (0 : Nat)
def Zm [W : InW] (l : Ro Ybf) (p i : Int) (pl sh ti : Ro Jb) (st : Ro Jd) (A : List Ed -> Prop) (K : Nat -> List Ed -> Prop) := Need (Zn l i) (Need (decide (i.toNat < l.xs.length)) (Pre (Zf <= (Zo l i).int /\ (Zo l i).int < (↑(st.xs.length) : Int)) (Vif (!decide (Sp.eFr st.xs (Zo l i).int (cel l.xs i.toNat (0+1 : Nat)).bool = p)) (K (0+1 : Nat) [.i (9 : Int)]) (Ar .i64 (i + (1 : Int)) fun z => A [.ro _ l, .i (Sp.eTo st.xs (Zo l i).int (cel l.xs i.toNat (0+1 : Nat)).bool), .i z, .ro _ pl, .ro _ sh, .ro _ ti, .ro Zb st]))))
def Yt3 [W : InW] (l : Ro Ybf) (p i : Int) (pl sh ti : Ro Jb) (st : Ro Jd) (A : List Ed -> Prop) (K : Nat -> List Ed -> Prop) : Prop :=
 Vif (decide (i < (↑(l.xs.length) : Int))) (Need (Zn l i) (Need (decide (i.toNat < l.xs.length)) (Ar .i64 ((↑(st.xs.length) : Int) - (1 : Int)) fun z => Pre True (Vif (!Sp.inr (Zo l i).int Zf z) (K (0+1 : Nat) [.i (4 : Int)]) (Need (Zn l i) (Need (decide (i.toNat < l.xs.length)) (Vif (cel l.xs i.toNat (0+1 : Nat)).bool (Need (Zn l i) (Need (decide (i.toNat < l.xs.length)) (Need (decide (Zf <= (Zo l i).int) && decide ((Zo l i).int < (↑(st.xs.length) : Int))) (Need (decide ((Zo l i).int.toNat < st.xs.length)) (Vif (!(cel st.xs (Zo l i).int.toNat (4+1 : Nat)).bool) (K (0+1 : Nat) [.i (2 : Int)]) (Zm l p i pl sh ti st A K)))))) (Zm l p i pl sh ti st A K)))))))) (K (0 : Nat) [.i p])
theorem Y96 (W : InW) (l p i pl sh ti st A K) : Ybd { cxT Try.prog TT T22 1000 50 with fn := 69 } 1000 (Y1 Try.prog 69 6) (Y4 65 [(2, .rs _ l), (3, .ptr 1 0), (8, .si .i64 p), (9, .si .i64 i)] [6, 7, 10, 11, 16, 17, 18, 19, 20, 21, 22, 23, 24, 25, 26, 27, 28, 29, 30, 31, 32, 33, 34, 35, 36, 37, 38, 39, 40, 41, 42, 43, 44, 45, 46, 47, 48, 49, 50, 51, 52, 53, 54, 55, 56, 57, 58, 59, 60, 61, 62, 63]) [(1, .blk 25 [.rs _ pl, .rs _ sh, .rs _ ti, .rs _ st])] (Y6 Ysk A K) = Yt3 l p i pl sh ti st A K := by kernel_rfl
def Yvw : Prop := ∀ (W : InW) (body a : Code), (Try.prog.funcs[69]?).bind (·.body) = some body -> a ∈ Yi body -> Ybe a = 6 -> @Y0 W Try.prog a (@Yh W Ysk)
theorem Ybcg (meas : [InW] -> List Ed -> Nat) (hyp_ : ∀ (W : InW) (l : Ro Ybf) (p i : Int) (pl sh ti : Ro Jb) (st : Ro Jd) (K : Nat -> List Ed -> Prop), Yrj [.ro _ l, .i p, .i i, .ro _ pl, .ro _ sh, .ro _ ti, .ro _ st] K -> ∀ A : List Ed -> Prop, (∀ e, meas e < meas [.ro _ l, .i p, .i i, .ro _ pl, .ro _ sh, .ro _ ti, .ro _ st] -> Yrj e K -> A e) -> Yt3 l p i pl sh ti st A K) : Yvw :=
 LE.okOf' (fun W => @TT W) (fun W => @Yo W) Yd T22 1000 50 (by kernel_rfl) Ysk (fun W => @meas W) fun W l p i pl sh ti st K hs =>
  (Y96 W l p i pl sh ti st (fun e => meas e < meas [.ro _ l, .i p, .i i, .ro _ pl, .ro _ sh, .ro _ ti, .ro _ st] /\ Yrj e K) K).mpr (hyp_ W l p i pl sh ti st K hs _ fun e h1 h2 => ⟨h1, h2⟩)
theorem Ybh5 : Yvw := Ybcg (fun e => match e with | .ro _ l :: _ :: .i i :: _ => ((l.xs.length : Int) - i).toNat | _ => 0) fun W l p i pl sh ti st K hs A hA => by
 obtain ⟨⟨h0, h1⟩, hk⟩ := hs;unfold Yt3;delta Zm Zn Zb Zo Zf;have hm := l.len;have hm2 := st.len;simp only [maxLen] at hm hm2;refine vifd (fun e => ?_) fun e => ?_
 ·rw [show l.xs.length - i.toNat = (l.xs.length - (i.toNat + 1)) + 1 by omega] at hk;obtain ⟨f1, f2, f3, f4⟩ := Y2q (K0 := fun q => K 0 [.i q]) (K1 := fun q => K 1 [.i q]) hk;have ez : (i + 1).toNat = i.toNat + 1 := by omega
  have hA' : ∀ q, Vif (decide (Sp.folE st.xs l.xs (i.toNat + 1) (l.xs.length - (i.toNat + 1)) q = 0)) (K 0 [.i (Sp.folT st.xs l.xs (i.toNat + 1) (l.xs.length - (i.toNat + 1)) q)]) (K 1 [.i (Sp.folE st.xs l.xs (i.toNat + 1) (l.xs.length - (i.toNat + 1)) q)]) -> A [.ro _ l, .i q, .i (i + 1), .ro _ pl, .ro _ sh, .ro _ ti, .ro _ st] := fun q f => hA _ (by show ((l.xs.length : Int) - (i + 1)).toNat < ((l.xs.length : Int) - i).toNat; omega) ⟨⟨by omega, by omega⟩, by rw [ez]; exact f⟩;clear hA hk;simp only [Nat.zero_add, Nat.reduceAdd, <- show Sp.xS l.xs i.toNat = (cel l.xs i.toNat 0).int from rfl, <- show Sp.xB l.xs i.toNat = (cel l.xs i.toNat 1).bool from rfl];have hst : Sp.sBo st.xs (Sp.xS l.xs i.toNat).toNat = (cel st.xs (Sp.xS l.xs i.toNat).toNat 5).bool := rfl;rw [<- hst];refine ned (by simp; omega) (nedd (by omega) (ar64 (by omega) ⟨trivial, vifb (fun e1 => f1 e1) fun e1 => ?_⟩));have e2 := Sp.inr_iff.1 e1
  repeat' (first | omega | with_reducible refine vifd (fun _ => ?_) fun _ => ?_ | with_reducible refine vifn (fun _ => ?_) fun _ => ?_ | with_reducible refine vifq (fun _ => ?_) fun _ => ?_ | with_reducible refine vifq0 (fun _ => ?_) fun _ => ?_ | with_reducible refine vifq1 (fun _ => ?_) fun _ => ?_ | with_reducible refine vifb (fun _ => ?_) fun _ => ?_ | with_reducible refine vif (fun _ => ?_) fun _ => ?_ | (with_reducible refine nedd ?_ ?_; omega) | (with_reducible refine ned ?_ ?_; simp only [Bool.and_eq_true, decide_eq_true_eq]; omega) | (with_reducible refine ar64 ?_ ?_; omega) | (with_reducible refine Ybo ?_ ?_; (first | trivial | omega | assumption | (refine ⟨?_, ?_⟩ <;> first | trivial | omega | assumption) | (refine ⟨?_, ?_, ?_⟩ <;> first | trivial | omega | assumption) | (refine ⟨?_, ?_, ?_, ?_⟩ <;> first | trivial | omega | assumption))))
  all_goals first | exact f2 e1 (by assumption) (by assumption) | exact f3 e1 (.inl (by assumption)) (by assumption) | exact f3 e1 (.inr (by assumption)) (by assumption) | exact hA' _ (f4 e1 (.inl (by assumption)) (by assumption)) | exact hA' _ (f4 e1 (.inr (by assumption)) (by assumption))
 ·rw [show l.xs.length - i.toNat = 0 by omega] at hk;exact hk.1 rfl
noncomputable def Ybis : LE Try.prog := ⟨69, 6, fun W => @Yh W Ysk, Ybh5⟩
def Yro [InW] (e : List Ed) (K : Nat -> List Ed -> Prop) : Prop := match e with
 | [.i p, .ro _ l, .i n, .i i, .ro _ pl, .ro _ sh, .ro _ ti, .ro _ st] => Pre (n = l.xs.length /\ 0 <= i /\ i <= l.xs.length) (Vif (decide (Sp.folE st.xs l.xs i.toNat (l.xs.length - i.toNat) p = 0)) (K 0 [.i (Sp.folT st.xs l.xs i.toNat (l.xs.length - i.toNat) p)]) (K 1 [.i (Sp.folE st.xs l.xs i.toNat (l.xs.length - i.toNat) p)]))
 | _ => False
noncomputable def Ysp : LC where
 len := 55
 T := [(1, .int .i64), (3, (.ptr 1 0)), (15, .rs Ybf), (16, .int .i64), (17, .int .i64)]
 H := [(1, .blk 137 [.rs Jb, .rs Jb, .rs Jb, .rs Jd])]
 W := [6, 7, 9, 10, 11, 18, 19, 20, 21, 22, 23, 24, 25, 26, 27, 28, 29, 30, 31, 32, 33, 34, 35, 36, 37, 38, 39, 40, 41, 42, 43, 44, 45, 46, 47, 48, 49, 50, 51, 52, 53]
 outs := [⟨.exit 0, [(1, .int .i64)], [], [3, 6, 7, 9, 10, 11, 15, 16, 17, 18, 19, 20, 21, 22, 23, 24, 25, 26, 27, 28, 29, 30, 31, 32, 33, 34, 35, 36, 37, 38, 39, 40, 41, 42, 43, 44, 45, 46, 47, 48, 49, 50, 51, 52, 53]⟩, ⟨.ret, [(6, (.lit (.int .i64 0))), (7, .int .i64)], [], [1, 3, 9, 10, 11, 15, 16, 17, 18, 19, 20, 21, 22, 23, 24, 25, 26, 27, 28, 29, 30, 31, 32, 33, 34, 35, 36, 37, 38, 39, 40, 41, 42, 43, 44, 45, 46, 47, 48, 49, 50, 51, 52, 53]⟩]
 spec := Yro
def Zq [W : InW] (l : Ro Ybf) (i : Int) := cel l.xs i.toNat (0 : Nat)
def Zp [W : InW] (p : Int) (l : Ro Ybf) (n i : Int) (pl sh ti : Ro Jb) (st : Ro Jd) (A : List Ed -> Prop) (K : Nat -> List Ed -> Prop) := Pre (Zf <= (Zq l i).int /\ (Zq l i).int < (↑(st.xs.length) : Int)) (Vif (!decide (Sp.eFr st.xs (Zq l i).int (cel l.xs i.toNat (0+1 : Nat)).bool = p)) (K (0+1 : Nat) [.i (9 : Int)]) (Ar .i64 (i + (1 : Int)) fun z => A [.i (Sp.eTo st.xs (Zq l i).int (cel l.xs i.toNat (0+1 : Nat)).bool), .ro _ l, .i n, .i z, .ro _ pl, .ro _ sh, .ro _ ti, .ro Zb st]))
def Yt8 [W : InW] (p : Int) (l : Ro Ybf) (n i : Int) (pl sh ti : Ro Jb) (st : Ro Jd) (A : List Ed -> Prop) (K : Nat -> List Ed -> Prop) : Prop :=
 Vif (decide (i < n)) (Need (decide (Zf <= i) && decide (i < (↑(l.xs.length) : Int))) (Need (decide (i.toNat < l.xs.length)) (Ar .i64 ((↑(st.xs.length) : Int) - (1 : Int)) fun z => Pre True (Vif (Sp.out Zf z [[Cl.i (Zq l i).int]]) (K (0+1 : Nat) [.i (4 : Int)]) (Vif (cel l.xs i.toNat (0+1 : Nat)).bool (Need (decide (Zf <= (Zq l i).int) && decide ((Zq l i).int < (↑(st.xs.length) : Int))) (Need (decide ((Zq l i).int.toNat < st.xs.length)) (Vif (!(cel st.xs (Zq l i).int.toNat (4+1 : Nat)).bool) (K (0+1 : Nat) [.i (2 : Int)]) (Zp p l n i pl sh ti st A K)))) (Zp p l n i pl sh ti st A K)))))) (K (0 : Nat) [.i p])
theorem Ybab (W : InW) (p l n i pl sh ti st A K) : Ybd { cxT Try.prog TT T22 1000 50 with fn := 78 } 1000 (Y1 Try.prog 78 5) (Y4 55 [(1, .si .i64 p), (3, .ptr 1 0), (15, .rs _ l), (16, .si .i64 n), (17, .si .i64 i)] [6, 7, 9, 10, 11, 18, 19, 20, 21, 22, 23, 24, 25, 26, 27, 28, 29, 30, 31, 32, 33, 34, 35, 36, 37, 38, 39, 40, 41, 42, 43, 44, 45, 46, 47, 48, 49, 50, 51, 52, 53]) [(1, .blk 137 [.rs _ pl, .rs _ sh, .rs _ ti, .rs _ st])] (Y6 Ysp A K) = Yt8 p l n i pl sh ti st A K := by kernel_rfl
def Yv1 : Prop := ∀ (W : InW) (body a : Code), (Try.prog.funcs[78]?).bind (·.body) = some body -> a ∈ Yi body -> Ybe a = 5 -> @Y0 W Try.prog a (@Yh W Ysp)
theorem Ybcl (meas : [InW] -> List Ed -> Nat) (hyp_ : ∀ (W : InW) (p : Int) (l : Ro Ybf) (n i : Int) (pl sh ti : Ro Jb) (st : Ro Jd) (K : Nat -> List Ed -> Prop), Yro [.i p, .ro _ l, .i n, .i i, .ro _ pl, .ro _ sh, .ro _ ti, .ro _ st] K -> ∀ A : List Ed -> Prop, (∀ e, meas e < meas [.i p, .ro _ l, .i n, .i i, .ro _ pl, .ro _ sh, .ro _ ti, .ro _ st] -> Yro e K -> A e) -> Yt8 p l n i pl sh ti st A K) : Yv1 :=
 LE.okOf' (fun W => @TT W) (fun W => @Yo W) Yd T22 1000 50 (by kernel_rfl) Ysp (fun W => @meas W) fun W p l n i pl sh ti st K hs =>
  (Ybab W p l n i pl sh ti st (fun e => meas e < meas [.i p, .ro _ l, .i n, .i i, .ro _ pl, .ro _ sh, .ro _ ti, .ro _ st] /\ Yro e K) K).mpr (hyp_ W p l n i pl sh ti st K hs _ fun e h1 h2 => ⟨h1, h2⟩)
theorem Ybia : Yv1 := Ybcl (fun e => match e with | _ :: .ro _ l :: _ :: .i i :: _ => ((l.xs.length : Int) - i).toNat | _ => 0) fun W p l n i pl sh ti st K hs A hA => by
 obtain ⟨⟨rfl, h0, h1⟩, hk⟩ := hs;unfold Yt8;delta Zp Zb Zq Zf;have hm := l.len;have hm2 := st.len;simp only [maxLen] at hm hm2;refine vifd (fun e => ?_) fun e => ?_
 ·rw [show l.xs.length - i.toNat = (l.xs.length - (i.toNat + 1)) + 1 by omega] at hk;obtain ⟨f1, f2, f3, f4⟩ := Y2q (K0 := fun q => K 0 [.i q]) (K1 := fun q => K 1 [.i q]) hk;have ez : (i + 1).toNat = i.toNat + 1 := by omega
  have hA' : ∀ q, Vif (decide (Sp.folE st.xs l.xs (i.toNat + 1) (l.xs.length - (i.toNat + 1)) q = 0)) (K 0 [.i (Sp.folT st.xs l.xs (i.toNat + 1) (l.xs.length - (i.toNat + 1)) q)]) (K 1 [.i (Sp.folE st.xs l.xs (i.toNat + 1) (l.xs.length - (i.toNat + 1)) q)]) -> A [.i q, .ro _ l, .i l.xs.length, .i (i + 1), .ro _ pl, .ro _ sh, .ro _ ti, .ro _ st] := fun q f => hA _ (by show ((l.xs.length : Int) - (i + 1)).toNat < ((l.xs.length : Int) - i).toNat; omega) ⟨⟨rfl, by omega, by omega⟩, by rw [ez]; exact f⟩;clear hA hk;simp only [Nat.zero_add, Nat.reduceAdd, out1, <- show Sp.xS l.xs i.toNat = (cel l.xs i.toNat 0).int from rfl, <- show Sp.xB l.xs i.toNat = (cel l.xs i.toNat 1).bool from rfl];have hst : Sp.sBo st.xs (Sp.xS l.xs i.toNat).toNat = (cel st.xs (Sp.xS l.xs i.toNat).toNat 5).bool := rfl;rw [<- hst];refine ned (by simp; omega) (nedd (by omega) (ar64 (by omega) ⟨trivial, vifb (fun e1 => f1 e1) fun e1 => ?_⟩));have e2 := Sp.inr_iff.1 e1
  repeat' (first | omega | with_reducible refine vifd (fun _ => ?_) fun _ => ?_ | with_reducible refine vifn (fun _ => ?_) fun _ => ?_ | with_reducible refine vifq (fun _ => ?_) fun _ => ?_ | with_reducible refine vifq0 (fun _ => ?_) fun _ => ?_ | with_reducible refine vifq1 (fun _ => ?_) fun _ => ?_ | with_reducible refine vifb (fun _ => ?_) fun _ => ?_ | with_reducible refine vif (fun _ => ?_) fun _ => ?_ | (with_reducible refine nedd ?_ ?_; omega) | (with_reducible refine ned ?_ ?_; simp only [Bool.and_eq_true, decide_eq_true_eq]; omega) | (with_reducible refine ar64 ?_ ?_; omega) | (with_reducible refine Ybo ?_ ?_; (first | trivial | omega | assumption | (refine ⟨?_, ?_⟩ <;> first | trivial | omega | assumption) | (refine ⟨?_, ?_, ?_⟩ <;> first | trivial | omega | assumption) | (refine ⟨?_, ?_, ?_, ?_⟩ <;> first | trivial | omega | assumption))))
  all_goals first | exact f2 e1 (by assumption) (by assumption) | exact f3 e1 (.inl (by assumption)) (by assumption) | exact f3 e1 (.inr (by assumption)) (by assumption) | exact hA' _ (f4 e1 (.inl (by assumption)) (by assumption)) | exact hA' _ (f4 e1 (.inr (by assumption)) (by assumption))
 ·rw [show l.xs.length - i.toNat = 0 by omega] at hk;exact hk.1 rfl
noncomputable def Ybiw : LE Try.prog := ⟨78, 5, fun W => @Yh W Ysp, Ybia⟩
noncomputable def T23 : Tab Try.prog := ⟨[], [Ybis, Ybiw], []⟩
def Yot [W : InW] (t_Pl t_Sh t_Ti : Ro Jb) (t_St : Ro Jd) (p : Int) (l : Ro Ybf) (Q : DS -> Prop) : Prop :=
 Vif (decide ((1100 : Int) < (↑(l.xs.length) : Int))) (Q [[Cl.i Zf], [Cl.i (3 : Int)]]) (Pre (Zf <= Zf /\ Zf <= (↑(l.xs.length) : Int)) (Vif (decide (Sp.folE t_St.xs l.xs Zg (l.xs.length - Int.toNat Zf) p = Zf)) (Q [[Cl.i (Sp.folT t_St.xs l.xs Zg (l.xs.length - Int.toNat Zf) p)], [Cl.i Zf]]) (Q [[Cl.i Zf], [Cl.i (Sp.folE t_St.xs l.xs Zg (l.xs.length - Int.toNat Zf) p)]])))
theorem Y42 (W : InW) (t_Pl t_Sh t_Ti t_St p l Q) : Ybh (cxT Try.prog TT T23 1000 50) 1000 69 [.agg [.rs _ t_Pl, .rs _ t_Sh, .rs _ t_Ti, .rs _ t_St], .si .i64 p, .rs _ l] [] 0 (Ybj [(false, [.int .i64]), (false, [.int .i64])] Q) (fun _ _ _ _ => Stuck 421) = Yot t_Pl t_Sh t_Ti t_St p l Q := by kernel_rfl
abbrev Yka : List AT := [.agg [.sl Jb, .sl Jb, .sl Jb, .sl Jd], .one (.int .i64), .one (.sl Ybf)]
theorem Y7h {pre : DS -> Prop} {res : DS -> DS} (hyp_ : ∀ (W : InW) (t_Pl t_Sh t_Ti : Ro Jb) (t_St : Ro Jd) (p : Int) (l : Ro Ybf), pre [[.l t_Pl.xs, .l t_Sh.xs, .l t_Ti.xs, .l t_St.xs], [.i p], [.l l.xs]] -> ∀ Q : DS -> Prop, Q (res [[.l t_Pl.xs, .l t_Sh.xs, .l t_Ti.xs, .l t_St.xs], [.i p], [.l l.xs]]) -> Yot t_Pl t_Sh t_Ti t_St p l Q) : PureOk Try.prog 69 Yka [(false, [.int .i64]), (false, [.int .i64])] pre res :=
 PureOk.of' (fun W => @TT W) (fun W => @Yo W) Yd T23 1000 50 fun W t_Pl t_Sh t_Ti t_St p l hp =>
  (Y42 W t_Pl t_Sh t_Ti t_St p l (fun o => o = res [[.l t_Pl.xs, .l t_Sh.xs, .l t_Ti.xs, .l t_St.xs], [.i p], [.l l.xs]])).mpr (hyp_ W t_Pl t_Sh t_Ti t_St p l hp _ rfl)
def Yox [W : InW] (t_Pl t_Sh t_Ti : Ro Jb) (t_St : Ro Jd) (p : Int) (l : Ro Ybf) (Q : DS -> Prop) : Prop :=
 Vif (decide ((1100 : Int) < (↑(l.xs.length) : Int))) (Q [[Cl.i Zf], [Cl.i (3 : Int)]]) (Pre ((↑(l.xs.length) : Int) = (↑(l.xs.length) : Int) /\ Zf <= Zf /\ Zf <= (↑(l.xs.length) : Int)) (Vif (decide (Sp.folE t_St.xs l.xs Zg (l.xs.length - Int.toNat Zf) p = Zf)) (Q [[Cl.i (Sp.folT t_St.xs l.xs Zg (l.xs.length - Int.toNat Zf) p)], [Cl.i Zf]]) (Q [[Cl.i Zf], [Cl.i (Sp.folE t_St.xs l.xs Zg (l.xs.length - Int.toNat Zf) p)]])))
theorem Y46 (W : InW) (t_Pl t_Sh t_Ti t_St p l Q) : Ybh (cxT Try.prog TT T23 1000 50) 1000 78 [.agg [.rs _ t_Pl, .rs _ t_Sh, .rs _ t_Ti, .rs _ t_St], .si .i64 p, .rs _ l] [] 0 (Ybj [(false, [.int .i64]), (false, [.int .i64])] Q) (fun _ _ _ _ => Stuck 421) = Yox t_Pl t_Sh t_Ti t_St p l Q := by kernel_rfl
abbrev Yke : List AT := [.agg [.sl Jb, .sl Jb, .sl Jb, .sl Jd], .one (.int .i64), .one (.sl Ybf)]
theorem Y7l {pre : DS -> Prop} {res : DS -> DS} (hyp_ : ∀ (W : InW) (t_Pl t_Sh t_Ti : Ro Jb) (t_St : Ro Jd) (p : Int) (l : Ro Ybf), pre [[.l t_Pl.xs, .l t_Sh.xs, .l t_Ti.xs, .l t_St.xs], [.i p], [.l l.xs]] -> ∀ Q : DS -> Prop, Q (res [[.l t_Pl.xs, .l t_Sh.xs, .l t_Ti.xs, .l t_St.xs], [.i p], [.l l.xs]]) -> Yox t_Pl t_Sh t_Ti t_St p l Q) : PureOk Try.prog 78 Yke [(false, [.int .i64]), (false, [.int .i64])] pre res :=
 PureOk.of' (fun W => @TT W) (fun W => @Yo W) Yd T23 1000 50 fun W t_Pl t_Sh t_Ti t_St p l hp =>
  (Y46 W t_Pl t_Sh t_Ti t_St p l (fun o => o = res [[.l t_Pl.xs, .l t_Sh.xs, .l t_Ti.xs, .l t_St.xs], [.i p], [.l l.xs]])).mpr (hyp_ W t_Pl t_Sh t_Ti t_St p l hp _ rfl)
abbrev Yev (ds : DS) : DS := match ds with | [[.l _, .l _, .l _, .l st], [.i p], [.l l]] => [[.i (Sp.stepsT st l p)], [.i (Sp.stepsE st l p)]] | _ => []
theorem Ys4 {st l : Dt} : ∀ {n i : Nat} {p : Int}, ¬ Sp.folE st l i n p = 0 -> Sp.folT st l i n p = 0
 | 0, _, _, h => absurd rfl h
 | n + 1, i, p, h => by
  rw [Yl0.1] at h;rw [Yl0.2]
  split
  ·rename_i h1;rw [if_pos h1] at h
   split
   ·rfl
   ·rename_i h2;rw [if_neg h2] at h
    split
    ·rename_i h3;rw [if_pos h3] at h;exact Ys4 h
    ·rfl
  ·rfl
theorem Ybb4 : PureOk Try.prog 69 Yka [(false, [.int .i64]), (false, [.int .i64])] (fun _ => True) Yev :=
 Y7h fun W pl sh ti st p l hp Q h => by
  unfold Yot;delta Zg Zf;have hm := l.len; simp only [maxLen] at hm; simp only [Yev, Sp.stepsT, Sp.stepsE] at h; simp only [show Int.toNat 0 = 0 from rfl, Nat.sub_zero]; refine vifd (fun e => ?_) fun e => ⟨by first | omega | (refine ⟨?_, ?_, ?_⟩ <;> first | trivial | rfl | omega), vifd (fun e2 => ?_) fun e2 => ?_⟩
  ·rw [if_pos e, if_pos e] at h; exact h
  ·rw [if_neg e, if_neg e, e2] at h; exact h
  ·rw [if_neg e, if_neg e, Ys4 e2] at h; exact h
theorem Ybb8 : PureOk Try.prog 78 Yke [(false, [.int .i64]), (false, [.int .i64])] (fun _ => True) Yev :=
 Y7l fun W pl sh ti st p l hp Q h => by
  unfold Yox;delta Zg Zf;have hm := l.len; simp only [maxLen] at hm; simp only [Yev, Sp.stepsT, Sp.stepsE] at h; simp only [show Int.toNat 0 = 0 from rfl, Nat.sub_zero]; refine vifd (fun e => ?_) fun e => ⟨by first | omega | (refine ⟨?_, ?_, ?_⟩ <;> first | trivial | rfl | omega), vifd (fun e2 => ?_) fun e2 => ?_⟩
  ·rw [if_pos e, if_pos e] at h; exact h
  ·rw [if_neg e, if_neg e, e2] at h; exact h
  ·rw [if_neg e, if_neg e, Ys4 e2] at h; exact h
noncomputable def Y6l : PC Try.prog := ⟨69, Yka, [(false, [.int .i64]), (false, [.int .i64])], fun _ => True, Yev, Ybb4⟩
noncomputable def Y6o : PC Try.prog := ⟨78, Yke, [(false, [.int .i64]), (false, [.int .i64])], fun _ => True, Yev, Ybb8⟩
namespace Sp
structure TourOk (pl sh ti st l : Dt) (time : Int) : Prop where
 tw : TwOk pl sh ti st
 ti0 : 0 <= time
 ti1 : time < ti.length
 ln : l.length <= 1100
 xs : ∀ k, k < l.length -> 0 <= xS l k /\ xS l k < st.length
structure TourAt (l : Dt) (i me lo hi sw : Int) : Prop where
 i0 : 0 <= i
 i1 : i <= l.length
 me : 0 <= me /\ me <= 10000 * i
 lo : 0 <= lo /\ lo <= 10000 * i
 hi : 0 <= hi /\ hi <= 10000 * i
 sw : 0 <= sw /\ sw < 64
def gMe (st l : Dt) (k : Nat) : Int := sMe st (xS l k).toNat
def gLo (st l : Dt) (k : Nat) : Int := sLo st (xS l k).toNat
def gHi (st l : Dt) (k : Nat) : Int := sHi st (xS l k).toNat
end Sp
theorem Y5h {pl sh ti st l : Dt} {time : Int} (h : Sp.TourOk pl sh ti st l time) {k : Nat} (hk : k < l.length) : Sp.StOk pl.length sh.length ti.length st (Sp.xS l k).toNat /\ (0 <= Sp.xS l k /\ Sp.xS l k < st.length) /\ 0 <= Sp.shT st l time.toNat k /\ Sp.shT st l time.toNat k < 64 := by
 have h1 := h.xs k hk;have h2 := h.tw.each (Sp.xS l k).toNat (by omega);have h3 := h2.sh time.toNat (by have := h.ti0; have := h.ti1; omega);have h4 := Sp.sets_le h.tw.shL;refine ⟨h2, h1, ?_⟩;unfold Sp.shT;omega
def Ylo [InW] (e : List Ed) (K : Nat -> List Ed -> Prop) : Prop := match e with
 | [.i time, .ro _ l, .i n, .i i, .ro _ pl, .ro _ sh, .ro _ ti, .ro _ st, .i me, .i lo, .i hi, .i sw, .l cs] => Pre (n = l.xs.length /\ Sp.TourOk pl.xs sh.xs ti.xs st.xs l.xs time /\ Sp.TourAt l.xs i me lo hi sw)
   (K 0 [.i (Sp.sumF (Sp.gMe st.xs l.xs) i.toNat (l.xs.length - i.toNat) me), .i (Sp.sumF (Sp.gLo st.xs l.xs) i.toNat (l.xs.length - i.toNat) lo), .i (Sp.sumF (Sp.gHi st.xs l.xs) i.toNat (l.xs.length - i.toNat) hi), .i (Sp.orF (Sp.shT st.xs l.xs time.toNat) i.toNat (l.xs.length - i.toNat) sw), .l cs])
 | _ => False
noncomputable def Yly : LC where
 len := 62
 T := [(1, .int .i64), (3, (.ptr 1 0)), (6, (.ptr 7 0)), (7, (.ptr 4 0)), (14, .rs Ybf), (15, .int .i64), (16, .int .i64)]
 H := [(1, .blk 137 [.rs Jb, .rs Jb, .rs Jb, .rs Jd]), (4, .blk 93 [(.row 13), .int .i64, .int .i64, .int .i64, .int .i64]), (13, .arr 91 Ybf), (7, .blk 93 [(.lit (.slice none 0 0)), (.lit (.int .i64 0)), (.lit (.int .i64 0)), (.lit (.int .i64 0)), (.lit (.int .i64 0))])]
 W := [9, 10, 17, 18, 19, 20, 21, 22, 23, 24, 25, 26, 27, 28, 29, 30, 31, 32, 33, 34, 35, 36, 37, 38, 39, 40, 41, 42, 43, 44, 45, 46, 47, 48, 49, 50, 51, 52, 53, 54, 55, 56, 57, 58, 59, 60]
 outs := [⟨.exit 0, [(6, (.ptr 7 0)), (7, (.ptr 4 0))], [(4, .blk 93 [(.row 13), .int .i64, .int .i64, .int .i64, .int .i64]), (13, .arr 91 Ybf), (7, .blk 93 [(.lit (.slice none 0 0)), (.lit (.int .i64 0)), (.lit (.int .i64 0)), (.lit (.int .i64 0)), (.lit (.int .i64 0))])], [1, 3, 9, 10, 14, 15, 16, 17, 18, 19, 20, 21, 22, 23, 24, 25, 26, 27, 28, 29, 30, 31, 32, 33, 34, 35, 36, 37, 38, 39, 40, 41, 42, 43, 44, 45, 46, 47, 48, 49, 50, 51, 52, 53, 54, 55, 56, 57, 58, 59, 60]⟩]
 spec := Ylo
def Zr [W : InW] (l : Ro Ybf) (i : Int) := cel l.xs i.toNat (0 : Nat)
def Yo6 [W : InW] (time : Int) (l : Ro Ybf) (n i : Int) (pl sh ti : Ro Jb) (st : Ro Jd) (me lo hi sw : Int) (cs : Dt) (A : List Ed -> Prop) (K : Nat -> List Ed -> Prop) : Prop :=
 Vif (decide (i < n)) (Need (decide (Zf <= i) && decide (i < (↑(l.xs.length) : Int))) (Need (decide (i.toNat < l.xs.length)) (Need (decide (Zf <= (Zr l i).int) && decide ((Zr l i).int < (↑(st.xs.length) : Int))) (Need (decide ((Zr l i).int.toNat < st.xs.length)) (Ar .i64 (me + (cel st.xs (Zr l i).int.toNat (0+1+1 : Nat)).int) fun z => Ar .i64 (lo + (cel st.xs (Zr l i).int.toNat (0+1+1+1 : Nat)).int) fun z_1 => Ar .i64 (hi + (cel st.xs (Zr l i).int.toNat (0+1+1+1+1 : Nat)).int) fun z_2 => Need (decide (Zf <= time) && decide (time < (↑(List.length (cel st.xs (Zr l i).int.toNat (0+1+1+1+1+1+1 : Nat)).lst) : Int))) (Need (decide (time.toNat < List.length (cel st.xs (Zr l i).int.toNat (0+1+1+1+1+1+1 : Nat)).lst)) (Ar .i64 (i + (1 : Int)) fun z_3 => A [.i time, .ro _ l, .i n, .i z_3, .ro _ pl, .ro _ sh, .ro _ ti, .ro Zb st, .i z, .i z_1, .i z_2, .i (orI IntKind.i64 sw (cel (cel st.xs (Zr l i).int.toNat (0+1+1+1+1+1+1 : Nat)).lst time.toNat (0 : Nat)).int), .l cs]))))))) (K (0 : Nat) [.i me, .i lo, .i hi, .i sw, .l cs])
theorem Y4v (W : InW) (time l n i pl sh ti st me lo hi sw cs A K) : Ybd { cxT Try.prog TT T22 1000 50 with fn := 79 } 1000 (Y1 Try.prog 79 4) (Y4 62 [(1, .si .i64 time), (3, .ptr 1 0), (6, .ptr 7 0), (7, .ptr 4 0), (14, .rs _ l), (15, .si .i64 n), (16, .si .i64 i)] [9, 10, 17, 18, 19, 20, 21, 22, 23, 24, 25, 26, 27, 28, 29, 30, 31, 32, 33, 34, 35, 36, 37, 38, 39, 40, 41, 42, 43, 44, 45, 46, 47, 48, 49, 50, 51, 52, 53, 54, 55, 56, 57, 58, 59, 60]) [(1, .blk 137 [.rs _ pl, .rs _ sh, .rs _ ti, .rs _ st]), (4, .blk 93 [.rw 13, .si .i64 me, .si .i64 lo, .si .i64 hi, .si .i64 sw]), (13, .arr 91 Ybf cs), (7, .blk 93 [.v (.slice none 0 0), .v (.int .i64 0), .v (.int .i64 0), .v (.int .i64 0), .v (.int .i64 0)])] (Y6 Yly A K) = Yo6 time l n i pl sh ti st me lo hi sw cs A K := by kernel_rfl
def Yqh : Prop := ∀ (W : InW) (body a : Code), (Try.prog.funcs[79]?).bind (·.body) = some body -> a ∈ Yi body -> Ybe a = 4 -> @Y0 W Try.prog a (@Yh W Yly)
theorem Y69 (meas : [InW] -> List Ed -> Nat) (hyp_ : ∀ (W : InW) (time : Int) (l : Ro Ybf) (n i : Int) (pl sh ti : Ro Jb) (st : Ro Jd) (me lo hi sw : Int) (cs : Dt) (K : Nat -> List Ed -> Prop), Ylo [.i time, .ro _ l, .i n, .i i, .ro _ pl, .ro _ sh, .ro _ ti, .ro _ st, .i me, .i lo, .i hi, .i sw, .l cs] K -> ∀ A : List Ed -> Prop, (∀ e, meas e < meas [.i time, .ro _ l, .i n, .i i, .ro _ pl, .ro _ sh, .ro _ ti, .ro _ st, .i me, .i lo, .i hi, .i sw, .l cs] -> Ylo e K -> A e) -> Yo6 time l n i pl sh ti st me lo hi sw cs A K) : Yqh :=
 LE.okOf' (fun W => @TT W) (fun W => @Yo W) Yd T22 1000 50 (by kernel_rfl) Yly (fun W => @meas W) fun W time l n i pl sh ti st me lo hi sw cs K hs =>
  (Y4v W time l n i pl sh ti st me lo hi sw cs (fun e => meas e < meas [.i time, .ro _ l, .i n, .i i, .ro _ pl, .ro _ sh, .ro _ ti, .ro _ st, .i me, .i lo, .i hi, .i sw, .l cs] /\ Ylo e K) K).mpr (hyp_ W time l n i pl sh ti st me lo hi sw cs K hs _ fun e h1 h2 => ⟨h1, h2⟩)
theorem Ybdb : Yqh := Y69 (fun e => match e with | _ :: .ro _ l :: _ :: .i i :: _ => ((l.xs.length : Int) - i).toNat | _ => 0) fun W time l n i pl sh ti st me lo hi sw cs K hs A hA => by
 obtain ⟨⟨rfl, hT, hI⟩, hk⟩ := hs;unfold Yo6;delta Zr Zb Zf;have h0 := hI.i0;have h1 := hI.i1;have hln := hT.ln;have t0 := hT.ti0;have t1 := hT.ti1;refine vifd (fun e => ?_) fun e => ?_
 ·rw [show l.xs.length - i.toNat = (l.xs.length - (i.toNat + 1)) + 1 by omega] at hk;simp only [Sp.sumF, Sp.orF] at hk;obtain ⟨g1, g2, g3⟩ := Y5h hT (k := i.toNat) (by omega);have u := Sp.un_or hI.sw.1 hI.sw.2 g3.1 g3.2;rw [u.1] at hk;have ez : (i + 1).toNat = i.toNat + 1 := by omega
  have hme := hI.me;have hlo := hI.lo;have hhi := hI.hi;have gme := g1.me;have glo := g1.lo;have ghi := g1.hi;have glen := g1.len;have hA' : ∀ a b c d, a = me + Sp.gMe st.xs l.xs i.toNat -> b = lo + Sp.gLo st.xs l.xs i.toNat -> c = hi + Sp.gHi st.xs l.xs i.toNat -> d = orI .i64 sw (Sp.shT st.xs l.xs time.toNat i.toNat) -> A [.i time, .ro _ l, .i l.xs.length, .i (i + 1), .ro _ pl, .ro _ sh, .ro _ ti, .ro _ st, .i a, .i b, .i c, .i d, .l cs] := fun a b c d ha hb hc hd => hA _ (by show ((l.xs.length : Int) - (i + 1)).toNat < ((l.xs.length : Int) - i).toNat; omega) ⟨⟨rfl, hT, ⟨by omega, by omega, by simp only [Sp.gMe] at ha; omega, by simp only [Sp.gLo] at hb; omega, by simp only [Sp.gHi] at hc; omega, by rw [hd, <- u.1]; exact u.2.1⟩⟩, by rw [ez, ha, hb, hc, hd]; exact hk⟩;clear hA hk;simp only [Sp.gMe, Sp.gLo, Sp.gHi, Sp.sMe, Sp.sLo, Sp.sHi, Sp.sSh, Sp.shT, Sp.xS] at *;simp only [Nat.zero_add, Nat.reduceAdd]
  repeat' (first | omega | with_reducible refine vifd (fun _ => ?_) fun _ => ?_ | with_reducible refine vifn (fun _ => ?_) fun _ => ?_ | with_reducible refine vifq (fun _ => ?_) fun _ => ?_ | with_reducible refine vifq0 (fun _ => ?_) fun _ => ?_ | with_reducible refine vifq1 (fun _ => ?_) fun _ => ?_ | with_reducible refine vifb (fun _ => ?_) fun _ => ?_ | with_reducible refine vif (fun _ => ?_) fun _ => ?_ | (with_reducible refine nedd ?_ ?_; omega) | (with_reducible refine ned ?_ ?_; simp only [Bool.and_eq_true, decide_eq_true_eq]; omega) | (with_reducible refine ar64 ?_ ?_; omega) | (with_reducible refine Ybo ?_ ?_; (first | trivial | omega | assumption | (refine ⟨?_, ?_⟩ <;> first | trivial | omega | assumption) | (refine ⟨?_, ?_, ?_⟩ <;> first | trivial | omega | assumption) | (refine ⟨?_, ?_, ?_, ?_⟩ <;> first | trivial | omega | assumption))))
  all_goals first | exact hA' _ _ _ _ rfl rfl rfl rfl | skip
  all_goals trace_state
 ·rw [show l.xs.length - i.toNat = 0 by omega] at hk;exact hk
noncomputable def Ybdj : LE Try.prog := ⟨79, 4, fun W => @Yh W Yly, Ybdb⟩
noncomputable def T24 : Tab Try.prog := ⟨[], [Ybdj], []⟩
def Zs [W : InW] (l : Ro Ybf) := l.xs.length - Int.toNat Zf
def Ytu [W : InW] (t_Pl t_Sh t_Ti : Ro Jb) (t_St : Ro Jd) (time : Int) (l : Ro Ybf) (Q : DS -> Prop) : Prop :=
 Vif (match l.v with | Value.slice none len cap => true | x => false) (Pre ((↑(l.xs.length) : Int) = (↑(l.xs.length) : Int) /\ Sp.TourOk t_Pl.xs t_Sh.xs t_Ti.xs t_St.xs l.xs time /\ Sp.TourAt l.xs Zf Zf Zf Zf Zf) (Q [[Cl.l [], Cl.i (Sp.sumF (Sp.gMe t_St.xs l.xs) Zg (Zs l) Zf), Cl.i (Sp.sumF (Sp.gLo t_St.xs l.xs) Zg (Zs l) Zf), Cl.i (Sp.sumF (Sp.gHi t_St.xs l.xs) Zg (Zs l) Zf), Cl.i (Sp.orF (Sp.shT t_St.xs l.xs time.toNat) Zg (Zs l) Zf)]])) (Need (decide (((0 : Nat) + l.xs.length) * (16 : Nat) <= (140737488355328 : Nat))) (Pre ((↑(l.xs.length) : Int) = (↑(l.xs.length) : Int) /\ Sp.TourOk t_Pl.xs t_Sh.xs t_Ti.xs t_St.xs l.xs time /\ Sp.TourAt l.xs Zf Zf Zf Zf Zf) (Q [[Cl.l l.xs, Cl.i (Sp.sumF (Sp.gMe t_St.xs l.xs) Zg (Zs l) Zf), Cl.i (Sp.sumF (Sp.gLo t_St.xs l.xs) Zg (Zs l) Zf), Cl.i (Sp.sumF (Sp.gHi t_St.xs l.xs) Zg (Zs l) Zf), Cl.i (Sp.orF (Sp.shT t_St.xs l.xs time.toNat) Zg (Zs l) Zf)]])))
theorem Ybaq (W : InW) (t_Pl t_Sh t_Ti t_St time l Q) : Ybh (cxT Try.prog TT T24 1000 50) 1000 79 [.agg [.rs _ t_Pl, .rs _ t_Sh, .rs _ t_Ti, .rs _ t_St], .si .i64 time, .rs _ l] [] 0 (Ybj [(true, [.row 91 Ybf, .int .i64, .int .i64, .int .i64, .int .i64])] Q) (fun _ _ _ _ => Stuck 421) = Ytu t_Pl t_Sh t_Ti t_St time l Q := by kernel_rfl
abbrev Yod : List AT := [.agg [.sl Jb, .sl Jb, .sl Jb, .sl Jd], .one (.int .i64), .one (.sl Ybf)]
theorem Ybc3 {pre : DS -> Prop} {res : DS -> DS} (hyp_ : ∀ (W : InW) (t_Pl t_Sh t_Ti : Ro Jb) (t_St : Ro Jd) (time : Int) (l : Ro Ybf), pre [[.l t_Pl.xs, .l t_Sh.xs, .l t_Ti.xs, .l t_St.xs], [.i time], [.l l.xs]] -> ∀ Q : DS -> Prop, Q (res [[.l t_Pl.xs, .l t_Sh.xs, .l t_Ti.xs, .l t_St.xs], [.i time], [.l l.xs]]) -> Ytu t_Pl t_Sh t_Ti t_St time l Q) : PureOk Try.prog 79 Yod [(true, [.row 91 Ybf, .int .i64, .int .i64, .int .i64, .int .i64])] pre res :=
 PureOk.of' (fun W => @TT W) (fun W => @Yo W) Yd T24 1000 50 fun W t_Pl t_Sh t_Ti t_St time l hp =>
  (Ybaq W t_Pl t_Sh t_Ti t_St time l (fun o => o = res [[.l t_Pl.xs, .l t_Sh.xs, .l t_Ti.xs, .l t_St.xs], [.i time], [.l l.xs]])).mpr (hyp_ W t_Pl t_Sh t_Ti t_St time l hp _ rfl)
abbrev Yr3 (ds : DS) : DS := match ds with | [[.l _, .l _, .l _, .l st], [.i time], [.l l]] => [[.l l, .i (Sp.sumF (Sp.gMe st l) 0 l.length 0), .i (Sp.sumF (Sp.gLo st l) 0 l.length 0), .i (Sp.sumF (Sp.gHi st l) 0 l.length 0), .i (Sp.orF (Sp.shT st l time.toNat) 0 l.length 0)]] | _ => []
abbrev Y08 (ds : DS) : Prop := match ds with | [[.l pl, .l sh, .l ti, .l st], [.i time], [.l l]] => Sp.TourOk pl sh ti st l time | _ => False
theorem Ybg3 : PureOk Try.prog 79 Yod [(true, [.row 91 Ybf, .int .i64, .int .i64, .int .i64, .int .i64])] Y08 Yr3 :=
 Ybc3 fun W pl sh ti st time l hp Q h => by
  unfold Ytu;delta Zs Zg Zf;have hT : Sp.TourOk pl.xs sh.xs ti.xs st.xs l.xs time := hp;have hln := hT.ln;have hm := l.len;simp only [Yr3] at h;simp only [maxLen] at hm;have hA : Sp.TourAt l.xs 0 0 0 0 0 := ⟨by omega, by omega, by omega, by omega, by omega, by omega⟩;simp only [show Int.toNat 0 = 0 from rfl, Nat.sub_zero];refine vif (fun e => ⟨⟨trivial, hT, hA⟩, ?_⟩) fun e => nedd (by omega) ⟨⟨trivial, hT, hA⟩, ?_⟩
  ·rw [Y8c (r := l) e] at h ⊢;exact h
  ·exact h
noncomputable def Ybbl : PC Try.prog := ⟨79, Yod, [(true, [.row 91 Ybf, .int .i64, .int .i64, .int .i64, .int .i64])], Y08, Yr3, Ybg3⟩
namespace Sp
def dvL (pl sh ti st : Dt) (p time : Int) (l : Dt) : Dt := if drvE pl sh ti st p time l = 0 then l else []
def dvMe (pl sh ti st : Dt) (p time : Int) (l : Dt) : Int := if drvE pl sh ti st p time l = 0 then sumF (gMe st l) 0 l.length 0 else 0
def dvLo (pl sh ti st : Dt) (p time : Int) (l : Dt) : Int := if drvE pl sh ti st p time l = 0 then sumF (gLo st l) 0 l.length 0 else 0
def dvHi (pl sh ti st : Dt) (p time : Int) (l : Dt) : Int := if drvE pl sh ti st p time l = 0 then sumF (gHi st l) 0 l.length 0 else 0
def dvSh (pl sh ti st : Dt) (p time : Int) (l : Dt) : Int := if drvE pl sh ti st p time l = 0 then orF (shT st l time.toNat) 0 l.length 0 else 0
def dvT (pl sh ti st : Dt) (p time : Int) (l : Dt) : Int := if drvE pl sh ti st p time l = 0 then stepsT st l p else 0
end Sp
abbrev Ylq : RTs := [(true, [.row 91 Ybf, .int .i64, .int .i64, .int .i64, .int .i64]), (false, [.int .i64]), (false, [.int .i64])]
abbrev Yvd (ds : DS) : DS := match ds with | [[.l pl, .l sh, .l ti, .l st], [.i p], [.i time], [.l l]] => [[.l (Sp.dvL pl sh ti st p time l), .i (Sp.dvMe pl sh ti st p time l), .i (Sp.dvLo pl sh ti st p time l), .i (Sp.dvHi pl sh ti st p time l), .i (Sp.dvSh pl sh ti st p time l)], [.i (Sp.dvT pl sh ti st p time l)], [.i (Sp.drvE pl sh ti st p time l)]] | _ => []
abbrev Yvh (ds : DS) : Prop := match ds with | [[.l pl, .l sh, .l ti, .l _], _, _, _] => Sp.NamesOk pl /\ Sp.NamesOk sh /\ Sp.NamesOk ti | _ => False
theorem Y8o {pl sh ti st l : Dt} {p time : Int} {Q : Dt -> Int -> Int -> Int -> Int -> Int -> Int -> Prop} (h : Q (Sp.dvL pl sh ti st p time l) (Sp.dvMe pl sh ti st p time l) (Sp.dvLo pl sh ti st p time l) (Sp.dvHi pl sh ti st p time l) (Sp.dvSh pl sh ti st p time l) (Sp.dvT pl sh ti st p time l) (Sp.drvE pl sh ti st p time l)) :
  (¬ Sp.tchkE pl sh ti st = 0 -> Q [] 0 0 0 0 0 (Sp.tchkE pl sh ti st)) /\
  (Sp.tchkE pl sh ti st = 0 -> (Sp.inr p 0 ((pl.length : Int) - 1) = false \/ Sp.inr time 0 ((ti.length : Int) - 1) = false) -> Q [] 0 0 0 0 0 4) /\
  (Sp.tchkE pl sh ti st = 0 -> Sp.inr p 0 ((pl.length : Int) - 1) = true -> Sp.inr time 0 ((ti.length : Int) - 1) = true -> ¬ Sp.stepsE st l p = 0 -> Q [] 0 0 0 0 0 (Sp.stepsE st l p)) /\
  (Sp.tchkE pl sh ti st = 0 -> Sp.inr p 0 ((pl.length : Int) - 1) = true -> Sp.inr time 0 ((ti.length : Int) - 1) = true -> Sp.stepsE st l p = 0 -> Sp.TourOk pl sh ti st l time /\ Q l (Sp.sumF (Sp.gMe st l) 0 l.length 0) (Sp.sumF (Sp.gLo st l) 0 l.length 0) (Sp.sumF (Sp.gHi st l) 0 l.length 0) (Sp.orF (Sp.shT st l time.toNat) 0 l.length 0) (Sp.stepsT st l p) 0) := by
 have bad : ∀ e, Sp.drvE pl sh ti st p time l = e -> ¬ e = 0 -> Q [] 0 0 0 0 0 e := fun e he hn => by
  unfold Sp.dvL Sp.dvMe Sp.dvLo Sp.dvHi Sp.dvSh Sp.dvT at h;rw [he] at h;rw [if_neg hn, if_neg hn, if_neg hn, if_neg hn, if_neg hn, if_neg hn] at h;exact h
 refine ⟨fun e => bad _ (by unfold Sp.drvE; rw [if_neg e]) e, fun e e2 => bad _ (by unfold Sp.drvE; rw [if_pos e, if_neg]; rcases e2 with e2 | e2 <;> simp [e2]) (by decide), fun e e2 e3 e4 => bad _ (by unfold Sp.drvE; rw [if_pos e, if_pos (by simp [e2, e3])]) e4, fun e e2 e3 e4 => ⟨?_, ?_⟩⟩
 ·have := Sp.inr_iff.1 e3;have := Sp.steps_street e4;exact ⟨Sp.tchk_ok e, by omega, by omega, this.1, this.2⟩
 ·have he : Sp.drvE pl sh ti st p time l = 0 := by unfold Sp.drvE; rw [if_pos e, if_pos (by simp [e2, e3]), e4]
  unfold Sp.dvL Sp.dvMe Sp.dvLo Sp.dvHi Sp.dvSh Sp.dvT at h;rw [if_pos he, if_pos he, if_pos he, if_pos he, if_pos he, if_pos he, he] at h;exact h
noncomputable def T25 : Tab Try.prog := ⟨[Yvl, Ym2, Y6o, Ybbl], [], []⟩
def Zu := [Cl.l [], Cl.i Zf, Cl.i Zf, Cl.i Zf, Cl.i Zf]
def Zt [W : InW] (t_Pl t_Sh t_Ti : Ro Jb) (t_St : Ro Jd) (p time : Int) (l : Ro Ybf) (Q : DS -> Prop) := Ar .i64 ((↑(t_Ti.xs.length) : Int) - (1 : Int)) fun z => Pre True (Vif (Sp.out Zf z [[Cl.i time]]) (Q [Zu, [Cl.i Zf], [Cl.i (4 : Int)]]) (Pre True (Vif (!decide (Sp.stepsE t_St.xs l.xs p = Zf)) (Q [Zu, [Cl.i Zf], [Cl.i (Sp.stepsE t_St.xs l.xs p)]]) (Pre (Sp.TourOk t_Pl.xs t_Sh.xs t_Ti.xs t_St.xs l.xs time) (Q [[Cl.l l.xs, Cl.i (Sp.sumF (Sp.gMe t_St.xs l.xs) (0 : Nat) (l.xs.length) Zf), Cl.i (Sp.sumF (Sp.gLo t_St.xs l.xs) (0 : Nat) (l.xs.length) Zf), Cl.i (Sp.sumF (Sp.gHi t_St.xs l.xs) (0 : Nat) (l.xs.length) Zf), Cl.i (Sp.orF (Sp.shT t_St.xs l.xs time.toNat) (0 : Nat) (l.xs.length) Zf)], [Cl.i (Sp.stepsT t_St.xs l.xs p)], [Cl.i Zf]])))))
def Yoy [W : InW] (t_Pl t_Sh t_Ti : Ro Jb) (t_St : Ro Jd) (p time : Int) (l : Ro Ybf) (Q : DS -> Prop) : Prop :=
 Pre (Sp.NamesOk t_Pl.xs /\ Sp.NamesOk t_Sh.xs /\ Sp.NamesOk t_Ti.xs) (Vif (!decide (Sp.tchkE t_Pl.xs t_Sh.xs t_Ti.xs t_St.xs = Zf)) (Vif (!decide (Sp.tchkE t_Pl.xs t_Sh.xs t_Ti.xs t_St.xs = Zf)) (Q [Zu, [Cl.i Zf], [Cl.i (Sp.tchkE t_Pl.xs t_Sh.xs t_Ti.xs t_St.xs)]]) (Zt t_Pl t_Sh t_Ti t_St p time l Q)) (Ar .i64 ((↑(t_Pl.xs.length) : Int) - (1 : Int)) fun z => Pre True (Vif (Sp.out Zf z [[Cl.i p]]) (Q [Zu, [Cl.i Zf], [Cl.i (4 : Int)]]) (Zt t_Pl t_Sh t_Ti t_St p time l Q))))
theorem Y47 (W : InW) (t_Pl t_Sh t_Ti t_St p time l Q) : Ybh (cxT Try.prog TT T25 1000 50) 1000 53 [.agg [.rs _ t_Pl, .rs _ t_Sh, .rs _ t_Ti, .rs _ t_St], .si .i64 p, .si .i64 time, .rs _ l] [] 0 (Ybj Ylq Q) (fun _ _ _ _ => Stuck 421) = Yoy t_Pl t_Sh t_Ti t_St p time l Q := by kernel_rfl
abbrev Ykf : List AT := [.agg [.sl Jb, .sl Jb, .sl Jb, .sl Jd], .one (.int .i64), .one (.int .i64), .one (.sl Ybf)]
theorem Y7m {pre : DS -> Prop} {res : DS -> DS} (hyp_ : ∀ (W : InW) (t_Pl t_Sh t_Ti : Ro Jb) (t_St : Ro Jd) (p time : Int) (l : Ro Ybf), pre [[.l t_Pl.xs, .l t_Sh.xs, .l t_Ti.xs, .l t_St.xs], [.i p], [.i time], [.l l.xs]] -> ∀ Q : DS -> Prop, Q (res [[.l t_Pl.xs, .l t_Sh.xs, .l t_Ti.xs, .l t_St.xs], [.i p], [.i time], [.l l.xs]]) -> Yoy t_Pl t_Sh t_Ti t_St p time l Q) : PureOk Try.prog 53 Ykf Ylq pre res :=
 PureOk.of' (fun W => @TT W) (fun W => @Yo W) Yd T25 1000 50 fun W t_Pl t_Sh t_Ti t_St p time l hp =>
  (Y47 W t_Pl t_Sh t_Ti t_St p time l (fun o => o = res [[.l t_Pl.xs, .l t_Sh.xs, .l t_Ti.xs, .l t_St.xs], [.i p], [.i time], [.l l.xs]])).mpr (hyp_ W t_Pl t_Sh t_Ti t_St p time l hp _ rfl)
theorem Ybb9 : PureOk Try.prog 53 Ykf Ylq Yvh Yvd :=
 Y7m fun W pl sh ti st p time l hp Q h => by
  unfold Yoy;delta Zt Zu Zf;have hpl := pl.len;have hti := ti.len;simp only [maxLen] at hpl hti;have hp : Sp.NamesOk pl.xs /\ Sp.NamesOk sh.xs /\ Sp.NamesOk ti.xs := hp;obtain ⟨q0, q1, q2, q3⟩ := Y8o (Q := fun a b c d e f g => Q [[.l a, .i b, .i c, .i d, .i e], [.i f], [.i g]]) h;clear h;simp only [out1];have hA0 : Sp.TourAt l.xs 0 0 0 0 0 := ⟨by omega, by omega, by omega, by omega, by omega, by omega⟩
  try simp only [show Int.toNat 0 = 0 from rfl, Nat.sub_zero]
  repeat' (first | omega | with_reducible refine vifd (fun _ => ?_) fun _ => ?_ | with_reducible refine vifn (fun _ => ?_) fun _ => ?_ | with_reducible refine vifq (fun _ => ?_) fun _ => ?_ | with_reducible refine vifq0 (fun _ => ?_) fun _ => ?_ | with_reducible refine vifq1 (fun _ => ?_) fun _ => ?_ | with_reducible refine vifb (fun _ => ?_) fun _ => ?_ | with_reducible refine vif (fun _ => ?_) fun _ => ?_ | (with_reducible refine nedd ?_ ?_; omega) | (with_reducible refine ned ?_ ?_; simp only [Bool.and_eq_true, decide_eq_true_eq]; omega) | (with_reducible refine ar64 ?_ ?_; omega) | (with_reducible refine Ybo ?_ ?_; (first | trivial | omega | assumption | (refine ⟨?_, ?_⟩ <;> first | trivial | omega | assumption) | (refine ⟨?_, ?_, ?_⟩ <;> first | trivial | omega | assumption) | (refine ⟨?_, ?_, ?_, ?_⟩ <;> first | trivial | omega | assumption))))
  all_goals first | contradiction | exact q0 (by assumption) | exact q1 (by assumption) (.inl (by assumption)) | exact q1 (by assumption) (.inr (by assumption)) | exact q2 (by assumption) (by assumption) (by assumption) (by assumption) | (have g := q3 (by assumption) (by assumption) (by assumption) (by assumption); exact ⟨g.1, g.2⟩) | (have g := q3 (by assumption) (by assumption) (by assumption) (by assumption); have gl := g.1.ln; exact nedd (by omega) ⟨⟨g.1, hA0⟩, g.2⟩) | skip
noncomputable def Yvk : PC Try.prog := ⟨53, Ykf, Ylq, Yvh, Yvd, Ybb9⟩
open Go.RowKit
set_option maxRecDepth 100000
set_option maxHeartbeats 1600000
abbrev Yea : List Ty := [.int .i64, .int .i64, .int .i64, .int .i64]
abbrev tyRt : List Ty := [.sl Jf]
namespace Sp
def hrdE (ba pe lo hi : Int) : Int := if inr ba 0 1000 && (inr pe 0 100 && (inr lo 0 100 && inr hi 0 100)) then (if hi < lo then 2 else 0) else 7
def routeE (st l : Dt) (ce : Int) : Int := if inr l.length 1 60 then (if stepsE st l ce = 0 then (if stepsT st l ce = ce then 0 else 9) else stepsE st l ce) else 3
end Sp
noncomputable def T31 : Tab Try.prog := ⟨[Y1d, Yem, Y6l], [], []⟩
def Yzq [W : InW] (h_Ba h_Pe h_Lo h_Hi : Int) (Q : DS -> Prop) : Prop :=
 Pre True (Vif (!Sp.inr h_Ba Zf (1000 : Int)) (Q [[Cl.i (7 : Int)]]) (Pre True (Vif (!Sp.inr h_Pe Zf (100 : Int)) (Q [[Cl.i (7 : Int)]]) (Pre True (Vif (!Sp.inr h_Lo Zf (100 : Int)) (Q [[Cl.i (7 : Int)]]) (Pre True (Vif (!Sp.inr h_Hi Zf (100 : Int)) (Q [[Cl.i (7 : Int)]]) (Vif (decide (h_Hi < h_Lo)) (Q [[Cl.i (2 : Int)]]) (Q [[Cl.i Zf]])))))))))
theorem Ybgc (W : InW) (h_Ba h_Pe h_Lo h_Hi Q) : Ybh (cxT Try.prog TT T31 1000 50) 1000 72 [.agg [.si .i64 h_Ba, .si .i64 h_Pe, .si .i64 h_Lo, .si .i64 h_Hi]] [] 0 (Ybj [(false, [.int .i64])] Q) (fun _ _ _ _ => Stuck 421) = Yzq h_Ba h_Pe h_Lo h_Hi Q := by kernel_rfl
abbrev Ytm : List AT := [.agg [.int .i64, .int .i64, .int .i64, .int .i64]]
theorem Ybh0 {pre : DS -> Prop} {res : DS -> DS} (hyp_ : ∀ (W : InW) (h_Ba h_Pe h_Lo h_Hi : Int), pre [[.i h_Ba, .i h_Pe, .i h_Lo, .i h_Hi]] -> ∀ Q : DS -> Prop, Q (res [[.i h_Ba, .i h_Pe, .i h_Lo, .i h_Hi]]) -> Yzq h_Ba h_Pe h_Lo h_Hi Q) : PureOk Try.prog 72 Ytm [(false, [.int .i64])] pre res :=
 PureOk.of' (fun W => @TT W) (fun W => @Yo W) Yd T31 1000 50 fun W h_Ba h_Pe h_Lo h_Hi hp =>
  (Ybgc W h_Ba h_Pe h_Lo h_Hi (fun o => o = res [[.i h_Ba, .i h_Pe, .i h_Lo, .i h_Hi]])).mpr (hyp_ W h_Ba h_Pe h_Lo h_Hi hp _ rfl)
def Yop [W : InW] (h_Ba h_Pe h_Lo h_Hi : Int) (Q : DS -> Prop) : Prop :=
 Pre True (Vif (Sp.out Zf (1000 : Int) [[Cl.i h_Ba]]) (Q [[Cl.i (7 : Int)]]) (Pre True (Vif (Sp.out Zf (100 : Int) [[Cl.i h_Pe]]) (Q [[Cl.i (7 : Int)]]) (Pre True (Vif (Sp.out Zf (100 : Int) [[Cl.i h_Lo], [Cl.i h_Hi]]) (Q [[Cl.i (7 : Int)]]) (Vif (decide (h_Hi < h_Lo)) (Q [[Cl.i (2 : Int)]]) (Q [[Cl.i Zf]])))))))
theorem Y4y (W : InW) (h_Ba h_Pe h_Lo h_Hi Q) : Ybh (cxT Try.prog TT T31 1000 50) 1000 88 [.agg [.si .i64 h_Ba, .si .i64 h_Pe, .si .i64 h_Lo, .si .i64 h_Hi]] [] 0 (Ybj [(false, [.int .i64])] Q) (fun _ _ _ _ => Stuck 421) = Yop h_Ba h_Pe h_Lo h_Hi Q := by kernel_rfl
abbrev Yj6 : List AT := [.agg [.int .i64, .int .i64, .int .i64, .int .i64]]
theorem Y7d {pre : DS -> Prop} {res : DS -> DS} (hyp_ : ∀ (W : InW) (h_Ba h_Pe h_Lo h_Hi : Int), pre [[.i h_Ba, .i h_Pe, .i h_Lo, .i h_Hi]] -> ∀ Q : DS -> Prop, Q (res [[.i h_Ba, .i h_Pe, .i h_Lo, .i h_Hi]]) -> Yop h_Ba h_Pe h_Lo h_Hi Q) : PureOk Try.prog 88 Yj6 [(false, [.int .i64])] pre res :=
 PureOk.of' (fun W => @TT W) (fun W => @Yo W) Yd T31 1000 50 fun W h_Ba h_Pe h_Lo h_Hi hp =>
  (Y4y W h_Ba h_Pe h_Lo h_Hi (fun o => o = res [[.i h_Ba, .i h_Pe, .i h_Lo, .i h_Hi]])).mpr (hyp_ W h_Ba h_Pe h_Lo h_Hi hp _ rfl)
abbrev Ygn (ds : DS) : DS := match ds with | [[.i ba, .i pe, .i lo, .i hi]] => [[.i (Sp.hrdE ba pe lo hi)]] | _ => []
theorem Ybkr : PureOk Try.prog 72 Ytm [(false, [.int .i64])] (fun _ => True) Ygn :=
 Ybh0 fun W ba pe lo hi hp Q h => by
  unfold Yzq;delta Zf;simp only [Ygn, Sp.hrdE] at h
  repeat' (first | omega | with_reducible refine vifd (fun _ => ?_) fun _ => ?_ | with_reducible refine vifn (fun _ => ?_) fun _ => ?_ | with_reducible refine vifq (fun _ => ?_) fun _ => ?_ | with_reducible refine vifq0 (fun _ => ?_) fun _ => ?_ | with_reducible refine vifq1 (fun _ => ?_) fun _ => ?_ | with_reducible refine vifb (fun _ => ?_) fun _ => ?_ | with_reducible refine vif (fun _ => ?_) fun _ => ?_ | (with_reducible refine nedd ?_ ?_; omega) | (with_reducible refine ned ?_ ?_; simp only [Bool.and_eq_true, decide_eq_true_eq]; omega) | (with_reducible refine ar64 ?_ ?_; omega) | (with_reducible refine Ybo ?_ ?_; (first | trivial | omega | assumption | (refine ⟨?_, ?_⟩ <;> first | trivial | omega | assumption) | (refine ⟨?_, ?_, ?_⟩ <;> first | trivial | omega | assumption) | (refine ⟨?_, ?_, ?_, ?_⟩ <;> first | trivial | omega | assumption))))
  all_goals ((repeat' split at h) <;> first | exact h | omega | (simp_all; done) | (simp_all; omega))
theorem Ybb0 : PureOk Try.prog 88 Yj6 [(false, [.int .i64])] (fun _ => True) Ygn :=
 Y7d fun W ba pe lo hi hp Q h => by
  unfold Yop;delta Zf;simp only [Ygn, Sp.hrdE] at h;simp only [out1, out2]
  repeat' (first | omega | with_reducible refine vifd (fun _ => ?_) fun _ => ?_ | with_reducible refine vifn (fun _ => ?_) fun _ => ?_ | with_reducible refine vifq (fun _ => ?_) fun _ => ?_ | with_reducible refine vifq0 (fun _ => ?_) fun _ => ?_ | with_reducible refine vifq1 (fun _ => ?_) fun _ => ?_ | with_reducible refine vifb (fun _ => ?_) fun _ => ?_ | with_reducible refine vif (fun _ => ?_) fun _ => ?_ | (with_reducible refine nedd ?_ ?_; omega) | (with_reducible refine ned ?_ ?_; simp only [Bool.and_eq_true, decide_eq_true_eq]; omega) | (with_reducible refine ar64 ?_ ?_; omega) | (with_reducible refine Ybo ?_ ?_; (first | trivial | omega | assumption | (refine ⟨?_, ?_⟩ <;> first | trivial | omega | assumption) | (refine ⟨?_, ?_, ?_⟩ <;> first | trivial | omega | assumption) | (refine ⟨?_, ?_, ?_, ?_⟩ <;> first | trivial | omega | assumption))))
  all_goals ((repeat' split at h) <;> first | exact h | omega | (simp_all; done) | (simp_all; omega))
noncomputable def Ybgq : PC Try.prog := ⟨72, Ytm, [(false, [.int .i64])], fun _ => True, Ygn, Ybkr⟩
noncomputable def Y6g : PC Try.prog := ⟨88, Yj6, [(false, [.int .i64])], fun _ => True, Ygn, Ybb0⟩
def Ytr [W : InW] (c_Pl c_Sh c_Ti : Ro Jb) (c_St : Ro Jd) (c_Ce : Int) (c_Hd : Ro Yea) (c_Rt : Ro tyRt) (l : Ro Jf) (Q : DS -> Prop) : Prop :=
 Pre True (Vif (!Sp.inr (↑(l.xs.length) : Int) (1 : Int) (60 : Int)) (Q [[Cl.i (3 : Int)]]) (Pre True (Vif (decide (Sp.stepsE c_St.xs l.xs c_Ce = (0 : Int))) (Vif (!decide (Sp.stepsT c_St.xs l.xs c_Ce = c_Ce)) (Q [[Cl.i (9 : Int)]]) (Q [[Cl.i (Sp.stepsE c_St.xs l.xs c_Ce)]])) (Q [[Cl.i (Sp.stepsE c_St.xs l.xs c_Ce)]]))))
theorem Yban (W : InW) (c_Pl c_Sh c_Ti c_St c_Ce c_Hd c_Rt l Q) : Ybh (cxT Try.prog TT T31 1000 50) 1000 73 [.agg [.rs _ c_Pl, .rs _ c_Sh, .rs _ c_Ti, .rs _ c_St, .si .i64 c_Ce, .rs _ c_Hd, .rs _ c_Rt], .rs _ l] [] 0 (Ybj [(false, [.int .i64])] Q) (fun _ _ _ _ => Stuck 421) = Ytr c_Pl c_Sh c_Ti c_St c_Ce c_Hd c_Rt l Q := by kernel_rfl
abbrev Yoa : List AT := [.agg [.sl Jb, .sl Jb, .sl Jb, .sl Jd, .int .i64, .sl Yea, .sl tyRt], .one (.sl Jf)]
theorem Ybc0 {pre : DS -> Prop} {res : DS -> DS} (hyp_ : ∀ (W : InW) (c_Pl c_Sh c_Ti : Ro Jb) (c_St : Ro Jd) (c_Ce : Int) (c_Hd : Ro Yea) (c_Rt : Ro tyRt) (l : Ro Jf), pre [[.l c_Pl.xs, .l c_Sh.xs, .l c_Ti.xs, .l c_St.xs, .i c_Ce, .l c_Hd.xs, .l c_Rt.xs], [.l l.xs]] -> ∀ Q : DS -> Prop, Q (res [[.l c_Pl.xs, .l c_Sh.xs, .l c_Ti.xs, .l c_St.xs, .i c_Ce, .l c_Hd.xs, .l c_Rt.xs], [.l l.xs]]) -> Ytr c_Pl c_Sh c_Ti c_St c_Ce c_Hd c_Rt l Q) : PureOk Try.prog 73 Yoa [(false, [.int .i64])] pre res :=
 PureOk.of' (fun W => @TT W) (fun W => @Yo W) Yd T31 1000 50 fun W c_Pl c_Sh c_Ti c_St c_Ce c_Hd c_Rt l hp =>
  (Yban W c_Pl c_Sh c_Ti c_St c_Ce c_Hd c_Rt l (fun o => o = res [[.l c_Pl.xs, .l c_Sh.xs, .l c_Ti.xs, .l c_St.xs, .i c_Ce, .l c_Hd.xs, .l c_Rt.xs], [.l l.xs]])).mpr (hyp_ W c_Pl c_Sh c_Ti c_St c_Ce c_Hd c_Rt l hp _ rfl)
abbrev Ymt (ds : DS) : DS := match ds with | [[.l _, .l _, .l _, .l st, .i ce, .l _, .l _], [.l l]] => [[.i (Sp.routeE st l ce)]] | _ => []
theorem Ybgz : PureOk Try.prog 73 Yoa [(false, [.int .i64])] (fun _ => True) Ymt :=
 Ybc0 fun W pl sh ti st ce hd rt l hp Q h => by
  unfold Ytr;simp only [Ymt, Sp.routeE] at h
  repeat' (first | omega | with_reducible refine vifd (fun _ => ?_) fun _ => ?_ | with_reducible refine vifn (fun _ => ?_) fun _ => ?_ | with_reducible refine vifq (fun _ => ?_) fun _ => ?_ | with_reducible refine vifq0 (fun _ => ?_) fun _ => ?_ | with_reducible refine vifq1 (fun _ => ?_) fun _ => ?_ | with_reducible refine vifb (fun _ => ?_) fun _ => ?_ | with_reducible refine vif (fun _ => ?_) fun _ => ?_ | (with_reducible refine nedd ?_ ?_; omega) | (with_reducible refine ned ?_ ?_; simp only [Bool.and_eq_true, decide_eq_true_eq]; omega) | (with_reducible refine ar64 ?_ ?_; omega) | (with_reducible refine Ybo ?_ ?_; (first | trivial | omega | assumption | (refine ⟨?_, ?_⟩ <;> first | trivial | omega | assumption) | (refine ⟨?_, ?_, ?_⟩ <;> first | trivial | omega | assumption) | (refine ⟨?_, ?_, ?_, ?_⟩ <;> first | trivial | omega | assumption))))
  all_goals ((repeat' split at h) <;> first | exact h | omega | (simp_all; done) | (simp_all; omega))
noncomputable def Ybbj : PC Try.prog := ⟨73, Yoa, [(false, [.int .i64])], fun _ => True, Ymt, Ybgz⟩
noncomputable def T32 : Tab Try.prog := ⟨[Ybgq, Ybbj], [], []⟩
def Y0l [InW] (e : List Ed) (K : Nat -> List Ed -> Prop) : Prop := match e with
 | [.i i, .ro _ pl, .ro _ sh, .ro _ ti, .ro _ st, .i ce, .ro _ hd, .ro _ rt] => Pre (0 <= i /\ i <= hd.xs.length) (Vif (Sp.hasE (Sp.hdErr hd.xs) i.toNat (hd.xs.length - i.toNat))
   (K 1 [.i (Sp.idxE (Sp.hdErr hd.xs) i.toNat (hd.xs.length - i.toNat)), .i (Sp.hdErr hd.xs (Sp.idxE (Sp.hdErr hd.xs) i.toNat (hd.xs.length - i.toNat)))]) (K 0 [.ro _ pl, .ro _ sh, .ro _ ti, .ro _ st, .i ce, .ro _ hd, .ro _ rt]))
 | _ => False
noncomputable def Y2c : LC where
 len := 86
 T := [(1, (.ptr 1 0)), (8, .int .i64)]
 H := [(1, .blk 29 [.rs Jb, .rs Jb, .rs Jb, .rs Jd, .int .i64, .rs Yea, .rs tyRt])]
 W := [2, 3, 4, 7, 51, 52, 53, 54, 55, 56, 57, 58, 59, 60, 61, 62, 63, 64, 65, 66, 67]
 outs := [⟨.exit 0, [(1, (.ptr 1 0))], [(1, .blk 29 [.rs Jb, .rs Jb, .rs Jb, .rs Jd, .int .i64, .rs Yea, .rs tyRt])], [2, 3, 4, 7, 8, 51, 52, 53, 54, 55, 56, 57, 58, 59, 60, 61, 62, 63, 64, 65, 66, 67]⟩, ⟨.ret, [(2, (.lit (.int .i64 2))), (3, .int .i64), (4, .int .i64)], [], [1, 7, 8, 51, 52, 53, 54, 55, 56, 57, 58, 59, 60, 61, 62, 63, 64, 65, 66, 67]⟩]
 spec := Y0l
def Yzy [W : InW] (i : Int) (pl sh ti : Ro Jb) (st : Ro Jd) (ce : Int) (hd : Ro Yea) (rt : Ro tyRt) (A : List Ed -> Prop) (K : Nat -> List Ed -> Prop) : Prop :=
 Vif (decide (i < (↑(hd.xs.length) : Int))) (Need (decide ((0 : Int) <= i) && decide (i < (↑(hd.xs.length) : Int))) (Need (decide (i.toNat < hd.xs.length)) (Pre True (Vif (!decide (Sp.hrdE (cel hd.xs i.toNat (0 : Nat)).int (cel hd.xs i.toNat (0+1 : Nat)).int (cel hd.xs i.toNat (0+1+1 : Nat)).int (cel hd.xs i.toNat (0+1+1+1 : Nat)).int = (0 : Int))) (K (0+1 : Nat) [.i i, .i (Sp.hrdE (cel hd.xs i.toNat (0 : Nat)).int (cel hd.xs i.toNat (0+1 : Nat)).int (cel hd.xs i.toNat (0+1+1 : Nat)).int (cel hd.xs i.toNat (0+1+1+1 : Nat)).int)]) (Ar .i64 (i + (1 : Int)) fun z => A [.i z, .ro _ pl, .ro _ sh, .ro _ ti, .ro Zb st, .i ce, .ro _ hd, .ro [Ty.sl [Ty.int IntKind.i64, Ty.bool]] rt]))))) (K (0 : Nat) [.ro _ pl, .ro _ sh, .ro _ ti, .ro Zb st, .i ce, .ro _ hd, .ro [Ty.sl [Ty.int IntKind.i64, Ty.bool]] rt])
theorem Ybfs (W : InW) (i pl sh ti st ce hd rt A K) : Ybd { cxT Try.prog TT T32 1000 50 with fn := 43 } 1000 (Y1 Try.prog 43 10) (Y4 86 [(1, .ptr 1 0), (8, .si .i64 i)] [2, 3, 4, 7, 51, 52, 53, 54, 55, 56, 57, 58, 59, 60, 61, 62, 63, 64, 65, 66, 67]) [(1, .blk 29 [.rs _ pl, .rs _ sh, .rs _ ti, .rs _ st, .si .i64 ce, .rs _ hd, .rs _ rt])] (Y6 Y2c A K) = Yzy i pl sh ti st ce hd rt A K := by kernel_rfl
def Y1o : Prop := ∀ (W : InW) (body a : Code), (Try.prog.funcs[43]?).bind (·.body) = some body -> a ∈ Yi body -> Ybe a = 10 -> @Y0 W Try.prog a (@Yh W Y2c)
theorem Ybhf (meas : [InW] -> List Ed -> Nat) (hyp_ : ∀ (W : InW) (i : Int) (pl sh ti : Ro Jb) (st : Ro Jd) (ce : Int) (hd : Ro Yea) (rt : Ro tyRt) (K : Nat -> List Ed -> Prop), Y0l [.i i, .ro _ pl, .ro _ sh, .ro _ ti, .ro _ st, .i ce, .ro _ hd, .ro _ rt] K -> ∀ A : List Ed -> Prop, (∀ e, meas e < meas [.i i, .ro _ pl, .ro _ sh, .ro _ ti, .ro _ st, .i ce, .ro _ hd, .ro _ rt] -> Y0l e K -> A e) -> Yzy i pl sh ti st ce hd rt A K) : Y1o :=
 LE.okOf' (fun W => @TT W) (fun W => @Yo W) Yd T32 1000 50 (by kernel_rfl) Y2c (fun W => @meas W) fun W i pl sh ti st ce hd rt K hs =>
  (Ybfs W i pl sh ti st ce hd rt (fun e => meas e < meas [.i i, .ro _ pl, .ro _ sh, .ro _ ti, .ro _ st, .i ce, .ro _ hd, .ro _ rt] /\ Y0l e K) K).mpr (hyp_ W i pl sh ti st ce hd rt K hs _ fun e h1 h2 => ⟨h1, h2⟩)
def Y0j [InW] (e : List Ed) (K : Nat -> List Ed -> Prop) : Prop := match e with
 | [.i i, .ro _ pl, .ro _ sh, .ro _ ti, .ro _ st, .i ce, .ro _ hd, .ro _ rt] => Pre (0 <= i /\ i <= rt.xs.length) (Vif (Sp.hasE (Sp.rtErr st.xs rt.xs ce) i.toNat (rt.xs.length - i.toNat))
   (K 1 [.i (Sp.idxE (Sp.rtErr st.xs rt.xs ce) i.toNat (rt.xs.length - i.toNat)), .i (Sp.rtErr st.xs rt.xs ce (Sp.idxE (Sp.rtErr st.xs rt.xs ce) i.toNat (rt.xs.length - i.toNat)))]) (K 0 []))
 | _ => False
noncomputable def Y2a : LC where
 len := 86
 T := [(1, (.ptr 1 0)), (9, .int .i64)]
 H := [(1, .blk 29 [.rs Jb, .rs Jb, .rs Jb, .rs Jd, .int .i64, .rs Yea, .rs tyRt])]
 W := [2, 3, 4, 7, 68, 69, 70, 71, 72, 73, 74, 75, 76, 77, 78, 79, 80, 81, 82, 83, 84, 85]
 outs := [⟨.exit 2, [], [], [1, 2, 3, 4, 7, 9, 68, 69, 70, 71, 72, 73, 74, 75, 76, 77, 78, 79, 80, 81, 82, 83, 84, 85]⟩, ⟨.ret, [(2, (.lit (.int .i64 3))), (3, .int .i64), (4, .int .i64)], [], [1, 7, 9, 68, 69, 70, 71, 72, 73, 74, 75, 76, 77, 78, 79, 80, 81, 82, 83, 84, 85]⟩]
 spec := Y0j
def Yzw [W : InW] (i : Int) (pl sh ti : Ro Jb) (st : Ro Jd) (ce : Int) (hd : Ro Yea) (rt : Ro tyRt) (A : List Ed -> Prop) (K : Nat -> List Ed -> Prop) : Prop :=
 Vif (decide (i < (↑(rt.xs.length) : Int))) (Need (decide ((0 : Int) <= i) && decide (i < (↑(rt.xs.length) : Int))) (Need (decide (i.toNat < rt.xs.length)) (Pre True (Vif (!decide (Sp.routeE st.xs (cel rt.xs i.toNat (0 : Nat)).lst ce = (0 : Int))) (K (0+1 : Nat) [.i i, .i (Sp.routeE st.xs (cel rt.xs i.toNat (0 : Nat)).lst ce)]) (Ar .i64 (i + (1 : Int)) fun z => A [.i z, .ro _ pl, .ro _ sh, .ro _ ti, .ro Zb st, .i ce, .ro _ hd, .ro [Ty.sl [Ty.int IntKind.i64, Ty.bool]] rt]))))) (K (0 : Nat) [])
theorem Ybfq (W : InW) (i pl sh ti st ce hd rt A K) : Ybd { cxT Try.prog TT T32 1000 50 with fn := 43 } 1000 (Y1 Try.prog 43 16) (Y4 86 [(1, .ptr 1 0), (9, .si .i64 i)] [2, 3, 4, 7, 68, 69, 70, 71, 72, 73, 74, 75, 76, 77, 78, 79, 80, 81, 82, 83, 84, 85]) [(1, .blk 29 [.rs _ pl, .rs _ sh, .rs _ ti, .rs _ st, .si .i64 ce, .rs _ hd, .rs _ rt])] (Y6 Y2a A K) = Yzw i pl sh ti st ce hd rt A K := by kernel_rfl
def Y1m : Prop := ∀ (W : InW) (body a : Code), (Try.prog.funcs[43]?).bind (·.body) = some body -> a ∈ Yi body -> Ybe a = 16 -> @Y0 W Try.prog a (@Yh W Y2a)
theorem Ybhd (meas : [InW] -> List Ed -> Nat) (hyp_ : ∀ (W : InW) (i : Int) (pl sh ti : Ro Jb) (st : Ro Jd) (ce : Int) (hd : Ro Yea) (rt : Ro tyRt) (K : Nat -> List Ed -> Prop), Y0j [.i i, .ro _ pl, .ro _ sh, .ro _ ti, .ro _ st, .i ce, .ro _ hd, .ro _ rt] K -> ∀ A : List Ed -> Prop, (∀ e, meas e < meas [.i i, .ro _ pl, .ro _ sh, .ro _ ti, .ro _ st, .i ce, .ro _ hd, .ro _ rt] -> Y0j e K -> A e) -> Yzw i pl sh ti st ce hd rt A K) : Y1m :=
 LE.okOf' (fun W => @TT W) (fun W => @Yo W) Yd T32 1000 50 (by kernel_rfl) Y2a (fun W => @meas W) fun W i pl sh ti st ce hd rt K hs =>
  (Ybfq W i pl sh ti st ce hd rt (fun e => meas e < meas [.i i, .ro _ pl, .ro _ sh, .ro _ ti, .ro _ st, .i ce, .ro _ hd, .ro _ rt] /\ Y0j e K) K).mpr (hyp_ W i pl sh ti st ce hd rt K hs _ fun e h1 h2 => ⟨h1, h2⟩)
theorem Ybk6 : Y1o := Ybhf (fun e => match e with | [.i i, _, _, _, _, _, .ro _ hd, _] => ((hd.xs.length : Int) - i).toNat | _ => 0) fun W i pl sh ti st ce hd rt K hs A hA => by
 obtain ⟨⟨h0, h1⟩, hk⟩ := hs;unfold Yzy;delta Zb;have hm := hd.len;simp only [maxLen] at hm;refine vifd (fun e => ?_) fun e => ?_
 ·rw [show hd.xs.length - i.toNat = (hd.xs.length - (i.toNat + 1)) + 1 by omega] at hk;obtain ⟨g1, g2⟩ := Yuy (K1 := fun j e => K 1 [.i j, .i e]) hk;rw [Int.toNat_of_nonneg h0] at g1;have ez : (i + 1).toNat = i.toNat + 1 := by omega
  have hA' : Sp.hdErr hd.xs i.toNat = 0 -> A [.i (i + 1), .ro _ pl, .ro _ sh, .ro _ ti, .ro _ st, .i ce, .ro _ hd, .ro _ rt] := fun f => hA _ (by show ((hd.xs.length : Int) - (i + 1)).toNat < ((hd.xs.length : Int) - i).toNat; omega) ⟨⟨by omega, by omega⟩, by rw [ez]; exact g2 f⟩;clear g2 hk hA;simp only [Nat.zero_add, Nat.reduceAdd];rw [show Sp.hrdE (cel hd.xs i.toNat 0).int (cel hd.xs i.toNat 1).int (cel hd.xs i.toNat 2).int (cel hd.xs i.toNat 3).int = Sp.hdErr hd.xs i.toNat from rfl];refine ned (by simp; omega) (nedd (by omega) ⟨trivial, vifn (fun e2 => g1 e2) fun e2 => ar64 (by omega) (hA' e2)⟩)
 ·rw [show hd.xs.length - i.toNat = 0 by omega] at hk;exact hk.2 rfl
theorem Ybk4 : Y1m := Ybhd (fun e => match e with | [.i i, _, _, _, _, _, _, .ro _ rt] => ((rt.xs.length : Int) - i).toNat | _ => 0) fun W i pl sh ti st ce hd rt K hs A hA => by
 obtain ⟨⟨h0, h1⟩, hk⟩ := hs;unfold Yzw;delta Zb;have hm := rt.len;simp only [maxLen] at hm;refine vifd (fun e => ?_) fun e => ?_
 ·rw [show rt.xs.length - i.toNat = (rt.xs.length - (i.toNat + 1)) + 1 by omega] at hk;obtain ⟨g1, g2⟩ := Yuy (K1 := fun j e => K 1 [.i j, .i e]) hk;rw [Int.toNat_of_nonneg h0] at g1;have ez : (i + 1).toNat = i.toNat + 1 := by omega
  have hA' : Sp.rtErr st.xs rt.xs ce i.toNat = 0 -> A [.i (i + 1), .ro _ pl, .ro _ sh, .ro _ ti, .ro _ st, .i ce, .ro _ hd, .ro _ rt] := fun f => hA _ (by show ((rt.xs.length : Int) - (i + 1)).toNat < ((rt.xs.length : Int) - i).toNat; omega) ⟨⟨by omega, by omega⟩, by rw [ez]; exact g2 f⟩;clear g2 hk hA;simp only [Nat.zero_add, Nat.reduceAdd];rw [show Sp.routeE st.xs (cel rt.xs i.toNat 0).lst ce = Sp.rtErr st.xs rt.xs ce i.toNat from rfl];refine ned (by simp; omega) (nedd (by omega) ⟨trivial, vifn (fun e2 => g1 e2) fun e2 => ar64 (by omega) (hA' e2)⟩)
 ·rw [show rt.xs.length - i.toNat = 0 by omega] at hk;exact hk.2 rfl
noncomputable def Yblv : LE Try.prog := ⟨43, 10, fun W => @Yh W Y2c, Ybk6⟩
noncomputable def Yblt : LE Try.prog := ⟨43, 16, fun W => @Yh W Y2a, Ybk4⟩
noncomputable def T33 : Tab Try.prog := ⟨[Y6n, Y1d], [Yblv, Yblt], []⟩
def Zv [W : InW] (c_Pl c_Sh c_Ti : Ro Jb) (c_St : Ro Jd) (c_Ce : Int) (c_Hd : Ro Yea) (c_Rt : Ro tyRt) (Q : DS -> Prop) := Vif (!decide (Sp.tchkE c_Pl.xs c_Sh.xs c_Ti.xs c_St.xs = Zf)) (Q [[Cl.i (1 : Int)], [Cl.i Zf], [Cl.i (Sp.tchkE c_Pl.xs c_Sh.xs c_Ti.xs c_St.xs)]]) (Pre (Zf <= Zf /\ Zf <= (↑(c_Hd.xs.length) : Int)) (Vif (Sp.hasE (Sp.hdErr c_Hd.xs) Zg (c_Hd.xs.length - Int.toNat Zf)) (Q [[Cl.i (2 : Int)], [Cl.i (↑(Sp.idxE (Sp.hdErr c_Hd.xs) Zg (c_Hd.xs.length - Int.toNat Zf)) : Int)], [Cl.i (Sp.hdErr c_Hd.xs (Sp.idxE (Sp.hdErr c_Hd.xs) Zg (c_Hd.xs.length - Int.toNat Zf)))]]) (Pre (Zf <= Zf /\ Zf <= (↑(c_Rt.xs.length) : Int)) (Vif (Sp.hasE (Sp.rtErr c_St.xs c_Rt.xs c_Ce) Zg (c_Rt.xs.length - Int.toNat Zf)) (Q [[Cl.i (3 : Int)], [Cl.i (↑(Sp.idxE (Sp.rtErr c_St.xs c_Rt.xs c_Ce) Zg (c_Rt.xs.length - Int.toNat Zf)) : Int)], [Cl.i (Sp.rtErr c_St.xs c_Rt.xs c_Ce (Sp.idxE (Sp.rtErr c_St.xs c_Rt.xs c_Ce) Zg (c_Rt.xs.length - Int.toNat Zf)))]]) (Q [[Cl.i Zf], [Cl.i Zf], [Cl.i Zf]])))))
def Yo3 [W : InW] (c_Pl c_Sh c_Ti : Ro Jb) (c_St : Ro Jd) (c_Ce : Int) (c_Hd : Ro Yea) (c_Rt : Ro tyRt) (Q : DS -> Prop) : Prop :=
 Pre (Sp.NamesOk c_Pl.xs /\ Sp.NamesOk c_Sh.xs /\ Sp.NamesOk c_Ti.xs) (Vif (decide (Sp.tchkE c_Pl.xs c_Sh.xs c_Ti.xs c_St.xs = Zf)) (Ar .i64 ((↑(c_Pl.xs.length) : Int) - (1 : Int)) fun z => Pre True (Vif (!Sp.inr c_Ce Zf z) (Q [[Cl.i (1 : Int)], [Cl.i Zf], [Cl.i (4 : Int)]]) (Vif (decide (Sp.tchkE c_Pl.xs c_Sh.xs c_Ti.xs c_St.xs = Zf)) (Vif (!decide ((↑(c_Hd.xs.length) : Int) = (↑(c_St.xs.length) : Int))) (Q Zh) (Vif (decide ((10 : Int) < (↑(c_Rt.xs.length) : Int))) (Q Zh) (Zv c_Pl c_Sh c_Ti c_St c_Ce c_Hd c_Rt Q))) (Zv c_Pl c_Sh c_Ti c_St c_Ce c_Hd c_Rt Q)))) (Vif (decide (Sp.tchkE c_Pl.xs c_Sh.xs c_Ti.xs c_St.xs = Zf)) (Vif (!decide ((↑(c_Hd.xs.length) : Int) = (↑(c_St.xs.length) : Int))) (Q Zh) (Vif (decide ((10 : Int) < (↑(c_Rt.xs.length) : Int))) (Q Zh) (Zv c_Pl c_Sh c_Ti c_St c_Ce c_Hd c_Rt Q))) (Zv c_Pl c_Sh c_Ti c_St c_Ce c_Hd c_Rt Q)))
theorem Y5c (W : InW) (c_Pl c_Sh c_Ti c_St c_Ce c_Hd c_Rt Q) : Ybh (cxT Try.prog TT T33 1000 50) 1000 43 [.agg [.rs _ c_Pl, .rs _ c_Sh, .rs _ c_Ti, .rs _ c_St, .si .i64 c_Ce, .rs _ c_Hd, .rs _ c_Rt]] [] 0 (Ybj [(false, [.int .i64]), (false, [.int .i64]), (false, [.int .i64])] Q) (fun _ _ _ _ => Stuck 421) = Yo3 c_Pl c_Sh c_Ti c_St c_Ce c_Hd c_Rt Q := by kernel_rfl
abbrev Ykk : List AT := [.agg [.sl Jb, .sl Jb, .sl Jb, .sl Jd, .int .i64, .sl Yea, .sl tyRt]]
theorem Y7r {pre : DS -> Prop} {res : DS -> DS} (hyp_ : ∀ (W : InW) (c_Pl c_Sh c_Ti : Ro Jb) (c_St : Ro Jd) (c_Ce : Int) (c_Hd : Ro Yea) (c_Rt : Ro tyRt), pre [[.l c_Pl.xs, .l c_Sh.xs, .l c_Ti.xs, .l c_St.xs, .i c_Ce, .l c_Hd.xs, .l c_Rt.xs]] -> ∀ Q : DS -> Prop, Q (res [[.l c_Pl.xs, .l c_Sh.xs, .l c_Ti.xs, .l c_St.xs, .i c_Ce, .l c_Hd.xs, .l c_Rt.xs]]) -> Yo3 c_Pl c_Sh c_Ti c_St c_Ce c_Hd c_Rt Q) : PureOk Try.prog 43 Ykk [(false, [.int .i64]), (false, [.int .i64]), (false, [.int .i64])] pre res :=
 PureOk.of' (fun W => @TT W) (fun W => @Yo W) Yd T33 1000 50 fun W c_Pl c_Sh c_Ti c_St c_Ce c_Hd c_Rt hp =>
  (Y5c W c_Pl c_Sh c_Ti c_St c_Ce c_Hd c_Rt (fun o => o = res [[.l c_Pl.xs, .l c_Sh.xs, .l c_Ti.xs, .l c_St.xs, .i c_Ce, .l c_Hd.xs, .l c_Rt.xs]])).mpr (hyp_ W c_Pl c_Sh c_Ti c_St c_Ce c_Hd c_Rt hp _ rfl)
abbrev Yp8 (ds : DS) : DS := match ds with | [[.l pl, .l sh, .l ti, .l st, .i ce, .l hd, .l rt]] => [[.i (Sp.cP pl sh ti st ce hd rt)], [.i (Sp.cI pl sh ti st ce hd rt)], [.i (Sp.cE pl sh ti st ce hd rt)]] | _ => []
abbrev Ygs (ds : DS) : Prop := match ds with | [.l pl :: .l sh :: .l ti :: _] => Sp.NamesOk pl /\ Sp.NamesOk sh /\ Sp.NamesOk ti | _ => False
theorem Y2y {pl sh ti st : Dt} {ce : Int} {hd rt : Dt} {Q : Int × Int × Int -> Prop} (h : Q (Sp.cchk pl sh ti st ce hd rt)) :
  (¬ Sp.tchkE pl sh ti st = 0 -> Q (1, 0, Sp.tchkE pl sh ti st)) /\
  (Sp.tchkE pl sh ti st = 0 -> Sp.inr ce 0 ((pl.length : Int) - 1) = false -> Q (1, 0, 4)) /\
  (Sp.tchkE pl sh ti st = 0 -> Sp.inr ce 0 ((pl.length : Int) - 1) = true -> (¬ (hd.length : Int) = st.length \/ 10 < (rt.length : Int)) -> Q (1, 0, 3)) /\
  (Sp.tchkE pl sh ti st = 0 -> Sp.inr ce 0 ((pl.length : Int) - 1) = true -> (hd.length : Int) = st.length -> ¬ 10 < (rt.length : Int) -> Sp.hasE (Sp.hdErr hd) 0 hd.length = true -> Q (2, Sp.idxE (Sp.hdErr hd) 0 hd.length, Sp.hdErr hd (Sp.idxE (Sp.hdErr hd) 0 hd.length))) /\
  (Sp.tchkE pl sh ti st = 0 -> Sp.inr ce 0 ((pl.length : Int) - 1) = true -> (hd.length : Int) = st.length -> ¬ 10 < (rt.length : Int) -> Sp.hasE (Sp.hdErr hd) 0 hd.length = false -> Sp.hasE (Sp.rtErr st rt ce) 0 rt.length = true -> Q (3, Sp.idxE (Sp.rtErr st rt ce) 0 rt.length, Sp.rtErr st rt ce (Sp.idxE (Sp.rtErr st rt ce) 0 rt.length))) /\
  (Sp.tchkE pl sh ti st = 0 -> Sp.inr ce 0 ((pl.length : Int) - 1) = true -> (hd.length : Int) = st.length -> ¬ 10 < (rt.length : Int) -> Sp.hasE (Sp.hdErr hd) 0 hd.length = false -> Sp.hasE (Sp.rtErr st rt ce) 0 rt.length = false -> Q (0, 0, 0)) := by
 unfold Sp.cchk at h;refine ⟨fun e => ?_, fun e e1 => ?_, fun e e1 e2 => ?_, fun e e1 e2 e3 e4 => ?_, fun e e1 e2 e3 e4 e5 => ?_, fun e e1 e2 e3 e4 e5 => ?_⟩
 ·rw [if_neg e] at h; exact h
 ·rw [if_pos e, if_neg (by simp [e1])] at h; exact h
 ·rw [if_pos e, if_pos e1, if_neg (by rcases e2 with e2 | e2 <;> omega)] at h; exact h
 ·rw [if_pos e, if_pos e1, if_pos ⟨e2, e3⟩, if_pos e4] at h; exact h
 ·rw [if_pos e, if_pos e1, if_pos ⟨e2, e3⟩, if_neg (by simp [e4]), if_pos e5] at h; exact h
 ·rw [if_pos e, if_pos e1, if_pos ⟨e2, e3⟩, if_neg (by simp [e4]), if_neg (by simp [e5])] at h; exact h
theorem Ybcx : PureOk Try.prog 43 Ykk [(false, [.int .i64]), (false, [.int .i64]), (false, [.int .i64])] Ygs Yp8 :=
 Y7r fun W pl sh ti st ce hd rt hp Q h => by
  have hp : Sp.NamesOk pl.xs /\ Sp.NamesOk sh.xs /\ Sp.NamesOk ti.xs := hp;have hpl := pl.len;simp only [maxLen] at hpl;unfold Yo3;delta Zv Zg Zh Zf;obtain ⟨q0, q1, q2, q3, q4, q5⟩ := Y2y (Q := fun r => Q [[.i r.1], [.i r.2.1], [.i r.2.2]]) h;clear h;simp only [show Int.toNat 0 = 0 from rfl, Nat.sub_zero]
  repeat' (first | omega | with_reducible refine vifd (fun _ => ?_) fun _ => ?_ | with_reducible refine vifn (fun _ => ?_) fun _ => ?_ | with_reducible refine vifq (fun _ => ?_) fun _ => ?_ | with_reducible refine vifq0 (fun _ => ?_) fun _ => ?_ | with_reducible refine vifq1 (fun _ => ?_) fun _ => ?_ | with_reducible refine vifb (fun _ => ?_) fun _ => ?_ | with_reducible refine vif (fun _ => ?_) fun _ => ?_ | (with_reducible refine nedd ?_ ?_; omega) | (with_reducible refine ned ?_ ?_; simp only [Bool.and_eq_true, decide_eq_true_eq]; omega) | (with_reducible refine ar64 ?_ ?_; omega) | (with_reducible refine Ybo ?_ ?_; (first | trivial | omega | assumption | (refine ⟨?_, ?_⟩ <;> first | trivial | omega | assumption) | (refine ⟨?_, ?_, ?_⟩ <;> first | trivial | omega | assumption) | (refine ⟨?_, ?_, ?_, ?_⟩ <;> first | trivial | omega | assumption))))
  all_goals first | contradiction | exact q0 (by assumption) | exact q1 (by assumption) (by assumption) | exact q2 (by assumption) (by assumption) (.inl (by assumption)) | exact q2 (by assumption) (by assumption) (.inr (by assumption)) | exact q3 (by assumption) (by assumption) (by assumption) (by assumption) (by assumption) | exact q4 (by assumption) (by assumption) (by assumption) (by assumption) (by assumption) (by assumption) | exact q5 (by assumption) (by assumption) (by assumption) (by assumption) (by assumption) (by assumption) | skip
  all_goals trace_state
noncomputable def Yfs : PC Try.prog := ⟨43, Ykk, [(false, [.int .i64]), (false, [.int .i64]), (false, [.int .i64])], Ygs, Yp8, Ybcx⟩
open Go.RowKit
set_option maxRecDepth 100000
set_option maxHeartbeats 1600000
def Y0h [InW] (e : List Ed) (K : Nat -> List Ed -> Prop) : Prop := match e with
 | [.i a, .i s, .i n, .i i, .ro _ pl, .ro _ sh, .ro _ ti, .ro _ st, .i ce, .ro _ hd, .ro _ rt] => Pre ((0 <= a /\ a < rt.xs.length) /\ 0 <= s /\ (Sp.rtL rt.xs a.toNat).length <= 60 /\ (0 <= i /\ i <= (Sp.rtL rt.xs a.toNat).length) /\ 0 <= n /\ n <= i)
   (K 0 [.i (Sp.cnt (Sp.rtL rt.xs a.toNat) s.toNat i.toNat ((Sp.rtL rt.xs a.toNat).length - i.toNat) n)])
 | _ => False
noncomputable def Y18 : LC where
 len := 33
 T := [(1, .int .i64), (2, .int .i64), (3, (.ptr 1 0)), (7, .int .i64), (8, .int .i64)]
 H := [(1, .blk 29 [.rs Jb, .rs Jb, .rs Jb, .rs Jd, .int .i64, .rs Iv4, .rs Je])]
 W := [9, 10, 11, 12, 13, 14, 15, 16, 17, 18, 19, 20, 21, 22, 23, 24, 25, 26, 27, 28, 29, 30, 31]
 outs := [⟨.exit 0, [(7, .int .i64)], [], [1, 2, 3, 8, 9, 10, 11, 12, 13, 14, 15, 16, 17, 18, 19, 20, 21, 22, 23, 24, 25, 26, 27, 28, 29, 30, 31]⟩]
 spec := Y0h
def Yzu [W : InW] (a s n i : Int) (pl sh ti : Ro Jb) (st : Ro Jd) (ce : Int) (hd : Ro Iv4) (rt : Ro Je) (A : List Ed -> Prop) (K : Nat -> List Ed -> Prop) : Prop :=
 Need (decide (Zf <= a) && decide (a < (↑(rt.xs.length) : Int))) (Need (decide (a.toNat < rt.xs.length)) (Vif (decide (i < (↑(List.length (cel rt.xs a.toNat (0 : Nat)).lst) : Int))) (Need (decide (Zf <= a) && decide (a < (↑(rt.xs.length) : Int))) (Need (decide (a.toNat < rt.xs.length)) (Need (decide (Zf <= i) && decide (i < (↑(List.length (cel rt.xs a.toNat (0 : Nat)).lst) : Int))) (Need (decide (i.toNat < List.length (cel rt.xs a.toNat (0 : Nat)).lst)) (Vif (decide ((cel (cel rt.xs a.toNat (0 : Nat)).lst i.toNat (0 : Nat)).int = s)) (Ar .i64 (n + (1 : Int)) fun z => Ar .i64 (i + (1 : Int)) fun z_1 => A [.i a, .i s, .i z, .i z_1, .ro _ pl, .ro _ sh, .ro _ ti, .ro Zb st, .i ce, .ro _ hd, .ro [Ty.sl [Ty.int IntKind.i64, Ty.bool]] rt]) (Ar .i64 (i + (1 : Int)) fun z => A [.i a, .i s, .i n, .i z, .ro _ pl, .ro _ sh, .ro _ ti, .ro Zb st, .i ce, .ro _ hd, .ro [Ty.sl [Ty.int IntKind.i64, Ty.bool]] rt])))))) (K (0 : Nat) [.i n])))
theorem Ybfo (W : InW) (a s n i pl sh ti st ce hd rt A K) : Ybd { cxT Try.prog TT T21 1000 50 with fn := 40 } 1000 (Y1 Try.prog 40 4) (Y4 33 [(1, .si .i64 a), (2, .si .i64 s), (3, .ptr 1 0), (7, .si .i64 n), (8, .si .i64 i)] [9, 10, 11, 12, 13, 14, 15, 16, 17, 18, 19, 20, 21, 22, 23, 24, 25, 26, 27, 28, 29, 30, 31]) [(1, .blk 29 [.rs _ pl, .rs _ sh, .rs _ ti, .rs _ st, .si .i64 ce, .rs _ hd, .rs _ rt])] (Y6 Y18 A K) = Yzu a s n i pl sh ti st ce hd rt A K := by kernel_rfl
def Y1k : Prop := ∀ (W : InW) (body a : Code), (Try.prog.funcs[40]?).bind (·.body) = some body -> a ∈ Yi body -> Ybe a = 4 -> @Y0 W Try.prog a (@Yh W Y18)
theorem Ybhb (meas : [InW] -> List Ed -> Nat) (hyp_ : ∀ (W : InW) (a s n i : Int) (pl sh ti : Ro Jb) (st : Ro Jd) (ce : Int) (hd : Ro Iv4) (rt : Ro Je) (K : Nat -> List Ed -> Prop), Y0h [.i a, .i s, .i n, .i i, .ro _ pl, .ro _ sh, .ro _ ti, .ro _ st, .i ce, .ro _ hd, .ro _ rt] K -> ∀ A : List Ed -> Prop, (∀ e, meas e < meas [.i a, .i s, .i n, .i i, .ro _ pl, .ro _ sh, .ro _ ti, .ro _ st, .i ce, .ro _ hd, .ro _ rt] -> Y0h e K -> A e) -> Yzu a s n i pl sh ti st ce hd rt A K) : Y1k :=
 LE.okOf' (fun W => @TT W) (fun W => @Yo W) Yd T21 1000 50 (by kernel_rfl) Y18 (fun W => @meas W) fun W a s n i pl sh ti st ce hd rt K hs =>
  (Ybfo W a s n i pl sh ti st ce hd rt (fun e => meas e < meas [.i a, .i s, .i n, .i i, .ro _ pl, .ro _ sh, .ro _ ti, .ro _ st, .i ce, .ro _ hd, .ro _ rt] /\ Y0h e K) K).mpr (hyp_ W a s n i pl sh ti st ce hd rt K hs _ fun e h1 h2 => ⟨h1, h2⟩)
theorem Ybk2 : Y1k := Ybhb (fun e => match e with | [.i a, _, _, .i i, _, _, _, _, _, _, .ro _ rt] => (((Sp.rtL rt.xs a.toNat).length : Int) - i).toNat | _ => 0) fun W a s n i pl sh ti st ce hd rt K hs A hA => by
 obtain ⟨⟨h1, h2, h3, h4, h5, h6⟩, hk⟩ := hs;unfold Yzu;delta Zb Zf;simp only [show (cel rt.xs a.toNat 0).lst = Sp.rtL rt.xs a.toNat from rfl];refine ned (by simp; omega) (nedd (by omega) (vifd (fun e => ?_) fun e => ?_))
 ·rw [show (Sp.rtL rt.xs a.toNat).length - i.toNat = ((Sp.rtL rt.xs a.toNat).length - (i.toNat + 1)) + 1 by omega] at hk;simp only [Sp.cnt] at hk;have ez : (i + 1).toNat = i.toNat + 1 := by omega
  have hA' : ∀ m, m = (if Sp.xS (Sp.rtL rt.xs a.toNat) i.toNat = s.toNat then n + 1 else n) -> A [.i a, .i s, .i m, .i (i + 1), .ro _ pl, .ro _ sh, .ro _ ti, .ro _ st, .i ce, .ro _ hd, .ro _ rt] := fun m hm => hA _ (by show (((Sp.rtL rt.xs a.toNat).length : Int) - (i + 1)).toNat < (((Sp.rtL rt.xs a.toNat).length : Int) - i).toNat; omega) ⟨⟨h1, h2, h3, by omega, by split at hm <;> omega, by split at hm <;> omega⟩, by rw [ez, hm]; exact hk⟩;clear hA hk;simp only [Nat.zero_add, Nat.reduceAdd, <- show Sp.xS (Sp.rtL rt.xs a.toNat) i.toNat = (cel (Sp.rtL rt.xs a.toNat) i.toNat 0).int from rfl] at *
  repeat' (first | omega | with_reducible refine vifd (fun _ => ?_) fun _ => ?_ | with_reducible refine vifn (fun _ => ?_) fun _ => ?_ | with_reducible refine vifq (fun _ => ?_) fun _ => ?_ | with_reducible refine vifq0 (fun _ => ?_) fun _ => ?_ | with_reducible refine vifq1 (fun _ => ?_) fun _ => ?_ | with_reducible refine vifb (fun _ => ?_) fun _ => ?_ | with_reducible refine vif (fun _ => ?_) fun _ => ?_ | (with_reducible refine nedd ?_ ?_; omega) | (with_reducible refine ned ?_ ?_; simp only [Bool.and_eq_true, decide_eq_true_eq]; omega) | (with_reducible refine ar64 ?_ ?_; omega) | (with_reducible refine Ybo ?_ ?_; (first | trivial | omega | assumption | (refine ⟨?_, ?_⟩ <;> first | trivial | omega | assumption) | (refine ⟨?_, ?_, ?_⟩ <;> first | trivial | omega | assumption) | (refine ⟨?_, ?_, ?_, ?_⟩ <;> first | trivial | omega | assumption))))
  all_goals first | exact hA' _ (by rw [if_pos (by omega)]) | exact hA' _ (by rw [if_neg (by omega)]) | skip
  all_goals trace_state
 ·rw [show (Sp.rtL rt.xs a.toNat).length - i.toNat = 0 by omega] at hk;exact hk
noncomputable def Yblr : LE Try.prog := ⟨40, 4, fun W => @Yh W Y18, Ybk2⟩
noncomputable def T34 : Tab Try.prog := ⟨[], [Yblr], []⟩
def Ytz [W : InW] (c_Pl c_Sh c_Ti : Ro Jb) (c_St : Ro Jd) (c_Ce : Int) (c_Hd : Ro Iv4) (c_Rt : Ro Je) (a s : Int) (Q : DS -> Prop) : Prop :=
 Pre ((Zf <= a /\ a < (↑(c_Rt.xs.length) : Int)) /\ Zf <= s /\ List.length (Sp.rtL c_Rt.xs a.toNat) <= (60 : Nat) /\ (Zf <= Zf /\ Zf <= (↑(List.length (Sp.rtL c_Rt.xs a.toNat)) : Int)) /\ Zf <= Zf /\ Zf <= Zf) (Q [[Cl.i (Sp.cnt (Sp.rtL c_Rt.xs a.toNat) s.toNat (Int.toNat Zf) (List.length (Sp.rtL c_Rt.xs a.toNat) - Int.toNat Zf) Zf)]])
theorem Ybaw (W : InW) (c_Pl c_Sh c_Ti c_St c_Ce c_Hd c_Rt a s Q) : Ybh (cxT Try.prog TT T34 1000 50) 1000 40 [.agg [.rs _ c_Pl, .rs _ c_Sh, .rs _ c_Ti, .rs _ c_St, .si .i64 c_Ce, .rs _ c_Hd, .rs _ c_Rt], .si .i64 a, .si .i64 s] [] 0 (Ybj [(false, [.int .i64])] Q) (fun _ _ _ _ => Stuck 421) = Ytz c_Pl c_Sh c_Ti c_St c_Ce c_Hd c_Rt a s Q := by kernel_rfl
abbrev Yoi : List AT := [.agg [.sl Jb, .sl Jb, .sl Jb, .sl Jd, .int .i64, .sl Iv4, .sl Je], .one (.int .i64), .one (.int .i64)]
theorem Ybc9 {pre : DS -> Prop} {res : DS -> DS} (hyp_ : ∀ (W : InW) (c_Pl c_Sh c_Ti : Ro Jb) (c_St : Ro Jd) (c_Ce : Int) (c_Hd : Ro Iv4) (c_Rt : Ro Je) (a s : Int), pre [[.l c_Pl.xs, .l c_Sh.xs, .l c_Ti.xs, .l c_St.xs, .i c_Ce, .l c_Hd.xs, .l c_Rt.xs], [.i a], [.i s]] -> ∀ Q : DS -> Prop, Q (res [[.l c_Pl.xs, .l c_Sh.xs, .l c_Ti.xs, .l c_St.xs, .i c_Ce, .l c_Hd.xs, .l c_Rt.xs], [.i a], [.i s]]) -> Ytz c_Pl c_Sh c_Ti c_St c_Ce c_Hd c_Rt a s Q) : PureOk Try.prog 40 Yoi [(false, [.int .i64])] pre res :=
 PureOk.of' (fun W => @TT W) (fun W => @Yo W) Yd T34 1000 50 fun W c_Pl c_Sh c_Ti c_St c_Ce c_Hd c_Rt a s hp =>
  (Ybaw W c_Pl c_Sh c_Ti c_St c_Ce c_Hd c_Rt a s (fun o => o = res [[.l c_Pl.xs, .l c_Sh.xs, .l c_Ti.xs, .l c_St.xs, .i c_Ce, .l c_Hd.xs, .l c_Rt.xs], [.i a], [.i s]])).mpr (hyp_ W c_Pl c_Sh c_Ti c_St c_Ce c_Hd c_Rt a s hp _ rfl)
abbrev Yvc (ds : DS) : DS := match ds with | [[_, _, _, _, _, _, .l rt], [.i a], [.i s]] => [[.i (Sp.tms rt a.toNat s.toNat)]] | _ => []
abbrev Yvg (ds : DS) : Prop := match ds with | [[_, _, _, _, _, _, .l rt], [.i a], [.i s]] => (0 <= a /\ a < rt.length) /\ 0 <= s /\ (Sp.rtL rt a.toNat).length <= 60 | _ => False
theorem Ybh1 : PureOk Try.prog 40 Yoi [(false, [.int .i64])] Yvg Yvc :=
 Ybc9 fun W pl sh ti st ce hd rt a s hp Q h => by
  obtain ⟨h1, h2, h3⟩ : (0 <= a /\ a < rt.xs.length) /\ 0 <= s /\ (Sp.rtL rt.xs a.toNat).length <= 60 := hp;unfold Ytz;delta Zf;exact ⟨⟨h1, h2, h3, by omega, by omega, by omega⟩, h⟩
noncomputable def Ybbq : PC Try.prog := ⟨40, Yoi, [(false, [.int .i64])], Yvg, Yvc, Ybh1⟩
namespace Sp
def rtsE (pl sh ti st : Dt) (ce : Int) (hd rt l : Dt) : Int := if cE pl sh ti st ce hd rt = 0 then (if out 0 ((rt.length : Int) - 1) l then 4 else 0) else cE pl sh ti st ce hd rt
end Sp
noncomputable def T35 : Tab Try.prog := ⟨[Y1d, Yfs], [], []⟩
def Y0f [InW] (e : List Ed) (K : Nat -> List Ed -> Prop) : Prop := match e with
 | [.ro _ l, .i er, .i i, .ro _ pl, .ro _ sh, .ro _ ti, .ro _ st, .i ce, .ro _ hd, .ro _ rt] => Pre (0 <= i /\ i <= l.xs.length)
   (K 0 [.i (if er = 0 then (if Sp.outs 0 ((rt.xs.length : Int) - 1) l.xs i.toNat (l.xs.length - i.toNat) then 4 else 0) else er)])
 | _ => False
noncomputable def Y16 : LC where
 len := 36
 T := [(1, .rs Ja), (2, (.ptr 1 0)), (7, .int .i64), (8, .int .i64)]
 H := [(1, .blk 29 [.rs Jb, .rs Jb, .rs Jb, .rs Jd, .int .i64, .rs Iv4, .rs Je])]
 W := [15, 16, 17, 18, 19, 20, 21, 22, 23, 24, 25, 26, 27, 28, 29, 30, 31, 32, 33, 34]
 outs := [⟨.exit 0, [(7, .int .i64)], [], [1, 2, 8, 15, 16, 17, 18, 19, 20, 21, 22, 23, 24, 25, 26, 27, 28, 29, 30, 31, 32, 33, 34]⟩]
 spec := Y0f
def Zw := [Ty.sl [Ty.int IntKind.i64, Ty.bool]]
def Yzs [W : InW] (l : Ro Ja) (er i : Int) (pl sh ti : Ro Jb) (st : Ro Jd) (ce : Int) (hd : Ro Iv4) (rt : Ro Je) (A : List Ed -> Prop) (K : Nat -> List Ed -> Prop) : Prop :=
 Vif (decide (i < (↑(l.xs.length) : Int))) (Vif (decide (er = Zf)) (Need (decide (Zf <= i) && decide (i < (↑(l.xs.length) : Int))) (Need (decide (i.toNat < l.xs.length)) (Ar .i64 ((↑(rt.xs.length) : Int) - (1 : Int)) fun z => Pre True (Vif (!Sp.inr (cel l.xs i.toNat (0 : Nat)).int Zf z) (Ar .i64 (i + (1 : Int)) fun z => A [.ro _ l, .i (4 : Int), .i z, .ro _ pl, .ro _ sh, .ro _ ti, .ro Zb st, .i ce, .ro _ hd, .ro Zw rt]) (Ar .i64 (i + (1 : Int)) fun z => A [.ro _ l, .i er, .i z, .ro _ pl, .ro _ sh, .ro _ ti, .ro Zb st, .i ce, .ro _ hd, .ro Zw rt]))))) (Ar .i64 (i + (1 : Int)) fun z => A [.ro _ l, .i er, .i z, .ro _ pl, .ro _ sh, .ro _ ti, .ro Zb st, .i ce, .ro _ hd, .ro Zw rt])) (K (0 : Nat) [.i er])
theorem Ybfm (W : InW) (l er i pl sh ti st ce hd rt A K) : Ybd { cxT Try.prog TT T35 1000 50 with fn := 48 } 1000 (Y1 Try.prog 48 4) (Y4 36 [(1, .rs _ l), (2, .ptr 1 0), (7, .si .i64 er), (8, .si .i64 i)] [15, 16, 17, 18, 19, 20, 21, 22, 23, 24, 25, 26, 27, 28, 29, 30, 31, 32, 33, 34]) [(1, .blk 29 [.rs _ pl, .rs _ sh, .rs _ ti, .rs _ st, .si .i64 ce, .rs _ hd, .rs _ rt])] (Y6 Y16 A K) = Yzs l er i pl sh ti st ce hd rt A K := by kernel_rfl
def Y1i : Prop := ∀ (W : InW) (body a : Code), (Try.prog.funcs[48]?).bind (·.body) = some body -> a ∈ Yi body -> Ybe a = 4 -> @Y0 W Try.prog a (@Yh W Y16)
theorem Ybg9 (meas : [InW] -> List Ed -> Nat) (hyp_ : ∀ (W : InW) (l : Ro Ja) (er i : Int) (pl sh ti : Ro Jb) (st : Ro Jd) (ce : Int) (hd : Ro Iv4) (rt : Ro Je) (K : Nat -> List Ed -> Prop), Y0f [.ro _ l, .i er, .i i, .ro _ pl, .ro _ sh, .ro _ ti, .ro _ st, .i ce, .ro _ hd, .ro _ rt] K -> ∀ A : List Ed -> Prop, (∀ e, meas e < meas [.ro _ l, .i er, .i i, .ro _ pl, .ro _ sh, .ro _ ti, .ro _ st, .i ce, .ro _ hd, .ro _ rt] -> Y0f e K -> A e) -> Yzs l er i pl sh ti st ce hd rt A K) : Y1i :=
 LE.okOf' (fun W => @TT W) (fun W => @Yo W) Yd T35 1000 50 (by kernel_rfl) Y16 (fun W => @meas W) fun W l er i pl sh ti st ce hd rt K hs =>
  (Ybfm W l er i pl sh ti st ce hd rt (fun e => meas e < meas [.ro _ l, .i er, .i i, .ro _ pl, .ro _ sh, .ro _ ti, .ro _ st, .i ce, .ro _ hd, .ro _ rt] /\ Y0f e K) K).mpr (hyp_ W l er i pl sh ti st ce hd rt K hs _ fun e h1 h2 => ⟨h1, h2⟩)
theorem Ybk0 : Y1i := Ybg9 (fun e => match e with | .ro _ l :: _ :: .i i :: _ => ((l.xs.length : Int) - i).toNat | _ => 0) fun W l er i pl sh ti st ce hd rt K hs A hA => by
 obtain ⟨⟨h0, h1⟩, hk⟩ := hs;unfold Yzs;delta Zw Zb Zf;have hm := l.len;have hm2 := rt.len;simp only [maxLen] at hm hm2;refine vifd (fun e => ?_) fun e => ?_
 ·rw [show l.xs.length - i.toNat = (l.xs.length - (i.toNat + 1)) + 1 by omega] at hk;simp only [Sp.outs] at hk;have ez : (i + 1).toNat = i.toNat + 1 := by omega
  have hA' : ∀ m, K 0 [.i (if m = 0 then (if Sp.outs 0 ((rt.xs.length : Int) - 1) l.xs (i.toNat + 1) (l.xs.length - (i.toNat + 1)) then 4 else 0) else m)] -> A [.ro _ l, .i m, .i (i + 1), .ro _ pl, .ro _ sh, .ro _ ti, .ro _ st, .i ce, .ro _ hd, .ro _ rt] := fun m hm => hA _ (by show ((l.xs.length : Int) - (i + 1)).toNat < ((l.xs.length : Int) - i).toNat; omega) ⟨⟨by omega, by omega⟩, by rw [ez]; exact hm⟩;clear hA
  repeat' (first | omega | with_reducible refine vifd (fun _ => ?_) fun _ => ?_ | with_reducible refine vifn (fun _ => ?_) fun _ => ?_ | with_reducible refine vifq (fun _ => ?_) fun _ => ?_ | with_reducible refine vifq0 (fun _ => ?_) fun _ => ?_ | with_reducible refine vifq1 (fun _ => ?_) fun _ => ?_ | with_reducible refine vifb (fun _ => ?_) fun _ => ?_ | with_reducible refine vif (fun _ => ?_) fun _ => ?_ | (with_reducible refine nedd ?_ ?_; omega) | (with_reducible refine ned ?_ ?_; simp only [Bool.and_eq_true, decide_eq_true_eq]; omega) | (with_reducible refine ar64 ?_ ?_; omega) | (with_reducible refine Ybo ?_ ?_; (first | trivial | omega | assumption | (refine ⟨?_, ?_⟩ <;> first | trivial | omega | assumption) | (refine ⟨?_, ?_, ?_⟩ <;> first | trivial | omega | assumption) | (refine ⟨?_, ?_, ?_, ?_⟩ <;> first | trivial | omega | assumption))))
  all_goals first | (refine hA' _ ?_; simp_all; done) | skip
  all_goals trace_state
 ·rw [show l.xs.length - i.toNat = 0 by omega] at hk;simp only [Sp.outs] at hk
  split at hk
  ·rename_i h; rw [h]; exact hk
  ·exact hk
noncomputable def Yblp : LE Try.prog := ⟨48, 4, fun W => @Yh W Y16, Ybk0⟩
noncomputable def T36 : Tab Try.prog := ⟨[Yfs], [Yblp], []⟩
def Yoq [W : InW] (c_Pl c_Sh c_Ti : Ro [.str]) (c_St : Ro [.int .i64, .int .i64, .int .i64, .int .i64, .int .i64, .bool, .sl [.int .i64]]) (c_Ce : Int) (c_Hd : Ro [.int .i64, .int .i64, .int .i64, .int .i64]) (c_Rt : Ro [.sl [.int .i64, .bool]]) (l : Ro [.int .i64]) (Q : DS -> Prop) : Prop :=
 Pre (Sp.NamesOk c_Pl.xs /\ Sp.NamesOk c_Sh.xs /\ Sp.NamesOk c_Ti.xs) (Pre (Zf <= Zf /\ Zf <= (↑(l.xs.length) : Int)) (Q [[Cl.i (Decidable.rec (fun h => (fun x => (((List.tail (Yfs.res [[Cl.l c_Pl.xs, Cl.l c_Sh.xs, Cl.l c_Ti.xs, Cl.l c_St.xs, Cl.i c_Ce, Cl.l c_Hd.xs, Cl.l c_Rt.xs]])).tail.headD []).headD Cl.z).int) h) (fun h => (fun x => if Sp.outs Zf ((↑(List.length (rsK._proof_1 [Ty.sl [Ty.int IntKind.i64, Ty.bool]] [Ty.sl [Ty.int IntKind.i64, Ty.bool]] rfl ▸ c_Rt).xs) : Int) - (1 : Int)) l.xs (Int.toNat Zf) (l.xs.length - Int.toNat Zf) = true then (4 : Int) else Zf) h) ((((List.tail (Yfs.res [[Cl.l c_Pl.xs, Cl.l c_Sh.xs, Cl.l c_Ti.xs, Cl.l c_St.xs, Cl.i c_Ce, Cl.l c_Hd.xs, Cl.l c_Rt.xs]])).tail.headD []).headD Cl.z).int.instDecidableEq Zf))]]))
theorem Y4z (W : InW) (c_Pl c_Sh c_Ti c_St c_Ce c_Hd c_Rt l Q) : Ybh (cxT Try.prog TT T36 1000 50) 1000 48 [.agg [.rs _ c_Pl, .rs _ c_Sh, .rs _ c_Ti, .rs _ c_St, .si .i64 c_Ce, .rs _ c_Hd, .rs _ c_Rt], .rs _ l] [] 0 (Ybj [(false, [.int .i64])] Q) (fun _ _ _ _ => Stuck 421) = Yoq c_Pl c_Sh c_Ti c_St c_Ce c_Hd c_Rt l Q := by kernel_rfl
abbrev Yj7 : List AT := [.agg [.sl Jb, .sl Jb, .sl Jb, .sl Jd, .int .i64, .sl Iv4, .sl Je], .one (.sl Ja)]
theorem Y7e {pre : DS -> Prop} {res : DS -> DS} (hyp_ : ∀ (W : InW) (c_Pl c_Sh c_Ti : Ro Jb) (c_St : Ro Jd) (c_Ce : Int) (c_Hd : Ro Iv4) (c_Rt : Ro Je) (l : Ro Ja), pre [[.l c_Pl.xs, .l c_Sh.xs, .l c_Ti.xs, .l c_St.xs, .i c_Ce, .l c_Hd.xs, .l c_Rt.xs], [.l l.xs]] -> ∀ Q : DS -> Prop, Q (res [[.l c_Pl.xs, .l c_Sh.xs, .l c_Ti.xs, .l c_St.xs, .i c_Ce, .l c_Hd.xs, .l c_Rt.xs], [.l l.xs]]) -> Yoq c_Pl c_Sh c_Ti c_St c_Ce c_Hd c_Rt l Q) : PureOk Try.prog 48 Yj7 [(false, [.int .i64])] pre res :=
 PureOk.of' (fun W => @TT W) (fun W => @Yo W) Yd T36 1000 50 fun W c_Pl c_Sh c_Ti c_St c_Ce c_Hd c_Rt l hp =>
  (Y4z W c_Pl c_Sh c_Ti c_St c_Ce c_Hd c_Rt l (fun o => o = res [[.l c_Pl.xs, .l c_Sh.xs, .l c_Ti.xs, .l c_St.xs, .i c_Ce, .l c_Hd.xs, .l c_Rt.xs], [.l l.xs]])).mpr (hyp_ W c_Pl c_Sh c_Ti c_St c_Ce c_Hd c_Rt l hp _ rfl)
abbrev Yp6 (ds : DS) : DS := match ds with | [[.l pl, .l sh, .l ti, .l st, .i ce, .l hd, .l rt], [.l l]] => [[.i (Sp.rtsE pl sh ti st ce hd rt l)]] | _ => []
abbrev Yu (ds : DS) : Prop := match ds with | (.l pl :: .l sh :: .l ti :: _) :: _ => Sp.NamesOk pl /\ Sp.NamesOk sh /\ Sp.NamesOk ti | _ => False
theorem Ybb1 : PureOk Try.prog 48 Yj7 [(false, [.int .i64])] Yu Yp6 :=
 Y7e fun W pl sh ti st ce hd rt l hp Q h => by
  have hp : Sp.NamesOk pl.xs /\ Sp.NamesOk sh.xs /\ Sp.NamesOk ti.xs := hp;unfold Yoq;delta Zf;exact ⟨hp, ⟨by omega, by omega⟩, h⟩
noncomputable def Yik : PC Try.prog := ⟨48, Yj7, [(false, [.int .i64])], Yu, Yp6, Ybb1⟩
open Go.RowKit
set_option maxRecDepth 100000
set_option maxHeartbeats 1600000
namespace Sp
def dAt (l : Dt) (i : Nat) : List Int := (List.range 40).map fun s => cnt l s 0 i 0
structure DOk (l : Dt) (i : Int) (ds : List Int) : Prop where
 i0 : 0 <= i
 i1 : i <= l.length
 ln : l.length <= 60
 xs : ∀ k, k < l.length -> 0 <= xS l k /\ xS l k < 40
 ds : ds = dAt l i.toNat
end Sp
def edI [InW] : List Ed -> List Int
 | .i n :: es => n :: edI es
 | _ => []
def Yba5 [InW] (e : List Ed) (K : Nat -> List Ed -> Prop) : Prop := match e with
 | .ro _ l :: .i n :: .i i :: ds => Pre (n = l.xs.length /\ Sp.DOk l.xs i (edI ds)) (K 0 ((Sp.dAt l.xs l.xs.length).map Ed.i))
 | _ => False
noncomputable def Ybdm : LC where
 len := 59
 T := [(8, (.ptr 1 0)), (36, .rs Jf), (37, .int .i64), (38, .int .i64)]
 H := [(1, .blk 125 [.int .i64, .int .i64, .int .i64, .int .i64, .int .i64, .int .i64, .int .i64, .int .i64, .int .i64, .int .i64, .int .i64, .int .i64, .int .i64, .int .i64, .int .i64, .int .i64, .int .i64, .int .i64, .int .i64, .int .i64, .int .i64, .int .i64, .int .i64, .int .i64, .int .i64, .int .i64, .int .i64, .int .i64, .int .i64, .int .i64, .int .i64, .int .i64, .int .i64, .int .i64, .int .i64, .int .i64, .int .i64, .int .i64, .int .i64, .int .i64])]
 W := [10, 39, 40, 41, 42, 43, 44, 45, 46, 47, 48]
 outs := [⟨.exit 0, [(8, (.ptr 1 0))], [(1, .blk 125 [.int .i64, .int .i64, .int .i64, .int .i64, .int .i64, .int .i64, .int .i64, .int .i64, .int .i64, .int .i64, .int .i64, .int .i64, .int .i64, .int .i64, .int .i64, .int .i64, .int .i64, .int .i64, .int .i64, .int .i64, .int .i64, .int .i64, .int .i64, .int .i64, .int .i64, .int .i64, .int .i64, .int .i64, .int .i64, .int .i64, .int .i64, .int .i64, .int .i64, .int .i64, .int .i64, .int .i64, .int .i64, .int .i64, .int .i64, .int .i64])], [10, 36, 37, 38, 39, 40, 41, 42, 43, 44, 45, 46, 47, 48]⟩]
 spec := Yba5
def Zx [W : InW] (l : Ro Jf) (i : Int) := cel l.xs i.toNat (0 : Nat)
def Y9y [W : InW] (l : Ro Jf) (n i d0 d1 d2 d3 d4 d5 d6 d7 d8 d9 d10 d11 d12 d13 d14 d15 d16 d17 d18 d19 d20 d21 d22 d23 d24 d25 d26 d27 d28 d29 d30 d31 d32 d33 d34 d35 d36 d37 d38 d39 : Int) (A : List Ed -> Prop) (K : Nat -> List Ed -> Prop) : Prop :=
 Vif (decide (i < n)) (Need (decide (Zf <= i) && decide (i < (↑(l.xs.length) : Int))) (Need (decide (i.toNat < l.xs.length)) (Need (decide (Zf <= (Zx l i).int) && decide ((Zx l i).int < (↑(40 : Nat) : Int))) (Need (decide ((Zx l i).int.toNat < [d0, d1, d2, d3, d4, d5, d6, d7, d8, d9, d10, d11, d12, d13, d14, d15, d16, d17, d18, d19, d20, d21, d22, d23, d24, d25, d26, d27, d28, d29, d30, d31, d32, d33, d34, d35, d36, d37, d38, d39].length)) (Ar .i64 ([d0, d1, d2, d3, d4, d5, d6, d7, d8, d9, d10, d11, d12, d13, d14, d15, d16, d17, d18, d19, d20, d21, d22, d23, d24, d25, d26, d27, d28, d29, d30, d31, d32, d33, d34, d35, d36, d37, d38, d39].getD (Zx l i).int.toNat Zf + (1 : Int)) fun z => Need (decide (Zf <= (Zx l i).int) && decide ((Zx l i).int < (↑(40 : Nat) : Int))) (Need (decide ((Zx l i).int.toNat < [d0, d1, d2, d3, d4, d5, d6, d7, d8, d9, d10, d11, d12, d13, d14, d15, d16, d17, d18, d19, d20, d21, d22, d23, d24, d25, d26, d27, d28, d29, d30, d31, d32, d33, d34, d35, d36, d37, d38, d39].length)) (Ar .i64 (i + (1 : Int)) fun z_1 => A [.ro _ l, .i n, .i z_1, .i (Decidable.rec (fun h => (fun x => d0) h) (fun h => (fun x => z) h) (instDecidableEqNat (Zx l i).int.toNat (0 : Nat))), .i (Decidable.rec (fun h => (fun x => d1) h) (fun h => (fun x => z) h) (instDecidableEqNat (Zx l i).int.toNat (0+1 : Nat))), .i (Decidable.rec (fun h => (fun x => d2) h) (fun h => (fun x => z) h) (instDecidableEqNat (Zx l i).int.toNat (1+1 : Nat))), .i (Decidable.rec (fun h => (fun x => d3) h) (fun h => (fun x => z) h) (instDecidableEqNat (Zx l i).int.toNat (2+1 : Nat))), .i (Decidable.rec (fun h => (fun x => d4) h) (fun h => (fun x => z) h) (instDecidableEqNat (Zx l i).int.toNat (3+1 : Nat))), .i (Decidable.rec (fun h => (fun x => d5) h) (fun h => (fun x => z) h) (instDecidableEqNat (Zx l i).int.toNat (4+1 : Nat))), .i (Decidable.rec (fun h => (fun x => d6) h) (fun h => (fun x => z) h) (instDecidableEqNat (Zx l i).int.toNat (5+1 : Nat))), .i (Decidable.rec (fun h => (fun x => d7) h) (fun h => (fun x => z) h) (instDecidableEqNat (Zx l i).int.toNat (6+1 : Nat))), .i (Decidable.rec (fun h => (fun x => d8) h) (fun h => (fun x => z) h) (instDecidableEqNat (Zx l i).int.toNat (7+1 : Nat))), .i (Decidable.rec (fun h => (fun x => d9) h) (fun h => (fun x => z) h) (instDecidableEqNat (Zx l i).int.toNat (8+1 : Nat))), .i (Decidable.rec (fun h => (fun x => d10) h) (fun h => (fun x => z) h) (instDecidableEqNat (Zx l i).int.toNat (9+1 : Nat))), .i (Decidable.rec (fun h => (fun x => d11) h) (fun h => (fun x => z) h) (instDecidableEqNat (Zx l i).int.toNat (10+1 : Nat))), .i (Decidable.rec (fun h => (fun x => d12) h) (fun h => (fun x => z) h) (instDecidableEqNat (Zx l i).int.toNat (11+1 : Nat))), .i (Decidable.rec (fun h => (fun x => d13) h) (fun h => (fun x => z) h) (instDecidableEqNat (Zx l i).int.toNat (12+1 : Nat))), .i (Decidable.rec (fun h => (fun x => d14) h) (fun h => (fun x => z) h) (instDecidableEqNat (Zx l i).int.toNat (13+1 : Nat))), .i (Decidable.rec (fun h => (fun x => d15) h) (fun h => (fun x => z) h) (instDecidableEqNat (Zx l i).int.toNat (14+1 : Nat))), .i (Decidable.rec (fun h => (fun x => d16) h) (fun h => (fun x => z) h) (instDecidableEqNat (Zx l i).int.toNat (15+1 : Nat))), .i (Decidable.rec (fun h => (fun x => d17) h) (fun h => (fun x => z) h) (instDecidableEqNat (Zx l i).int.toNat (16+1 : Nat))), .i (Decidable.rec (fun h => (fun x => d18) h) (fun h => (fun x => z) h) (instDecidableEqNat (Zx l i).int.toNat (17+1 : Nat))), .i (Decidable.rec (fun h => (fun x => d19) h) (fun h => (fun x => z) h) (instDecidableEqNat (Zx l i).int.toNat (18+1 : Nat))), .i (Decidable.rec (fun h => (fun x => d20) h) (fun h => (fun x => z) h) (instDecidableEqNat (Zx l i).int.toNat (19+1 : Nat))), .i (Decidable.rec (fun h => (fun x => d21) h) (fun h => (fun x => z) h) (instDecidableEqNat (Zx l i).int.toNat (20+1 : Nat))), .i (Decidable.rec (fun h => (fun x => d22) h) (fun h => (fun x => z) h) (instDecidableEqNat (Zx l i).int.toNat (21+1 : Nat))), .i (Decidable.rec (fun h => (fun x => d23) h) (fun h => (fun x => z) h) (instDecidableEqNat (Zx l i).int.toNat (22+1 : Nat))), .i (Decidable.rec (fun h => (fun x => d24) h) (fun h => (fun x => z) h) (instDecidableEqNat (Zx l i).int.toNat (23+1 : Nat))), .i (Decidable.rec (fun h => (fun x => d25) h) (fun h => (fun x => z) h) (instDecidableEqNat (Zx l i).int.toNat (24+1 : Nat))), .i (Decidable.rec (fun h => (fun x => d26) h) (fun h => (fun x => z) h) (instDecidableEqNat (Zx l i).int.toNat (25+1 : Nat))), .i (Decidable.rec (fun h => (fun x => d27) h) (fun h => (fun x => z) h) (instDecidableEqNat (Zx l i).int.toNat (26+1 : Nat))), .i (Decidable.rec (fun h => (fun x => d28) h) (fun h => (fun x => z) h) (instDecidableEqNat (Zx l i).int.toNat (27+1 : Nat))), .i (Decidable.rec (fun h => (fun x => d29) h) (fun h => (fun x => z) h) (instDecidableEqNat (Zx l i).int.toNat (28+1 : Nat))), .i (Decidable.rec (fun h => (fun x => d30) h) (fun h => (fun x => z) h) (instDecidableEqNat (Zx l i).int.toNat (29+1 : Nat))), .i (Decidable.rec (fun h => (fun x => d31) h) (fun h => (fun x => z) h) (instDecidableEqNat (Zx l i).int.toNat (30+1 : Nat))), .i (Decidable.rec (fun h => (fun x => d32) h) (fun h => (fun x => z) h) (instDecidableEqNat (Zx l i).int.toNat (31+1 : Nat))), .i (Decidable.rec (fun h => (fun x => d33) h) (fun h => (fun x => z) h) (instDecidableEqNat (Zx l i).int.toNat (32+1 : Nat))), .i (Decidable.rec (fun h => (fun x => d34) h) (fun h => (fun x => z) h) (instDecidableEqNat (Zx l i).int.toNat (33+1 : Nat))), .i (Decidable.rec (fun h => (fun x => d35) h) (fun h => (fun x => z) h) (instDecidableEqNat (Zx l i).int.toNat (34+1 : Nat))), .i (Decidable.rec (fun h => (fun x => d36) h) (fun h => (fun x => z) h) (instDecidableEqNat (Zx l i).int.toNat (35+1 : Nat))), .i (Decidable.rec (fun h => (fun x => d37) h) (fun h => (fun x => z) h) (instDecidableEqNat (Zx l i).int.toNat (36+1 : Nat))), .i (Decidable.rec (fun h => (fun x => d38) h) (fun h => (fun x => z) h) (instDecidableEqNat (Zx l i).int.toNat (37+1 : Nat))), .i (Decidable.rec (fun h => (fun x => d39) h) (fun h => (fun x => z) h) (instDecidableEqNat (Zx l i).int.toNat (38+1 : Nat)))]))))))) (K (0 : Nat) [.i d0, .i d1, .i d2, .i d3, .i d4, .i d5, .i d6, .i d7, .i d8, .i d9, .i d10, .i d11, .i d12, .i d13, .i d14, .i d15, .i d16, .i d17, .i d18, .i d19, .i d20, .i d21, .i d22, .i d23, .i d24, .i d25, .i d26, .i d27, .i d28, .i d29, .i d30, .i d31, .i d32, .i d33, .i d34, .i d35, .i d36, .i d37, .i d38, .i d39])
theorem Ybjs (W : InW) (l n i d0 d1 d2 d3 d4 d5 d6 d7 d8 d9 d10 d11 d12 d13 d14 d15 d16 d17 d18 d19 d20 d21 d22 d23 d24 d25 d26 d27 d28 d29 d30 d31 d32 d33 d34 d35 d36 d37 d38 d39 A K) : Ybd { cxT Try.prog TT T21 1000 50 with fn := 90 } 1000 (Y1 Try.prog 90 11) (Y4 59 [(8, .ptr 1 0), (36, .rs _ l), (37, .si .i64 n), (38, .si .i64 i)] [10, 39, 40, 41, 42, 43, 44, 45, 46, 47, 48]) [(1, .blk 125 [.si .i64 d0, .si .i64 d1, .si .i64 d2, .si .i64 d3, .si .i64 d4, .si .i64 d5, .si .i64 d6, .si .i64 d7, .si .i64 d8, .si .i64 d9, .si .i64 d10, .si .i64 d11, .si .i64 d12, .si .i64 d13, .si .i64 d14, .si .i64 d15, .si .i64 d16, .si .i64 d17, .si .i64 d18, .si .i64 d19, .si .i64 d20, .si .i64 d21, .si .i64 d22, .si .i64 d23, .si .i64 d24, .si .i64 d25, .si .i64 d26, .si .i64 d27, .si .i64 d28, .si .i64 d29, .si .i64 d30, .si .i64 d31, .si .i64 d32, .si .i64 d33, .si .i64 d34, .si .i64 d35, .si .i64 d36, .si .i64 d37, .si .i64 d38, .si .i64 d39])] (Y6 Ybdm A K) = Y9y l n i d0 d1 d2 d3 d4 d5 d6 d7 d8 d9 d10 d11 d12 d13 d14 d15 d16 d17 d18 d19 d20 d21 d22 d23 d24 d25 d26 d27 d28 d29 d30 d31 d32 d33 d34 d35 d36 d37 d38 d39 A K := by kernel_rfl
def Y7t : Prop := ∀ (W : InW) (body a : Code), (Try.prog.funcs[90]?).bind (·.body) = some body -> a ∈ Yi body -> Ybe a = 11 -> @Y0 W Try.prog a (@Yh W Ybdm)
theorem Ybkp (meas : [InW] -> List Ed -> Nat) (hyp_ : ∀ (W : InW) (l : Ro Jf) (n i d0 d1 d2 d3 d4 d5 d6 d7 d8 d9 d10 d11 d12 d13 d14 d15 d16 d17 d18 d19 d20 d21 d22 d23 d24 d25 d26 d27 d28 d29 d30 d31 d32 d33 d34 d35 d36 d37 d38 d39 : Int) (K : Nat -> List Ed -> Prop), Yba5 [.ro _ l, .i n, .i i, .i d0, .i d1, .i d2, .i d3, .i d4, .i d5, .i d6, .i d7, .i d8, .i d9, .i d10, .i d11, .i d12, .i d13, .i d14, .i d15, .i d16, .i d17, .i d18, .i d19, .i d20, .i d21, .i d22, .i d23, .i d24, .i d25, .i d26, .i d27, .i d28, .i d29, .i d30, .i d31, .i d32, .i d33, .i d34, .i d35, .i d36, .i d37, .i d38, .i d39] K -> ∀ A : List Ed -> Prop, (∀ e, meas e < meas [.ro _ l, .i n, .i i, .i d0, .i d1, .i d2, .i d3, .i d4, .i d5, .i d6, .i d7, .i d8, .i d9, .i d10, .i d11, .i d12, .i d13, .i d14, .i d15, .i d16, .i d17, .i d18, .i d19, .i d20, .i d21, .i d22, .i d23, .i d24, .i d25, .i d26, .i d27, .i d28, .i d29, .i d30, .i d31, .i d32, .i d33, .i d34, .i d35, .i d36, .i d37, .i d38, .i d39] -> Yba5 e K -> A e) -> Y9y l n i d0 d1 d2 d3 d4 d5 d6 d7 d8 d9 d10 d11 d12 d13 d14 d15 d16 d17 d18 d19 d20 d21 d22 d23 d24 d25 d26 d27 d28 d29 d30 d31 d32 d33 d34 d35 d36 d37 d38 d39 A K) : Y7t :=
 LE.okOf' (fun W => @TT W) (fun W => @Yo W) Yd T21 1000 50 (by kernel_rfl) Ybdm (fun W => @meas W) fun W l n i d0 d1 d2 d3 d4 d5 d6 d7 d8 d9 d10 d11 d12 d13 d14 d15 d16 d17 d18 d19 d20 d21 d22 d23 d24 d25 d26 d27 d28 d29 d30 d31 d32 d33 d34 d35 d36 d37 d38 d39 K hs =>
  (Ybjs W l n i d0 d1 d2 d3 d4 d5 d6 d7 d8 d9 d10 d11 d12 d13 d14 d15 d16 d17 d18 d19 d20 d21 d22 d23 d24 d25 d26 d27 d28 d29 d30 d31 d32 d33 d34 d35 d36 d37 d38 d39 (fun e => meas e < meas [.ro _ l, .i n, .i i, .i d0, .i d1, .i d2, .i d3, .i d4, .i d5, .i d6, .i d7, .i d8, .i d9, .i d10, .i d11, .i d12, .i d13, .i d14, .i d15, .i d16, .i d17, .i d18, .i d19, .i d20, .i d21, .i d22, .i d23, .i d24, .i d25, .i d26, .i d27, .i d28, .i d29, .i d30, .i d31, .i d32, .i d33, .i d34, .i d35, .i d36, .i d37, .i d38, .i d39] /\ Yba5 e K) K).mpr (hyp_ W l n i d0 d1 d2 d3 d4 d5 d6 d7 d8 d9 d10 d11 d12 d13 d14 d15 d16 d17 d18 d19 d20 d21 d22 d23 d24 d25 d26 d27 d28 d29 d30 d31 d32 d33 d34 d35 d36 d37 d38 d39 K hs _ fun e h1 h2 => ⟨h1, h2⟩)
theorem Y2x (l : Dt) (s : Nat) : ∀ (n i : Nat) (a : Int), Sp.cnt l s i (n + 1) a = if Sp.xS l (i + n) = s then Sp.cnt l s i n a + 1 else Sp.cnt l s i n a
 | 0, i, a => rfl
 | n + 1, i, a => by
  rw [show Sp.cnt l s i (n + 1 + 1) a = Sp.cnt l s (i + 1) (n + 1) (if Sp.xS l i = s then a + 1 else a) from rfl, Y2x l s n (i + 1), show i + 1 + n = i + (n + 1) by omega];rfl
theorem okLdl : Y7t := Ybkp (fun e => match e with | .ro _ l :: _ :: .i i :: _ => ((l.xs.length : Int) - i).toNat | _ => 0) fun W l n i d0 d1 d2 d3 d4 d5 d6 d7 d8 d9 d10 d11 d12 d13 d14 d15 d16 d17 d18 d19 d20 d21 d22 d23 d24 d25 d26 d27 d28 d29 d30 d31 d32 d33 d34 d35 d36 d37 d38 d39 K hs A hA => by
 obtain ⟨⟨rfl, hD⟩, hk⟩ := hs;unfold Y9y;delta Zx Zf;have hns : [d0, d1, d2, d3, d4, d5, d6, d7, d8, d9, d10, d11, d12, d13, d14, d15, d16, d17, d18, d19, d20, d21, d22, d23, d24, d25, d26, d27, d28, d29, d30, d31, d32, d33, d34, d35, d36, d37, d38, d39] = Sp.dAt l.xs i.toNat := hD.ds;have h0 := hD.i0;have h1 := hD.i1;have h2 := hD.ln;have hget : ∀ s, s < 40 -> ([d0, d1, d2, d3, d4, d5, d6, d7, d8, d9, d10, d11, d12, d13, d14, d15, d16, d17, d18, d19, d20, d21, d22, d23, d24, d25, d26, d27, d28, d29, d30, d31, d32, d33, d34, d35, d36, d37, d38, d39] : List Int).getD s 0 = Sp.cnt l.xs s 0 i.toNat 0 := fun s hs => by
  rw [hns, List.getD_eq_getElem?_getD];unfold Sp.dAt;rw [List.getElem?_map, List.getElem?_range hs];rfl
 refine vifd (fun e => ?_) fun e => ?_
 ·have hx := hD.xs i.toNat (by omega);have hx' : 0 <= (cel l.xs i.toNat 0).int /\ (cel l.xs i.toNat 0).int < 40 := hx;have hp : (cel l.xs i.toNat 0).int.toNat < 40 := by omega
  have hv := hget _ hp;have hc := Sp.cnt_in l.xs (cel l.xs i.toNat 0).int.toNat i.toNat 0 0;have ez : (i + 1).toNat = i.toNat + 1 := by omega
  refine ned (by simp; omega) (nedd (by omega) (ned (by simp; omega) (nedd hp (ar64 (by rw [hv]; omega) (ned (by simp; omega) (nedd hp (ar64 (by omega) (hA _ ?_ ?_))))))))
  ·show ((l.xs.length : Int) - (i + 1)).toNat < ((l.xs.length : Int) - i).toNat
   omega
  ·refine ⟨⟨rfl, ⟨by omega, by omega, h2, hD.xs, ?_⟩⟩, hk⟩;refine Eq.trans (b := (List.range 40).map fun s => selU (cel l.xs i.toNat 0).int.toNat s (([d0, d1, d2, d3, d4, d5, d6, d7, d8, d9, d10, d11, d12, d13, d14, d15, d16, d17, d18, d19, d20, d21, d22, d23, d24, d25, d26, d27, d28, d29, d30, d31, d32, d33, d34, d35, d36, d37, d38, d39] : List Int).getD (cel l.xs i.toNat 0).int.toNat 0 + 1) (([d0, d1, d2, d3, d4, d5, d6, d7, d8, d9, d10, d11, d12, d13, d14, d15, d16, d17, d18, d19, d20, d21, d22, d23, d24, d25, d26, d27, d28, d29, d30, d31, d32, d33, d34, d35, d36, d37, d38, d39] : List Int).getD s 0)) rfl ?_;unfold Sp.dAt;refine List.map_congr_left fun s hs => ?_;rw [List.mem_range] at hs;rw [hget s hs, hv, ez, Y2x, Nat.zero_add];unfold selU;have hxs : Sp.xS l.xs i.toNat = (cel l.xs i.toNat 0).int := rfl
   by_cases hps : (cel l.xs i.toNat 0).int.toNat = s
   ·rw [if_pos hps, if_pos (by omega), hps]
   ·rw [if_neg hps, if_neg (by omega)]
 ·have hl : i.toNat = l.xs.length := by omega
  rw [hl] at hns;rw [<- hns] at hk;exact hk
noncomputable def le_dl : LE Try.prog := ⟨90, 11, fun W => @Yh W Ybdm, okLdl⟩
open Go.RowKit
set_option maxRecDepth 100000
set_option maxHeartbeats 1600000
noncomputable def T41 : Tab Try.prog := ⟨[Y6g], [], []⟩
def Y0o [InW] (e : List Ed) (K : Nat -> List Ed -> Prop) : Prop := match e with
 | [.ro _ hd, .i n, .i i] => Pre (n = hd.xs.length /\ 0 <= i /\ i <= n) (Vif (Sp.hasE (Sp.hdErr hd.xs) i.toNat (hd.xs.length - i.toNat))
   (K 1 [.i (Sp.idxE (Sp.hdErr hd.xs) i.toNat (hd.xs.length - i.toNat)), .i (Sp.hdErr hd.xs (Sp.idxE (Sp.hdErr hd.xs) i.toNat (hd.xs.length - i.toNat)))]) (K 0 []))
 | _ => False
noncomputable def Y2f : LC where
 len := 23
 T := [(1, (.fn (.func 87) [] [])), (8, .rs Iv4), (9, .int .i64), (10, .int .i64)]
 H := []
 W := [4, 5, 6, 7, 11, 12, 13, 14, 15, 16, 17, 18, 19, 20, 21, 22]
 outs := [⟨.exit 0, [], [], [1, 4, 5, 6, 7, 8, 9, 10, 11, 12, 13, 14, 15, 16, 17, 18, 19, 20, 21, 22]⟩, ⟨.ret, [(4, .int .i64), (5, .int .i64)], [], [1, 6, 7, 8, 9, 10, 11, 12, 13, 14, 15, 16, 17, 18, 19, 20, 21, 22]⟩]
 spec := Y0o
def Yz1 [W : InW] (hd : Ro Iv4) (n i : Int) (A : List Ed -> Prop) (K : Nat -> List Ed -> Prop) : Prop :=
 Vif (decide (i < n)) (Need (decide ((0 : Int) <= i) && decide (i < (↑(hd.xs.length) : Int))) (Need (decide (i.toNat < hd.xs.length)) (Pre True (Vif (!decide (Sp.hrdE (cel hd.xs i.toNat (0 : Nat)).int (cel hd.xs i.toNat (0+1 : Nat)).int (cel hd.xs i.toNat (0+1+1 : Nat)).int (cel hd.xs i.toNat (0+1+1+1 : Nat)).int = (0 : Int))) (K (0+1 : Nat) [.i i, .i (Sp.hrdE (cel hd.xs i.toNat (0 : Nat)).int (cel hd.xs i.toNat (0+1 : Nat)).int (cel hd.xs i.toNat (0+1+1 : Nat)).int (cel hd.xs i.toNat (0+1+1+1 : Nat)).int)]) (Ar .i64 (i + (1 : Int)) fun z => A [.ro _ hd, .i n, .i z]))))) (K (0 : Nat) [])
theorem Ybfv (W : InW) (hd n i A K) : Ybd { cxT Try.prog TT T41 1000 50 with fn := 86 } 1000 (Y1 Try.prog 86 3) (Y4 23 [(1, .fn (.func 87) [] []), (8, .rs _ hd), (9, .si .i64 n), (10, .si .i64 i)] [4, 5, 6, 7, 11, 12, 13, 14, 15, 16, 17, 18, 19, 20, 21, 22]) [] (Y6 Y2f A K) = Yz1 hd n i A K := by kernel_rfl
def Y1r : Prop := ∀ (W : InW) (body a : Code), (Try.prog.funcs[86]?).bind (·.body) = some body -> a ∈ Yi body -> Ybe a = 3 -> @Y0 W Try.prog a (@Yh W Y2f)
theorem Ybhi (meas : [InW] -> List Ed -> Nat) (hyp_ : ∀ (W : InW) (hd : Ro Iv4) (n i : Int) (K : Nat -> List Ed -> Prop), Y0o [.ro _ hd, .i n, .i i] K -> ∀ A : List Ed -> Prop, (∀ e, meas e < meas [.ro _ hd, .i n, .i i] -> Y0o e K -> A e) -> Yz1 hd n i A K) : Y1r :=
 LE.okOf' (fun W => @TT W) (fun W => @Yo W) Yd T41 1000 50 (by kernel_rfl) Y2f (fun W => @meas W) fun W hd n i K hs =>
  (Ybfv W hd n i (fun e => meas e < meas [.ro _ hd, .i n, .i i] /\ Y0o e K) K).mpr (hyp_ W hd n i K hs _ fun e h1 h2 => ⟨h1, h2⟩)
theorem Ybk9 : Y1r := Ybhi (fun e => match e with | [.ro _ hd, _, .i i] => ((hd.xs.length : Int) - i).toNat | _ => 0) fun W hd n i K hs A hA => by
 obtain ⟨⟨rfl, h0, h1⟩, hk⟩ := hs;unfold Yz1;have hm := hd.len;simp only [maxLen] at hm;refine vifd (fun e => ?_) fun e => ?_
 ·rw [show hd.xs.length - i.toNat = (hd.xs.length - (i.toNat + 1)) + 1 by omega] at hk;obtain ⟨g1, g2⟩ := Yuy (K1 := fun j e => K 1 [.i j, .i e]) hk;rw [Int.toNat_of_nonneg h0] at g1;have ez : (i + 1).toNat = i.toNat + 1 := by omega
  have hA' : Sp.hdErr hd.xs i.toNat = 0 -> A [.ro _ hd, .i hd.xs.length, .i (i + 1)] := fun f => hA _ (by show ((hd.xs.length : Int) - (i + 1)).toNat < ((hd.xs.length : Int) - i).toNat; omega) ⟨⟨rfl, by omega, by omega⟩, by rw [ez]; exact g2 f⟩;clear g2 hk hA;simp only [Nat.zero_add, Nat.reduceAdd];rw [show Sp.hrdE (cel hd.xs i.toNat 0).int (cel hd.xs i.toNat 1).int (cel hd.xs i.toNat 2).int (cel hd.xs i.toNat 3).int = Sp.hdErr hd.xs i.toNat from rfl];refine ned (by simp; omega) (nedd (by omega) ⟨trivial, vifn (fun e2 => g1 e2) fun e2 => ar64 (by omega) (hA' e2)⟩)
 ·rw [show hd.xs.length - i.toNat = 0 by omega] at hk;exact hk.2 rfl
noncomputable def Ybly : LE Try.prog := ⟨86, 3, fun W => @Yh W Y2f, Ybk9⟩
namespace Sp
def drvN (rt : Dt) (n : Nat) : Dt := (List.range n).map fun a => (List.range 40).map fun s => Cl.i (tms rt a s)
structure OpOk (pl sh ti st : Dt) (ce : Int) (rt : Dt) (i : Int) (dr : Dt) : Prop where
 i0 : 0 <= i
 i1 : i <= rt.length
 rl : rt.length <= 10
 nm : NamesOk pl /\ NamesOk sh /\ NamesOk ti
 te : tchkE pl sh ti st = 0
 ce : inr ce 0 ((pl.length : Int) - 1) = true
 dr : dr = drvN rt i.toNat
end Sp
noncomputable def T42 : Tab Try.prog := ⟨[Yem, Yvk], [le_dl], []⟩
def Y0m [InW] (e : List Ed) (K : Nat -> List Ed -> Prop) : Prop := match e with
 | [.ro _ rt, .i n, .i i, .ro _ pl, .ro _ sh, .ro _ ti, .ro _ st, .i ce, .l dr] => Pre (n = rt.xs.length /\ Sp.OpOk pl.xs sh.xs ti.xs st.xs ce rt.xs i dr) (Vif (Sp.hasE (Sp.rtErr st.xs rt.xs ce) i.toNat (rt.xs.length - i.toNat))
   (K 1 [.i (Sp.idxE (Sp.rtErr st.xs rt.xs ce) i.toNat (rt.xs.length - i.toNat)), .i (Sp.rtErr st.xs rt.xs ce (Sp.idxE (Sp.rtErr st.xs rt.xs ce) i.toNat (rt.xs.length - i.toNat))), .ro _ pl, .ro _ sh, .ro _ ti, .ro _ st, .i ce, .l (Sp.drvN rt.xs (Sp.idxE (Sp.rtErr st.xs rt.xs ce) i.toNat (rt.xs.length - i.toNat)))])
   (K 0 [.ro _ pl, .ro _ sh, .ro _ ti, .ro _ st, .i ce, .l (Sp.drvN rt.xs rt.xs.length)]))
 | _ => False
noncomputable def Y2d : LC where
 len := 23
 T := [(1, (.fn (.func 90) [] [(.ptr 1 0), (.ptr 4 0)])), (8, .rs Je), (9, .int .i64), (10, .int .i64)]
 H := [(1, .blk 29 [.rs Jb, .rs Jb, .rs Jb, .rs Jd, .int .i64, (.opq 1051), (.opq 1054)]), (4, .blk 100 [(.ptr 7 0)]), (7, .blk 111 [(.opq 1021), (.opq 1024), (.opq 1027), (.opq 1030), (.opq 1033), (.opq 1036), (.opq 1039), (.row 6)]), (6, .arr 125 Jc)]
 W := [4, 5, 6, 7, 11, 12, 13, 14, 15, 16, 17, 18, 19, 20, 21, 22]
 outs := [⟨.exit 0, [(1, (.fn (.func 90) [] [(.ptr 1 0), (.ptr 4 0)]))], [(1, .blk 29 [.rs Jb, .rs Jb, .rs Jb, .rs Jd, .int .i64, (.opq 1051), (.opq 1054)]), (4, .blk 100 [(.ptr 7 0)]), (7, .blk 111 [(.opq 1021), (.opq 1024), (.opq 1027), (.opq 1030), (.opq 1033), (.opq 1036), (.opq 1039), (.row 9)]), (9, .arr 125 Jc)], [4, 5, 6, 7, 8, 9, 10, 11, 12, 13, 14, 15, 16, 17, 18, 19, 20, 21, 22]⟩, ⟨.ret, [(1, (.fn (.func 90) [] [(.ptr 1 0), (.ptr 4 0)])), (4, .int .i64), (5, .int .i64)], [(1, .blk 29 [.rs Jb, .rs Jb, .rs Jb, .rs Jd, .int .i64, (.opq 1051), (.opq 1054)]), (4, .blk 100 [(.ptr 7 0)]), (7, .blk 111 [(.opq 1021), (.opq 1024), (.opq 1027), (.opq 1030), (.opq 1033), (.opq 1036), (.opq 1039), (.row 9)]), (9, .arr 125 Jc)], [6, 7, 8, 9, 10, 11, 12, 13, 14, 15, 16, 17, 18, 19, 20, 21, 22]⟩]
 spec := Y0m
def Zbc := (0 : Nat)
def Zz [W : InW] (rt : Ro Je) (i : Int) := cel rt.xs i.toNat Zbc
def Zbb [W : InW] (rt : Ro Je) (i : Int) := List.length (Zz rt i).lst
def Zy [W : InW] (rt : Ro Je) (i : Int) := [[Cl.i (Sp.cnt (Zz rt i).lst (Zbc) Zbc (Zbb rt i) Zf), Cl.i (Sp.cnt (Zz rt i).lst ((1 : Nat)) Zbc (Zbb rt i) Zf), Cl.i (Sp.cnt (Zz rt i).lst ((2 : Nat)) Zbc (Zbb rt i) Zf), Cl.i (Sp.cnt (Zz rt i).lst ((3 : Nat)) Zbc (Zbb rt i) Zf), Cl.i (Sp.cnt (Zz rt i).lst ((4 : Nat)) Zbc (Zbb rt i) Zf), Cl.i (Sp.cnt (Zz rt i).lst ((5 : Nat)) Zbc (Zbb rt i) Zf), Cl.i (Sp.cnt (Zz rt i).lst ((6 : Nat)) Zbc (Zbb rt i) Zf), Cl.i (Sp.cnt (Zz rt i).lst ((7 : Nat)) Zbc (Zbb rt i) Zf), Cl.i (Sp.cnt (Zz rt i).lst ((8 : Nat)) Zbc (Zbb rt i) Zf), Cl.i (Sp.cnt (Zz rt i).lst ((9 : Nat)) Zbc (Zbb rt i) Zf), Cl.i (Sp.cnt (Zz rt i).lst ((10 : Nat)) Zbc (Zbb rt i) Zf), Cl.i (Sp.cnt (Zz rt i).lst ((11 : Nat)) Zbc (Zbb rt i) Zf), Cl.i (Sp.cnt (Zz rt i).lst ((12 : Nat)) Zbc (Zbb rt i) Zf), Cl.i (Sp.cnt (Zz rt i).lst ((13 : Nat)) Zbc (Zbb rt i) Zf), Cl.i (Sp.cnt (Zz rt i).lst ((14 : Nat)) Zbc (Zbb rt i) Zf), Cl.i (Sp.cnt (Zz rt i).lst ((15 : Nat)) Zbc (Zbb rt i) Zf), Cl.i (Sp.cnt (Zz rt i).lst ((16 : Nat)) Zbc (Zbb rt i) Zf), Cl.i (Sp.cnt (Zz rt i).lst ((17 : Nat)) Zbc (Zbb rt i) Zf), Cl.i (Sp.cnt (Zz rt i).lst ((18 : Nat)) Zbc (Zbb rt i) Zf), Cl.i (Sp.cnt (Zz rt i).lst ((19 : Nat)) Zbc (Zbb rt i) Zf), Cl.i (Sp.cnt (Zz rt i).lst ((20 : Nat)) Zbc (Zbb rt i) Zf), Cl.i (Sp.cnt (Zz rt i).lst ((21 : Nat)) Zbc (Zbb rt i) Zf), Cl.i (Sp.cnt (Zz rt i).lst ((22 : Nat)) Zbc (Zbb rt i) Zf), Cl.i (Sp.cnt (Zz rt i).lst ((23 : Nat)) Zbc (Zbb rt i) Zf), Cl.i (Sp.cnt (Zz rt i).lst ((24 : Nat)) Zbc (Zbb rt i) Zf), Cl.i (Sp.cnt (Zz rt i).lst ((25 : Nat)) Zbc (Zbb rt i) Zf), Cl.i (Sp.cnt (Zz rt i).lst ((26 : Nat)) Zbc (Zbb rt i) Zf), Cl.i (Sp.cnt (Zz rt i).lst ((27 : Nat)) Zbc (Zbb rt i) Zf), Cl.i (Sp.cnt (Zz rt i).lst ((28 : Nat)) Zbc (Zbb rt i) Zf), Cl.i (Sp.cnt (Zz rt i).lst ((29 : Nat)) Zbc (Zbb rt i) Zf), Cl.i (Sp.cnt (Zz rt i).lst ((30 : Nat)) Zbc (Zbb rt i) Zf), Cl.i (Sp.cnt (Zz rt i).lst ((31 : Nat)) Zbc (Zbb rt i) Zf), Cl.i (Sp.cnt (Zz rt i).lst ((32 : Nat)) Zbc (Zbb rt i) Zf), Cl.i (Sp.cnt (Zz rt i).lst ((33 : Nat)) Zbc (Zbb rt i) Zf), Cl.i (Sp.cnt (Zz rt i).lst ((34 : Nat)) Zbc (Zbb rt i) Zf), Cl.i (Sp.cnt (Zz rt i).lst ((35 : Nat)) Zbc (Zbb rt i) Zf), Cl.i (Sp.cnt (Zz rt i).lst ((36 : Nat)) Zbc (Zbb rt i) Zf), Cl.i (Sp.cnt (Zz rt i).lst ((37 : Nat)) Zbc (Zbb rt i) Zf), Cl.i (Sp.cnt (Zz rt i).lst ((38 : Nat)) Zbc (Zbb rt i) Zf), Cl.i (Sp.cnt (Zz rt i).lst ((39 : Nat)) Zbc (Zbb rt i) Zf)]]
def Zba [W : InW] (rt : Ro Je) (n i : Int) (pl sh ti : Ro Jb) (st : Ro Jd) (ce : Int) (dr : Dt) (A : List Ed -> Prop) (K : Nat -> List Ed -> Prop) := Vif (!decide (Sp.drvE pl.xs sh.xs ti.xs st.xs ce Zf (Zz rt i).lst = Zf)) (Vif (!decide (Sp.drvE pl.xs sh.xs ti.xs st.xs ce Zf (Zz rt i).lst = Zf)) (K (0+1 : Nat) [.i i, .i (Sp.drvE pl.xs sh.xs ti.xs st.xs ce Zf (Zz rt i).lst), .ro _ pl, .ro _ sh, .ro _ ti, .ro Zb st, .i ce, .l dr]) (Ar .i64 (i + (1 : Int)) fun z => A [.ro Zw rt, .i n, .i z, .ro _ pl, .ro _ sh, .ro _ ti, .ro Zb st, .i ce, .l dr])) (Pre ((↑(Zbb rt i) : Int) = (↑(Zbb rt i) : Int) /\ Sp.DOk (Zz rt i).lst Zf [Zf, Zf, Zf, Zf, Zf, Zf, Zf, Zf, Zf, Zf, Zf, Zf, Zf, Zf, Zf, Zf, Zf, Zf, Zf, Zf, Zf, Zf, Zf, Zf, Zf, Zf, Zf, Zf, Zf, Zf, Zf, Zf, Zf, Zf, Zf, Zf, Zf, Zf, Zf, Zf]) (Need (decide ((dr.length + (Zy rt i).length) * (320 : Nat) <= (140737488355328 : Nat))) (Ar .i64 (i + (1 : Int)) fun z => A [.ro Zw rt, .i n, .i z, .ro _ pl, .ro _ sh, .ro _ ti, .ro Zb st, .i ce, .l (dr ++ (Zy rt i))])))
def Yzz [W : InW] (rt : Ro Je) (n i : Int) (pl sh ti : Ro Jb) (st : Ro Jd) (ce : Int) (dr : Dt) (A : List Ed -> Prop) (K : Nat -> List Ed -> Prop) : Prop :=
 Vif (decide (i < n)) (Need (decide (Zf <= i) && decide (i < (↑(rt.xs.length) : Int))) (Need (decide (i.toNat < rt.xs.length)) (Pre True (Vif (Sp.out (1 : Int) (60 : Int) [[Cl.i (↑(Zbb rt i) : Int)]]) (K (0+1 : Nat) [.i i, .i (3 : Int), .ro _ pl, .ro _ sh, .ro _ ti, .ro Zb st, .i ce, .l dr]) (Pre (Sp.NamesOk pl.xs /\ Sp.NamesOk sh.xs /\ Sp.NamesOk ti.xs) (Vif (decide (Sp.drvE pl.xs sh.xs ti.xs st.xs ce Zf (Zz rt i).lst = Zf)) (Vif (!decide (Sp.dvT pl.xs sh.xs ti.xs st.xs ce Zf (Zz rt i).lst = ce)) (K (0+1 : Nat) [.i i, .i (9 : Int), .ro _ pl, .ro _ sh, .ro _ ti, .ro Zb st, .i ce, .l dr]) (Zba rt n i pl sh ti st ce dr A K)) (Zba rt n i pl sh ti st ce dr A K))))))) (K Zbc [.ro _ pl, .ro _ sh, .ro _ ti, .ro Zb st, .i ce, .l dr])
theorem Ybft (W : InW) (rt n i pl sh ti st ce dr A K) : Ybd { cxT Try.prog TT T42 1000 50 with fn := 89 } 1000 (Y1 Try.prog 89 3) (Y4 23 [(1, .fn (.func 90) [] [.ptr 1 0, .ptr 4 0]), (8, .rs _ rt), (9, .si .i64 n), (10, .si .i64 i)] [4, 5, 6, 7, 11, 12, 13, 14, 15, 16, 17, 18, 19, 20, 21, 22]) [(1, .blk 29 [.rs _ pl, .rs _ sh, .rs _ ti, .rs _ st, .si .i64 ce, .opq 1051, .opq 1054]), (4, .blk 100 [.ptr 7 0]), (7, .blk 111 [.opq 1021, .opq 1024, .opq 1027, .opq 1030, .opq 1033, .opq 1036, .opq 1039, .rw 6]), (6, .arr 125 Jc dr)] (Y6 Y2d A K) = Yzz rt n i pl sh ti st ce dr A K := by kernel_rfl
def Y1p : Prop := ∀ (W : InW) (body a : Code), (Try.prog.funcs[89]?).bind (·.body) = some body -> a ∈ Yi body -> Ybe a = 3 -> @Y0 W Try.prog a (@Yh W Y2d)
theorem Ybhg (meas : [InW] -> List Ed -> Nat) (hyp_ : ∀ (W : InW) (rt : Ro Je) (n i : Int) (pl sh ti : Ro Jb) (st : Ro Jd) (ce : Int) (dr : Dt) (K : Nat -> List Ed -> Prop), Y0m [.ro _ rt, .i n, .i i, .ro _ pl, .ro _ sh, .ro _ ti, .ro _ st, .i ce, .l dr] K -> ∀ A : List Ed -> Prop, (∀ e, meas e < meas [.ro _ rt, .i n, .i i, .ro _ pl, .ro _ sh, .ro _ ti, .ro _ st, .i ce, .l dr] -> Y0m e K -> A e) -> Yzz rt n i pl sh ti st ce dr A K) : Y1p :=
 LE.okOf' (fun W => @TT W) (fun W => @Yo W) Yd T42 1000 50 (by kernel_rfl) Y2d (fun W => @meas W) fun W rt n i pl sh ti st ce dr K hs =>
  (Ybft W rt n i pl sh ti st ce dr (fun e => meas e < meas [.ro _ rt, .i n, .i i, .ro _ pl, .ro _ sh, .ro _ ti, .ro _ st, .i ce, .l dr] /\ Y0m e K) K).mpr (hyp_ W rt n i pl sh ti st ce dr K hs _ fun e h1 h2 => ⟨h1, h2⟩)
theorem Y8n (rt : Dt) (n : Nat) : Sp.drvN rt (n + 1) = Sp.drvN rt n ++ [(List.range 40).map fun s => Cl.i (Sp.tms rt n s)] := by
 unfold Sp.drvN;rw [show List.range (n + 1) = List.range n ++ [n] from List.range_succ, List.map_append];rfl
theorem Ybk7 : Y1p := Ybhg (fun e => match e with | .ro _ rt :: _ :: .i i :: _ => ((rt.xs.length : Int) - i).toNat | _ => 0) fun W rt n i pl sh ti st ce dr K hs A hA => by
 obtain ⟨⟨rfl, hO⟩, hk⟩ := hs;unfold Yzz;delta Zba Zy Zbb Zz Zb Zbc Zf Zw;have hm := rt.len;simp only [maxLen] at hm;have h0 := hO.i0;have h1 := hO.i1;have hrl := hO.rl;have htw := Sp.tchk_ok hO.te;refine vifd (fun e => ?_) fun e => ?_
 ·rw [show rt.xs.length - i.toNat = (rt.xs.length - (i.toNat + 1)) + 1 by omega] at hk;obtain ⟨g1, g2⟩ := Yuy (K1 := fun j e => K 1 [.i j, .i e, .ro _ pl, .ro _ sh, .ro _ ti, .ro _ st, .i ce, .l (Sp.drvN rt.xs j)]) hk;rw [Int.toNat_of_nonneg h0] at g1;have ez : (i + 1).toNat = i.toNat + 1 := by omega
  have hA' : Sp.rtErr st.xs rt.xs ce i.toNat = 0 -> A [.ro _ rt, .i rt.xs.length, .i (i + 1), .ro _ pl, .ro _ sh, .ro _ ti, .ro _ st, .i ce, .l (Sp.drvN rt.xs (i.toNat + 1))] := fun f => hA _ (by show ((rt.xs.length : Int) - (i + 1)).toNat < ((rt.xs.length : Int) - i).toNat; omega) ⟨⟨rfl, ⟨by omega, by omega, hrl, hO.nm, hO.te, hO.ce, by rw [ez]⟩⟩, by rw [ez]; exact g2 f⟩;clear g2 hk hA;have hdr := hO.dr;rw [Y8n, <- hdr] at hA';rw [<- hdr] at g1;have eT : ∀ s, Sp.tms rt.xs i.toNat s = Sp.cnt (cel rt.xs i.toNat 0).lst s 0 (cel rt.xs i.toNat 0).lst.length 0 := fun s => rfl;have hE : Sp.rtErr st.xs rt.xs ce i.toNat = Sp.routeE st.xs (cel rt.xs i.toNat 0).lst ce := rfl;have hti := htw.tiL;have hsl := htw.stL;have hD : Sp.drvE pl.xs sh.xs ti.xs st.xs ce 0 (cel rt.xs i.toNat 0).lst = Sp.stepsE st.xs (cel rt.xs i.toNat 0).lst ce := by
   unfold Sp.drvE;rw [if_pos hO.te, hO.ce, if_pos (by simp only [Bool.true_and]; exact Sp.inr_iff.2 ⟨by omega, by omega⟩)]
  have hT : Sp.stepsE st.xs (cel rt.xs i.toNat 0).lst ce = 0 -> Sp.dvT pl.xs sh.xs ti.xs st.xs ce 0 (cel rt.xs i.toNat 0).lst = Sp.stepsT st.xs (cel rt.xs i.toNat 0).lst ce := fun e => by
   unfold Sp.dvT;rw [if_pos (by rw [hD]; exact e)]
  have hdl : dr.length = i.toNat := by rw [hdr]; unfold Sp.drvN; simp
  simp only [Nat.zero_add, Nat.reduceAdd, out1, hD];unfold Sp.routeE at hE;refine ned (by simp; omega) (nedd (by omega) ⟨trivial, vifb (fun e1 => ?_) fun e1 => ⟨hO.nm, vifd (fun e2 => vifn (fun e3 => ?_) fun e3 => vifn (fun e4 => absurd e2 e4) fun e4 => ⟨⟨trivial, ?_⟩, nedd ?_ ?_⟩) fun e2 => vifn (fun e4 => vifn (fun _ => ?_) fun e5 => absurd e5 e2) fun e4 => absurd e4 e2⟩⟩)
  ·rw [if_neg (by simp [e1])] at hE;rw [hE] at g1;exact g1 (by decide)
  ·rw [if_pos e1, if_pos e2, if_neg (by rw [<- hT e2]; exact e3)] at hE;rw [hE] at g1;exact g1 (by decide)
  ·have e1' := Sp.inr_iff.1 e1;have hs := (Sp.steps_street e2).2;exact ⟨by omega, by omega, by omega, fun k hk => by have := hs k hk; omega, rfl⟩
  ·simp only [List.length_cons, List.length_nil];omega
  ·rw [if_pos e1, if_pos e2, if_pos (by rw [<- hT e2]; exact e3)] at hE;have := hA' hE;refine ar64 (by omega) ?_;exact this
  ·rw [if_pos e1, if_neg e2] at hE;rw [hE] at g1;exact g1 e2
 ·rw [show rt.xs.length - i.toNat = 0 by omega] at hk;have hl : i.toNat = rt.xs.length := by omega
  have := hk.2 rfl;rw [<- hl, <- hO.dr] at this;exact this
noncomputable def Yblw : LE Try.prog := ⟨89, 3, fun W => @Yh W Y2d, Ybk7⟩
noncomputable def T43 : Tab Try.prog := ⟨[Yem, Yvl], [Ybly, Yblw], []⟩
def Y5r [InW] (e : List Ed) (K : Nat -> List Ed -> Prop) : Prop := match e with
 | [.ro _ pl, .ro _ sh, .ro _ ti, .ro _ st, .i ce, .ro _ hd, .ro _ rt] => Pre (Sp.NamesOk pl.xs /\ Sp.NamesOk sh.xs /\ Sp.NamesOk ti.xs) (Vif (decide (Sp.cE pl.xs sh.xs ti.xs st.xs ce hd.xs rt.xs = 0))
   (K 1 [.ro _ pl, .ro _ sh, .ro _ ti, .ro _ st, .i ce, .ro _ hd, .ro _ rt, .l (Sp.drvN rt.xs rt.xs.length)])
   (K 0 [.i (Sp.cP pl.xs sh.xs ti.xs st.xs ce hd.xs rt.xs), .i (Sp.cI pl.xs sh.xs ti.xs st.xs ce hd.xs rt.xs), .i (Sp.cE pl.xs sh.xs ti.xs st.xs ce hd.xs rt.xs)]))
 | _ => False
noncomputable def Yf8 : CC where
 g := 71
 args := [.agg [.rs Jb, .rs Jb, .rs Jb, .rs Jd, .int .i64, .rs Iv4, .rs Je]]
 H := []
 outs := [⟨false, .tup [(.lit (.pointer none)), .int .i64, .int .i64, .int .i64], [], false⟩, ⟨false, .tup [(.ptr 6 0), (.lit (.int .i64 0)), (.lit (.int .i64 0)), (.lit (.int .i64 0))], [(6, .blk 111 [.rs Jb, .rs Jb, .rs Jb, .rs Jd, .int .i64, .rs Iv4, .rs Je, (.row 12)]), (12, .arr 125 Jc)], false⟩]
 spec := Y5r
def Zbe [W : InW] (hd : Ro Iv4) := Sp.idxE (Sp.hdErr hd.xs) Zg (hd.xs.length - Int.toNat Zf)
def Zbd [W : InW] (pl sh ti : Ro Jb) (st : Ro Jd) (ce : Int) (hd : Ro Iv4) (rt : Ro Je) (K : Nat -> List Ed -> Prop) := Pre ((↑(rt.xs.length) : Int) = (↑(rt.xs.length) : Int) /\ Sp.OpOk pl.xs sh.xs ti.xs st.xs ce rt.xs Zf []) (Vif (Sp.hasE (Sp.rtErr st.xs rt.xs ce) Zg (rt.xs.length - Int.toNat Zf)) (Vif (!decide (Sp.rtErr st.xs rt.xs ce (Sp.idxE (Sp.rtErr st.xs rt.xs ce) Zg (rt.xs.length - Int.toNat Zf)) = Zf)) (K Zbc [.i (3 : Int), .i (↑(Sp.idxE (Sp.rtErr st.xs rt.xs ce) Zg (rt.xs.length - Int.toNat Zf)) : Int), .i (Sp.rtErr st.xs rt.xs ce (Sp.idxE (Sp.rtErr st.xs rt.xs ce) Zg (rt.xs.length - Int.toNat Zf)))]) (K (0+1 : Nat) [.ro _ pl, .ro _ sh, .ro _ ti, .ro Zb st, .i ce, .ro _ hd, .ro Zw rt, .l (Sp.drvN rt.xs (Sp.idxE (Sp.rtErr st.xs rt.xs ce) Zg (rt.xs.length - Int.toNat Zf)))])) (K (0+1 : Nat) [.ro _ pl, .ro _ sh, .ro _ ti, .ro Zb st, .i ce, .ro _ hd, .ro Zw rt, .l (Sp.drvN rt.xs (rt.xs.length))]))
def Yuh [W : InW] (pl sh ti : Ro Jb) (st : Ro Jd) (ce : Int) (hd : Ro Iv4) (rt : Ro Je) (K : Nat -> List Ed -> Prop) : Prop :=
 Pre (Sp.NamesOk pl.xs /\ Sp.NamesOk sh.xs /\ Sp.NamesOk ti.xs) (Vif (!decide (Sp.tchkE pl.xs sh.xs ti.xs st.xs = Zf)) (K Zbc [.i (1 : Int), .i Zf, .i (Sp.tchkE pl.xs sh.xs ti.xs st.xs)]) (Ar .i64 ((↑(pl.xs.length) : Int) - (1 : Int)) fun z => Pre True (Vif (Sp.out Zf z [[Cl.i ce]]) (K Zbc [.i (1 : Int), .i Zf, .i (4 : Int)]) (Vif (!decide ((↑(hd.xs.length) : Int) = (↑(st.xs.length) : Int))) (K Zbc [.i (1 : Int), .i Zf, .i (3 : Int)]) (Vif (decide ((10 : Int) < (↑(rt.xs.length) : Int))) (K Zbc [.i (1 : Int), .i Zf, .i (3 : Int)]) (Pre ((↑(hd.xs.length) : Int) = (↑(hd.xs.length) : Int) /\ Zf <= Zf /\ Zf <= (↑(hd.xs.length) : Int)) (Vif (Sp.hasE (Sp.hdErr hd.xs) Zg (hd.xs.length - Int.toNat Zf)) (Vif (!decide (Sp.hdErr hd.xs (Zbe hd) = Zf)) (K Zbc [.i (2 : Int), .i (↑(Zbe hd) : Int), .i (Sp.hdErr hd.xs (Zbe hd))]) (Zbd pl sh ti st ce hd rt K)) (Zbd pl sh ti st ce hd rt K))))))))
theorem Ybak (W : InW) (pl sh ti st ce hd rt K) : Yi8 (cxT Try.prog TT T43 1000 50) 1000 71 [.agg [.rs _ pl, .rs _ sh, .rs _ ti, .rs _ st, .si .i64 ce, .rs _ hd, .rs _ rt]] [] (fun v h => outC Yf8.H [] Yf8.outs 0 false v h K) (fun v h => outC Yf8.H [] Yf8.outs 0 true v h K) = Yuh pl sh ti st ce hd rt K := by kernel_rfl
theorem Ybcv (hyp_ : ∀ (W : InW) (pl sh ti : Ro Jb) (st : Ro Jd) (ce : Int) (hd : Ro Iv4) (rt : Ro Je) (K : Nat -> List Ed -> Prop), Y5r [.ro _ pl, .ro _ sh, .ro _ ti, .ro _ st, .i ce, .ro _ hd, .ro _ rt] K -> Yuh pl sh ti st ce hd rt K) : ∀ W : InW, @CallC W Try.prog Yf8 :=
 CC.okOf (fun W => @TT W) (fun W => @Yo W) Yd T43 1000 50 Yf8 fun W pl sh ti st ce hd rt K hs => (Ybak W pl sh ti st ce hd rt K).mpr (hyp_ W pl sh ti st ce hd rt K hs)
theorem Ybij : ∀ W : InW, @CallC W Try.prog Yf8 := Ybcv fun W pl sh ti st ce hd rt K hs => by
 obtain ⟨hp, hk⟩ := hs;unfold Yuh;delta Zbd Zbe Zg Zw Zb Zf Zbc;have hpl := pl.len;simp only [maxLen] at hpl;have i1 := fun e => (Sp.hasE_ix (f := Sp.hdErr hd.xs) (n := hd.xs.length) (i := 0) e).2.2;have i2 := fun e => (Sp.hasE_ix (f := Sp.rtErr st.xs rt.xs ce) (n := rt.xs.length) (i := 0) e).2.2;have hop : Sp.tchkE pl.xs sh.xs ti.xs st.xs = 0 -> Sp.inr ce 0 ((pl.xs.length : Int) - 1) = true -> ¬ 10 < (rt.xs.length : Int) -> Sp.OpOk pl.xs sh.xs ti.xs st.xs ce rt.xs 0 [] := fun e1 e2 e3 => ⟨by omega, by omega, by omega, hp, e1, e2, rfl⟩;obtain ⟨q0, q1, q2, q3, q4, q5⟩ := Y2y (pl := pl.xs) (sh := sh.xs) (ti := ti.xs) (st := st.xs) (ce := ce) (hd := hd.xs) (rt := rt.xs) (Q := fun r => Vif (decide (r.2.2 = 0)) (K 1 [.ro _ pl, .ro _ sh, .ro _ ti, .ro _ st, .i ce, .ro _ hd, .ro _ rt, .l (Sp.drvN rt.xs rt.xs.length)]) (K 0 [.i r.1, .i r.2.1, .i r.2.2])) hk;clear hk;simp only [show Int.toNat 0 = 0 from rfl, Nat.sub_zero, out1]
 repeat' (first | (refine ⟨⟨trivial, hop (by assumption) (by assumption) (by assumption)⟩, ?_⟩) | (refine ⟨⟨rfl, hop (by assumption) (by assumption) (by assumption)⟩, ?_⟩) | omega | with_reducible refine vifd (fun _ => ?_) fun _ => ?_ | with_reducible refine vifn (fun _ => ?_) fun _ => ?_ | with_reducible refine vifq (fun _ => ?_) fun _ => ?_ | with_reducible refine vifq0 (fun _ => ?_) fun _ => ?_ | with_reducible refine vifq1 (fun _ => ?_) fun _ => ?_ | with_reducible refine vifb (fun _ => ?_) fun _ => ?_ | with_reducible refine vif (fun _ => ?_) fun _ => ?_ | (with_reducible refine nedd ?_ ?_; omega) | (with_reducible refine ned ?_ ?_; simp only [Bool.and_eq_true, decide_eq_true_eq]; omega) | (with_reducible refine ar64 ?_ ?_; omega) | (with_reducible refine Ybo ?_ ?_; (first | trivial | omega | assumption | (refine ⟨?_, ?_⟩ <;> first | trivial | omega | assumption) | (refine ⟨?_, ?_, ?_⟩ <;> first | trivial | omega | assumption) | (refine ⟨?_, ?_, ?_, ?_⟩ <;> first | trivial | omega | assumption))))
 all_goals first | contradiction | exact absurd (by assumption) (i1 (by assumption)) | exact absurd (by assumption) (i2 (by assumption)) | exact (q0 (by assumption)).2 (decide_eq_false (by assumption)) | exact (q1 (by assumption) (by assumption)).2 rfl | exact (q2 (by assumption) (by assumption) (.inl (by assumption))).2 rfl | exact (q2 (by assumption) (by assumption) (.inr (by assumption))).2 rfl | exact (q3 (by assumption) (by assumption) (by assumption) (by assumption) (by assumption)).2 (decide_eq_false (i1 (by assumption))) | exact (q4 (by assumption) (by assumption) (by assumption) (by assumption) (by assumption) (by assumption)).2 (decide_eq_false (i2 (by assumption))) | exact (q5 (by assumption) (by assumption) (by assumption) (by assumption) (by assumption) (by assumption)).1 rfl | skip
noncomputable def Yj4 := ceOf Yf8 Ybij
namespace Sp
def sumT (hd rt : Dt) (a : Nat) (tr : Dt) : Int := sumF (fun s => tms rt a s * atH hd s (cel tr s 0).int) 0 hd.length 0
structure TrOk (hd tr : Dt) : Prop where
 len : tr.length = hd.length
 each : ∀ s, s < hd.length -> hLo hd s <= (cel tr s 0).int /\ (cel tr s 0).int <= hHi hd s
def trB (hd tr : Dt) (s : Nat) : Int := if inr (cel tr s 0).int (hLo hd s) (hHi hd s) then 0 else 7
def trErr (hd tr : Dt) : Int := if (tr.length : Int) = hd.length then (if hasE (trB hd tr) 0 tr.length then 7 else 0) else 3
theorem trErr_ok {hd tr : Dt} : trErr hd tr = 0 ↔ TrOk hd tr := by
 unfold trErr;constructor
 ·intro h
  split at h
  ·rename_i h1
   split at h
   ·omega
   ·rename_i h2;refine ⟨by omega, fun s hs => ?_⟩;have := hasE_ff (by simpa using h2) s (by omega) (by omega);unfold trB at this
    split at this
    ·rename_i h3; exact inr_iff.1 h3
    ·omega
  ·omega
 ·intro h;rw [if_pos (by rw [h.len]), if_neg];intro hc;have h1 := hasE_ix hc;unfold trB at h1;refine h1.2.2 (if_pos (inr_iff.2 (h.each _ ?_)));have := h.len;omega
theorem sum_dif (hd rt : Dt) (a b : Nat) (tr : Dt) : sumT hd rt a tr - sumT hd rt b tr = sumF (fun s => dif rt a b s * atH hd s (cel tr s 0).int) 0 hd.length 0 := by
 unfold sumT;rw [sumF_sub];refine sumF_congr fun k _ _ => ?_;unfold dif;rw [Int.sub_mul]
theorem cel_gen {f : Nat -> Int} {n s : Nat} (h : s < n) : cel ((List.range n).map fun s => [Cl.i (f s)]) s 0 = Cl.i (f s) := by
 unfold cel;rw [List.getD_eq_getElem?_getD, List.getD_eq_getElem?_getD, List.getElem?_map, List.getElem?_range h];rfl
theorem sum_le (hd rt : Dt) (a b : Nat) : sumT hd rt a (apLe hd rt a b hd.length) - sumT hd rt b (apLe hd rt a b hd.length) = apLo hd rt a b := by
 rw [sum_dif];unfold apLo apLe;exact sumF_congr fun k _ hk => by rw [cel_gen (by omega)]; rfl
theorem sum_gr (hd rt : Dt) (a b : Nat) : sumT hd rt a (apGr hd rt a b hd.length) - sumT hd rt b (apGr hd rt a b hd.length) = apHi hd rt a b := by
 rw [sum_dif];unfold apHi apGr;exact sumF_congr fun k _ hk => by rw [cel_gen (by omega)]; rfl
theorem leT_in {hd : Dt} {n : Int} {s : Nat} (h : HdOk hd s) : hLo hd s <= leT hd n s /\ leT hd n s <= hHi hd s := by
 have := h.le;unfold leT
 repeat' split
 all_goals omega
theorem grT_in {hd : Dt} {n : Int} {s : Nat} (h : HdOk hd s) : hLo hd s <= grT hd n s /\ grT hd n s <= hHi hd s := by
 have := h.le;unfold grT
 repeat' split
 all_goals omega
theorem le_tr {hd rt : Dt} {a b : Nat} (h : ∀ i, i < hd.length -> HdOk hd i) : TrOk hd (apLe hd rt a b hd.length) := ⟨by unfold apLe; simp, fun s hs => by unfold apLe; rw [cel_gen hs]; exact leT_in (h s hs)⟩
theorem gr_tr {hd rt : Dt} {a b : Nat} (h : ∀ i, i < hd.length -> HdOk hd i) : TrOk hd (apGr hd rt a b hd.length) := ⟨by unfold apGr; simp, fun s hs => by unfold apGr; rw [cel_gen hs]; exact grT_in (h s hs)⟩
theorem far_in {hd rt tr : Dt} {a b : Nat} (h : ∀ i, i < hd.length -> HdOk hd i) (ht : TrOk hd tr) : apLo hd rt a b <= sumT hd rt a tr - sumT hd rt b tr /\ sumT hd rt a tr - sumT hd rt b tr <= apHi hd rt a b := by
 rw [sum_dif];unfold apLo apHi;refine ⟨sumF_le (fun k _ hk => ?_) (Int.le_refl _), sumF_le (fun k _ hk => ?_) (Int.le_refl _)⟩
 ·exact (ap_in (h k (by omega)).pe.1 (ht.each k (by omega)).1 (ht.each k (by omega)).2).1
 ·exact (ap_in (h k (by omega)).pe.1 (ht.each k (by omega)).1 (ht.each k (by omega)).2).2
def far (hd rt : Dt) (a b : Nat) (tr : Dt) : Int := max (sumT hd rt a tr - sumT hd rt b tr) (-(sumT hd rt a tr - sumT hd rt b tr))
theorem far_most {hd rt tr : Dt} {a b : Nat} (h : ∀ i, i < hd.length -> HdOk hd i) (ht : TrOk hd tr) : far hd rt a b tr <= most hd rt a b := by
 have := far_in (rt := rt) (a := a) (b := b) h ht;unfold far most; omega
theorem far_got {hd rt : Dt} {a b : Nat} (h : ∀ i, i < hd.length -> HdOk hd i) : far hd rt a b (apLe hd rt a b hd.length) = most hd rt a b \/ far hd rt a b (apGr hd rt a b hd.length) = most hd rt a b := by
 have h1 := far_in (rt := rt) (a := a) (b := b) h (le_tr (rt := rt) (a := a) (b := b) h);unfold far most;rw [sum_le, sum_gr] at *;omega
theorem most_ge {hd rt : Dt} {a b : Nat} (h : ∀ i, i < hd.length -> HdOk hd i) : 0 <= most hd rt a b := by
 have := far_most (rt := rt) (a := a) (b := b) h (le_tr (rt := rt) (a := a) (b := b) h);unfold far at this; omega
theorem tri_lo (hd rt : Dt) (a b m : Nat) (h : ∀ i, i < hd.length -> HdOk hd i) : apLo hd rt a m + apLo hd rt m b <= apLo hd rt a b /\ apHi hd rt a b <= apHi hd rt a m + apHi hd rt m b := by
 have h1 := far_in (rt := rt) (a := a) (b := m) h (le_tr (rt := rt) (a := a) (b := b) h);have h2 := far_in (rt := rt) (a := m) (b := b) h (le_tr (rt := rt) (a := a) (b := b) h);have h3 := far_in (rt := rt) (a := a) (b := m) h (gr_tr (rt := rt) (a := a) (b := b) h);have h4 := far_in (rt := rt) (a := m) (b := b) h (gr_tr (rt := rt) (a := a) (b := b) h);have h5 := sum_le hd rt a b;have h6 := sum_gr hd rt a b;omega
def haLo (hd rt : Dt) (a : Nat) : Int := sumF (fun s => tms rt a s * atH hd s (hLo hd s)) 0 hd.length 0
def haHi (hd rt : Dt) (a : Nat) : Int := sumF (fun s => tms rt a s * atH hd s (hHi hd s)) 0 hd.length 0
theorem ha_in {hd rt tr : Dt} {a : Nat} (h : ∀ i, i < hd.length -> HdOk hd i) (ht : TrOk hd tr) : haLo hd rt a <= sumT hd rt a tr /\ sumT hd rt a tr <= haHi hd rt a := by
 unfold haLo haHi sumT;refine ⟨sumF_le (fun k _ hk => ?_) (Int.le_refl _), sumF_le (fun k _ hk => ?_) (Int.le_refl _)⟩
 ·exact mul_up (tms_in rt a k).1 (h k (by omega)).pe.1 (ht.each k (by omega)).1
 ·exact mul_up (tms_in rt a k).1 (h k (by omega)).pe.1 (ht.each k (by omega)).2
def trafF (hd x : Dt) (n : Nat) : Dt := (List.range n).map fun s => [Cl.i (hLo hd s + (if x.length = 0 then 0 else (cel x (s % x.length) 0).int).tmod (hHi hd s - hLo hd s + 1))]
theorem traf_ok {hd x : Dt} (h : ∀ i, i < hd.length -> HdOk hd i) (hx : ∀ i, i < x.length -> 0 <= (cel x i 0).int) : TrOk hd (trafF hd x hd.length) := ⟨by unfold trafF; simp, fun s hs => by
 unfold trafF;rw [cel_gen hs];have h1 := (h s hs).le;have h0 : 0 <= (if x.length = 0 then 0 else (cel x (s % x.length) 0).int) := by
  split
  ·omega
  ·exact hx _ (Nat.mod_lt _ (by omega))
 have h2 := Int.tmod_nonneg (hHi hd s - hLo hd s + 1) h0;have h3 := Int.tmod_lt_of_pos (if x.length = 0 then 0 else (cel x (s % x.length) 0).int) (show 0 < hHi hd s - hLo hd s + 1 by omega);rw [Cl.int_i];omega⟩
end Sp
namespace Sp
def bound (hd rt l : Dt) : Int := bdF hd rt l 0 l.length 0
def pickR (p : Nat -> Bool) (hd rt : Dt) (dm many : Int) : Dt × Int := refF p hd rt dm many 1 (2 ^ rt.length - 1) ([], 0)
theorem meets_len {p : Nat -> Bool} {rt : Dt} {ns : Nat} {dm many : Int} {l : Dt} (h : meets p rt ns dm many l = true) : (l.length : Int) = many := by
 unfold meets at h;rw [Bool.and_eq_true, decide_eq_true_eq] at h;exact h.1
theorem pick_facts (p : Nat -> Bool) (hd rt : Dt) (dm many : Int) (hm : 1 <= many) :
  (pickR p hd rt dm many = ([], 0) /\ ∀ l, Asc rt.length l -> meets p rt hd.length dm many l = false) \/
  ((pickR p hd rt dm many).1 ≠ [] /\ Asc rt.length (pickR p hd rt dm many).1 /\ meets p rt hd.length dm many (pickR p hd rt dm many).1 = true /\ (pickR p hd rt dm many).2 = bound hd rt (pickR p hd rt dm many).1 /\
   ∀ l, Asc rt.length l -> meets p rt hd.length dm many l = true -> (pickR p hd rt dm many).2 <= bound hd rt l) := by
 have hne : ∀ y ∈ lsts p hd rt dm many 1 (2 ^ rt.length - 1), y.1 ≠ [] /\ ((y.1.length : Int) = many /\ Asc rt.length y.1) := fun y hy => by
  obtain ⟨t, _, _, h3, rfl⟩ := mem_lsts.1 hy;have h4 := meets_len h3;exact ⟨fun g => by dsimp only at g; rw [g] at h4; simp at h4; omega, h4, ⟨lsF_sub _ _ _⟩⟩
 have hmem : ∀ l, Asc rt.length l -> meets p rt hd.length dm many l = true -> (l, bound hd rt l) ∈ lsts p hd rt dm many 1 (2 ^ rt.length - 1) := fun l ha hl => by
  have hn : l ≠ [] := fun g => by
   have h4 := meets_len hl;rw [g] at h4; simp at h4; omega
  obtain ⟨t, t1, t2, rfl⟩ := (lsF_mem hn).1 ha.sub;exact mem_lsts.2 ⟨t, t1, by omega, hl, rfl⟩
 have hall := Pk.foldR_all (key := keyR) (lxB := bfB) (Q := fun e => (e.length : Int) = many /\ Asc rt.length e) (fun x y hx hy => by
  have hl : x.length = y.length := by have := hx.1; have := hy.1; omega
  have := bf_lx (x := x) (y := y) x.length 0 (by omega) hl;simpa [bfB] using this) (fun x y hx hy => key_inj hx.2 hy.2 (by have := hx.1; have := hy.1; omega)) 0 hne
 rw [<- refF_eq] at hall
 change (_ /\ pickR p hd rt dm many = _) \/ Pk.Least keyR _ (pickR p hd rt dm many) at hall
 rcases hall with ⟨h1, h2⟩ | ⟨h1, h2⟩
 ·refine .inl ⟨h2, fun l ha => ?_⟩;cases hl : meets p rt hd.length dm many l with
  | false => rfl
  | true =>
   have := hmem l ha hl;rw [h1] at this;cases this
 ·refine .inr ⟨(hne _ h1).1, (hne _ h1).2.2, ?_, ?_, fun l ha hl => ?_⟩
  ·obtain ⟨t, _, _, h3, h4⟩ := mem_lsts.1 h1;rw [h4]; exact h3
  ·obtain ⟨t, _, _, h3, h4⟩ := mem_lsts.1 h1;rw [h4]; rfl
  ·have := h2 _ (hmem l ha hl);dsimp only at this;omega
theorem bk_le {hd rt l : Dt} {i : Nat} : ∀ (n k : Nat) (b : Int), b <= bkF hd rt l i k n b /\ ∀ j, k <= j -> j < k + n -> most hd rt (rI l j) (rI l i) <= bkF hd rt l i k n b
 | 0, k, b => ⟨Int.le_refl _, fun j h1 h2 => by omega⟩
 | n + 1, k, b => by
  obtain ⟨h1, h2⟩ := @bk_le hd rt l i n (k + 1) (max b (most hd rt (rI l k) (rI l i)));simp only [bkF];refine ⟨by omega, fun j h3 h4 => ?_⟩;rcases Nat.eq_or_lt_of_le h3 with e | e
  ·rw [<- e]; omega
  ·exact h2 j e (by omega)
theorem bd_le {hd rt l : Dt} : ∀ (n i : Nat) (b : Int), b <= bdF hd rt l i n b /\ ∀ j, i <= j -> j < i + n -> ∀ k, k < j -> most hd rt (rI l k) (rI l j) <= bdF hd rt l i n b
 | 0, i, b => ⟨Int.le_refl _, fun j h1 h2 => by omega⟩
 | n + 1, i, b => by
  obtain ⟨h1, h2⟩ := @bd_le hd rt l n (i + 1) (bkF hd rt l i 0 i b);obtain ⟨h3, h4⟩ := @bk_le hd rt l i i 0 b;simp only [bdF];refine ⟨by omega, fun j h5 h6 k hk => ?_⟩;rcases Nat.eq_or_lt_of_le h5 with e | e
  ·subst e;have := h4 k (by omega) (by omega);omega
  ·exact h2 j e (by omega) k hk
theorem bk_got {hd rt l : Dt} {i : Nat} : ∀ (n k : Nat) (b : Int), bkF hd rt l i k n b = b \/ ∃ j, k <= j /\ j < k + n /\ most hd rt (rI l j) (rI l i) = bkF hd rt l i k n b
 | 0, k, b => .inl rfl
 | n + 1, k, b => by
  simp only [bkF];rcases @bk_got hd rt l i n (k + 1) (max b (most hd rt (rI l k) (rI l i))) with h | ⟨j, h1, h2, h3⟩
  ·rw [h];rcases Int.le_total (most hd rt (rI l k) (rI l i)) b with e | e
   ·left; omega
   ·right; exact ⟨k, by omega, by omega, by omega⟩
  ·exact .inr ⟨j, by omega, by omega, h3⟩
theorem bd_got {hd rt l : Dt} : ∀ (n i : Nat) (b : Int), bdF hd rt l i n b = b \/ ∃ j k, i <= j /\ j < i + n /\ k < j /\ most hd rt (rI l k) (rI l j) = bdF hd rt l i n b
 | 0, i, b => .inl rfl
 | n + 1, i, b => by
  simp only [bdF];rcases @bd_got hd rt l n (i + 1) (bkF hd rt l i 0 i b) with h | ⟨j, k, h1, h2, h3, h4⟩
  ·rw [h];rcases @bk_got hd rt l i i 0 b with g | ⟨k, _, g1, g2⟩
   ·exact .inl g
   ·exact .inr ⟨i, k, by omega, by omega, by omega, g2⟩
  ·exact .inr ⟨j, k, by omega, by omega, h3, h4⟩
theorem bd_mono {hd hd' rt rt' l l' : Dt} : ∀ (n i : Nat) (b b' : Int), b <= b' -> (∀ j, i <= j -> j < i + n -> ∀ k, k < j -> most hd rt (rI l k) (rI l j) <= most hd' rt' (rI l' k) (rI l' j)) -> bdF hd rt l i n b <= bdF hd' rt' l' i n b'
 | 0, _, _, _, h, _ => h
 | n + 1, i, b, b', h, hm => by
  simp only [bdF];refine bd_mono n (i + 1) _ _ ?_ fun j h1 h2 k hk => hm j (by omega) (by omega) k hk;have gen : ∀ (n k : Nat) (b b' : Int), k + n = i -> b <= b' -> bkF hd rt l i k n b <= bkF hd' rt' l' i k n b' := fun n => by
   induction n with
   | zero => intro k b b' _ h; exact h
   | succ n ih =>
    intro k b b' hk h;simp only [bkF];refine ih (k + 1) _ _ (by omega) ?_;have := hm i (by omega) (by omega) k (by omega);omega
  exact gen i 0 b b' (by omega) h
end Sp
namespace Sp
theorem ap_shared {hd hd' rt : Dt} {a b : Nat} (hl : hd'.length = hd.length) (h : ∀ s, s < hd.length -> tms rt a s = tms rt b s \/ ∀ k, cel hd' s k = cel hd s k) : apLo hd' rt a b = apLo hd rt a b /\ apHi hd' rt a b = apHi hd rt a b := by
 unfold apLo apHi;rw [hl];refine ⟨sumF_congr fun k _ hk => ?_, sumF_congr fun k _ hk => ?_⟩ <;>
 ·rcases h k (by omega) with e | e
  ·rw [show dif rt a b k = 0 by unfold dif; omega, Int.zero_mul, Int.zero_mul]
  ·have e0 : hBa hd' k = hBa hd k := by unfold hBa; rw [e]
   have e1 : hPe hd' k = hPe hd k := by unfold hPe; rw [e]
   have e2 : hLo hd' k = hLo hd k := by unfold hLo; rw [e]
   have e3 : hHi hd' k = hHi hd k := by unfold hHi; rw [e]
   simp only [atH, leT, grT, e0, e1, e2, e3]
structure Wider (hd hd' : Dt) : Prop where
 len : hd'.length = hd.length
 ba : ∀ s, s < hd.length -> hBa hd' s = hBa hd s
 pe : ∀ s, s < hd.length -> hPe hd' s = hPe hd s
 lo : ∀ s, s < hd.length -> hLo hd' s <= hLo hd s
 hi : ∀ s, s < hd.length -> hHi hd s <= hHi hd' s
theorem Wider.tr {hd hd' tr : Dt} (h : Wider hd hd') (ht : TrOk hd tr) : TrOk hd' tr := ⟨by rw [ht.len, h.len], fun s hs => by
 rw [h.len] at hs;have := ht.each s hs;have := h.lo s hs;have := h.hi s hs;omega⟩
theorem Wider.sum {hd hd' : Dt} (h : Wider hd hd') (rt : Dt) (a : Nat) (tr : Dt) : sumT hd' rt a tr = sumT hd rt a tr := by
 unfold sumT;rw [h.len];refine sumF_congr fun k _ hk => ?_;unfold atH;rw [h.ba k (by omega), h.pe k (by omega)]
theorem Wider.ap {hd hd' : Dt} (h : Wider hd hd') (h1 : ∀ i, i < hd.length -> HdOk hd i) (h2 : ∀ i, i < hd'.length -> HdOk hd' i) (rt : Dt) (a b : Nat) : apLo hd' rt a b <= apLo hd rt a b /\ apHi hd rt a b <= apHi hd' rt a b := by
 have g1 := far_in (rt := rt) (a := a) (b := b) h2 (h.tr (le_tr (rt := rt) (a := a) (b := b) h1));have g2 := far_in (rt := rt) (a := a) (b := b) h2 (h.tr (gr_tr (rt := rt) (a := a) (b := b) h1));rw [h.sum, h.sum] at g1 g2;rw [sum_le] at g1;rw [sum_gr] at g2;omega
theorem Wider.most {hd hd' : Dt} (h : Wider hd hd') (h1 : ∀ i, i < hd.length -> HdOk hd i) (h2 : ∀ i, i < hd'.length -> HdOk hd' i) (rt : Dt) (a b : Nat) : most hd rt a b <= most hd' rt a b := by
 have := h.ap h1 h2 rt a b;unfold Sp.most; omega
theorem Wider.ha {hd hd' : Dt} (h : Wider hd hd') (h1 : ∀ i, i < hd.length -> HdOk hd i) (rt : Dt) (a : Nat) : haLo hd' rt a <= haLo hd rt a /\ haHi hd rt a <= haHi hd' rt a := by
 unfold haLo haHi;rw [h.len];refine ⟨sumF_le (fun k _ hk => ?_) (Int.le_refl _), sumF_le (fun k _ hk => ?_) (Int.le_refl _)⟩
 ·unfold atH;rw [h.ba k (by omega), h.pe k (by omega)];exact mul_up (tms_in rt a k).1 (h1 k (by omega)).pe.1 (h.lo k (by omega))
 ·unfold atH;rw [h.ba k (by omega), h.pe k (by omega)];exact mul_up (tms_in rt a k).1 (h1 k (by omega)).pe.1 (h.hi k (by omega))
theorem Wider.pick {hd hd' : Dt} (h : Wider hd hd') (h1 : ∀ i, i < hd.length -> HdOk hd i) (h2 : ∀ i, i < hd'.length -> HdOk hd' i) {p : Nat -> Bool} {rt : Dt} {dm many : Int} (hm : 1 <= many) (hp : (pickR p hd rt dm many).1 ≠ []) :
  (pickR p hd' rt dm many).1 ≠ [] /\ (pickR p hd rt dm many).2 <= (pickR p hd' rt dm many).2 := by
 rcases pick_facts p hd rt dm many hm with ⟨f, _⟩ | ⟨_, f2, f3, f4, f5⟩
 ·rw [f] at hp; exact absurd rfl hp
 rcases pick_facts p hd' rt dm many hm with ⟨g1, g2⟩ | ⟨g1, g2, g3, g4, g5⟩
 ·have := g2 _ f2;rw [h.len, f3] at this;cases this
 ·refine ⟨g1, ?_⟩;rw [h.len] at g3;have := f5 _ g2 g3;have h3 : bound hd rt (pickR p hd' rt dm many).1 <= bound hd' rt (pickR p hd' rt dm many).1 := bd_mono _ _ _ _ (Int.le_refl _) fun j _ _ k _ => h.most h1 h2 rt _ _;omega
def cut (rt : Dt) (r : Nat) : Dt := rt.take r ++ rt.drop (r + 1)
end Sp
namespace Sp
def hasK (hd rt l : Dt) (bd : Int) (i : Nat) : Nat -> Nat -> Bool
 | _, 0 => false
 | k, n + 1 => !decide (most hd rt (rI l i) (rI l k) <= bd) || hasK hd rt l bd i (k + 1) n
def ixK (hd rt l : Dt) (bd : Int) (i : Nat) : Nat -> Nat -> Nat
 | k, 0 => k
 | k, n + 1 => if most hd rt (rI l i) (rI l k) <= bd then ixK hd rt l bd i (k + 1) n else k
def hasD (hd rt l : Dt) (bd : Int) : Nat -> Nat -> Bool
 | _, 0 => false
 | i, n + 1 => hasK hd rt l bd i (i + 1) n || hasD hd rt l bd (i + 1) n
def ixD (hd rt l : Dt) (bd : Int) : Nat -> Nat -> Nat × Nat
 | i, 0 => (i, i)
 | i, n + 1 => if hasK hd rt l bd i (i + 1) n then (i, ixK hd rt l bd i (i + 1) n) else ixD hd rt l bd (i + 1) n
def worst (hd rt : Dt) (a b : Nat) : Dt := if apHi hd rt a b <= -apLo hd rt a b then apLe hd rt a b hd.length else apGr hd rt a b hd.length
def dbA (hd rt l : Dt) (bd : Int) : Int := if hasD hd rt l bd 0 l.length then (cel l (ixD hd rt l bd 0 l.length).1 0).int else -1
def dbB (hd rt l : Dt) (bd : Int) : Int := if hasD hd rt l bd 0 l.length then (cel l (ixD hd rt l bd 0 l.length).2 0).int else -1
def dbT (hd rt l : Dt) (bd : Int) : Dt := if hasD hd rt l bd 0 l.length then worst hd rt (rI l (ixD hd rt l bd 0 l.length).1) (rI l (ixD hd rt l bd 0 l.length).2) else []
theorem hasK_ff {hd rt l : Dt} {bd : Int} {i : Nat} : ∀ {n k : Nat}, hasK hd rt l bd i k n = false -> ∀ j, k <= j -> j < k + n -> most hd rt (rI l i) (rI l j) <= bd
 | 0, _, _, j, h1, h2 => by omega
 | n + 1, k, h, j, h1, h2 => by
  simp only [hasK, Bool.or_eq_false_iff, Bool.not_eq_false', decide_eq_true_eq] at h;rcases Nat.eq_or_lt_of_le h1 with e | e
  ·rw [<- e]; exact h.1
  ·exact hasK_ff h.2 j e (by omega)
theorem hasK_ix {hd rt l : Dt} {bd : Int} {i : Nat} : ∀ {n k : Nat}, hasK hd rt l bd i k n = true -> k <= ixK hd rt l bd i k n /\ ixK hd rt l bd i k n < k + n /\ bd < most hd rt (rI l i) (rI l (ixK hd rt l bd i k n))
 | 0, _, h => by simp [hasK] at h
 | n + 1, k, h => by
  simp only [hasK, Bool.or_eq_true, Bool.not_eq_true', decide_eq_false_iff_not] at h;simp only [ixK]
  by_cases e : most hd rt (rI l i) (rI l k) <= bd
  ·rw [if_pos e];have := hasK_ix (h.resolve_left fun h => h e);exact ⟨by omega, by omega, this.2.2⟩
  ·rw [if_neg e]; exact ⟨by omega, by omega, by omega⟩
theorem hasD_ff {hd rt l : Dt} {bd : Int} : ∀ {n i : Nat}, hasD hd rt l bd i n = false -> ∀ j, i <= j -> ∀ k, j < k -> k < i + n -> most hd rt (rI l j) (rI l k) <= bd
 | 0, _, _, j, h1, k, h2, h3 => by omega
 | n + 1, i, h, j, h1, k, h2, h3 => by
  simp only [hasD, Bool.or_eq_false_iff] at h;rcases Nat.eq_or_lt_of_le h1 with e | e
  ·subst e; exact hasK_ff h.1 k (by omega) (by omega)
  ·exact hasD_ff h.2 j e k h2 (by omega)
theorem hasD_ix {hd rt l : Dt} {bd : Int} : ∀ {n i : Nat}, hasD hd rt l bd i n = true -> i <= (ixD hd rt l bd i n).1 /\ (ixD hd rt l bd i n).1 < (ixD hd rt l bd i n).2 /\ (ixD hd rt l bd i n).2 < i + n /\ bd < most hd rt (rI l (ixD hd rt l bd i n).1) (rI l (ixD hd rt l bd i n).2)
 | 0, _, h => by simp [hasD] at h
 | n + 1, i, h => by
  simp only [hasD, Bool.or_eq_true] at h;simp only [ixD]
  by_cases e : hasK hd rt l bd i (i + 1) n = true
  ·rw [if_pos e];have := hasK_ix e;exact ⟨by dsimp only; omega, by dsimp only; omega, by dsimp only; omega, this.2.2⟩
  ·rw [if_neg e];have := hasD_ix (h.resolve_left e);exact ⟨by omega, this.2.1, by omega, this.2.2.2⟩
theorem most_self (hd rt : Dt) (a : Nat) : most hd rt a a = 0 := by
 have h : ∀ s, dif rt a a s = 0 := fun s => by unfold dif; omega
 have h1 : apLo hd rt a a = 0 /\ apHi hd rt a a = 0 := by
  unfold apLo apHi;have z : ∀ n i, sumF (fun _ => 0) i n 0 = 0 := fun n => by
   induction n with
   | zero => intro i; rfl
   | succ n ih => intro i; simp only [sumF, Int.add_zero]; exact ih (i + 1)
  exact ⟨(sumF_congr fun k _ _ => by rw [h, Int.zero_mul]).trans (z _ _), (sumF_congr fun k _ _ => by rw [h, Int.zero_mul]).trans (z _ _)⟩
 unfold most;rw [h1.1, h1.2];rfl
theorem worst_far {hd rt : Dt} {a b : Nat} (h : ∀ i, i < hd.length -> HdOk hd i) : TrOk hd (worst hd rt a b) /\ far hd rt a b (worst hd rt a b) = most hd rt a b := by
 have h1 := far_in (rt := rt) (a := a) (b := b) h (le_tr (rt := rt) (a := a) (b := b) h);rw [sum_le] at h1;unfold worst
 split
 ·refine ⟨le_tr h, ?_⟩;unfold far most;rw [sum_le]; omega
 ·refine ⟨gr_tr h, ?_⟩;unfold far most;rw [sum_gr]; omega
def fdK (hd rt l tr : Dt) (bd : Int) (i : Nat) : Nat -> Nat -> Bool -> Bool
 | _, 0, f => f
 | k, n + 1, f => fdK hd rt l tr bd i (k + 1) n (f || decide (bd < far hd rt (rI l k) (rI l i) tr))
def fdF (hd rt l tr : Dt) (bd : Int) : Nat -> Nat -> Bool -> Bool
 | _, 0, f => f
 | i, n + 1, f => fdF hd rt l tr bd (i + 1) n (fdK hd rt l tr bd i 0 i f)
theorem fdK_ff {hd rt l tr : Dt} {bd : Int} {i : Nat} : ∀ {n k : Nat}, (∀ j, k <= j -> j < k + n -> far hd rt (rI l j) (rI l i) tr <= bd) -> fdK hd rt l tr bd i k n false = false
 | 0, _, _ => rfl
 | n + 1, k, h => by
  simp only [fdK];rw [decide_eq_false (by have := h k (by omega) (by omega); omega), Bool.or_false];exact fdK_ff fun j h1 h2 => h j (by omega) (by omega)
theorem fdF_ff {hd rt l tr : Dt} {bd : Int} : ∀ {n i : Nat}, (∀ j, i <= j -> j < i + n -> ∀ k, k < j -> far hd rt (rI l k) (rI l j) tr <= bd) -> fdF hd rt l tr bd i n false = false
 | 0, _, _ => rfl
 | n + 1, i, h => by
  simp only [fdF];rw [fdK_ff fun k _ hk => h i (by omega) (by omega) k (by omega)];exact fdF_ff fun j h1 h2 => h j (by omega) (by omega)
def nmd (l : Dt) (a b : Int) : Nat -> Nat -> Int -> Int
 | _, 0, c => c
 | i, n + 1, c => nmd l a b (i + 1) n (if (cel l i 0).int = a \/ (cel l i 0).int = b then c + 1 else c)
theorem nmd_ge (l : Dt) (a b : Int) : ∀ (n i : Nat) (c : Int), c <= nmd l a b i n c
 | 0, _, _ => Int.le_refl _
 | n + 1, i, c => by
  have := nmd_ge l a b n (i + 1) (if (cel l i 0).int = a \/ (cel l i 0).int = b then c + 1 else c);simp only [nmd]
  split at this <;> split <;> omega
theorem nmd_one {l : Dt} {a b : Int} {j : Nat} (hj : (cel l j 0).int = a \/ (cel l j 0).int = b) : ∀ (n i : Nat) (c : Int), i <= j -> j < i + n -> c + 1 <= nmd l a b i n c
 | 0, _, _, h1, h2 => by omega
 | n + 1, i, c, h1, h2 => by
  simp only [nmd];rcases Nat.eq_or_lt_of_le h1 with e | e
  ·subst e; rw [if_pos hj]; exact nmd_ge _ _ _ _ _ _
  ·have := nmd_one hj n (i + 1) (if (cel l i 0).int = a \/ (cel l i 0).int = b then c + 1 else c) e (by omega)
   split at this <;> split <;> omega
theorem nmd_two {l : Dt} {a b : Int} {j k : Nat} (hjk : j < k) (hj : (cel l j 0).int = a) (hk : (cel l k 0).int = b) : ∀ (n i : Nat) (c : Int), i <= j -> k < i + n -> c + 2 <= nmd l a b i n c
 | 0, _, _, h1, h2 => by omega
 | n + 1, i, c, h1, h2 => by
  simp only [nmd];rcases Nat.eq_or_lt_of_le h1 with e | e
  ·subst e;rw [if_pos (.inl hj)];have := nmd_one (l := l) (a := a) (b := b) (j := k) (.inr hk) n (i + 1) (c + 1) (by omega) (by omega);omega
  ·have := nmd_two hjk hj hk n (i + 1) (if (cel l i 0).int = a \/ (cel l i 0).int = b then c + 1 else c) e (by omega)
   split at this <;> split <;> omega
def rcK (hd rt l : Dt) (bd : Int) (i : Nat) : Nat -> Nat -> Bool -> Bool
 | _, 0, f => f
 | k, n + 1, f => rcK hd rt l bd i (k + 1) n (f || (decide (far hd rt (rI l i) (rI l k) (apLe hd rt (rI l i) (rI l k) hd.length) = bd) || decide (far hd rt (rI l i) (rI l k) (apGr hd rt (rI l i) (rI l k) hd.length) = bd)))
def rcF (hd rt l : Dt) (bd : Int) : Nat -> Nat -> Bool -> Bool
 | _, 0, f => f
 | i, n + 1, f => rcF hd rt l bd (i + 1) n (rcK hd rt l bd i 0 i f)
theorem rcK_tt {hd rt l : Dt} {bd : Int} {i : Nat} : ∀ (n k : Nat), rcK hd rt l bd i k n true = true
 | 0, _ => rfl
 | n + 1, k => by simp only [rcK, Bool.true_or]; exact rcK_tt n (k + 1)
theorem rcF_tt {hd rt l : Dt} {bd : Int} : ∀ (n i : Nat), rcF hd rt l bd i n true = true
 | 0, _ => rfl
 | n + 1, i => by simp only [rcF]; rw [rcK_tt]; exact rcF_tt n (i + 1)
theorem rcK_got {hd rt l : Dt} {bd : Int} {i j : Nat} (h : far hd rt (rI l i) (rI l j) (apLe hd rt (rI l i) (rI l j) hd.length) = bd \/ far hd rt (rI l i) (rI l j) (apGr hd rt (rI l i) (rI l j) hd.length) = bd) : ∀ (n k : Nat) (f : Bool), k <= j -> j < k + n -> rcK hd rt l bd i k n f = true
 | 0, _, _, h1, h2 => by omega
 | n + 1, k, f, h1, h2 => by
  simp only [rcK];rcases Nat.eq_or_lt_of_le h1 with e | e
  ·subst e;rw [show (decide (far hd rt (rI l i) (rI l k) (apLe hd rt (rI l i) (rI l k) hd.length) = bd) || decide (far hd rt (rI l i) (rI l k) (apGr hd rt (rI l i) (rI l k) hd.length) = bd)) = true by simpa using h, Bool.or_true];exact rcK_tt n (k + 1)
  ·exact rcK_got h n (k + 1) _ e (by omega)
theorem rcF_got {hd rt l : Dt} {bd : Int} {i j : Nat} (hij : j < i) (h : far hd rt (rI l i) (rI l j) (apLe hd rt (rI l i) (rI l j) hd.length) = bd \/ far hd rt (rI l i) (rI l j) (apGr hd rt (rI l i) (rI l j) hd.length) = bd) : ∀ (n m : Nat) (f : Bool), m <= i -> i < m + n -> rcF hd rt l bd m n f = true
 | 0, _, _, h1, h2 => by omega
 | n + 1, m, f, h1, h2 => by
  simp only [rcF];rcases Nat.eq_or_lt_of_le h1 with e | e
  ·subst e;rw [rcK_got h m 0 f (by omega) (by omega)];exact rcF_tt n (m + 1)
  ·exact rcF_got hij h n (m + 1) _ e (by omega)
theorem bound_got {hd rt l : Dt} (h : ∀ i, i < hd.length -> HdOk hd i) (hl : 2 <= l.length) : rcF hd rt l (bound hd rt l) 0 l.length false = true := by
 have hpair : ∃ i j, j < i /\ i < l.length /\ most hd rt (rI l i) (rI l j) = bound hd rt l := by
  rcases @bd_got hd rt l l.length 0 0 with g | ⟨i, j, _, h1, h2, h3⟩
  ·have h4 := (@bd_le hd rt l l.length 0 0).2 1 (by omega) (by omega) 0 (by omega);have h5 := most_ge (rt := rt) (a := rI l 1) (b := rI l 0) h;refine ⟨1, 0, by omega, by omega, ?_⟩;unfold bound;rw [<- most_swap] at h4;omega
  ·exact ⟨i, j, h2, by omega, by rw [<- most_swap]; exact h3⟩
 obtain ⟨i, j, h1, h2, h3⟩ := hpair;refine rcF_got (i := i) (j := j) h1 ?_ _ _ _ (by omega) (by omega);rw [<- h3];exact far_got h
end Sp
end Go.Proofs.Ytmogofidmchdoaa
