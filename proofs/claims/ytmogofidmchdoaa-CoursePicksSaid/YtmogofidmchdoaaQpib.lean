/-
  'CoursePicks': for every input the law returns true, and what is handed in reads as before. No condition.
-/
import Derived.Test.YtmogofidmchdoaaQpia
set_option linter.unusedVariables false
set_option linter.unusedSectionVars false
set_option linter.unusedSimpArgs false
namespace Go.Proofs.Ytmogofidmchdoaa
open Go.RowKit
abbrev Jc : List Ty := [.int .i64, .int .i64, .int .i64, .int .i64, .int .i64, .int .i64, .int .i64, .int .i64, .int .i64, .int .i64, .int .i64, .int .i64, .int .i64, .int .i64, .int .i64, .int .i64, .int .i64, .int .i64, .int .i64, .int .i64, .int .i64, .int .i64, .int .i64, .int .i64, .int .i64, .int .i64, .int .i64, .int .i64, .int .i64, .int .i64, .int .i64, .int .i64, .int .i64, .int .i64, .int .i64, .int .i64, .int .i64, .int .i64, .int .i64, .int .i64]
abbrev Jd : List Ty := [.int .i64, .int .i64, .int .i64, .int .i64, .int .i64, .bool, .sl [.int .i64]]
abbrev Je : List Ty := [.sl [.int .i64, .bool]]
abbrev Jf : List Ty := [.int .i64, .bool]
set_option maxRecDepth 100000
set_option maxHeartbeats 1600000
abbrev Xd : List Ty := [.int .i64, .bool]
namespace Sp
def eFr (st : Dt) (s : Int) (b : Bool) : Int := if b then sTo st s.toNat else sFr st s.toNat
def eTo (st : Dt) (s : Int) (b : Bool) : Int := if b then sFr st s.toNat else sTo st s.toNat
end Sp
noncomputable def T21 : Tab Try.prog := ⟨[], [], []⟩
def Xge [W : InW] (t_Pl t_Sh t_Ti : Ro Jb) (t_St : Ro Jd) (x_St : Int) (x_Bk : Bool) (Q : DS -> Prop) : Prop :=
 Need (decide ((0 : Int) <= x_St) && decide (x_St < (↑(t_St.xs.length) : Int))) (Need (decide (x_St.toNat < t_St.xs.length)) (Vif x_Bk (Q [[Cl.i (cel t_St.xs x_St.toNat (0+1 : Nat)).int], [Cl.i (cel t_St.xs x_St.toNat (0 : Nat)).int]]) (Q [[Cl.i (cel t_St.xs x_St.toNat (0 : Nat)).int], [Cl.i (cel t_St.xs x_St.toNat (0+1 : Nat)).int]])))
theorem Xp6 (W : InW) (t_Pl t_Sh t_Ti t_St x_St x_Bk Q) : Yte (cxT Try.prog TT T21 1000 50) 1000 84 [.agg [.rs _ t_Pl, .rs _ t_Sh, .rs _ t_Ti, .rs _ t_St], .agg [.si .i64 x_St, .sb x_Bk]] [] 0 (Ywt [(false, [.int .i64]), (false, [.int .i64])] Q) (fun _ _ _ _ => Stuck 421) = Xge t_Pl t_Sh t_Ti t_St x_St x_Bk Q := by kernel_rfl
abbrev Xdg : List AT := [.agg [.sl Jb, .sl Jb, .sl Jb, .sl Jd], .agg [.int .i64, .bool]]
theorem Xr4 {pre : DS -> Prop} {res : DS -> DS} (hyp_ : ∀ (W : InW) (t_Pl t_Sh t_Ti : Ro Jb) (t_St : Ro Jd) (x_St : Int) (x_Bk : Bool), pre [[.l t_Pl.xs, .l t_Sh.xs, .l t_Ti.xs, .l t_St.xs], [.i x_St, .b x_Bk]] -> ∀ Q : DS -> Prop, Q (res [[.l t_Pl.xs, .l t_Sh.xs, .l t_Ti.xs, .l t_St.xs], [.i x_St, .b x_Bk]]) -> Xge t_Pl t_Sh t_Ti t_St x_St x_Bk Q) : PureOk Try.prog 84 Xdg [(false, [.int .i64]), (false, [.int .i64])] pre res :=
 PureOk.of' (fun W => @TT W) (fun W => @Xb W) Xa T21 1000 50 fun W t_Pl t_Sh t_Ti t_St x_St x_Bk hp =>
  (Xp6 W t_Pl t_Sh t_Ti t_St x_St x_Bk (fun o => o = res [[.l t_Pl.xs, .l t_Sh.xs, .l t_Ti.xs, .l t_St.xs], [.i x_St, .b x_Bk]])).mpr (hyp_ W t_Pl t_Sh t_Ti t_St x_St x_Bk hp _ rfl)
def Xgi [W : InW] (t_Pl t_Sh t_Ti : Ro Jb) (t_St : Ro Jd) (x_St : Int) (x_Bk : Bool) (Q : DS -> Prop) : Prop :=
 Need (decide ((0 : Int) <= x_St) && decide (x_St < (↑(t_St.xs.length) : Int))) (Need (decide (x_St.toNat < t_St.xs.length)) (Vif x_Bk (Q [[Cl.i (cel t_St.xs x_St.toNat (0+1 : Nat)).int], [Cl.i (cel t_St.xs x_St.toNat (0 : Nat)).int]]) (Q [[Cl.i (cel t_St.xs x_St.toNat (0 : Nat)).int], [Cl.i (cel t_St.xs x_St.toNat (0+1 : Nat)).int]])))
theorem Xqa (W : InW) (t_Pl t_Sh t_Ti t_St x_St x_Bk Q) : Yte (cxT Try.prog TT T21 1000 50) 1000 93 [.agg [.rs _ t_Pl, .rs _ t_Sh, .rs _ t_Ti, .rs _ t_St], .agg [.si .i64 x_St, .sb x_Bk]] [] 0 (Ywt [(false, [.int .i64]), (false, [.int .i64])] Q) (fun _ _ _ _ => Stuck 421) = Xgi t_Pl t_Sh t_Ti t_St x_St x_Bk Q := by kernel_rfl
abbrev Xdk : List AT := [.agg [.sl Jb, .sl Jb, .sl Jb, .sl Jd], .agg [.int .i64, .bool]]
theorem Xr8 {pre : DS -> Prop} {res : DS -> DS} (hyp_ : ∀ (W : InW) (t_Pl t_Sh t_Ti : Ro Jb) (t_St : Ro Jd) (x_St : Int) (x_Bk : Bool), pre [[.l t_Pl.xs, .l t_Sh.xs, .l t_Ti.xs, .l t_St.xs], [.i x_St, .b x_Bk]] -> ∀ Q : DS -> Prop, Q (res [[.l t_Pl.xs, .l t_Sh.xs, .l t_Ti.xs, .l t_St.xs], [.i x_St, .b x_Bk]]) -> Xgi t_Pl t_Sh t_Ti t_St x_St x_Bk Q) : PureOk Try.prog 93 Xdk [(false, [.int .i64]), (false, [.int .i64])] pre res :=
 PureOk.of' (fun W => @TT W) (fun W => @Xb W) Xa T21 1000 50 fun W t_Pl t_Sh t_Ti t_St x_St x_Bk hp =>
  (Xqa W t_Pl t_Sh t_Ti t_St x_St x_Bk (fun o => o = res [[.l t_Pl.xs, .l t_Sh.xs, .l t_Ti.xs, .l t_St.xs], [.i x_St, .b x_Bk]])).mpr (hyp_ W t_Pl t_Sh t_Ti t_St x_St x_Bk hp _ rfl)
abbrev X0 (ds : DS) : DS := match ds with | [[.l _, .l _, .l _, .l st], [.i s, .b b]] => [[.i (Sp.eFr st s b)], [.i (Sp.eTo st s b)]] | _ => []
abbrev Xcr (ds : DS) : Prop := match ds with | [[.l _, .l _, .l _, .l st], [.i s, .b _]] => 0 <= s /\ s < st.length | _ => False
theorem Xut : PureOk Try.prog 84 Xdg [(false, [.int .i64]), (false, [.int .i64])] Xcr X0 :=
 Xr4 fun W pl sh ti st s b hp Q h => by
  unfold Xge;obtain ⟨h1, h2⟩ : 0 <= s /\ s < st.xs.length := hp;simp only [X0, Sp.eFr, Sp.eTo] at h;cases b <;> repeat' (first | omega | with_reducible refine vifd (fun _ => ?_) fun _ => ?_ | with_reducible refine vifn (fun _ => ?_) fun _ => ?_ | with_reducible refine vifq (fun _ => ?_) fun _ => ?_ | with_reducible refine vifq0 (fun _ => ?_) fun _ => ?_ | with_reducible refine vifq1 (fun _ => ?_) fun _ => ?_ | with_reducible refine vifb (fun _ => ?_) fun _ => ?_ | with_reducible refine vif (fun _ => ?_) fun _ => ?_ | (with_reducible refine nedd ?_ ?_; omega) | (with_reducible refine ned ?_ ?_; simp only [Bool.and_eq_true, decide_eq_true_eq]; omega) | (with_reducible refine ar64 ?_ ?_; omega) | (with_reducible refine Xf ?_ ?_; (first | trivial | omega | assumption | (refine ⟨?_, ?_⟩ <;> first | trivial | omega | assumption) | (refine ⟨?_, ?_, ?_⟩ <;> first | trivial | omega | assumption) | (refine ⟨?_, ?_, ?_, ?_⟩ <;> first | trivial | omega | assumption))))
  all_goals first | contradiction | exact h
theorem Xuy : PureOk Try.prog 93 Xdk [(false, [.int .i64]), (false, [.int .i64])] Xcr X0 :=
 Xr8 fun W pl sh ti st s b hp Q h => by
  unfold Xgi;obtain ⟨h1, h2⟩ : 0 <= s /\ s < st.xs.length := hp;simp only [X0, Sp.eFr, Sp.eTo] at h;cases b <;> repeat' (first | omega | with_reducible refine vifd (fun _ => ?_) fun _ => ?_ | with_reducible refine vifn (fun _ => ?_) fun _ => ?_ | with_reducible refine vifq (fun _ => ?_) fun _ => ?_ | with_reducible refine vifq0 (fun _ => ?_) fun _ => ?_ | with_reducible refine vifq1 (fun _ => ?_) fun _ => ?_ | with_reducible refine vifb (fun _ => ?_) fun _ => ?_ | with_reducible refine vif (fun _ => ?_) fun _ => ?_ | (with_reducible refine nedd ?_ ?_; omega) | (with_reducible refine ned ?_ ?_; simp only [Bool.and_eq_true, decide_eq_true_eq]; omega) | (with_reducible refine ar64 ?_ ?_; omega) | (with_reducible refine Xf ?_ ?_; (first | trivial | omega | assumption | (refine ⟨?_, ?_⟩ <;> first | trivial | omega | assumption) | (refine ⟨?_, ?_, ?_⟩ <;> first | trivial | omega | assumption) | (refine ⟨?_, ?_, ?_, ?_⟩ <;> first | trivial | omega | assumption))))
  all_goals first | contradiction | exact h
noncomputable def Xqq : PC Try.prog := ⟨84, Xdg, [(false, [.int .i64]), (false, [.int .i64])], Xcr, X0, Xut⟩
noncomputable def Xqu : PC Try.prog := ⟨93, Xdk, [(false, [.int .i64]), (false, [.int .i64])], Xcr, X0, Xuy⟩
noncomputable def T22 : Tab Try.prog := ⟨[Xqq, Xqu, Xel, Xc7], [], []⟩
theorem Xcw {st l : Dt} {i n : Nat} {p : Int} :
  Sp.folE st l i (n + 1) p = (if Sp.inr (Sp.xS l i) 0 ((st.length : Int) - 1) then (if Sp.xB l i && !Sp.sBo st (Sp.xS l i).toNat then 2 else if Sp.eFr st (Sp.xS l i) (Sp.xB l i) = p then Sp.folE st l (i + 1) n (Sp.eTo st (Sp.xS l i) (Sp.xB l i)) else 9) else 4) /\
  Sp.folT st l i (n + 1) p = (if Sp.inr (Sp.xS l i) 0 ((st.length : Int) - 1) then (if Sp.xB l i && !Sp.sBo st (Sp.xS l i).toNat then 0 else if Sp.eFr st (Sp.xS l i) (Sp.xB l i) = p then Sp.folT st l (i + 1) n (Sp.eTo st (Sp.xS l i) (Sp.xB l i)) else 0) else 0) := ⟨rfl, rfl⟩
theorem Xl9 [InW] {st l : Dt} {i n : Nat} {p : Int} {K0 K1 : Int -> Prop} (h : Vif (decide (Sp.folE st l i (n + 1) p = 0)) (K0 (Sp.folT st l i (n + 1) p)) (K1 (Sp.folE st l i (n + 1) p))) :
  (Sp.inr (Sp.xS l i) 0 ((st.length : Int) - 1) = false -> K1 4) /\
  (Sp.inr (Sp.xS l i) 0 ((st.length : Int) - 1) = true -> Sp.xB l i = true -> Sp.sBo st (Sp.xS l i).toNat = false -> K1 2) /\
  (Sp.inr (Sp.xS l i) 0 ((st.length : Int) - 1) = true -> (Sp.xB l i = false \/ Sp.sBo st (Sp.xS l i).toNat = true) -> ¬ Sp.eFr st (Sp.xS l i) (Sp.xB l i) = p -> K1 9) /\
  (Sp.inr (Sp.xS l i) 0 ((st.length : Int) - 1) = true -> (Sp.xB l i = false \/ Sp.sBo st (Sp.xS l i).toNat = true) -> Sp.eFr st (Sp.xS l i) (Sp.xB l i) = p ->
   Vif (decide (Sp.folE st l (i + 1) n (Sp.eTo st (Sp.xS l i) (Sp.xB l i)) = 0)) (K0 (Sp.folT st l (i + 1) n (Sp.eTo st (Sp.xS l i) (Sp.xB l i)))) (K1 (Sp.folE st l (i + 1) n (Sp.eTo st (Sp.xS l i) (Sp.xB l i))))) := by
 rw [Xcw.1, Xcw.2] at h;have nb : (Sp.xB l i = false \/ Sp.sBo st (Sp.xS l i).toNat = true) -> ¬ (Sp.xB l i && !Sp.sBo st (Sp.xS l i).toNat) = true := fun e => by rcases e with e | e <;> simp [e]
 refine ⟨fun e => ?_, fun e e2 e3 => ?_, fun e e2 e3 => ?_, fun e e2 e3 => ?_⟩
 ·rw [if_neg (by simp [e]), if_neg (by simp [e])] at h;exact h.2 rfl
 ·rw [if_pos e, if_pos (by simp [e2, e3]), if_pos e, if_pos (by simp [e2, e3])] at h;exact h.2 rfl
 ·rw [if_pos e, if_neg (nb e2), if_neg e3, if_pos e, if_neg (nb e2), if_neg e3] at h;exact h.2 rfl
 ·rw [if_pos e, if_neg (nb e2), if_pos e3, if_pos e, if_neg (nb e2), if_pos e3] at h;exact h
def Xew [InW] (e : List Ed) (K : Nat -> List Ed -> Prop) : Prop := match e with
 | [.ro _ l, .i p, .i i, .ro _ pl, .ro _ sh, .ro _ ti, .ro _ st] => Pre (0 <= i /\ i <= l.xs.length) (Vif (decide (Sp.folE st.xs l.xs i.toNat (l.xs.length - i.toNat) p = 0)) (K 0 [.i (Sp.folT st.xs l.xs i.toNat (l.xs.length - i.toNat) p)]) (K 1 [.i (Sp.folE st.xs l.xs i.toNat (l.xs.length - i.toNat) p)]))
 | _ => False
noncomputable def Xfj : LC where
 len := 65
 T := [(2, .rs Xd), (3, (.ptr 1 0)), (8, .int .i64), (9, .int .i64)]
 H := [(1, .blk 25 [.rs Jb, .rs Jb, .rs Jb, .rs Jd])]
 W := [6, 7, 10, 11, 16, 17, 18, 19, 20, 21, 22, 23, 24, 25, 26, 27, 28, 29, 30, 31, 32, 33, 34, 35, 36, 37, 38, 39, 40, 41, 42, 43, 44, 45, 46, 47, 48, 49, 50, 51, 52, 53, 54, 55, 56, 57, 58, 59, 60, 61, 62, 63]
 outs := [⟨.exit 0, [(8, .int .i64)], [], [2, 3, 6, 7, 9, 10, 11, 16, 17, 18, 19, 20, 21, 22, 23, 24, 25, 26, 27, 28, 29, 30, 31, 32, 33, 34, 35, 36, 37, 38, 39, 40, 41, 42, 43, 44, 45, 46, 47, 48, 49, 50, 51, 52, 53, 54, 55, 56, 57, 58, 59, 60, 61, 62, 63]⟩, ⟨.ret, [(6, (.lit (.int .i64 0))), (7, .int .i64)], [], [2, 3, 8, 9, 10, 11, 16, 17, 18, 19, 20, 21, 22, 23, 24, 25, 26, 27, 28, 29, 30, 31, 32, 33, 34, 35, 36, 37, 38, 39, 40, 41, 42, 43, 44, 45, 46, 47, 48, 49, 50, 51, 52, 53, 54, 55, 56, 57, 58, 59, 60, 61, 62, 63]⟩]
 spec := Xew
def Zn [W : InW] (l : Ro Xd) (i : Int) := decide (Za <= i) && decide (i < (↑(l.xs.length) : Int))
def Zo [W : InW] (l : Ro Xd) (i : Int) := cel l.xs i.toNat (0 : Nat)
def Zm [W : InW] (l : Ro Xd) (p i : Int) (pl sh ti : Ro Jb) (st : Ro Jd) (A : List Ed -> Prop) (K : Nat -> List Ed -> Prop) := Need (Zn l i) (Need (decide (i.toNat < l.xs.length)) (Pre (Za <= (Zo l i).int /\ (Zo l i).int < (↑(st.xs.length) : Int)) (Vif (!decide (Sp.eFr st.xs (Zo l i).int (cel l.xs i.toNat (0+1 : Nat)).bool = p)) (K (0+1 : Nat) [.i (9 : Int)]) (Ar .i64 (i + (1 : Int)) fun z => A [.ro _ l, .i (Sp.eTo st.xs (Zo l i).int (cel l.xs i.toNat (0+1 : Nat)).bool), .i z, .ro _ pl, .ro _ sh, .ro _ ti, .ro Zc st]))))
def Xgq [W : InW] (l : Ro Xd) (p i : Int) (pl sh ti : Ro Jb) (st : Ro Jd) (A : List Ed -> Prop) (K : Nat -> List Ed -> Prop) : Prop :=
 Vif (decide (i < (↑(l.xs.length) : Int))) (Need (Zn l i) (Need (decide (i.toNat < l.xs.length)) (Ar .i64 ((↑(st.xs.length) : Int) - (1 : Int)) fun z => Pre True (Vif (!Sp.inr (Zo l i).int Za z) (K (0+1 : Nat) [.i (4 : Int)]) (Need (Zn l i) (Need (decide (i.toNat < l.xs.length)) (Vif (cel l.xs i.toNat (0+1 : Nat)).bool (Need (Zn l i) (Need (decide (i.toNat < l.xs.length)) (Need (decide (Za <= (Zo l i).int) && decide ((Zo l i).int < (↑(st.xs.length) : Int))) (Need (decide ((Zo l i).int.toNat < st.xs.length)) (Vif (!(cel st.xs (Zo l i).int.toNat (4+1 : Nat)).bool) (K (0+1 : Nat) [.i (2 : Int)]) (Zm l p i pl sh ti st A K)))))) (Zm l p i pl sh ti st A K)))))))) (K (0 : Nat) [.i p])
theorem Xpm (W : InW) (l p i pl sh ti st A K) : Yer { cxT Try.prog TT T22 1000 50 with fn := 69 } 1000 (Yl5 Try.prog 69 6) (Ydl 65 [(2, .rs _ l), (3, .ptr 1 0), (8, .si .i64 p), (9, .si .i64 i)] [6, 7, 10, 11, 16, 17, 18, 19, 20, 21, 22, 23, 24, 25, 26, 27, 28, 29, 30, 31, 32, 33, 34, 35, 36, 37, 38, 39, 40, 41, 42, 43, 44, 45, 46, 47, 48, 49, 50, 51, 52, 53, 54, 55, 56, 57, 58, 59, 60, 61, 62, 63]) [(1, .blk 25 [.rs _ pl, .rs _ sh, .rs _ ti, .rs _ st])] (Yrh Xfj A K) = Xgq l p i pl sh ti st A K := by kernel_rfl
def Xhu : Prop := ∀ (W : InW) (body a : Code), (Try.prog.funcs[69]?).bind (·.body) = some body -> a ∈ Ys body -> Ye9 a = 6 -> @Yk2 W Try.prog a (@Yqt W Xfj)
theorem Xrg (meas : [InW] -> List Ed -> Nat) (hyp_ : ∀ (W : InW) (l : Ro Xd) (p i : Int) (pl sh ti : Ro Jb) (st : Ro Jd) (K : Nat -> List Ed -> Prop), Xew [.ro _ l, .i p, .i i, .ro _ pl, .ro _ sh, .ro _ ti, .ro _ st] K -> ∀ A : List Ed -> Prop, (∀ e, meas e < meas [.ro _ l, .i p, .i i, .ro _ pl, .ro _ sh, .ro _ ti, .ro _ st] -> Xew e K -> A e) -> Xgq l p i pl sh ti st A K) : Xhu :=
 LE.okOf' (fun W => @TT W) (fun W => @Xb W) Xa T22 1000 50 (by kernel_rfl) Xfj (fun W => @meas W) fun W l p i pl sh ti st K hs =>
  (Xpm W l p i pl sh ti st (fun e => meas e < meas [.ro _ l, .i p, .i i, .ro _ pl, .ro _ sh, .ro _ ti, .ro _ st] /\ Xew e K) K).mpr (hyp_ W l p i pl sh ti st K hs _ fun e h1 h2 => ⟨h1, h2⟩)
theorem Xv6 : Xhu := Xrg (fun e => match e with | .ro _ l :: _ :: .i i :: _ => ((l.xs.length : Int) - i).toNat | _ => 0) fun W l p i pl sh ti st K hs A hA => by
 obtain ⟨⟨h0, h1⟩, hk⟩ := hs;unfold Xgq;delta Zm Zn Zc Zo Za;have hm := l.len;have hm2 := st.len;simp only [maxLen] at hm hm2;refine vifd (fun e => ?_) fun e => ?_
 ·rw [show l.xs.length - i.toNat = (l.xs.length - (i.toNat + 1)) + 1 by omega] at hk;obtain ⟨f1, f2, f3, f4⟩ := Xl9 (K0 := fun q => K 0 [.i q]) (K1 := fun q => K 1 [.i q]) hk;have ez : (i + 1).toNat = i.toNat + 1 := by omega
  have hA' : ∀ q, Vif (decide (Sp.folE st.xs l.xs (i.toNat + 1) (l.xs.length - (i.toNat + 1)) q = 0)) (K 0 [.i (Sp.folT st.xs l.xs (i.toNat + 1) (l.xs.length - (i.toNat + 1)) q)]) (K 1 [.i (Sp.folE st.xs l.xs (i.toNat + 1) (l.xs.length - (i.toNat + 1)) q)]) -> A [.ro _ l, .i q, .i (i + 1), .ro _ pl, .ro _ sh, .ro _ ti, .ro _ st] := fun q f => hA _ (by show ((l.xs.length : Int) - (i + 1)).toNat < ((l.xs.length : Int) - i).toNat; omega) ⟨⟨by omega, by omega⟩, by rw [ez]; exact f⟩;clear hA hk;simp only [Nat.zero_add, Nat.reduceAdd, <- show Sp.xS l.xs i.toNat = (cel l.xs i.toNat 0).int from rfl, <- show Sp.xB l.xs i.toNat = (cel l.xs i.toNat 1).bool from rfl];have hst : Sp.sBo st.xs (Sp.xS l.xs i.toNat).toNat = (cel st.xs (Sp.xS l.xs i.toNat).toNat 5).bool := rfl;rw [<- hst];refine ned (by simp; omega) (nedd (by omega) (ar64 (by omega) ⟨trivial, vifb (fun e1 => f1 e1) fun e1 => ?_⟩));have e2 := Sp.inr_iff.1 e1
  repeat' (first | omega | with_reducible refine vifd (fun _ => ?_) fun _ => ?_ | with_reducible refine vifn (fun _ => ?_) fun _ => ?_ | with_reducible refine vifq (fun _ => ?_) fun _ => ?_ | with_reducible refine vifq0 (fun _ => ?_) fun _ => ?_ | with_reducible refine vifq1 (fun _ => ?_) fun _ => ?_ | with_reducible refine vifb (fun _ => ?_) fun _ => ?_ | with_reducible refine vif (fun _ => ?_) fun _ => ?_ | (with_reducible refine nedd ?_ ?_; omega) | (with_reducible refine ned ?_ ?_; simp only [Bool.and_eq_true, decide_eq_true_eq]; omega) | (with_reducible refine ar64 ?_ ?_; omega) | (with_reducible refine Xf ?_ ?_; (first | trivial | omega | assumption | (refine ⟨?_, ?_⟩ <;> first | trivial | omega | assumption) | (refine ⟨?_, ?_, ?_⟩ <;> first | trivial | omega | assumption) | (refine ⟨?_, ?_, ?_, ?_⟩ <;> first | trivial | omega | assumption))))
  all_goals first | exact f2 e1 (by assumption) (by assumption) | exact f3 e1 (.inl (by assumption)) (by assumption) | exact f3 e1 (.inr (by assumption)) (by assumption) | exact hA' _ (f4 e1 (.inl (by assumption)) (by assumption)) | exact hA' _ (f4 e1 (.inr (by assumption)) (by assumption))
 ·rw [show l.xs.length - i.toNat = 0 by omega] at hk;exact hk.1 rfl
noncomputable def Xwq : LE Try.prog := ⟨69, 6, fun W => @Yqt W Xfj, Xv6⟩
def Xe1 [InW] (e : List Ed) (K : Nat -> List Ed -> Prop) : Prop := match e with
 | [.i p, .ro _ l, .i n, .i i, .ro _ pl, .ro _ sh, .ro _ ti, .ro _ st] => Pre (n = l.xs.length /\ 0 <= i /\ i <= l.xs.length) (Vif (decide (Sp.folE st.xs l.xs i.toNat (l.xs.length - i.toNat) p = 0)) (K 0 [.i (Sp.folT st.xs l.xs i.toNat (l.xs.length - i.toNat) p)]) (K 1 [.i (Sp.folE st.xs l.xs i.toNat (l.xs.length - i.toNat) p)]))
 | _ => False
noncomputable def Xfo : LC where
 len := 55
 T := [(1, .int .i64), (3, (.ptr 1 0)), (15, .rs Xd), (16, .int .i64), (17, .int .i64)]
 H := [(1, .blk 137 [.rs Jb, .rs Jb, .rs Jb, .rs Jd])]
 W := [6, 7, 9, 10, 11, 18, 19, 20, 21, 22, 23, 24, 25, 26, 27, 28, 29, 30, 31, 32, 33, 34, 35, 36, 37, 38, 39, 40, 41, 42, 43, 44, 45, 46, 47, 48, 49, 50, 51, 52, 53]
 outs := [⟨.exit 0, [(1, .int .i64)], [], [3, 6, 7, 9, 10, 11, 15, 16, 17, 18, 19, 20, 21, 22, 23, 24, 25, 26, 27, 28, 29, 30, 31, 32, 33, 34, 35, 36, 37, 38, 39, 40, 41, 42, 43, 44, 45, 46, 47, 48, 49, 50, 51, 52, 53]⟩, ⟨.ret, [(6, (.lit (.int .i64 0))), (7, .int .i64)], [], [1, 3, 9, 10, 11, 15, 16, 17, 18, 19, 20, 21, 22, 23, 24, 25, 26, 27, 28, 29, 30, 31, 32, 33, 34, 35, 36, 37, 38, 39, 40, 41, 42, 43, 44, 45, 46, 47, 48, 49, 50, 51, 52, 53]⟩]
 spec := Xe1
def Zq [W : InW] (l : Ro Xd) (i : Int) := cel l.xs i.toNat (0 : Nat)
def Zp [W : InW] (p : Int) (l : Ro Xd) (n i : Int) (pl sh ti : Ro Jb) (st : Ro Jd) (A : List Ed -> Prop) (K : Nat -> List Ed -> Prop) := Pre (Za <= (Zq l i).int /\ (Zq l i).int < (↑(st.xs.length) : Int)) (Vif (!decide (Sp.eFr st.xs (Zq l i).int (cel l.xs i.toNat (0+1 : Nat)).bool = p)) (K (0+1 : Nat) [.i (9 : Int)]) (Ar .i64 (i + (1 : Int)) fun z => A [.i (Sp.eTo st.xs (Zq l i).int (cel l.xs i.toNat (0+1 : Nat)).bool), .ro _ l, .i n, .i z, .ro _ pl, .ro _ sh, .ro _ ti, .ro Zc st]))
def Xgv [W : InW] (p : Int) (l : Ro Xd) (n i : Int) (pl sh ti : Ro Jb) (st : Ro Jd) (A : List Ed -> Prop) (K : Nat -> List Ed -> Prop) : Prop :=
 Vif (decide (i < n)) (Need (decide (Za <= i) && decide (i < (↑(l.xs.length) : Int))) (Need (decide (i.toNat < l.xs.length)) (Ar .i64 ((↑(st.xs.length) : Int) - (1 : Int)) fun z => Pre True (Vif (Sp.out Za z [[Cl.i (Zq l i).int]]) (K (0+1 : Nat) [.i (4 : Int)]) (Vif (cel l.xs i.toNat (0+1 : Nat)).bool (Need (decide (Za <= (Zq l i).int) && decide ((Zq l i).int < (↑(st.xs.length) : Int))) (Need (decide ((Zq l i).int.toNat < st.xs.length)) (Vif (!(cel st.xs (Zq l i).int.toNat (4+1 : Nat)).bool) (K (0+1 : Nat) [.i (2 : Int)]) (Zp p l n i pl sh ti st A K)))) (Zp p l n i pl sh ti st A K)))))) (K (0 : Nat) [.i p])
theorem Xpr (W : InW) (p l n i pl sh ti st A K) : Yer { cxT Try.prog TT T22 1000 50 with fn := 78 } 1000 (Yl5 Try.prog 78 5) (Ydl 55 [(1, .si .i64 p), (3, .ptr 1 0), (15, .rs _ l), (16, .si .i64 n), (17, .si .i64 i)] [6, 7, 9, 10, 11, 18, 19, 20, 21, 22, 23, 24, 25, 26, 27, 28, 29, 30, 31, 32, 33, 34, 35, 36, 37, 38, 39, 40, 41, 42, 43, 44, 45, 46, 47, 48, 49, 50, 51, 52, 53]) [(1, .blk 137 [.rs _ pl, .rs _ sh, .rs _ ti, .rs _ st])] (Yrh Xfo A K) = Xgv p l n i pl sh ti st A K := by kernel_rfl
def Xhz : Prop := ∀ (W : InW) (body a : Code), (Try.prog.funcs[78]?).bind (·.body) = some body -> a ∈ Ys body -> Ye9 a = 5 -> @Yk2 W Try.prog a (@Yqt W Xfo)
theorem Xrl (meas : [InW] -> List Ed -> Nat) (hyp_ : ∀ (W : InW) (p : Int) (l : Ro Xd) (n i : Int) (pl sh ti : Ro Jb) (st : Ro Jd) (K : Nat -> List Ed -> Prop), Xe1 [.i p, .ro _ l, .i n, .i i, .ro _ pl, .ro _ sh, .ro _ ti, .ro _ st] K -> ∀ A : List Ed -> Prop, (∀ e, meas e < meas [.i p, .ro _ l, .i n, .i i, .ro _ pl, .ro _ sh, .ro _ ti, .ro _ st] -> Xe1 e K -> A e) -> Xgv p l n i pl sh ti st A K) : Xhz :=
 LE.okOf' (fun W => @TT W) (fun W => @Xb W) Xa T22 1000 50 (by kernel_rfl) Xfo (fun W => @meas W) fun W p l n i pl sh ti st K hs =>
  (Xpr W p l n i pl sh ti st (fun e => meas e < meas [.i p, .ro _ l, .i n, .i i, .ro _ pl, .ro _ sh, .ro _ ti, .ro _ st] /\ Xe1 e K) K).mpr (hyp_ W p l n i pl sh ti st K hs _ fun e h1 h2 => ⟨h1, h2⟩)
theorem Xwb : Xhz := Xrl (fun e => match e with | _ :: .ro _ l :: _ :: .i i :: _ => ((l.xs.length : Int) - i).toNat | _ => 0) fun W p l n i pl sh ti st K hs A hA => by
 obtain ⟨⟨rfl, h0, h1⟩, hk⟩ := hs;unfold Xgv;delta Zp Zc Zq Za;have hm := l.len;have hm2 := st.len;simp only [maxLen] at hm hm2;refine vifd (fun e => ?_) fun e => ?_
 ·rw [show l.xs.length - i.toNat = (l.xs.length - (i.toNat + 1)) + 1 by omega] at hk;obtain ⟨f1, f2, f3, f4⟩ := Xl9 (K0 := fun q => K 0 [.i q]) (K1 := fun q => K 1 [.i q]) hk;have ez : (i + 1).toNat = i.toNat + 1 := by omega
  have hA' : ∀ q, Vif (decide (Sp.folE st.xs l.xs (i.toNat + 1) (l.xs.length - (i.toNat + 1)) q = 0)) (K 0 [.i (Sp.folT st.xs l.xs (i.toNat + 1) (l.xs.length - (i.toNat + 1)) q)]) (K 1 [.i (Sp.folE st.xs l.xs (i.toNat + 1) (l.xs.length - (i.toNat + 1)) q)]) -> A [.i q, .ro _ l, .i l.xs.length, .i (i + 1), .ro _ pl, .ro _ sh, .ro _ ti, .ro _ st] := fun q f => hA _ (by show ((l.xs.length : Int) - (i + 1)).toNat < ((l.xs.length : Int) - i).toNat; omega) ⟨⟨rfl, by omega, by omega⟩, by rw [ez]; exact f⟩;clear hA hk;simp only [Nat.zero_add, Nat.reduceAdd, out1, <- show Sp.xS l.xs i.toNat = (cel l.xs i.toNat 0).int from rfl, <- show Sp.xB l.xs i.toNat = (cel l.xs i.toNat 1).bool from rfl];have hst : Sp.sBo st.xs (Sp.xS l.xs i.toNat).toNat = (cel st.xs (Sp.xS l.xs i.toNat).toNat 5).bool := rfl;rw [<- hst];refine ned (by simp; omega) (nedd (by omega) (ar64 (by omega) ⟨trivial, vifb (fun e1 => f1 e1) fun e1 => ?_⟩));have e2 := Sp.inr_iff.1 e1
  repeat' (first | omega | with_reducible refine vifd (fun _ => ?_) fun _ => ?_ | with_reducible refine vifn (fun _ => ?_) fun _ => ?_ | with_reducible refine vifq (fun _ => ?_) fun _ => ?_ | with_reducible refine vifq0 (fun _ => ?_) fun _ => ?_ | with_reducible refine vifq1 (fun _ => ?_) fun _ => ?_ | with_reducible refine vifb (fun _ => ?_) fun _ => ?_ | with_reducible refine vif (fun _ => ?_) fun _ => ?_ | (with_reducible refine nedd ?_ ?_; omega) | (with_reducible refine ned ?_ ?_; simp only [Bool.and_eq_true, decide_eq_true_eq]; omega) | (with_reducible refine ar64 ?_ ?_; omega) | (with_reducible refine Xf ?_ ?_; (first | trivial | omega | assumption | (refine ⟨?_, ?_⟩ <;> first | trivial | omega | assumption) | (refine ⟨?_, ?_, ?_⟩ <;> first | trivial | omega | assumption) | (refine ⟨?_, ?_, ?_, ?_⟩ <;> first | trivial | omega | assumption))))
  all_goals first | exact f2 e1 (by assumption) (by assumption) | exact f3 e1 (.inl (by assumption)) (by assumption) | exact f3 e1 (.inr (by assumption)) (by assumption) | exact hA' _ (f4 e1 (.inl (by assumption)) (by assumption)) | exact hA' _ (f4 e1 (.inr (by assumption)) (by assumption))
 ·rw [show l.xs.length - i.toNat = 0 by omega] at hk;exact hk.1 rfl
noncomputable def Xwu : LE Try.prog := ⟨78, 5, fun W => @Yqt W Xfo, Xwb⟩
noncomputable def T23 : Tab Try.prog := ⟨[], [Xwq, Xwu], []⟩
def Xdu [W : InW] (t_Pl t_Sh t_Ti : Ro Jb) (t_St : Ro Jd) (p : Int) (l : Ro Xd) (Q : DS -> Prop) : Prop :=
 Vif (decide ((1100 : Int) < (↑(l.xs.length) : Int))) (Q [[Cl.i Za], [Cl.i (3 : Int)]]) (Pre (Za <= Za /\ Za <= (↑(l.xs.length) : Int)) (Vif (decide (Sp.folE t_St.xs l.xs Zg (l.xs.length - Int.toNat Za) p = Za)) (Q [[Cl.i (Sp.folT t_St.xs l.xs Zg (l.xs.length - Int.toNat Za) p)], [Cl.i Za]]) (Q [[Cl.i Za], [Cl.i (Sp.folE t_St.xs l.xs Zg (l.xs.length - Int.toNat Za) p)]])))
theorem Xm2 (W : InW) (t_Pl t_Sh t_Ti t_St p l Q) : Yte (cxT Try.prog TT T23 1000 50) 1000 69 [.agg [.rs _ t_Pl, .rs _ t_Sh, .rs _ t_Ti, .rs _ t_St], .si .i64 p, .rs _ l] [] 0 (Ywt [(false, [.int .i64]), (false, [.int .i64])] Q) (fun _ _ _ _ => Stuck 421) = Xdu t_Pl t_Sh t_Ti t_St p l Q := by kernel_rfl
abbrev Xbx : List AT := [.agg [.sl Jb, .sl Jb, .sl Jb, .sl Jd], .one (.int .i64), .one (.sl Xd)]
theorem Xoh {pre : DS -> Prop} {res : DS -> DS} (hyp_ : ∀ (W : InW) (t_Pl t_Sh t_Ti : Ro Jb) (t_St : Ro Jd) (p : Int) (l : Ro Xd), pre [[.l t_Pl.xs, .l t_Sh.xs, .l t_Ti.xs, .l t_St.xs], [.i p], [.l l.xs]] -> ∀ Q : DS -> Prop, Q (res [[.l t_Pl.xs, .l t_Sh.xs, .l t_Ti.xs, .l t_St.xs], [.i p], [.l l.xs]]) -> Xdu t_Pl t_Sh t_Ti t_St p l Q) : PureOk Try.prog 69 Xbx [(false, [.int .i64]), (false, [.int .i64])] pre res :=
 PureOk.of' (fun W => @TT W) (fun W => @Xb W) Xa T23 1000 50 fun W t_Pl t_Sh t_Ti t_St p l hp =>
  (Xm2 W t_Pl t_Sh t_Ti t_St p l (fun o => o = res [[.l t_Pl.xs, .l t_Sh.xs, .l t_Ti.xs, .l t_St.xs], [.i p], [.l l.xs]])).mpr (hyp_ W t_Pl t_Sh t_Ti t_St p l hp _ rfl)
def Xdz [W : InW] (t_Pl t_Sh t_Ti : Ro Jb) (t_St : Ro Jd) (p : Int) (l : Ro Xd) (Q : DS -> Prop) : Prop :=
 Vif (decide ((1100 : Int) < (↑(l.xs.length) : Int))) (Q [[Cl.i Za], [Cl.i (3 : Int)]]) (Pre ((↑(l.xs.length) : Int) = (↑(l.xs.length) : Int) /\ Za <= Za /\ Za <= (↑(l.xs.length) : Int)) (Vif (decide (Sp.folE t_St.xs l.xs Zg (l.xs.length - Int.toNat Za) p = Za)) (Q [[Cl.i (Sp.folT t_St.xs l.xs Zg (l.xs.length - Int.toNat Za) p)], [Cl.i Za]]) (Q [[Cl.i Za], [Cl.i (Sp.folE t_St.xs l.xs Zg (l.xs.length - Int.toNat Za) p)]])))
theorem Xm7 (W : InW) (t_Pl t_Sh t_Ti t_St p l Q) : Yte (cxT Try.prog TT T23 1000 50) 1000 78 [.agg [.rs _ t_Pl, .rs _ t_Sh, .rs _ t_Ti, .rs _ t_St], .si .i64 p, .rs _ l] [] 0 (Ywt [(false, [.int .i64]), (false, [.int .i64])] Q) (fun _ _ _ _ => Stuck 421) = Xdz t_Pl t_Sh t_Ti t_St p l Q := by kernel_rfl
abbrev Xb2 : List AT := [.agg [.sl Jb, .sl Jb, .sl Jb, .sl Jd], .one (.int .i64), .one (.sl Xd)]
theorem Xom {pre : DS -> Prop} {res : DS -> DS} (hyp_ : ∀ (W : InW) (t_Pl t_Sh t_Ti : Ro Jb) (t_St : Ro Jd) (p : Int) (l : Ro Xd), pre [[.l t_Pl.xs, .l t_Sh.xs, .l t_Ti.xs, .l t_St.xs], [.i p], [.l l.xs]] -> ∀ Q : DS -> Prop, Q (res [[.l t_Pl.xs, .l t_Sh.xs, .l t_Ti.xs, .l t_St.xs], [.i p], [.l l.xs]]) -> Xdz t_Pl t_Sh t_Ti t_St p l Q) : PureOk Try.prog 78 Xb2 [(false, [.int .i64]), (false, [.int .i64])] pre res :=
 PureOk.of' (fun W => @TT W) (fun W => @Xb W) Xa T23 1000 50 fun W t_Pl t_Sh t_Ti t_St p l hp =>
  (Xm7 W t_Pl t_Sh t_Ti t_St p l (fun o => o = res [[.l t_Pl.xs, .l t_Sh.xs, .l t_Ti.xs, .l t_St.xs], [.i p], [.l l.xs]])).mpr (hyp_ W t_Pl t_Sh t_Ti t_St p l hp _ rfl)
abbrev Xq (ds : DS) : DS := match ds with | [[.l _, .l _, .l _, .l st], [.i p], [.l l]] => [[.i (Sp.stepsT st l p)], [.i (Sp.stepsE st l p)]] | _ => []
theorem Xf1 {st l : Dt} : ∀ {n i : Nat} {p : Int}, ¬ Sp.folE st l i n p = 0 -> Sp.folT st l i n p = 0
 | 0, _, _, h => absurd rfl h
 | n + 1, i, p, h => by
  rw [Xcw.1] at h;rw [Xcw.2]
  split
  ·rename_i h1;rw [if_pos h1] at h
   split
   ·rfl
   ·rename_i h2;rw [if_neg h2] at h
    split
    ·rename_i h3;rw [if_pos h3] at h;exact Xf1 h
    ·rfl
  ·rfl
theorem Xq4 : PureOk Try.prog 69 Xbx [(false, [.int .i64]), (false, [.int .i64])] (fun _ => True) Xq :=
 Xoh fun W pl sh ti st p l hp Q h => by
  unfold Xdu;delta Zg Za;have hm := l.len; simp only [maxLen] at hm; simp only [Xq, Sp.stepsT, Sp.stepsE] at h; simp only [show Int.toNat 0 = 0 from rfl, Nat.sub_zero]; refine vifd (fun e => ?_) fun e => ⟨by first | omega | (refine ⟨?_, ?_, ?_⟩ <;> first | trivial | rfl | omega), vifd (fun e2 => ?_) fun e2 => ?_⟩
  ·rw [if_pos e, if_pos e] at h; exact h
  ·rw [if_neg e, if_neg e, e2] at h; exact h
  ·rw [if_neg e, if_neg e, Xf1 e2] at h; exact h
theorem Xq9 : PureOk Try.prog 78 Xb2 [(false, [.int .i64]), (false, [.int .i64])] (fun _ => True) Xq :=
 Xom fun W pl sh ti st p l hp Q h => by
  unfold Xdz;delta Zg Za;have hm := l.len; simp only [maxLen] at hm; simp only [Xq, Sp.stepsT, Sp.stepsE] at h; simp only [show Int.toNat 0 = 0 from rfl, Nat.sub_zero]; refine vifd (fun e => ?_) fun e => ⟨by first | omega | (refine ⟨?_, ?_, ?_⟩ <;> first | trivial | rfl | omega), vifd (fun e2 => ?_) fun e2 => ?_⟩
  ·rw [if_pos e, if_pos e] at h; exact h
  ·rw [if_neg e, if_neg e, e2] at h; exact h
  ·rw [if_neg e, if_neg e, Xf1 e2] at h; exact h
noncomputable def Xhl : PC Try.prog := ⟨69, Xbx, [(false, [.int .i64]), (false, [.int .i64])], fun _ => True, Xq, Xq4⟩
noncomputable def Xnw : PC Try.prog := ⟨78, Xb2, [(false, [.int .i64]), (false, [.int .i64])], fun _ => True, Xq, Xq9⟩
namespace Sp
structure TourOk (pl sh ti st l : Dt) (time : Int) : Prop where
 tw : TwOk pl sh ti st
 ti0 : 0 <= time
 ti1 : time < ti.length
 ln : l.length <= 1100
 xs : ∀ k, k < l.length -> 0 <= xS l k /\ xS l k < st.length
structure TourAt (l : Dt) (i me lo hi sw : Int) : Prop where
 i0 : 0 <= i
 i1 : i <= l.length
 me : 0 <= me /\ me <= 10000 * i
 lo : 0 <= lo /\ lo <= 10000 * i
 hi : 0 <= hi /\ hi <= 10000 * i
 sw : 0 <= sw /\ sw < 64
def gMe (st l : Dt) (k : Nat) : Int := sMe st (xS l k).toNat
def gLo (st l : Dt) (k : Nat) : Int := sLo st (xS l k).toNat
def gHi (st l : Dt) (k : Nat) : Int := sHi st (xS l k).toNat
end Sp
theorem Xet {pl sh ti st l : Dt} {time : Int} (h : Sp.TourOk pl sh ti st l time) {k : Nat} (hk : k < l.length) : Sp.StOk pl.length sh.length ti.length st (Sp.xS l k).toNat /\ (0 <= Sp.xS l k /\ Sp.xS l k < st.length) /\ 0 <= Sp.shT st l time.toNat k /\ Sp.shT st l time.toNat k < 64 := by
 have h1 := h.xs k hk;have h2 := h.tw.each (Sp.xS l k).toNat (by omega);have h3 := h2.sh time.toNat (by have := h.ti0; have := h.ti1; omega);have h4 := Sp.sets_le h.tw.shL;refine ⟨h2, h1, ?_⟩;unfold Sp.shT;omega
def Xcn [InW] (e : List Ed) (K : Nat -> List Ed -> Prop) : Prop := match e with
 | [.i time, .ro _ l, .i n, .i i, .ro _ pl, .ro _ sh, .ro _ ti, .ro _ st, .i me, .i lo, .i hi, .i sw, .l cs] => Pre (n = l.xs.length /\ Sp.TourOk pl.xs sh.xs ti.xs st.xs l.xs time /\ Sp.TourAt l.xs i me lo hi sw)
   (K 0 [.i (Sp.sumF (Sp.gMe st.xs l.xs) i.toNat (l.xs.length - i.toNat) me), .i (Sp.sumF (Sp.gLo st.xs l.xs) i.toNat (l.xs.length - i.toNat) lo), .i (Sp.sumF (Sp.gHi st.xs l.xs) i.toNat (l.xs.length - i.toNat) hi), .i (Sp.orF (Sp.shT st.xs l.xs time.toNat) i.toNat (l.xs.length - i.toNat) sw), .l cs])
 | _ => False
noncomputable def Xcu : LC where
 len := 62
 T := [(1, .int .i64), (3, (.ptr 1 0)), (6, (.ptr 7 0)), (7, (.ptr 4 0)), (14, .rs Xd), (15, .int .i64), (16, .int .i64)]
 H := [(1, .blk 137 [.rs Jb, .rs Jb, .rs Jb, .rs Jd]), (4, .blk 93 [(.row 13), .int .i64, .int .i64, .int .i64, .int .i64]), (13, .arr 91 Xd), (7, .blk 93 [(.lit (.slice none 0 0)), (.lit (.int .i64 0)), (.lit (.int .i64 0)), (.lit (.int .i64 0)), (.lit (.int .i64 0))])]
 W := [9, 10, 17, 18, 19, 20, 21, 22, 23, 24, 25, 26, 27, 28, 29, 30, 31, 32, 33, 34, 35, 36, 37, 38, 39, 40, 41, 42, 43, 44, 45, 46, 47, 48, 49, 50, 51, 52, 53, 54, 55, 56, 57, 58, 59, 60]
 outs := [⟨.exit 0, [(6, (.ptr 7 0)), (7, (.ptr 4 0))], [(4, .blk 93 [(.row 13), .int .i64, .int .i64, .int .i64, .int .i64]), (13, .arr 91 Xd), (7, .blk 93 [(.lit (.slice none 0 0)), (.lit (.int .i64 0)), (.lit (.int .i64 0)), (.lit (.int .i64 0)), (.lit (.int .i64 0))])], [1, 3, 9, 10, 14, 15, 16, 17, 18, 19, 20, 21, 22, 23, 24, 25, 26, 27, 28, 29, 30, 31, 32, 33, 34, 35, 36, 37, 38, 39, 40, 41, 42, 43, 44, 45, 46, 47, 48, 49, 50, 51, 52, 53, 54, 55, 56, 57, 58, 59, 60]⟩]
 spec := Xcn
def Zr [W : InW] (l : Ro Xd) (i : Int) := cel l.xs i.toNat (0 : Nat)
def Xea [W : InW] (time : Int) (l : Ro Xd) (n i : Int) (pl sh ti : Ro Jb) (st : Ro Jd) (me lo hi sw : Int) (cs : Dt) (A : List Ed -> Prop) (K : Nat -> List Ed -> Prop) : Prop :=
 Vif (decide (i < n)) (Need (decide (Za <= i) && decide (i < (↑(l.xs.length) : Int))) (Need (decide (i.toNat < l.xs.length)) (Need (decide (Za <= (Zr l i).int) && decide ((Zr l i).int < (↑(st.xs.length) : Int))) (Need (decide ((Zr l i).int.toNat < st.xs.length)) (Ar .i64 (me + (cel st.xs (Zr l i).int.toNat (0+1+1 : Nat)).int) fun z => Ar .i64 (lo + (cel st.xs (Zr l i).int.toNat (0+1+1+1 : Nat)).int) fun z_1 => Ar .i64 (hi + (cel st.xs (Zr l i).int.toNat (0+1+1+1+1 : Nat)).int) fun z_2 => Need (decide (Za <= time) && decide (time < (↑(List.length (cel st.xs (Zr l i).int.toNat (0+1+1+1+1+1+1 : Nat)).lst) : Int))) (Need (decide (time.toNat < List.length (cel st.xs (Zr l i).int.toNat (0+1+1+1+1+1+1 : Nat)).lst)) (Ar .i64 (i + (1 : Int)) fun z_3 => A [.i time, .ro _ l, .i n, .i z_3, .ro _ pl, .ro _ sh, .ro _ ti, .ro Zc st, .i z, .i z_1, .i z_2, .i (orI IntKind.i64 sw (cel (cel st.xs (Zr l i).int.toNat (0+1+1+1+1+1+1 : Nat)).lst time.toNat (0 : Nat)).int), .l cs]))))))) (K (0 : Nat) [.i me, .i lo, .i hi, .i sw, .l cs])
theorem Xmv (W : InW) (time l n i pl sh ti st me lo hi sw cs A K) : Yer { cxT Try.prog TT T22 1000 50 with fn := 79 } 1000 (Yl5 Try.prog 79 4) (Ydl 62 [(1, .si .i64 time), (3, .ptr 1 0), (6, .ptr 7 0), (7, .ptr 4 0), (14, .rs _ l), (15, .si .i64 n), (16, .si .i64 i)] [9, 10, 17, 18, 19, 20, 21, 22, 23, 24, 25, 26, 27, 28, 29, 30, 31, 32, 33, 34, 35, 36, 37, 38, 39, 40, 41, 42, 43, 44, 45, 46, 47, 48, 49, 50, 51, 52, 53, 54, 55, 56, 57, 58, 59, 60]) [(1, .blk 137 [.rs _ pl, .rs _ sh, .rs _ ti, .rs _ st]), (4, .blk 93 [.rw 13, .si .i64 me, .si .i64 lo, .si .i64 hi, .si .i64 sw]), (13, .arr 91 Xd cs), (7, .blk 93 [.v (.slice none 0 0), .v (.int .i64 0), .v (.int .i64 0), .v (.int .i64 0), .v (.int .i64 0)])] (Yrh Xcu A K) = Xea time l n i pl sh ti st me lo hi sw cs A K := by kernel_rfl
def Xeq : Prop := ∀ (W : InW) (body a : Code), (Try.prog.funcs[79]?).bind (·.body) = some body -> a ∈ Ys body -> Ye9 a = 4 -> @Yk2 W Try.prog a (@Yqt W Xcu)
theorem Xn9 (meas : [InW] -> List Ed -> Nat) (hyp_ : ∀ (W : InW) (time : Int) (l : Ro Xd) (n i : Int) (pl sh ti : Ro Jb) (st : Ro Jd) (me lo hi sw : Int) (cs : Dt) (K : Nat -> List Ed -> Prop), Xcn [.i time, .ro _ l, .i n, .i i, .ro _ pl, .ro _ sh, .ro _ ti, .ro _ st, .i me, .i lo, .i hi, .i sw, .l cs] K -> ∀ A : List Ed -> Prop, (∀ e, meas e < meas [.i time, .ro _ l, .i n, .i i, .ro _ pl, .ro _ sh, .ro _ ti, .ro _ st, .i me, .i lo, .i hi, .i sw, .l cs] -> Xcn e K -> A e) -> Xea time l n i pl sh ti st me lo hi sw cs A K) : Xeq :=
 LE.okOf' (fun W => @TT W) (fun W => @Xb W) Xa T22 1000 50 (by kernel_rfl) Xcu (fun W => @meas W) fun W time l n i pl sh ti st me lo hi sw cs K hs =>
  (Xmv W time l n i pl sh ti st me lo hi sw cs (fun e => meas e < meas [.i time, .ro _ l, .i n, .i i, .ro _ pl, .ro _ sh, .ro _ ti, .ro _ st, .i me, .i lo, .i hi, .i sw, .l cs] /\ Xcn e K) K).mpr (hyp_ W time l n i pl sh ti st me lo hi sw cs K hs _ fun e h1 h2 => ⟨h1, h2⟩)
theorem Xsh : Xeq := Xn9 (fun e => match e with | _ :: .ro _ l :: _ :: .i i :: _ => ((l.xs.length : Int) - i).toNat | _ => 0) fun W time l n i pl sh ti st me lo hi sw cs K hs A hA => by
 obtain ⟨⟨rfl, hT, hI⟩, hk⟩ := hs;unfold Xea;delta Zr Zc Za;have h0 := hI.i0;have h1 := hI.i1;have hln := hT.ln;have t0 := hT.ti0;have t1 := hT.ti1;refine vifd (fun e => ?_) fun e => ?_
 ·rw [show l.xs.length - i.toNat = (l.xs.length - (i.toNat + 1)) + 1 by omega] at hk;simp only [Sp.sumF, Sp.orF] at hk;obtain ⟨g1, g2, g3⟩ := Xet hT (k := i.toNat) (by omega);have u := Sp.un_or hI.sw.1 hI.sw.2 g3.1 g3.2;rw [u.1] at hk;have ez : (i + 1).toNat = i.toNat + 1 := by omega
  have hme := hI.me;have hlo := hI.lo;have hhi := hI.hi;have gme := g1.me;have glo := g1.lo;have ghi := g1.hi;have glen := g1.len;have hA' : ∀ a b c d, a = me + Sp.gMe st.xs l.xs i.toNat -> b = lo + Sp.gLo st.xs l.xs i.toNat -> c = hi + Sp.gHi st.xs l.xs i.toNat -> d = orI .i64 sw (Sp.shT st.xs l.xs time.toNat i.toNat) -> A [.i time, .ro _ l, .i l.xs.length, .i (i + 1), .ro _ pl, .ro _ sh, .ro _ ti, .ro _ st, .i a, .i b, .i c, .i d, .l cs] := fun a b c d ha hb hc hd => hA _ (by show ((l.xs.length : Int) - (i + 1)).toNat < ((l.xs.length : Int) - i).toNat; omega) ⟨⟨rfl, hT, ⟨by omega, by omega, by simp only [Sp.gMe] at ha; omega, by simp only [Sp.gLo] at hb; omega, by simp only [Sp.gHi] at hc; omega, by rw [hd, <- u.1]; exact u.2.1⟩⟩, by rw [ez, ha, hb, hc, hd]; exact hk⟩;clear hA hk;simp only [Sp.gMe, Sp.gLo, Sp.gHi, Sp.sMe, Sp.sLo, Sp.sHi, Sp.sSh, Sp.shT, Sp.xS] at *;simp only [Nat.zero_add, Nat.reduceAdd]
  repeat' (first | omega | with_reducible refine vifd (fun _ => ?_) fun _ => ?_ | with_reducible refine vifn (fun _ => ?_) fun _ => ?_ | with_reducible refine vifq (fun _ => ?_) fun _ => ?_ | with_reducible refine vifq0 (fun _ => ?_) fun _ => ?_ | with_reducible refine vifq1 (fun _ => ?_) fun _ => ?_ | with_reducible refine vifb (fun _ => ?_) fun _ => ?_ | with_reducible refine vif (fun _ => ?_) fun _ => ?_ | (with_reducible refine nedd ?_ ?_; omega) | (with_reducible refine ned ?_ ?_; simp only [Bool.and_eq_true, decide_eq_true_eq]; omega) | (with_reducible refine ar64 ?_ ?_; omega) | (with_reducible refine Xf ?_ ?_; (first | trivial | omega | assumption | (refine ⟨?_, ?_⟩ <;> first | trivial | omega | assumption) | (refine ⟨?_, ?_, ?_⟩ <;> first | trivial | omega | assumption) | (refine ⟨?_, ?_, ?_, ?_⟩ <;> first | trivial | omega | assumption))))
  all_goals first | exact hA' _ _ _ _ rfl rfl rfl rfl | skip
  all_goals trace_state
 ·rw [show l.xs.length - i.toNat = 0 by omega] at hk;exact hk
noncomputable def Xsm : LE Try.prog := ⟨79, 4, fun W => @Yqt W Xcu, Xsh⟩
noncomputable def T24 : Tab Try.prog := ⟨[], [Xsm], []⟩
def Zs [W : InW] (l : Ro Xd) := l.xs.length - Int.toNat Za
def Xgg [W : InW] (t_Pl t_Sh t_Ti : Ro Jb) (t_St : Ro Jd) (time : Int) (l : Ro Xd) (Q : DS -> Prop) : Prop :=
 Vif (match l.v with | Value.slice none len cap => true | x => false) (Pre ((↑(l.xs.length) : Int) = (↑(l.xs.length) : Int) /\ Sp.TourOk t_Pl.xs t_Sh.xs t_Ti.xs t_St.xs l.xs time /\ Sp.TourAt l.xs Za Za Za Za Za) (Q [[Cl.l [], Cl.i (Sp.sumF (Sp.gMe t_St.xs l.xs) Zg (Zs l) Za), Cl.i (Sp.sumF (Sp.gLo t_St.xs l.xs) Zg (Zs l) Za), Cl.i (Sp.sumF (Sp.gHi t_St.xs l.xs) Zg (Zs l) Za), Cl.i (Sp.orF (Sp.shT t_St.xs l.xs time.toNat) Zg (Zs l) Za)]])) (Need (decide (((0 : Nat) + l.xs.length) * (16 : Nat) <= (140737488355328 : Nat))) (Pre ((↑(l.xs.length) : Int) = (↑(l.xs.length) : Int) /\ Sp.TourOk t_Pl.xs t_Sh.xs t_Ti.xs t_St.xs l.xs time /\ Sp.TourAt l.xs Za Za Za Za Za) (Q [[Cl.l l.xs, Cl.i (Sp.sumF (Sp.gMe t_St.xs l.xs) Zg (Zs l) Za), Cl.i (Sp.sumF (Sp.gLo t_St.xs l.xs) Zg (Zs l) Za), Cl.i (Sp.sumF (Sp.gHi t_St.xs l.xs) Zg (Zs l) Za), Cl.i (Sp.orF (Sp.shT t_St.xs l.xs time.toNat) Zg (Zs l) Za)]])))
theorem Xp8 (W : InW) (t_Pl t_Sh t_Ti t_St time l Q) : Yte (cxT Try.prog TT T24 1000 50) 1000 79 [.agg [.rs _ t_Pl, .rs _ t_Sh, .rs _ t_Ti, .rs _ t_St], .si .i64 time, .rs _ l] [] 0 (Ywt [(true, [.row 91 Xd, .int .i64, .int .i64, .int .i64, .int .i64])] Q) (fun _ _ _ _ => Stuck 421) = Xgg t_Pl t_Sh t_Ti t_St time l Q := by kernel_rfl
abbrev Xdi : List AT := [.agg [.sl Jb, .sl Jb, .sl Jb, .sl Jd], .one (.int .i64), .one (.sl Xd)]
theorem Xr6 {pre : DS -> Prop} {res : DS -> DS} (hyp_ : ∀ (W : InW) (t_Pl t_Sh t_Ti : Ro Jb) (t_St : Ro Jd) (time : Int) (l : Ro Xd), pre [[.l t_Pl.xs, .l t_Sh.xs, .l t_Ti.xs, .l t_St.xs], [.i time], [.l l.xs]] -> ∀ Q : DS -> Prop, Q (res [[.l t_Pl.xs, .l t_Sh.xs, .l t_Ti.xs, .l t_St.xs], [.i time], [.l l.xs]]) -> Xgg t_Pl t_Sh t_Ti t_St time l Q) : PureOk Try.prog 79 Xdi [(true, [.row 91 Xd, .int .i64, .int .i64, .int .i64, .int .i64])] pre res :=
 PureOk.of' (fun W => @TT W) (fun W => @Xb W) Xa T24 1000 50 fun W t_Pl t_Sh t_Ti t_St time l hp =>
  (Xp8 W t_Pl t_Sh t_Ti t_St time l (fun o => o = res [[.l t_Pl.xs, .l t_Sh.xs, .l t_Ti.xs, .l t_St.xs], [.i time], [.l l.xs]])).mpr (hyp_ W t_Pl t_Sh t_Ti t_St time l hp _ rfl)
abbrev Xfd (ds : DS) : DS := match ds with | [[.l _, .l _, .l _, .l st], [.i time], [.l l]] => [[.l l, .i (Sp.sumF (Sp.gMe st l) 0 l.length 0), .i (Sp.sumF (Sp.gLo st l) 0 l.length 0), .i (Sp.sumF (Sp.gHi st l) 0 l.length 0), .i (Sp.orF (Sp.shT st l time.toNat) 0 l.length 0)]] | _ => []
abbrev Xkp (ds : DS) : Prop := match ds with | [[.l pl, .l sh, .l ti, .l st], [.i time], [.l l]] => Sp.TourOk pl sh ti st l time | _ => False
theorem Xuw : PureOk Try.prog 79 Xdi [(true, [.row 91 Xd, .int .i64, .int .i64, .int .i64, .int .i64])] Xkp Xfd :=
 Xr6 fun W pl sh ti st time l hp Q h => by
  unfold Xgg;delta Zs Zg Za;have hT : Sp.TourOk pl.xs sh.xs ti.xs st.xs l.xs time := hp;have hln := hT.ln;have hm := l.len;simp only [Xfd] at h;simp only [maxLen] at hm;have hA : Sp.TourAt l.xs 0 0 0 0 0 := ⟨by omega, by omega, by omega, by omega, by omega, by omega⟩;simp only [show Int.toNat 0 = 0 from rfl, Nat.sub_zero];refine vif (fun e => ⟨⟨trivial, hT, hA⟩, ?_⟩) fun e => nedd (by omega) ⟨⟨trivial, hT, hA⟩, ?_⟩
  ·rw [Yzf (r := l) e] at h ⊢;exact h
  ·exact h
noncomputable def Xqs : PC Try.prog := ⟨79, Xdi, [(true, [.row 91 Xd, .int .i64, .int .i64, .int .i64, .int .i64])], Xkp, Xfd, Xuw⟩
namespace Sp
def dvL (pl sh ti st : Dt) (p time : Int) (l : Dt) : Dt := if drvE pl sh ti st p time l = 0 then l else []
def dvMe (pl sh ti st : Dt) (p time : Int) (l : Dt) : Int := if drvE pl sh ti st p time l = 0 then sumF (gMe st l) 0 l.length 0 else 0
def dvLo (pl sh ti st : Dt) (p time : Int) (l : Dt) : Int := if drvE pl sh ti st p time l = 0 then sumF (gLo st l) 0 l.length 0 else 0
def dvHi (pl sh ti st : Dt) (p time : Int) (l : Dt) : Int := if drvE pl sh ti st p time l = 0 then sumF (gHi st l) 0 l.length 0 else 0
def dvSh (pl sh ti st : Dt) (p time : Int) (l : Dt) : Int := if drvE pl sh ti st p time l = 0 then orF (shT st l time.toNat) 0 l.length 0 else 0
def dvT (pl sh ti st : Dt) (p time : Int) (l : Dt) : Int := if drvE pl sh ti st p time l = 0 then stepsT st l p else 0
end Sp
abbrev Xl : RTs := [(true, [.row 91 Xd, .int .i64, .int .i64, .int .i64, .int .i64]), (false, [.int .i64]), (false, [.int .i64])]
abbrev Xbf (ds : DS) : DS := match ds with | [[.l pl, .l sh, .l ti, .l st], [.i p], [.i time], [.l l]] => [[.l (Sp.dvL pl sh ti st p time l), .i (Sp.dvMe pl sh ti st p time l), .i (Sp.dvLo pl sh ti st p time l), .i (Sp.dvHi pl sh ti st p time l), .i (Sp.dvSh pl sh ti st p time l)], [.i (Sp.dvT pl sh ti st p time l)], [.i (Sp.drvE pl sh ti st p time l)]] | _ => []
abbrev Xbh (ds : DS) : Prop := match ds with | [[.l pl, .l sh, .l ti, .l _], _, _, _] => Sp.NamesOk pl /\ Sp.NamesOk sh /\ Sp.NamesOk ti | _ => False
theorem Xic {pl sh ti st l : Dt} {p time : Int} {Q : Dt -> Int -> Int -> Int -> Int -> Int -> Int -> Prop} (h : Q (Sp.dvL pl sh ti st p time l) (Sp.dvMe pl sh ti st p time l) (Sp.dvLo pl sh ti st p time l) (Sp.dvHi pl sh ti st p time l) (Sp.dvSh pl sh ti st p time l) (Sp.dvT pl sh ti st p time l) (Sp.drvE pl sh ti st p time l)) :
  (¬ Sp.tchkE pl sh ti st = 0 -> Q [] 0 0 0 0 0 (Sp.tchkE pl sh ti st)) /\
  (Sp.tchkE pl sh ti st = 0 -> (Sp.inr p 0 ((pl.length : Int) - 1) = false \/ Sp.inr time 0 ((ti.length : Int) - 1) = false) -> Q [] 0 0 0 0 0 4) /\
  (Sp.tchkE pl sh ti st = 0 -> Sp.inr p 0 ((pl.length : Int) - 1) = true -> Sp.inr time 0 ((ti.length : Int) - 1) = true -> ¬ Sp.stepsE st l p = 0 -> Q [] 0 0 0 0 0 (Sp.stepsE st l p)) /\
  (Sp.tchkE pl sh ti st = 0 -> Sp.inr p 0 ((pl.length : Int) - 1) = true -> Sp.inr time 0 ((ti.length : Int) - 1) = true -> Sp.stepsE st l p = 0 -> Sp.TourOk pl sh ti st l time /\ Q l (Sp.sumF (Sp.gMe st l) 0 l.length 0) (Sp.sumF (Sp.gLo st l) 0 l.length 0) (Sp.sumF (Sp.gHi st l) 0 l.length 0) (Sp.orF (Sp.shT st l time.toNat) 0 l.length 0) (Sp.stepsT st l p) 0) := by
 have bad : ∀ e, Sp.drvE pl sh ti st p time l = e -> ¬ e = 0 -> Q [] 0 0 0 0 0 e := fun e he hn => by
  unfold Sp.dvL Sp.dvMe Sp.dvLo Sp.dvHi Sp.dvSh Sp.dvT at h;rw [he] at h;rw [if_neg hn, if_neg hn, if_neg hn, if_neg hn, if_neg hn, if_neg hn] at h;exact h
 refine ⟨fun e => bad _ (by unfold Sp.drvE; rw [if_neg e]) e, fun e e2 => bad _ (by unfold Sp.drvE; rw [if_pos e, if_neg]; rcases e2 with e2 | e2 <;> simp [e2]) (by decide), fun e e2 e3 e4 => bad _ (by unfold Sp.drvE; rw [if_pos e, if_pos (by simp [e2, e3])]) e4, fun e e2 e3 e4 => ⟨?_, ?_⟩⟩
 ·have := Sp.inr_iff.1 e3;have := Sp.steps_street e4;exact ⟨Sp.tchk_ok e, by omega, by omega, this.1, this.2⟩
 ·have he : Sp.drvE pl sh ti st p time l = 0 := by unfold Sp.drvE; rw [if_pos e, if_pos (by simp [e2, e3]), e4]
  unfold Sp.dvL Sp.dvMe Sp.dvLo Sp.dvHi Sp.dvSh Sp.dvT at h;rw [if_pos he, if_pos he, if_pos he, if_pos he, if_pos he, if_pos he, he] at h;exact h
noncomputable def T25 : Tab Try.prog := ⟨[Xhp, Xc7, Xnw, Xqs], [], []⟩
def Zu := [Cl.l [], Cl.i Za, Cl.i Za, Cl.i Za, Cl.i Za]
def Zt [W : InW] (t_Pl t_Sh t_Ti : Ro Jb) (t_St : Ro Jd) (p time : Int) (l : Ro Xd) (Q : DS -> Prop) := Ar .i64 ((↑(t_Ti.xs.length) : Int) - (1 : Int)) fun z => Pre True (Vif (Sp.out Za z [[Cl.i time]]) (Q [Zu, [Cl.i Za], [Cl.i (4 : Int)]]) (Pre True (Vif (!decide (Sp.stepsE t_St.xs l.xs p = Za)) (Q [Zu, [Cl.i Za], [Cl.i (Sp.stepsE t_St.xs l.xs p)]]) (Pre (Sp.TourOk t_Pl.xs t_Sh.xs t_Ti.xs t_St.xs l.xs time) (Q [[Cl.l l.xs, Cl.i (Sp.sumF (Sp.gMe t_St.xs l.xs) (0 : Nat) (l.xs.length) Za), Cl.i (Sp.sumF (Sp.gLo t_St.xs l.xs) (0 : Nat) (l.xs.length) Za), Cl.i (Sp.sumF (Sp.gHi t_St.xs l.xs) (0 : Nat) (l.xs.length) Za), Cl.i (Sp.orF (Sp.shT t_St.xs l.xs time.toNat) (0 : Nat) (l.xs.length) Za)], [Cl.i (Sp.stepsT t_St.xs l.xs p)], [Cl.i Za]])))))
def Xd0 [W : InW] (t_Pl t_Sh t_Ti : Ro Jb) (t_St : Ro Jd) (p time : Int) (l : Ro Xd) (Q : DS -> Prop) : Prop :=
 Pre (Sp.NamesOk t_Pl.xs /\ Sp.NamesOk t_Sh.xs /\ Sp.NamesOk t_Ti.xs) (Vif (!decide (Sp.tchkE t_Pl.xs t_Sh.xs t_Ti.xs t_St.xs = Za)) (Vif (!decide (Sp.tchkE t_Pl.xs t_Sh.xs t_Ti.xs t_St.xs = Za)) (Q [Zu, [Cl.i Za], [Cl.i (Sp.tchkE t_Pl.xs t_Sh.xs t_Ti.xs t_St.xs)]]) (Zt t_Pl t_Sh t_Ti t_St p time l Q)) (Ar .i64 ((↑(t_Pl.xs.length) : Int) - (1 : Int)) fun z => Pre True (Vif (Sp.out Za z [[Cl.i p]]) (Q [Zu, [Cl.i Za], [Cl.i (4 : Int)]]) (Zt t_Pl t_Sh t_Ti t_St p time l Q))))
theorem Xm8 (W : InW) (t_Pl t_Sh t_Ti t_St p time l Q) : Yte (cxT Try.prog TT T25 1000 50) 1000 53 [.agg [.rs _ t_Pl, .rs _ t_Sh, .rs _ t_Ti, .rs _ t_St], .si .i64 p, .si .i64 time, .rs _ l] [] 0 (Ywt Xl Q) (fun _ _ _ _ => Stuck 421) = Xd0 t_Pl t_Sh t_Ti t_St p time l Q := by kernel_rfl
abbrev Xb3 : List AT := [.agg [.sl Jb, .sl Jb, .sl Jb, .sl Jd], .one (.int .i64), .one (.int .i64), .one (.sl Xd)]
theorem Xon {pre : DS -> Prop} {res : DS -> DS} (hyp_ : ∀ (W : InW) (t_Pl t_Sh t_Ti : Ro Jb) (t_St : Ro Jd) (p time : Int) (l : Ro Xd), pre [[.l t_Pl.xs, .l t_Sh.xs, .l t_Ti.xs, .l t_St.xs], [.i p], [.i time], [.l l.xs]] -> ∀ Q : DS -> Prop, Q (res [[.l t_Pl.xs, .l t_Sh.xs, .l t_Ti.xs, .l t_St.xs], [.i p], [.i time], [.l l.xs]]) -> Xd0 t_Pl t_Sh t_Ti t_St p time l Q) : PureOk Try.prog 53 Xb3 Xl pre res :=
 PureOk.of' (fun W => @TT W) (fun W => @Xb W) Xa T25 1000 50 fun W t_Pl t_Sh t_Ti t_St p time l hp =>
  (Xm8 W t_Pl t_Sh t_Ti t_St p time l (fun o => o = res [[.l t_Pl.xs, .l t_Sh.xs, .l t_Ti.xs, .l t_St.xs], [.i p], [.i time], [.l l.xs]])).mpr (hyp_ W t_Pl t_Sh t_Ti t_St p time l hp _ rfl)
theorem Xra : PureOk Try.prog 53 Xb3 Xl Xbh Xbf :=
 Xon fun W pl sh ti st p time l hp Q h => by
  unfold Xd0;delta Zt Zu Za;have hpl := pl.len;have hti := ti.len;simp only [maxLen] at hpl hti;have hp : Sp.NamesOk pl.xs /\ Sp.NamesOk sh.xs /\ Sp.NamesOk ti.xs := hp;obtain ⟨q0, q1, q2, q3⟩ := Xic (Q := fun a b c d e f g => Q [[.l a, .i b, .i c, .i d, .i e], [.i f], [.i g]]) h;clear h;simp only [out1];have hA0 : Sp.TourAt l.xs 0 0 0 0 0 := ⟨by omega, by omega, by omega, by omega, by omega, by omega⟩
  try simp only [show Int.toNat 0 = 0 from rfl, Nat.sub_zero]
  repeat' (first | omega | with_reducible refine vifd (fun _ => ?_) fun _ => ?_ | with_reducible refine vifn (fun _ => ?_) fun _ => ?_ | with_reducible refine vifq (fun _ => ?_) fun _ => ?_ | with_reducible refine vifq0 (fun _ => ?_) fun _ => ?_ | with_reducible refine vifq1 (fun _ => ?_) fun _ => ?_ | with_reducible refine vifb (fun _ => ?_) fun _ => ?_ | with_reducible refine vif (fun _ => ?_) fun _ => ?_ | (with_reducible refine nedd ?_ ?_; omega) | (with_reducible refine ned ?_ ?_; simp only [Bool.and_eq_true, decide_eq_true_eq]; omega) | (with_reducible refine ar64 ?_ ?_; omega) | (with_reducible refine Xf ?_ ?_; (first | trivial | omega | assumption | (refine ⟨?_, ?_⟩ <;> first | trivial | omega | assumption) | (refine ⟨?_, ?_, ?_⟩ <;> first | trivial | omega | assumption) | (refine ⟨?_, ?_, ?_, ?_⟩ <;> first | trivial | omega | assumption))))
  all_goals first | contradiction | exact q0 (by assumption) | exact q1 (by assumption) (.inl (by assumption)) | exact q1 (by assumption) (.inr (by assumption)) | exact q2 (by assumption) (by assumption) (by assumption) (by assumption) | (have g := q3 (by assumption) (by assumption) (by assumption) (by assumption); exact ⟨g.1, g.2⟩) | (have g := q3 (by assumption) (by assumption) (by assumption) (by assumption); have gl := g.1.ln; exact nedd (by omega) ⟨⟨g.1, hA0⟩, g.2⟩) | skip
noncomputable def Xhn : PC Try.prog := ⟨53, Xb3, Xl, Xbh, Xbf, Xra⟩
def Xcm [InW] (e : List Ed) (K : Nat -> List Ed -> Prop) : Prop := match e with
 | [.i time, .ro _ l, .i to_, .i i, .ro _ pl, .ro _ sh, .ro _ ti, .ro _ st, .i me, .i lo, .i hi, .i sw, .l cs] => Pre (Sp.TourOk pl.xs sh.xs ti.xs st.xs l.xs time /\ Sp.TourAt l.xs i me lo hi sw)
   (K 0 [.i to_, .i (Sp.sumF (Sp.gMe st.xs l.xs) i.toNat (l.xs.length - i.toNat) me), .i (Sp.sumF (Sp.gLo st.xs l.xs) i.toNat (l.xs.length - i.toNat) lo), .i (Sp.sumF (Sp.gHi st.xs l.xs) i.toNat (l.xs.length - i.toNat) hi), .i (Sp.orF (Sp.shT st.xs l.xs time.toNat) i.toNat (l.xs.length - i.toNat) sw), .l cs])
 | _ => False
noncomputable def T26 : Tab Try.prog := ⟨[Xqn], [], []⟩
noncomputable def Xct : LC where
 len := 111
 T := [(2, .int .i64), (3, .rs Xd), (4, (.ptr 1 0)), (8, (.ptr 7 0)), (14, .int .i64), (15, (.ptr 4 0)), (16, .int .i64)]
 H := [(1, .blk 25 [.rs Jb, .rs Jb, .rs Jb, .rs Jd]), (4, .blk 93 [(.row 13), .int .i64, .int .i64, .int .i64, .int .i64]), (13, .arr 91 Xd), (7, .blk 93 [(.lit (.slice none 0 0)), (.lit (.int .i64 0)), (.lit (.int .i64 0)), (.lit (.int .i64 0)), (.lit (.int .i64 0))])]
 W := [17, 63, 64, 65, 66, 67, 68, 69, 70, 71, 72, 73, 74, 75, 76, 77, 78, 79, 80, 81, 82, 83, 84, 85, 86, 87, 88, 89, 90, 91, 92, 93, 94, 95, 96, 97, 98, 99, 100, 101, 102, 103, 104, 105, 106, 107, 108]
 outs := [⟨.exit 0, [(8, (.ptr 7 0)), (14, .int .i64), (15, (.ptr 4 0))], [(4, .blk 93 [(.row 13), .int .i64, .int .i64, .int .i64, .int .i64]), (13, .arr 91 Xd), (7, .blk 93 [(.lit (.slice none 0 0)), (.lit (.int .i64 0)), (.lit (.int .i64 0)), (.lit (.int .i64 0)), (.lit (.int .i64 0))])], [2, 3, 4, 16, 17, 63, 64, 65, 66, 67, 68, 69, 70, 71, 72, 73, 74, 75, 76, 77, 78, 79, 80, 81, 82, 83, 84, 85, 86, 87, 88, 89, 90, 91, 92, 93, 94, 95, 96, 97, 98, 99, 100, 101, 102, 103, 104, 105, 106, 107, 108]⟩]
 spec := Xcm
def Zv [W : InW] (l : Ro Xd) (i : Int) := cel l.xs i.toNat (0 : Nat)
def Zw := (0+1+1+1+1+1+1 : Nat)
def Xd9 [W : InW] (time : Int) (l : Ro Xd) (to_ i : Int) (pl sh ti : Ro Jb) (st : Ro Jd) (me lo hi sw : Int) (cs : Dt) (A : List Ed -> Prop) (K : Nat -> List Ed -> Prop) : Prop :=
 Vif (decide (i < (↑(l.xs.length) : Int))) (Need (decide (Za <= i) && decide (i < (↑(l.xs.length) : Int))) (Need (decide (i.toNat < l.xs.length)) (Need (decide (Za <= (Zv l i).int) && decide ((Zv l i).int < (↑(st.xs.length) : Int))) (Need (decide ((Zv l i).int.toNat < st.xs.length)) (Ar .i64 (me + (cel st.xs (Zv l i).int.toNat (0+1+1 : Nat)).int) fun z => Ar .i64 (lo + (cel st.xs (Zv l i).int.toNat (0+1+1+1 : Nat)).int) fun z_1 => Ar .i64 (hi + (cel st.xs (Zv l i).int.toNat (0+1+1+1+1 : Nat)).int) fun z_2 => Need (decide (Za <= time) && decide (time < (↑(List.length (cel st.xs (Zv l i).int.toNat Zw).lst) : Int))) (Need (decide (time.toNat < List.length (cel st.xs (Zv l i).int.toNat Zw).lst)) (Pre ((Za <= sw /\ sw <= (1048576 : Int)) /\ Za <= (cel (cel st.xs (Zv l i).int.toNat Zw).lst time.toNat (0 : Nat)).int /\ (cel (cel st.xs (Zv l i).int.toNat Zw).lst time.toNat (0 : Nat)).int <= (1048576 : Int)) (Ar .i64 (i + (1 : Int)) fun z_3 => A [.i time, .ro _ l, .i to_, .i z_3, .ro _ pl, .ro _ sh, .ro _ ti, .ro Zc st, .i z, .i z_1, .i z_2, .i (Sp.unF sw (cel (cel st.xs (Zv l i).int.toNat Zw).lst time.toNat (0 : Nat)).int (0 : Nat) (6 : Nat) Za), .l cs])))))))) (K (0 : Nat) [.i to_, .i me, .i lo, .i hi, .i sw, .l cs])
theorem Xmu (W : InW) (time l to_ i pl sh ti st me lo hi sw cs A K) : Yer { cxT Try.prog TT T26 1000 50 with fn := 41 } 1000 (Yl5 Try.prog 41 12) (Ydl 111 [(2, .si .i64 time), (3, .rs _ l), (4, .ptr 1 0), (8, .ptr 7 0), (14, .si .i64 to_), (15, .ptr 4 0), (16, .si .i64 i)] [17, 63, 64, 65, 66, 67, 68, 69, 70, 71, 72, 73, 74, 75, 76, 77, 78, 79, 80, 81, 82, 83, 84, 85, 86, 87, 88, 89, 90, 91, 92, 93, 94, 95, 96, 97, 98, 99, 100, 101, 102, 103, 104, 105, 106, 107, 108]) [(1, .blk 25 [.rs _ pl, .rs _ sh, .rs _ ti, .rs _ st]), (4, .blk 93 [.rw 13, .si .i64 me, .si .i64 lo, .si .i64 hi, .si .i64 sw]), (13, .arr 91 Xd cs), (7, .blk 93 [.v (.slice none 0 0), .v (.int .i64 0), .v (.int .i64 0), .v (.int .i64 0), .v (.int .i64 0)])] (Yrh Xct A K) = Xd9 time l to_ i pl sh ti st me lo hi sw cs A K := by kernel_rfl
def Xep : Prop := ∀ (W : InW) (body a : Code), (Try.prog.funcs[41]?).bind (·.body) = some body -> a ∈ Ys body -> Ye9 a = 12 -> @Yk2 W Try.prog a (@Yqt W Xct)
theorem Xn8 (meas : [InW] -> List Ed -> Nat) (hyp_ : ∀ (W : InW) (time : Int) (l : Ro Xd) (to_ i : Int) (pl sh ti : Ro Jb) (st : Ro Jd) (me lo hi sw : Int) (cs : Dt) (K : Nat -> List Ed -> Prop), Xcm [.i time, .ro _ l, .i to_, .i i, .ro _ pl, .ro _ sh, .ro _ ti, .ro _ st, .i me, .i lo, .i hi, .i sw, .l cs] K -> ∀ A : List Ed -> Prop, (∀ e, meas e < meas [.i time, .ro _ l, .i to_, .i i, .ro _ pl, .ro _ sh, .ro _ ti, .ro _ st, .i me, .i lo, .i hi, .i sw, .l cs] -> Xcm e K -> A e) -> Xd9 time l to_ i pl sh ti st me lo hi sw cs A K) : Xep :=
 LE.okOf' (fun W => @TT W) (fun W => @Xb W) Xa T26 1000 50 (by kernel_rfl) Xct (fun W => @meas W) fun W time l to_ i pl sh ti st me lo hi sw cs K hs =>
  (Xmu W time l to_ i pl sh ti st me lo hi sw cs (fun e => meas e < meas [.i time, .ro _ l, .i to_, .i i, .ro _ pl, .ro _ sh, .ro _ ti, .ro _ st, .i me, .i lo, .i hi, .i sw, .l cs] /\ Xcm e K) K).mpr (hyp_ W time l to_ i pl sh ti st me lo hi sw cs K hs _ fun e h1 h2 => ⟨h1, h2⟩)
theorem Xsg : Xep := Xn8 (fun e => match e with | _ :: .ro _ l :: _ :: .i i :: _ => ((l.xs.length : Int) - i).toNat | _ => 0) fun W time l to_ i pl sh ti st me lo hi sw cs K hs A hA => by
 obtain ⟨⟨hT, hI⟩, hk⟩ := hs;unfold Xd9;delta Za Zw Zv Zc;have h0 := hI.i0;have h1 := hI.i1;have hln := hT.ln;have t0 := hT.ti0;have t1 := hT.ti1;refine vifd (fun e => ?_) fun e => ?_
 ·rw [show l.xs.length - i.toNat = (l.xs.length - (i.toNat + 1)) + 1 by omega] at hk;simp only [Sp.sumF, Sp.orF] at hk;obtain ⟨g1, g2, g3⟩ := Xet hT (k := i.toNat) (by omega);have u := Sp.un_or hI.sw.1 hI.sw.2 g3.1 g3.2;have ez : (i + 1).toNat = i.toNat + 1 := by omega
  have hme := hI.me;have hlo := hI.lo;have hhi := hI.hi;have hsw := hI.sw;have gme := g1.me;have glo := g1.lo;have ghi := g1.hi;have glen := g1.len;have hA' : ∀ a b c d, a = me + Sp.gMe st.xs l.xs i.toNat -> b = lo + Sp.gLo st.xs l.xs i.toNat -> c = hi + Sp.gHi st.xs l.xs i.toNat -> d = Sp.unF sw (Sp.shT st.xs l.xs time.toNat i.toNat) 0 6 0 -> A [.i time, .ro _ l, .i to_, .i (i + 1), .ro _ pl, .ro _ sh, .ro _ ti, .ro _ st, .i a, .i b, .i c, .i d, .l cs] := fun a b c d ha hb hc hd => hA _ (by show ((l.xs.length : Int) - (i + 1)).toNat < ((l.xs.length : Int) - i).toNat; omega) ⟨⟨hT, ⟨by omega, by omega, by simp only [Sp.gMe] at ha; omega, by simp only [Sp.gLo] at hb; omega, by simp only [Sp.gHi] at hc; omega, by rw [hd]; exact u.2.1⟩⟩, by rw [ez, ha, hb, hc, hd]; exact hk⟩;clear hA hk u;simp only [Sp.gMe, Sp.gLo, Sp.gHi, Sp.sMe, Sp.sLo, Sp.sHi, Sp.sSh, Sp.shT, Sp.xS] at *;simp only [Nat.zero_add, Nat.reduceAdd]
  repeat' (first | omega | with_reducible refine vifd (fun _ => ?_) fun _ => ?_ | with_reducible refine vifn (fun _ => ?_) fun _ => ?_ | with_reducible refine vifq (fun _ => ?_) fun _ => ?_ | with_reducible refine vifq0 (fun _ => ?_) fun _ => ?_ | with_reducible refine vifq1 (fun _ => ?_) fun _ => ?_ | with_reducible refine vifb (fun _ => ?_) fun _ => ?_ | with_reducible refine vif (fun _ => ?_) fun _ => ?_ | (with_reducible refine nedd ?_ ?_; omega) | (with_reducible refine ned ?_ ?_; simp only [Bool.and_eq_true, decide_eq_true_eq]; omega) | (with_reducible refine ar64 ?_ ?_; omega) | (with_reducible refine Xf ?_ ?_; (first | trivial | omega | assumption | (refine ⟨?_, ?_⟩ <;> first | trivial | omega | assumption) | (refine ⟨?_, ?_, ?_⟩ <;> first | trivial | omega | assumption) | (refine ⟨?_, ?_, ?_, ?_⟩ <;> first | trivial | omega | assumption))))
  all_goals first | exact hA' _ _ _ _ rfl rfl rfl rfl | skip
  all_goals trace_state
 ·rw [show l.xs.length - i.toNat = 0 by omega] at hk;exact hk
noncomputable def Xsl : LE Try.prog := ⟨41, 12, fun W => @Yqt W Xct, Xsg⟩
noncomputable def T27 : Tab Try.prog := ⟨[Xhm, Xel, Xhl], [Xsl], []⟩
def Zx [W : InW] (t_Pl t_Sh t_Ti : Ro Jb) (t_St : Ro Jd) (p time : Int) (l : Ro Xd) (Q : DS -> Prop) := Vif (!decide (Sp.tchkE t_Pl.xs t_Sh.xs t_Ti.xs t_St.xs = Za)) (Q [Zu, [Cl.i Za], [Cl.i (Sp.tchkE t_Pl.xs t_Sh.xs t_Ti.xs t_St.xs)]]) (Pre True (Vif (!decide (Sp.stepsE t_St.xs l.xs p = Za)) (Q [Zu, [Cl.i Za], [Cl.i (Sp.stepsE t_St.xs l.xs p)]]) (Need (decide (((0 : Nat) + l.xs.length) * (16 : Nat) <= (140737488355328 : Nat))) (Pre (Sp.TourOk t_Pl.xs t_Sh.xs t_Ti.xs t_St.xs l.xs time /\ Sp.TourAt l.xs Za Za Za Za Za) (Q [[Cl.l l.xs, Cl.i (Sp.sumF (Sp.gMe t_St.xs l.xs) Zg (l.xs.length - Int.toNat Za) Za), Cl.i (Sp.sumF (Sp.gLo t_St.xs l.xs) Zg (l.xs.length - Int.toNat Za) Za), Cl.i (Sp.sumF (Sp.gHi t_St.xs l.xs) Zg (l.xs.length - Int.toNat Za) Za), Cl.i (Sp.orF (Sp.shT t_St.xs l.xs time.toNat) Zg (l.xs.length - Int.toNat Za) Za)], [Cl.i (Sp.stepsT t_St.xs l.xs p)], [Cl.i Za]])))))
def Xdw [W : InW] (t_Pl t_Sh t_Ti : Ro Jb) (t_St : Ro Jd) (p time : Int) (l : Ro Xd) (Q : DS -> Prop) : Prop :=
 Pre (Sp.NamesOk t_Pl.xs /\ Sp.NamesOk t_Sh.xs /\ Sp.NamesOk t_Ti.xs) (Vif (decide (Sp.tchkE t_Pl.xs t_Sh.xs t_Ti.xs t_St.xs = Za)) (Ar .i64 ((↑(t_Pl.xs.length) : Int) - (1 : Int)) fun z => Pre True (Vif (!Sp.inr p Za z) (Q [Zu, [Cl.i Za], [Cl.i (4 : Int)]]) (Ar .i64 ((↑(t_Ti.xs.length) : Int) - (1 : Int)) fun z => Pre True (Vif (!Sp.inr time Za z) (Q [Zu, [Cl.i Za], [Cl.i (4 : Int)]]) (Zx t_Pl t_Sh t_Ti t_St p time l Q))))) (Zx t_Pl t_Sh t_Ti t_St p time l Q))
theorem Xm4 (W : InW) (t_Pl t_Sh t_Ti t_St p time l Q) : Yte (cxT Try.prog TT T27 1000 50) 1000 41 [.agg [.rs _ t_Pl, .rs _ t_Sh, .rs _ t_Ti, .rs _ t_St], .si .i64 p, .si .i64 time, .rs _ l] [] 0 (Ywt Xl Q) (fun _ _ _ _ => Stuck 421) = Xdw t_Pl t_Sh t_Ti t_St p time l Q := by kernel_rfl
abbrev Xbz : List AT := [.agg [.sl Jb, .sl Jb, .sl Jb, .sl Jd], .one (.int .i64), .one (.int .i64), .one (.sl Xd)]
theorem Xoj {pre : DS -> Prop} {res : DS -> DS} (hyp_ : ∀ (W : InW) (t_Pl t_Sh t_Ti : Ro Jb) (t_St : Ro Jd) (p time : Int) (l : Ro Xd), pre [[.l t_Pl.xs, .l t_Sh.xs, .l t_Ti.xs, .l t_St.xs], [.i p], [.i time], [.l l.xs]] -> ∀ Q : DS -> Prop, Q (res [[.l t_Pl.xs, .l t_Sh.xs, .l t_Ti.xs, .l t_St.xs], [.i p], [.i time], [.l l.xs]]) -> Xdw t_Pl t_Sh t_Ti t_St p time l Q) : PureOk Try.prog 41 Xbz Xl pre res :=
 PureOk.of' (fun W => @TT W) (fun W => @Xb W) Xa T27 1000 50 fun W t_Pl t_Sh t_Ti t_St p time l hp =>
  (Xm4 W t_Pl t_Sh t_Ti t_St p time l (fun o => o = res [[.l t_Pl.xs, .l t_Sh.xs, .l t_Ti.xs, .l t_St.xs], [.i p], [.i time], [.l l.xs]])).mpr (hyp_ W t_Pl t_Sh t_Ti t_St p time l hp _ rfl)
theorem Xq6 : PureOk Try.prog 41 Xbz Xl Xbh Xbf :=
 Xoj fun W pl sh ti st p time l hp Q h => by
  unfold Xdw;delta Zx Zg Zu Za;have hpl := pl.len;have hti := ti.len;simp only [maxLen] at hpl hti;have hp : Sp.NamesOk pl.xs /\ Sp.NamesOk sh.xs /\ Sp.NamesOk ti.xs := hp;obtain ⟨q0, q1, q2, q3⟩ := Xic (Q := fun a b c d e f g => Q [[.l a, .i b, .i c, .i d, .i e], [.i f], [.i g]]) h;clear h;have hA0 : Sp.TourAt l.xs 0 0 0 0 0 := ⟨by omega, by omega, by omega, by omega, by omega, by omega⟩
  try simp only [show Int.toNat 0 = 0 from rfl, Nat.sub_zero]
  repeat' (first | omega | with_reducible refine vifd (fun _ => ?_) fun _ => ?_ | with_reducible refine vifn (fun _ => ?_) fun _ => ?_ | with_reducible refine vifq (fun _ => ?_) fun _ => ?_ | with_reducible refine vifq0 (fun _ => ?_) fun _ => ?_ | with_reducible refine vifq1 (fun _ => ?_) fun _ => ?_ | with_reducible refine vifb (fun _ => ?_) fun _ => ?_ | with_reducible refine vif (fun _ => ?_) fun _ => ?_ | (with_reducible refine nedd ?_ ?_; omega) | (with_reducible refine ned ?_ ?_; simp only [Bool.and_eq_true, decide_eq_true_eq]; omega) | (with_reducible refine ar64 ?_ ?_; omega) | (with_reducible refine Xf ?_ ?_; (first | trivial | omega | assumption | (refine ⟨?_, ?_⟩ <;> first | trivial | omega | assumption) | (refine ⟨?_, ?_, ?_⟩ <;> first | trivial | omega | assumption) | (refine ⟨?_, ?_, ?_, ?_⟩ <;> first | trivial | omega | assumption))))
  all_goals first | contradiction | exact q0 (by assumption) | exact q1 (by assumption) (.inl (by assumption)) | exact q1 (by assumption) (.inr (by assumption)) | exact q2 (by assumption) (by assumption) (by assumption) (by assumption) | (have g := q3 (by assumption) (by assumption) (by assumption) (by assumption); exact ⟨g.1, g.2⟩) | (have g := q3 (by assumption) (by assumption) (by assumption) (by assumption); have gl := g.1.ln; exact nedd (by omega) ⟨⟨g.1, hA0⟩, g.2⟩) | skip
noncomputable def Xnu : PC Try.prog := ⟨41, Xbz, Xl, Xbh, Xbf, Xq6⟩
open Go.RowKit
set_option maxRecDepth 100000
set_option maxHeartbeats 1600000
abbrev Xk : List Ty := [.int .i64, .int .i64, .int .i64, .int .i64]
abbrev tyRt : List Ty := [.sl Jf]
namespace Sp
def hrdE (ba pe lo hi : Int) : Int := if inr ba 0 1000 && (inr pe 0 100 && (inr lo 0 100 && inr hi 0 100)) then (if hi < lo then 2 else 0) else 7
def routeE (st l : Dt) (ce : Int) : Int := if inr l.length 1 60 then (if stepsE st l ce = 0 then (if stepsT st l ce = ce then 0 else 9) else stepsE st l ce) else 3
end Sp
noncomputable def T31 : Tab Try.prog := ⟨[Xem, Xp, Xhl], [], []⟩
def Xi3 [W : InW] (h_Ba h_Pe h_Lo h_Hi : Int) (Q : DS -> Prop) : Prop :=
 Pre True (Vif (!Sp.inr h_Ba Za (1000 : Int)) (Q [[Cl.i (7 : Int)]]) (Pre True (Vif (!Sp.inr h_Pe Za (100 : Int)) (Q [[Cl.i (7 : Int)]]) (Pre True (Vif (!Sp.inr h_Lo Za (100 : Int)) (Q [[Cl.i (7 : Int)]]) (Pre True (Vif (!Sp.inr h_Hi Za (100 : Int)) (Q [[Cl.i (7 : Int)]]) (Vif (decide (h_Hi < h_Lo)) (Q [[Cl.i (2 : Int)]]) (Q [[Cl.i Za]])))))))))
theorem Xuf (W : InW) (h_Ba h_Pe h_Lo h_Hi Q) : Yte (cxT Try.prog TT T31 1000 50) 1000 72 [.agg [.si .i64 h_Ba, .si .i64 h_Pe, .si .i64 h_Lo, .si .i64 h_Hi]] [] 0 (Ywt [(false, [.int .i64])] Q) (fun _ _ _ _ => Stuck 421) = Xi3 h_Ba h_Pe h_Lo h_Hi Q := by kernel_rfl
abbrev Xga : List AT := [.agg [.int .i64, .int .i64, .int .i64, .int .i64]]
theorem Xv2 {pre : DS -> Prop} {res : DS -> DS} (hyp_ : ∀ (W : InW) (h_Ba h_Pe h_Lo h_Hi : Int), pre [[.i h_Ba, .i h_Pe, .i h_Lo, .i h_Hi]] -> ∀ Q : DS -> Prop, Q (res [[.i h_Ba, .i h_Pe, .i h_Lo, .i h_Hi]]) -> Xi3 h_Ba h_Pe h_Lo h_Hi Q) : PureOk Try.prog 72 Xga [(false, [.int .i64])] pre res :=
 PureOk.of' (fun W => @TT W) (fun W => @Xb W) Xa T31 1000 50 fun W h_Ba h_Pe h_Lo h_Hi hp =>
  (Xuf W h_Ba h_Pe h_Lo h_Hi (fun o => o = res [[.i h_Ba, .i h_Pe, .i h_Lo, .i h_Hi]])).mpr (hyp_ W h_Ba h_Pe h_Lo h_Hi hp _ rfl)
def Xdq [W : InW] (h_Ba h_Pe h_Lo h_Hi : Int) (Q : DS -> Prop) : Prop :=
 Pre True (Vif (Sp.out Za (1000 : Int) [[Cl.i h_Ba]]) (Q [[Cl.i (7 : Int)]]) (Pre True (Vif (Sp.out Za (100 : Int) [[Cl.i h_Pe]]) (Q [[Cl.i (7 : Int)]]) (Pre True (Vif (Sp.out Za (100 : Int) [[Cl.i h_Lo], [Cl.i h_Hi]]) (Q [[Cl.i (7 : Int)]]) (Vif (decide (h_Hi < h_Lo)) (Q [[Cl.i (2 : Int)]]) (Q [[Cl.i Za]])))))))
theorem Xmy (W : InW) (h_Ba h_Pe h_Lo h_Hi Q) : Yte (cxT Try.prog TT T31 1000 50) 1000 88 [.agg [.si .i64 h_Ba, .si .i64 h_Pe, .si .i64 h_Lo, .si .i64 h_Hi]] [] 0 (Ywt [(false, [.int .i64])] Q) (fun _ _ _ _ => Stuck 421) = Xdq h_Ba h_Pe h_Lo h_Hi Q := by kernel_rfl
abbrev Xbt : List AT := [.agg [.int .i64, .int .i64, .int .i64, .int .i64]]
theorem Xod {pre : DS -> Prop} {res : DS -> DS} (hyp_ : ∀ (W : InW) (h_Ba h_Pe h_Lo h_Hi : Int), pre [[.i h_Ba, .i h_Pe, .i h_Lo, .i h_Hi]] -> ∀ Q : DS -> Prop, Q (res [[.i h_Ba, .i h_Pe, .i h_Lo, .i h_Hi]]) -> Xdq h_Ba h_Pe h_Lo h_Hi Q) : PureOk Try.prog 88 Xbt [(false, [.int .i64])] pre res :=
 PureOk.of' (fun W => @TT W) (fun W => @Xb W) Xa T31 1000 50 fun W h_Ba h_Pe h_Lo h_Hi hp =>
  (Xmy W h_Ba h_Pe h_Lo h_Hi (fun o => o = res [[.i h_Ba, .i h_Pe, .i h_Lo, .i h_Hi]])).mpr (hyp_ W h_Ba h_Pe h_Lo h_Hi hp _ rfl)
abbrev Xz (ds : DS) : DS := match ds with | [[.i ba, .i pe, .i lo, .i hi]] => [[.i (Sp.hrdE ba pe lo hi)]] | _ => []
theorem Xxu : PureOk Try.prog 72 Xga [(false, [.int .i64])] (fun _ => True) Xz :=
 Xv2 fun W ba pe lo hi hp Q h => by
  unfold Xi3;delta Za;simp only [Xz, Sp.hrdE] at h
  repeat' (first | omega | with_reducible refine vifd (fun _ => ?_) fun _ => ?_ | with_reducible refine vifn (fun _ => ?_) fun _ => ?_ | with_reducible refine vifq (fun _ => ?_) fun _ => ?_ | with_reducible refine vifq0 (fun _ => ?_) fun _ => ?_ | with_reducible refine vifq1 (fun _ => ?_) fun _ => ?_ | with_reducible refine vifb (fun _ => ?_) fun _ => ?_ | with_reducible refine vif (fun _ => ?_) fun _ => ?_ | (with_reducible refine nedd ?_ ?_; omega) | (with_reducible refine ned ?_ ?_; simp only [Bool.and_eq_true, decide_eq_true_eq]; omega) | (with_reducible refine ar64 ?_ ?_; omega) | (with_reducible refine Xf ?_ ?_; (first | trivial | omega | assumption | (refine ⟨?_, ?_⟩ <;> first | trivial | omega | assumption) | (refine ⟨?_, ?_, ?_⟩ <;> first | trivial | omega | assumption) | (refine ⟨?_, ?_, ?_, ?_⟩ <;> first | trivial | omega | assumption))))
  all_goals ((repeat' split at h) <;> first | exact h | omega | (simp_all; done) | (simp_all; omega))
theorem Xq0 : PureOk Try.prog 88 Xbt [(false, [.int .i64])] (fun _ => True) Xz :=
 Xod fun W ba pe lo hi hp Q h => by
  unfold Xdq;delta Za;simp only [Xz, Sp.hrdE] at h;simp only [out1, out2]
  repeat' (first | omega | with_reducible refine vifd (fun _ => ?_) fun _ => ?_ | with_reducible refine vifn (fun _ => ?_) fun _ => ?_ | with_reducible refine vifq (fun _ => ?_) fun _ => ?_ | with_reducible refine vifq0 (fun _ => ?_) fun _ => ?_ | with_reducible refine vifq1 (fun _ => ?_) fun _ => ?_ | with_reducible refine vifb (fun _ => ?_) fun _ => ?_ | with_reducible refine vif (fun _ => ?_) fun _ => ?_ | (with_reducible refine nedd ?_ ?_; omega) | (with_reducible refine ned ?_ ?_; simp only [Bool.and_eq_true, decide_eq_true_eq]; omega) | (with_reducible refine ar64 ?_ ?_; omega) | (with_reducible refine Xf ?_ ?_; (first | trivial | omega | assumption | (refine ⟨?_, ?_⟩ <;> first | trivial | omega | assumption) | (refine ⟨?_, ?_, ?_⟩ <;> first | trivial | omega | assumption) | (refine ⟨?_, ?_, ?_, ?_⟩ <;> first | trivial | omega | assumption))))
  all_goals ((repeat' split at h) <;> first | exact h | omega | (simp_all; done) | (simp_all; omega))
noncomputable def Xuo : PC Try.prog := ⟨72, Xga, [(false, [.int .i64])], fun _ => True, Xz, Xxu⟩
noncomputable def Xnr : PC Try.prog := ⟨88, Xbt, [(false, [.int .i64])], fun _ => True, Xz, Xq0⟩
def Xgc [W : InW] (c_Pl c_Sh c_Ti : Ro Jb) (c_St : Ro Jd) (c_Ce : Int) (c_Hd : Ro Xk) (c_Rt : Ro tyRt) (l : Ro Jf) (Q : DS -> Prop) : Prop :=
 Pre True (Vif (!Sp.inr (↑(l.xs.length) : Int) (1 : Int) (60 : Int)) (Q [[Cl.i (3 : Int)]]) (Pre True (Vif (decide (Sp.stepsE c_St.xs l.xs c_Ce = (0 : Int))) (Vif (!decide (Sp.stepsT c_St.xs l.xs c_Ce = c_Ce)) (Q [[Cl.i (9 : Int)]]) (Q [[Cl.i (Sp.stepsE c_St.xs l.xs c_Ce)]])) (Q [[Cl.i (Sp.stepsE c_St.xs l.xs c_Ce)]]))))
theorem Xp4 (W : InW) (c_Pl c_Sh c_Ti c_St c_Ce c_Hd c_Rt l Q) : Yte (cxT Try.prog TT T31 1000 50) 1000 73 [.agg [.rs _ c_Pl, .rs _ c_Sh, .rs _ c_Ti, .rs _ c_St, .si .i64 c_Ce, .rs _ c_Hd, .rs _ c_Rt], .rs _ l] [] 0 (Ywt [(false, [.int .i64])] Q) (fun _ _ _ _ => Stuck 421) = Xgc c_Pl c_Sh c_Ti c_St c_Ce c_Hd c_Rt l Q := by kernel_rfl
abbrev Xde : List AT := [.agg [.sl Jb, .sl Jb, .sl Jb, .sl Jd, .int .i64, .sl Xk, .sl tyRt], .one (.sl Jf)]
theorem Xr2 {pre : DS -> Prop} {res : DS -> DS} (hyp_ : ∀ (W : InW) (c_Pl c_Sh c_Ti : Ro Jb) (c_St : Ro Jd) (c_Ce : Int) (c_Hd : Ro Xk) (c_Rt : Ro tyRt) (l : Ro Jf), pre [[.l c_Pl.xs, .l c_Sh.xs, .l c_Ti.xs, .l c_St.xs, .i c_Ce, .l c_Hd.xs, .l c_Rt.xs], [.l l.xs]] -> ∀ Q : DS -> Prop, Q (res [[.l c_Pl.xs, .l c_Sh.xs, .l c_Ti.xs, .l c_St.xs, .i c_Ce, .l c_Hd.xs, .l c_Rt.xs], [.l l.xs]]) -> Xgc c_Pl c_Sh c_Ti c_St c_Ce c_Hd c_Rt l Q) : PureOk Try.prog 73 Xde [(false, [.int .i64])] pre res :=
 PureOk.of' (fun W => @TT W) (fun W => @Xb W) Xa T31 1000 50 fun W c_Pl c_Sh c_Ti c_St c_Ce c_Hd c_Rt l hp =>
  (Xp4 W c_Pl c_Sh c_Ti c_St c_Ce c_Hd c_Rt l (fun o => o = res [[.l c_Pl.xs, .l c_Sh.xs, .l c_Ti.xs, .l c_St.xs, .i c_Ce, .l c_Hd.xs, .l c_Rt.xs], [.l l.xs]])).mpr (hyp_ W c_Pl c_Sh c_Ti c_St c_Ce c_Hd c_Rt l hp _ rfl)
abbrev Xc2 (ds : DS) : DS := match ds with | [[.l _, .l _, .l _, .l st, .i ce, .l _, .l _], [.l l]] => [[.i (Sp.routeE st l ce)]] | _ => []
theorem Xur : PureOk Try.prog 73 Xde [(false, [.int .i64])] (fun _ => True) Xc2 :=
 Xr2 fun W pl sh ti st ce hd rt l hp Q h => by
  unfold Xgc;simp only [Xc2, Sp.routeE] at h
  repeat' (first | omega | with_reducible refine vifd (fun _ => ?_) fun _ => ?_ | with_reducible refine vifn (fun _ => ?_) fun _ => ?_ | with_reducible refine vifq (fun _ => ?_) fun _ => ?_ | with_reducible refine vifq0 (fun _ => ?_) fun _ => ?_ | with_reducible refine vifq1 (fun _ => ?_) fun _ => ?_ | with_reducible refine vifb (fun _ => ?_) fun _ => ?_ | with_reducible refine vif (fun _ => ?_) fun _ => ?_ | (with_reducible refine nedd ?_ ?_; omega) | (with_reducible refine ned ?_ ?_; simp only [Bool.and_eq_true, decide_eq_true_eq]; omega) | (with_reducible refine ar64 ?_ ?_; omega) | (with_reducible refine Xf ?_ ?_; (first | trivial | omega | assumption | (refine ⟨?_, ?_⟩ <;> first | trivial | omega | assumption) | (refine ⟨?_, ?_, ?_⟩ <;> first | trivial | omega | assumption) | (refine ⟨?_, ?_, ?_, ?_⟩ <;> first | trivial | omega | assumption))))
  all_goals ((repeat' split at h) <;> first | exact h | omega | (simp_all; done) | (simp_all; omega))
noncomputable def Xqo : PC Try.prog := ⟨73, Xde, [(false, [.int .i64])], fun _ => True, Xc2, Xur⟩
noncomputable def T32 : Tab Try.prog := ⟨[Xuo, Xqo], [], []⟩
def Xj2 [InW] (e : List Ed) (K : Nat -> List Ed -> Prop) : Prop := match e with
 | [.i i, .ro _ pl, .ro _ sh, .ro _ ti, .ro _ st, .i ce, .ro _ hd, .ro _ rt] => Pre (0 <= i /\ i <= hd.xs.length) (Vif (Sp.hasE (Sp.hdErr hd.xs) i.toNat (hd.xs.length - i.toNat))
   (K 1 [.i (Sp.idxE (Sp.hdErr hd.xs) i.toNat (hd.xs.length - i.toNat)), .i (Sp.hdErr hd.xs (Sp.idxE (Sp.hdErr hd.xs) i.toNat (hd.xs.length - i.toNat)))]) (K 0 [.ro _ pl, .ro _ sh, .ro _ ti, .ro _ st, .i ce, .ro _ hd, .ro _ rt]))
 | _ => False
noncomputable def Xlt : LC where
 len := 86
 T := [(1, (.ptr 1 0)), (8, .int .i64)]
 H := [(1, .blk 29 [.rs Jb, .rs Jb, .rs Jb, .rs Jd, .int .i64, .rs Xk, .rs tyRt])]
 W := [2, 3, 4, 7, 51, 52, 53, 54, 55, 56, 57, 58, 59, 60, 61, 62, 63, 64, 65, 66, 67]
 outs := [⟨.exit 0, [(1, (.ptr 1 0))], [(1, .blk 29 [.rs Jb, .rs Jb, .rs Jb, .rs Jd, .int .i64, .rs Xk, .rs tyRt])], [2, 3, 4, 7, 8, 51, 52, 53, 54, 55, 56, 57, 58, 59, 60, 61, 62, 63, 64, 65, 66, 67]⟩, ⟨.ret, [(2, (.lit (.int .i64 2))), (3, .int .i64), (4, .int .i64)], [], [1, 7, 8, 51, 52, 53, 54, 55, 56, 57, 58, 59, 60, 61, 62, 63, 64, 65, 66, 67]⟩]
 spec := Xj2
def Xjb [W : InW] (i : Int) (pl sh ti : Ro Jb) (st : Ro Jd) (ce : Int) (hd : Ro Xk) (rt : Ro tyRt) (A : List Ed -> Prop) (K : Nat -> List Ed -> Prop) : Prop :=
 Vif (decide (i < (↑(hd.xs.length) : Int))) (Need (decide ((0 : Int) <= i) && decide (i < (↑(hd.xs.length) : Int))) (Need (decide (i.toNat < hd.xs.length)) (Pre True (Vif (!decide (Sp.hrdE (cel hd.xs i.toNat (0 : Nat)).int (cel hd.xs i.toNat (0+1 : Nat)).int (cel hd.xs i.toNat (0+1+1 : Nat)).int (cel hd.xs i.toNat (0+1+1+1 : Nat)).int = (0 : Int))) (K (0+1 : Nat) [.i i, .i (Sp.hrdE (cel hd.xs i.toNat (0 : Nat)).int (cel hd.xs i.toNat (0+1 : Nat)).int (cel hd.xs i.toNat (0+1+1 : Nat)).int (cel hd.xs i.toNat (0+1+1+1 : Nat)).int)]) (Ar .i64 (i + (1 : Int)) fun z => A [.i z, .ro _ pl, .ro _ sh, .ro _ ti, .ro Zc st, .i ce, .ro _ hd, .ro [Ty.sl [Ty.int IntKind.i64, Ty.bool]] rt]))))) (K (0 : Nat) [.ro _ pl, .ro _ sh, .ro _ ti, .ro Zc st, .i ce, .ro _ hd, .ro [Ty.sl [Ty.int IntKind.i64, Ty.bool]] rt])
theorem Xto (W : InW) (i pl sh ti st ce hd rt A K) : Yer { cxT Try.prog TT T32 1000 50 with fn := 43 } 1000 (Yl5 Try.prog 43 10) (Ydl 86 [(1, .ptr 1 0), (8, .si .i64 i)] [2, 3, 4, 7, 51, 52, 53, 54, 55, 56, 57, 58, 59, 60, 61, 62, 63, 64, 65, 66, 67]) [(1, .blk 29 [.rs _ pl, .rs _ sh, .rs _ ti, .rs _ st, .si .i64 ce, .rs _ hd, .rs _ rt])] (Yrh Xlt A K) = Xjb i pl sh ti st ce hd rt A K := by kernel_rfl
def Xk5 : Prop := ∀ (W : InW) (body a : Code), (Try.prog.funcs[43]?).bind (·.body) = some body -> a ∈ Ys body -> Ye9 a = 10 -> @Yk2 W Try.prog a (@Yqt W Xlt)
theorem Xu9 (meas : [InW] -> List Ed -> Nat) (hyp_ : ∀ (W : InW) (i : Int) (pl sh ti : Ro Jb) (st : Ro Jd) (ce : Int) (hd : Ro Xk) (rt : Ro tyRt) (K : Nat -> List Ed -> Prop), Xj2 [.i i, .ro _ pl, .ro _ sh, .ro _ ti, .ro _ st, .i ce, .ro _ hd, .ro _ rt] K -> ∀ A : List Ed -> Prop, (∀ e, meas e < meas [.i i, .ro _ pl, .ro _ sh, .ro _ ti, .ro _ st, .i ce, .ro _ hd, .ro _ rt] -> Xj2 e K -> A e) -> Xjb i pl sh ti st ce hd rt A K) : Xk5 :=
 LE.okOf' (fun W => @TT W) (fun W => @Xb W) Xa T32 1000 50 (by kernel_rfl) Xlt (fun W => @meas W) fun W i pl sh ti st ce hd rt K hs =>
  (Xto W i pl sh ti st ce hd rt (fun e => meas e < meas [.i i, .ro _ pl, .ro _ sh, .ro _ ti, .ro _ st, .i ce, .ro _ hd, .ro _ rt] /\ Xj2 e K) K).mpr (hyp_ W i pl sh ti st ce hd rt K hs _ fun e h1 h2 => ⟨h1, h2⟩)
def Xjz [InW] (e : List Ed) (K : Nat -> List Ed -> Prop) : Prop := match e with
 | [.i i, .ro _ pl, .ro _ sh, .ro _ ti, .ro _ st, .i ce, .ro _ hd, .ro _ rt] => Pre (0 <= i /\ i <= rt.xs.length) (Vif (Sp.hasE (Sp.rtErr st.xs rt.xs ce) i.toNat (rt.xs.length - i.toNat))
   (K 1 [.i (Sp.idxE (Sp.rtErr st.xs rt.xs ce) i.toNat (rt.xs.length - i.toNat)), .i (Sp.rtErr st.xs rt.xs ce (Sp.idxE (Sp.rtErr st.xs rt.xs ce) i.toNat (rt.xs.length - i.toNat)))]) (K 0 []))
 | _ => False
noncomputable def Xlq : LC where
 len := 86
 T := [(1, (.ptr 1 0)), (9, .int .i64)]
 H := [(1, .blk 29 [.rs Jb, .rs Jb, .rs Jb, .rs Jd, .int .i64, .rs Xk, .rs tyRt])]
 W := [2, 3, 4, 7, 68, 69, 70, 71, 72, 73, 74, 75, 76, 77, 78, 79, 80, 81, 82, 83, 84, 85]
 outs := [⟨.exit 2, [], [], [1, 2, 3, 4, 7, 9, 68, 69, 70, 71, 72, 73, 74, 75, 76, 77, 78, 79, 80, 81, 82, 83, 84, 85]⟩, ⟨.ret, [(2, (.lit (.int .i64 3))), (3, .int .i64), (4, .int .i64)], [], [1, 7, 9, 68, 69, 70, 71, 72, 73, 74, 75, 76, 77, 78, 79, 80, 81, 82, 83, 84, 85]⟩]
 spec := Xjz
def Xi8 [W : InW] (i : Int) (pl sh ti : Ro Jb) (st : Ro Jd) (ce : Int) (hd : Ro Xk) (rt : Ro tyRt) (A : List Ed -> Prop) (K : Nat -> List Ed -> Prop) : Prop :=
 Vif (decide (i < (↑(rt.xs.length) : Int))) (Need (decide ((0 : Int) <= i) && decide (i < (↑(rt.xs.length) : Int))) (Need (decide (i.toNat < rt.xs.length)) (Pre True (Vif (!decide (Sp.routeE st.xs (cel rt.xs i.toNat (0 : Nat)).lst ce = (0 : Int))) (K (0+1 : Nat) [.i i, .i (Sp.routeE st.xs (cel rt.xs i.toNat (0 : Nat)).lst ce)]) (Ar .i64 (i + (1 : Int)) fun z => A [.i z, .ro _ pl, .ro _ sh, .ro _ ti, .ro Zc st, .i ce, .ro _ hd, .ro [Ty.sl [Ty.int IntKind.i64, Ty.bool]] rt]))))) (K (0 : Nat) [])
theorem Xtl (W : InW) (i pl sh ti st ce hd rt A K) : Yer { cxT Try.prog TT T32 1000 50 with fn := 43 } 1000 (Yl5 Try.prog 43 16) (Ydl 86 [(1, .ptr 1 0), (9, .si .i64 i)] [2, 3, 4, 7, 68, 69, 70, 71, 72, 73, 74, 75, 76, 77, 78, 79, 80, 81, 82, 83, 84, 85]) [(1, .blk 29 [.rs _ pl, .rs _ sh, .rs _ ti, .rs _ st, .si .i64 ce, .rs _ hd, .rs _ rt])] (Yrh Xlq A K) = Xi8 i pl sh ti st ce hd rt A K := by kernel_rfl
def Xk2 : Prop := ∀ (W : InW) (body a : Code), (Try.prog.funcs[43]?).bind (·.body) = some body -> a ∈ Ys body -> Ye9 a = 16 -> @Yk2 W Try.prog a (@Yqt W Xlq)
theorem Xu6 (meas : [InW] -> List Ed -> Nat) (hyp_ : ∀ (W : InW) (i : Int) (pl sh ti : Ro Jb) (st : Ro Jd) (ce : Int) (hd : Ro Xk) (rt : Ro tyRt) (K : Nat -> List Ed -> Prop), Xjz [.i i, .ro _ pl, .ro _ sh, .ro _ ti, .ro _ st, .i ce, .ro _ hd, .ro _ rt] K -> ∀ A : List Ed -> Prop, (∀ e, meas e < meas [.i i, .ro _ pl, .ro _ sh, .ro _ ti, .ro _ st, .i ce, .ro _ hd, .ro _ rt] -> Xjz e K -> A e) -> Xi8 i pl sh ti st ce hd rt A K) : Xk2 :=
 LE.okOf' (fun W => @TT W) (fun W => @Xb W) Xa T32 1000 50 (by kernel_rfl) Xlq (fun W => @meas W) fun W i pl sh ti st ce hd rt K hs =>
  (Xtl W i pl sh ti st ce hd rt (fun e => meas e < meas [.i i, .ro _ pl, .ro _ sh, .ro _ ti, .ro _ st, .i ce, .ro _ hd, .ro _ rt] /\ Xjz e K) K).mpr (hyp_ W i pl sh ti st ce hd rt K hs _ fun e h1 h2 => ⟨h1, h2⟩)
theorem Xx8 : Xk5 := Xu9 (fun e => match e with | [.i i, _, _, _, _, _, .ro _ hd, _] => ((hd.xs.length : Int) - i).toNat | _ => 0) fun W i pl sh ti st ce hd rt K hs A hA => by
 obtain ⟨⟨h0, h1⟩, hk⟩ := hs;unfold Xjb;delta Zc;have hm := hd.len;simp only [maxLen] at hm;refine vifd (fun e => ?_) fun e => ?_
 ·rw [show hd.xs.length - i.toNat = (hd.xs.length - (i.toNat + 1)) + 1 by omega] at hk;obtain ⟨g1, g2⟩ := Xg7 (K1 := fun j e => K 1 [.i j, .i e]) hk;rw [Int.toNat_of_nonneg h0] at g1;have ez : (i + 1).toNat = i.toNat + 1 := by omega
  have hA' : Sp.hdErr hd.xs i.toNat = 0 -> A [.i (i + 1), .ro _ pl, .ro _ sh, .ro _ ti, .ro _ st, .i ce, .ro _ hd, .ro _ rt] := fun f => hA _ (by show ((hd.xs.length : Int) - (i + 1)).toNat < ((hd.xs.length : Int) - i).toNat; omega) ⟨⟨by omega, by omega⟩, by rw [ez]; exact g2 f⟩;clear g2 hk hA;simp only [Nat.zero_add, Nat.reduceAdd];rw [show Sp.hrdE (cel hd.xs i.toNat 0).int (cel hd.xs i.toNat 1).int (cel hd.xs i.toNat 2).int (cel hd.xs i.toNat 3).int = Sp.hdErr hd.xs i.toNat from rfl];refine ned (by simp; omega) (nedd (by omega) ⟨trivial, vifn (fun e2 => g1 e2) fun e2 => ar64 (by omega) (hA' e2)⟩)
 ·rw [show hd.xs.length - i.toNat = 0 by omega] at hk;exact hk.2 rfl
theorem Xx5 : Xk2 := Xu6 (fun e => match e with | [.i i, _, _, _, _, _, _, .ro _ rt] => ((rt.xs.length : Int) - i).toNat | _ => 0) fun W i pl sh ti st ce hd rt K hs A hA => by
 obtain ⟨⟨h0, h1⟩, hk⟩ := hs;unfold Xi8;delta Zc;have hm := rt.len;simp only [maxLen] at hm;refine vifd (fun e => ?_) fun e => ?_
 ·rw [show rt.xs.length - i.toNat = (rt.xs.length - (i.toNat + 1)) + 1 by omega] at hk;obtain ⟨g1, g2⟩ := Xg7 (K1 := fun j e => K 1 [.i j, .i e]) hk;rw [Int.toNat_of_nonneg h0] at g1;have ez : (i + 1).toNat = i.toNat + 1 := by omega
  have hA' : Sp.rtErr st.xs rt.xs ce i.toNat = 0 -> A [.i (i + 1), .ro _ pl, .ro _ sh, .ro _ ti, .ro _ st, .i ce, .ro _ hd, .ro _ rt] := fun f => hA _ (by show ((rt.xs.length : Int) - (i + 1)).toNat < ((rt.xs.length : Int) - i).toNat; omega) ⟨⟨by omega, by omega⟩, by rw [ez]; exact g2 f⟩;clear g2 hk hA;simp only [Nat.zero_add, Nat.reduceAdd];rw [show Sp.routeE st.xs (cel rt.xs i.toNat 0).lst ce = Sp.rtErr st.xs rt.xs ce i.toNat from rfl];refine ned (by simp; omega) (nedd (by omega) ⟨trivial, vifn (fun e2 => g1 e2) fun e2 => ar64 (by omega) (hA' e2)⟩)
 ·rw [show rt.xs.length - i.toNat = 0 by omega] at hk;exact hk.2 rfl
noncomputable def Xy1 : LE Try.prog := ⟨43, 10, fun W => @Yqt W Xlt, Xx8⟩
noncomputable def Xyy : LE Try.prog := ⟨43, 16, fun W => @Yqt W Xlq, Xx5⟩
noncomputable def T33 : Tab Try.prog := ⟨[Xhm, Xem], [Xy1, Xyy], []⟩
def Zy [W : InW] (c_Pl c_Sh c_Ti : Ro Jb) (c_St : Ro Jd) (c_Ce : Int) (c_Hd : Ro Xk) (c_Rt : Ro tyRt) (Q : DS -> Prop) := Vif (!decide (Sp.tchkE c_Pl.xs c_Sh.xs c_Ti.xs c_St.xs = Za)) (Q [[Cl.i (1 : Int)], [Cl.i Za], [Cl.i (Sp.tchkE c_Pl.xs c_Sh.xs c_Ti.xs c_St.xs)]]) (Pre (Za <= Za /\ Za <= (↑(c_Hd.xs.length) : Int)) (Vif (Sp.hasE (Sp.hdErr c_Hd.xs) Zg (c_Hd.xs.length - Int.toNat Za)) (Q [[Cl.i (2 : Int)], [Cl.i (↑(Sp.idxE (Sp.hdErr c_Hd.xs) Zg (c_Hd.xs.length - Int.toNat Za)) : Int)], [Cl.i (Sp.hdErr c_Hd.xs (Sp.idxE (Sp.hdErr c_Hd.xs) Zg (c_Hd.xs.length - Int.toNat Za)))]]) (Pre (Za <= Za /\ Za <= (↑(c_Rt.xs.length) : Int)) (Vif (Sp.hasE (Sp.rtErr c_St.xs c_Rt.xs c_Ce) Zg (c_Rt.xs.length - Int.toNat Za)) (Q [[Cl.i (3 : Int)], [Cl.i (↑(Sp.idxE (Sp.rtErr c_St.xs c_Rt.xs c_Ce) Zg (c_Rt.xs.length - Int.toNat Za)) : Int)], [Cl.i (Sp.rtErr c_St.xs c_Rt.xs c_Ce (Sp.idxE (Sp.rtErr c_St.xs c_Rt.xs c_Ce) Zg (c_Rt.xs.length - Int.toNat Za)))]]) (Q [[Cl.i Za], [Cl.i Za], [Cl.i Za]])))))
def Xd5 [W : InW] (c_Pl c_Sh c_Ti : Ro Jb) (c_St : Ro Jd) (c_Ce : Int) (c_Hd : Ro Xk) (c_Rt : Ro tyRt) (Q : DS -> Prop) : Prop :=
 Pre (Sp.NamesOk c_Pl.xs /\ Sp.NamesOk c_Sh.xs /\ Sp.NamesOk c_Ti.xs) (Vif (decide (Sp.tchkE c_Pl.xs c_Sh.xs c_Ti.xs c_St.xs = Za)) (Ar .i64 ((↑(c_Pl.xs.length) : Int) - (1 : Int)) fun z => Pre True (Vif (!Sp.inr c_Ce Za z) (Q [[Cl.i (1 : Int)], [Cl.i Za], [Cl.i (4 : Int)]]) (Vif (decide (Sp.tchkE c_Pl.xs c_Sh.xs c_Ti.xs c_St.xs = Za)) (Vif (!decide ((↑(c_Hd.xs.length) : Int) = (↑(c_St.xs.length) : Int))) (Q Zh) (Vif (decide ((10 : Int) < (↑(c_Rt.xs.length) : Int))) (Q Zh) (Zy c_Pl c_Sh c_Ti c_St c_Ce c_Hd c_Rt Q))) (Zy c_Pl c_Sh c_Ti c_St c_Ce c_Hd c_Rt Q)))) (Vif (decide (Sp.tchkE c_Pl.xs c_Sh.xs c_Ti.xs c_St.xs = Za)) (Vif (!decide ((↑(c_Hd.xs.length) : Int) = (↑(c_St.xs.length) : Int))) (Q Zh) (Vif (decide ((10 : Int) < (↑(c_Rt.xs.length) : Int))) (Q Zh) (Zy c_Pl c_Sh c_Ti c_St c_Ce c_Hd c_Rt Q))) (Zy c_Pl c_Sh c_Ti c_St c_Ce c_Hd c_Rt Q)))
theorem Xnd (W : InW) (c_Pl c_Sh c_Ti c_St c_Ce c_Hd c_Rt Q) : Yte (cxT Try.prog TT T33 1000 50) 1000 43 [.agg [.rs _ c_Pl, .rs _ c_Sh, .rs _ c_Ti, .rs _ c_St, .si .i64 c_Ce, .rs _ c_Hd, .rs _ c_Rt]] [] 0 (Ywt [(false, [.int .i64]), (false, [.int .i64]), (false, [.int .i64])] Q) (fun _ _ _ _ => Stuck 421) = Xd5 c_Pl c_Sh c_Ti c_St c_Ce c_Hd c_Rt Q := by kernel_rfl
abbrev Xb8 : List AT := [.agg [.sl Jb, .sl Jb, .sl Jb, .sl Jd, .int .i64, .sl Xk, .sl tyRt]]
theorem Xos {pre : DS -> Prop} {res : DS -> DS} (hyp_ : ∀ (W : InW) (c_Pl c_Sh c_Ti : Ro Jb) (c_St : Ro Jd) (c_Ce : Int) (c_Hd : Ro Xk) (c_Rt : Ro tyRt), pre [[.l c_Pl.xs, .l c_Sh.xs, .l c_Ti.xs, .l c_St.xs, .i c_Ce, .l c_Hd.xs, .l c_Rt.xs]] -> ∀ Q : DS -> Prop, Q (res [[.l c_Pl.xs, .l c_Sh.xs, .l c_Ti.xs, .l c_St.xs, .i c_Ce, .l c_Hd.xs, .l c_Rt.xs]]) -> Xd5 c_Pl c_Sh c_Ti c_St c_Ce c_Hd c_Rt Q) : PureOk Try.prog 43 Xb8 [(false, [.int .i64]), (false, [.int .i64]), (false, [.int .i64])] pre res :=
 PureOk.of' (fun W => @TT W) (fun W => @Xb W) Xa T33 1000 50 fun W c_Pl c_Sh c_Ti c_St c_Ce c_Hd c_Rt hp =>
  (Xnd W c_Pl c_Sh c_Ti c_St c_Ce c_Hd c_Rt (fun o => o = res [[.l c_Pl.xs, .l c_Sh.xs, .l c_Ti.xs, .l c_St.xs, .i c_Ce, .l c_Hd.xs, .l c_Rt.xs]])).mpr (hyp_ W c_Pl c_Sh c_Ti c_St c_Ce c_Hd c_Rt hp _ rfl)
abbrev Xeg (ds : DS) : DS := match ds with | [[.l pl, .l sh, .l ti, .l st, .i ce, .l hd, .l rt]] => [[.i (Sp.cP pl sh ti st ce hd rt)], [.i (Sp.cI pl sh ti st ce hd rt)], [.i (Sp.cE pl sh ti st ce hd rt)]] | _ => []
abbrev Xej (ds : DS) : Prop := match ds with | [.l pl :: .l sh :: .l ti :: _] => Sp.NamesOk pl /\ Sp.NamesOk sh /\ Sp.NamesOk ti | _ => False
theorem Xmc {pl sh ti st : Dt} {ce : Int} {hd rt : Dt} {Q : Int × Int × Int -> Prop} (h : Q (Sp.cchk pl sh ti st ce hd rt)) :
  (¬ Sp.tchkE pl sh ti st = 0 -> Q (1, 0, Sp.tchkE pl sh ti st)) /\
  (Sp.tchkE pl sh ti st = 0 -> Sp.inr ce 0 ((pl.length : Int) - 1) = false -> Q (1, 0, 4)) /\
  (Sp.tchkE pl sh ti st = 0 -> Sp.inr ce 0 ((pl.length : Int) - 1) = true -> (¬ (hd.length : Int) = st.length \/ 10 < (rt.length : Int)) -> Q (1, 0, 3)) /\
  (Sp.tchkE pl sh ti st = 0 -> Sp.inr ce 0 ((pl.length : Int) - 1) = true -> (hd.length : Int) = st.length -> ¬ 10 < (rt.length : Int) -> Sp.hasE (Sp.hdErr hd) 0 hd.length = true -> Q (2, Sp.idxE (Sp.hdErr hd) 0 hd.length, Sp.hdErr hd (Sp.idxE (Sp.hdErr hd) 0 hd.length))) /\
  (Sp.tchkE pl sh ti st = 0 -> Sp.inr ce 0 ((pl.length : Int) - 1) = true -> (hd.length : Int) = st.length -> ¬ 10 < (rt.length : Int) -> Sp.hasE (Sp.hdErr hd) 0 hd.length = false -> Sp.hasE (Sp.rtErr st rt ce) 0 rt.length = true -> Q (3, Sp.idxE (Sp.rtErr st rt ce) 0 rt.length, Sp.rtErr st rt ce (Sp.idxE (Sp.rtErr st rt ce) 0 rt.length))) /\
  (Sp.tchkE pl sh ti st = 0 -> Sp.inr ce 0 ((pl.length : Int) - 1) = true -> (hd.length : Int) = st.length -> ¬ 10 < (rt.length : Int) -> Sp.hasE (Sp.hdErr hd) 0 hd.length = false -> Sp.hasE (Sp.rtErr st rt ce) 0 rt.length = false -> Q (0, 0, 0)) := by
 unfold Sp.cchk at h;refine ⟨fun e => ?_, fun e e1 => ?_, fun e e1 e2 => ?_, fun e e1 e2 e3 e4 => ?_, fun e e1 e2 e3 e4 e5 => ?_, fun e e1 e2 e3 e4 e5 => ?_⟩
 ·rw [if_neg e] at h; exact h
 ·rw [if_pos e, if_neg (by simp [e1])] at h; exact h
 ·rw [if_pos e, if_pos e1, if_neg (by rcases e2 with e2 | e2 <;> omega)] at h; exact h
 ·rw [if_pos e, if_pos e1, if_pos ⟨e2, e3⟩, if_pos e4] at h; exact h
 ·rw [if_pos e, if_pos e1, if_pos ⟨e2, e3⟩, if_neg (by simp [e4]), if_pos e5] at h; exact h
 ·rw [if_pos e, if_pos e1, if_pos ⟨e2, e3⟩, if_neg (by simp [e4]), if_neg (by simp [e5])] at h; exact h
theorem Xry : PureOk Try.prog 43 Xb8 [(false, [.int .i64]), (false, [.int .i64]), (false, [.int .i64])] Xej Xeg :=
 Xos fun W pl sh ti st ce hd rt hp Q h => by
  have hp : Sp.NamesOk pl.xs /\ Sp.NamesOk sh.xs /\ Sp.NamesOk ti.xs := hp;have hpl := pl.len;simp only [maxLen] at hpl;unfold Xd5;delta Zy Zg Zh Za;obtain ⟨q0, q1, q2, q3, q4, q5⟩ := Xmc (Q := fun r => Q [[.i r.1], [.i r.2.1], [.i r.2.2]]) h;clear h;simp only [show Int.toNat 0 = 0 from rfl, Nat.sub_zero]
  repeat' (first | omega | with_reducible refine vifd (fun _ => ?_) fun _ => ?_ | with_reducible refine vifn (fun _ => ?_) fun _ => ?_ | with_reducible refine vifq (fun _ => ?_) fun _ => ?_ | with_reducible refine vifq0 (fun _ => ?_) fun _ => ?_ | with_reducible refine vifq1 (fun _ => ?_) fun _ => ?_ | with_reducible refine vifb (fun _ => ?_) fun _ => ?_ | with_reducible refine vif (fun _ => ?_) fun _ => ?_ | (with_reducible refine nedd ?_ ?_; omega) | (with_reducible refine ned ?_ ?_; simp only [Bool.and_eq_true, decide_eq_true_eq]; omega) | (with_reducible refine ar64 ?_ ?_; omega) | (with_reducible refine Xf ?_ ?_; (first | trivial | omega | assumption | (refine ⟨?_, ?_⟩ <;> first | trivial | omega | assumption) | (refine ⟨?_, ?_, ?_⟩ <;> first | trivial | omega | assumption) | (refine ⟨?_, ?_, ?_, ?_⟩ <;> first | trivial | omega | assumption))))
  all_goals first | contradiction | exact q0 (by assumption) | exact q1 (by assumption) (by assumption) | exact q2 (by assumption) (by assumption) (.inl (by assumption)) | exact q2 (by assumption) (by assumption) (.inr (by assumption)) | exact q3 (by assumption) (by assumption) (by assumption) (by assumption) (by assumption) | exact q4 (by assumption) (by assumption) (by assumption) (by assumption) (by assumption) (by assumption) | exact q5 (by assumption) (by assumption) (by assumption) (by assumption) (by assumption) (by assumption) | skip
  all_goals trace_state
noncomputable def Xbi : PC Try.prog := ⟨43, Xb8, [(false, [.int .i64]), (false, [.int .i64]), (false, [.int .i64])], Xej, Xeg, Xry⟩
open Go.RowKit
set_option maxRecDepth 100000
set_option maxHeartbeats 1600000
def Xjx [InW] (e : List Ed) (K : Nat -> List Ed -> Prop) : Prop := match e with
 | [.i a, .i s, .i n, .i i, .ro _ pl, .ro _ sh, .ro _ ti, .ro _ st, .i ce, .ro _ hd, .ro _ rt] => Pre ((0 <= a /\ a < rt.xs.length) /\ 0 <= s /\ (Sp.rtL rt.xs a.toNat).length <= 60 /\ (0 <= i /\ i <= (Sp.rtL rt.xs a.toNat).length) /\ 0 <= n /\ n <= i)
   (K 0 [.i (Sp.cnt (Sp.rtL rt.xs a.toNat) s.toNat i.toNat ((Sp.rtL rt.xs a.toNat).length - i.toNat) n)])
 | _ => False
noncomputable def Xlo : LC where
 len := 33
 T := [(1, .int .i64), (2, .int .i64), (3, (.ptr 1 0)), (7, .int .i64), (8, .int .i64)]
 H := [(1, .blk 29 [.rs Jb, .rs Jb, .rs Jb, .rs Jd, .int .i64, .rs Iv4, .rs Je])]
 W := [9, 10, 11, 12, 13, 14, 15, 16, 17, 18, 19, 20, 21, 22, 23, 24, 25, 26, 27, 28, 29, 30, 31]
 outs := [⟨.exit 0, [(7, .int .i64)], [], [1, 2, 3, 8, 9, 10, 11, 12, 13, 14, 15, 16, 17, 18, 19, 20, 21, 22, 23, 24, 25, 26, 27, 28, 29, 30, 31]⟩]
 spec := Xjx
def Xi6 [W : InW] (a s n i : Int) (pl sh ti : Ro Jb) (st : Ro Jd) (ce : Int) (hd : Ro Iv4) (rt : Ro Je) (A : List Ed -> Prop) (K : Nat -> List Ed -> Prop) : Prop :=
 Need (decide (Za <= a) && decide (a < (↑(rt.xs.length) : Int))) (Need (decide (a.toNat < rt.xs.length)) (Vif (decide (i < (↑(List.length (cel rt.xs a.toNat (0 : Nat)).lst) : Int))) (Need (decide (Za <= a) && decide (a < (↑(rt.xs.length) : Int))) (Need (decide (a.toNat < rt.xs.length)) (Need (decide (Za <= i) && decide (i < (↑(List.length (cel rt.xs a.toNat (0 : Nat)).lst) : Int))) (Need (decide (i.toNat < List.length (cel rt.xs a.toNat (0 : Nat)).lst)) (Vif (decide ((cel (cel rt.xs a.toNat (0 : Nat)).lst i.toNat (0 : Nat)).int = s)) (Ar .i64 (n + (1 : Int)) fun z => Ar .i64 (i + (1 : Int)) fun z_1 => A [.i a, .i s, .i z, .i z_1, .ro _ pl, .ro _ sh, .ro _ ti, .ro Zc st, .i ce, .ro _ hd, .ro [Ty.sl [Ty.int IntKind.i64, Ty.bool]] rt]) (Ar .i64 (i + (1 : Int)) fun z => A [.i a, .i s, .i n, .i z, .ro _ pl, .ro _ sh, .ro _ ti, .ro Zc st, .i ce, .ro _ hd, .ro [Ty.sl [Ty.int IntKind.i64, Ty.bool]] rt])))))) (K (0 : Nat) [.i n])))
theorem Xtj (W : InW) (a s n i pl sh ti st ce hd rt A K) : Yer { cxT Try.prog TT T21 1000 50 with fn := 40 } 1000 (Yl5 Try.prog 40 4) (Ydl 33 [(1, .si .i64 a), (2, .si .i64 s), (3, .ptr 1 0), (7, .si .i64 n), (8, .si .i64 i)] [9, 10, 11, 12, 13, 14, 15, 16, 17, 18, 19, 20, 21, 22, 23, 24, 25, 26, 27, 28, 29, 30, 31]) [(1, .blk 29 [.rs _ pl, .rs _ sh, .rs _ ti, .rs _ st, .si .i64 ce, .rs _ hd, .rs _ rt])] (Yrh Xlo A K) = Xi6 a s n i pl sh ti st ce hd rt A K := by kernel_rfl
def Xk0 : Prop := ∀ (W : InW) (body a : Code), (Try.prog.funcs[40]?).bind (·.body) = some body -> a ∈ Ys body -> Ye9 a = 4 -> @Yk2 W Try.prog a (@Yqt W Xlo)
theorem Xu4 (meas : [InW] -> List Ed -> Nat) (hyp_ : ∀ (W : InW) (a s n i : Int) (pl sh ti : Ro Jb) (st : Ro Jd) (ce : Int) (hd : Ro Iv4) (rt : Ro Je) (K : Nat -> List Ed -> Prop), Xjx [.i a, .i s, .i n, .i i, .ro _ pl, .ro _ sh, .ro _ ti, .ro _ st, .i ce, .ro _ hd, .ro _ rt] K -> ∀ A : List Ed -> Prop, (∀ e, meas e < meas [.i a, .i s, .i n, .i i, .ro _ pl, .ro _ sh, .ro _ ti, .ro _ st, .i ce, .ro _ hd, .ro _ rt] -> Xjx e K -> A e) -> Xi6 a s n i pl sh ti st ce hd rt A K) : Xk0 :=
 LE.okOf' (fun W => @TT W) (fun W => @Xb W) Xa T21 1000 50 (by kernel_rfl) Xlo (fun W => @meas W) fun W a s n i pl sh ti st ce hd rt K hs =>
  (Xtj W a s n i pl sh ti st ce hd rt (fun e => meas e < meas [.i a, .i s, .i n, .i i, .ro _ pl, .ro _ sh, .ro _ ti, .ro _ st, .i ce, .ro _ hd, .ro _ rt] /\ Xjx e K) K).mpr (hyp_ W a s n i pl sh ti st ce hd rt K hs _ fun e h1 h2 => ⟨h1, h2⟩)
theorem Xx3 : Xk0 := Xu4 (fun e => match e with | [.i a, _, _, .i i, _, _, _, _, _, _, .ro _ rt] => (((Sp.rtL rt.xs a.toNat).length : Int) - i).toNat | _ => 0) fun W a s n i pl sh ti st ce hd rt K hs A hA => by
 obtain ⟨⟨h1, h2, h3, h4, h5, h6⟩, hk⟩ := hs;unfold Xi6;delta Zc Za;simp only [show (cel rt.xs a.toNat 0).lst = Sp.rtL rt.xs a.toNat from rfl];refine ned (by simp; omega) (nedd (by omega) (vifd (fun e => ?_) fun e => ?_))
 ·rw [show (Sp.rtL rt.xs a.toNat).length - i.toNat = ((Sp.rtL rt.xs a.toNat).length - (i.toNat + 1)) + 1 by omega] at hk;simp only [Sp.cnt] at hk;have ez : (i + 1).toNat = i.toNat + 1 := by omega
  have hA' : ∀ m, m = (if Sp.xS (Sp.rtL rt.xs a.toNat) i.toNat = s.toNat then n + 1 else n) -> A [.i a, .i s, .i m, .i (i + 1), .ro _ pl, .ro _ sh, .ro _ ti, .ro _ st, .i ce, .ro _ hd, .ro _ rt] := fun m hm => hA _ (by show (((Sp.rtL rt.xs a.toNat).length : Int) - (i + 1)).toNat < (((Sp.rtL rt.xs a.toNat).length : Int) - i).toNat; omega) ⟨⟨h1, h2, h3, by omega, by split at hm <;> omega, by split at hm <;> omega⟩, by rw [ez, hm]; exact hk⟩;clear hA hk;simp only [Nat.zero_add, Nat.reduceAdd, <- show Sp.xS (Sp.rtL rt.xs a.toNat) i.toNat = (cel (Sp.rtL rt.xs a.toNat) i.toNat 0).int from rfl] at *
  repeat' (first | omega | with_reducible refine vifd (fun _ => ?_) fun _ => ?_ | with_reducible refine vifn (fun _ => ?_) fun _ => ?_ | with_reducible refine vifq (fun _ => ?_) fun _ => ?_ | with_reducible refine vifq0 (fun _ => ?_) fun _ => ?_ | with_reducible refine vifq1 (fun _ => ?_) fun _ => ?_ | with_reducible refine vifb (fun _ => ?_) fun _ => ?_ | with_reducible refine vif (fun _ => ?_) fun _ => ?_ | (with_reducible refine nedd ?_ ?_; omega) | (with_reducible refine ned ?_ ?_; simp only [Bool.and_eq_true, decide_eq_true_eq]; omega) | (with_reducible refine ar64 ?_ ?_; omega) | (with_reducible refine Xf ?_ ?_; (first | trivial | omega | assumption | (refine ⟨?_, ?_⟩ <;> first | trivial | omega | assumption) | (refine ⟨?_, ?_, ?_⟩ <;> first | trivial | omega | assumption) | (refine ⟨?_, ?_, ?_, ?_⟩ <;> first | trivial | omega | assumption))))
  all_goals first | exact hA' _ (by rw [if_pos (by omega)]) | exact hA' _ (by rw [if_neg (by omega)]) | skip
  all_goals trace_state
 ·rw [show (Sp.rtL rt.xs a.toNat).length - i.toNat = 0 by omega] at hk;exact hk
noncomputable def Xyw : LE Try.prog := ⟨40, 4, fun W => @Yqt W Xlo, Xx3⟩
noncomputable def T34 : Tab Try.prog := ⟨[], [Xyw], []⟩
def Xgn [W : InW] (c_Pl c_Sh c_Ti : Ro Jb) (c_St : Ro Jd) (c_Ce : Int) (c_Hd : Ro Iv4) (c_Rt : Ro Je) (a s : Int) (Q : DS -> Prop) : Prop :=
 Pre ((Za <= a /\ a < (↑(c_Rt.xs.length) : Int)) /\ Za <= s /\ List.length (Sp.rtL c_Rt.xs a.toNat) <= (60 : Nat) /\ (Za <= Za /\ Za <= (↑(List.length (Sp.rtL c_Rt.xs a.toNat)) : Int)) /\ Za <= Za /\ Za <= Za) (Q [[Cl.i (Sp.cnt (Sp.rtL c_Rt.xs a.toNat) s.toNat (Int.toNat Za) (List.length (Sp.rtL c_Rt.xs a.toNat) - Int.toNat Za) Za)]])
theorem Xqg (W : InW) (c_Pl c_Sh c_Ti c_St c_Ce c_Hd c_Rt a s Q) : Yte (cxT Try.prog TT T34 1000 50) 1000 40 [.agg [.rs _ c_Pl, .rs _ c_Sh, .rs _ c_Ti, .rs _ c_St, .si .i64 c_Ce, .rs _ c_Hd, .rs _ c_Rt], .si .i64 a, .si .i64 s] [] 0 (Ywt [(false, [.int .i64])] Q) (fun _ _ _ _ => Stuck 421) = Xgn c_Pl c_Sh c_Ti c_St c_Ce c_Hd c_Rt a s Q := by kernel_rfl
abbrev Xdp : List AT := [.agg [.sl Jb, .sl Jb, .sl Jb, .sl Jd, .int .i64, .sl Iv4, .sl Je], .one (.int .i64), .one (.int .i64)]
theorem Xse {pre : DS -> Prop} {res : DS -> DS} (hyp_ : ∀ (W : InW) (c_Pl c_Sh c_Ti : Ro Jb) (c_St : Ro Jd) (c_Ce : Int) (c_Hd : Ro Iv4) (c_Rt : Ro Je) (a s : Int), pre [[.l c_Pl.xs, .l c_Sh.xs, .l c_Ti.xs, .l c_St.xs, .i c_Ce, .l c_Hd.xs, .l c_Rt.xs], [.i a], [.i s]] -> ∀ Q : DS -> Prop, Q (res [[.l c_Pl.xs, .l c_Sh.xs, .l c_Ti.xs, .l c_St.xs, .i c_Ce, .l c_Hd.xs, .l c_Rt.xs], [.i a], [.i s]]) -> Xgn c_Pl c_Sh c_Ti c_St c_Ce c_Hd c_Rt a s Q) : PureOk Try.prog 40 Xdp [(false, [.int .i64])] pre res :=
 PureOk.of' (fun W => @TT W) (fun W => @Xb W) Xa T34 1000 50 fun W c_Pl c_Sh c_Ti c_St c_Ce c_Hd c_Rt a s hp =>
  (Xqg W c_Pl c_Sh c_Ti c_St c_Ce c_Hd c_Rt a s (fun o => o = res [[.l c_Pl.xs, .l c_Sh.xs, .l c_Ti.xs, .l c_St.xs, .i c_Ce, .l c_Hd.xs, .l c_Rt.xs], [.i a], [.i s]])).mpr (hyp_ W c_Pl c_Sh c_Ti c_St c_Ce c_Hd c_Rt a s hp _ rfl)
abbrev Xhc (ds : DS) : DS := match ds with | [[_, _, _, _, _, _, .l rt], [.i a], [.i s]] => [[.i (Sp.tms rt a.toNat s.toNat)]] | _ => []
abbrev Xhi (ds : DS) : Prop := match ds with | [[_, _, _, _, _, _, .l rt], [.i a], [.i s]] => (0 <= a /\ a < rt.length) /\ 0 <= s /\ (Sp.rtL rt a.toNat).length <= 60 | _ => False
theorem Xv3 : PureOk Try.prog 40 Xdp [(false, [.int .i64])] Xhi Xhc :=
 Xse fun W pl sh ti st ce hd rt a s hp Q h => by
  obtain ⟨h1, h2, h3⟩ : (0 <= a /\ a < rt.xs.length) /\ 0 <= s /\ (Sp.rtL rt.xs a.toNat).length <= 60 := hp;unfold Xgn;delta Za;exact ⟨⟨h1, h2, h3, by omega, by omega, by omega⟩, h⟩
noncomputable def Xqy : PC Try.prog := ⟨40, Xdp, [(false, [.int .i64])], Xhi, Xhc, Xv3⟩
namespace Sp
def rtsE (pl sh ti st : Dt) (ce : Int) (hd rt l : Dt) : Int := if cE pl sh ti st ce hd rt = 0 then (if out 0 ((rt.length : Int) - 1) l then 4 else 0) else cE pl sh ti st ce hd rt
end Sp
noncomputable def T35 : Tab Try.prog := ⟨[Xem, Xbi], [], []⟩
def Xjw [InW] (e : List Ed) (K : Nat -> List Ed -> Prop) : Prop := match e with
 | [.ro _ l, .i er, .i i, .ro _ pl, .ro _ sh, .ro _ ti, .ro _ st, .i ce, .ro _ hd, .ro _ rt] => Pre (0 <= i /\ i <= l.xs.length)
   (K 0 [.i (if er = 0 then (if Sp.outs 0 ((rt.xs.length : Int) - 1) l.xs i.toNat (l.xs.length - i.toNat) then 4 else 0) else er)])
 | _ => False
noncomputable def Xln : LC where
 len := 36
 T := [(1, .rs Ja), (2, (.ptr 1 0)), (7, .int .i64), (8, .int .i64)]
 H := [(1, .blk 29 [.rs Jb, .rs Jb, .rs Jb, .rs Jd, .int .i64, .rs Iv4, .rs Je])]
 W := [15, 16, 17, 18, 19, 20, 21, 22, 23, 24, 25, 26, 27, 28, 29, 30, 31, 32, 33, 34]
 outs := [⟨.exit 0, [(7, .int .i64)], [], [1, 2, 8, 15, 16, 17, 18, 19, 20, 21, 22, 23, 24, 25, 26, 27, 28, 29, 30, 31, 32, 33, 34]⟩]
 spec := Xjw
def Zz := [Ty.sl [Ty.int IntKind.i64, Ty.bool]]
def Xi5 [W : InW] (l : Ro Ja) (er i : Int) (pl sh ti : Ro Jb) (st : Ro Jd) (ce : Int) (hd : Ro Iv4) (rt : Ro Je) (A : List Ed -> Prop) (K : Nat -> List Ed -> Prop) : Prop :=
 Vif (decide (i < (↑(l.xs.length) : Int))) (Vif (decide (er = Za)) (Need (decide (Za <= i) && decide (i < (↑(l.xs.length) : Int))) (Need (decide (i.toNat < l.xs.length)) (Ar .i64 ((↑(rt.xs.length) : Int) - (1 : Int)) fun z => Pre True (Vif (!Sp.inr (cel l.xs i.toNat (0 : Nat)).int Za z) (Ar .i64 (i + (1 : Int)) fun z => A [.ro _ l, .i (4 : Int), .i z, .ro _ pl, .ro _ sh, .ro _ ti, .ro Zc st, .i ce, .ro _ hd, .ro Zz rt]) (Ar .i64 (i + (1 : Int)) fun z => A [.ro _ l, .i er, .i z, .ro _ pl, .ro _ sh, .ro _ ti, .ro Zc st, .i ce, .ro _ hd, .ro Zz rt]))))) (Ar .i64 (i + (1 : Int)) fun z => A [.ro _ l, .i er, .i z, .ro _ pl, .ro _ sh, .ro _ ti, .ro Zc st, .i ce, .ro _ hd, .ro Zz rt])) (K (0 : Nat) [.i er])
theorem Xti (W : InW) (l er i pl sh ti st ce hd rt A K) : Yer { cxT Try.prog TT T35 1000 50 with fn := 48 } 1000 (Yl5 Try.prog 48 4) (Ydl 36 [(1, .rs _ l), (2, .ptr 1 0), (7, .si .i64 er), (8, .si .i64 i)] [15, 16, 17, 18, 19, 20, 21, 22, 23, 24, 25, 26, 27, 28, 29, 30, 31, 32, 33, 34]) [(1, .blk 29 [.rs _ pl, .rs _ sh, .rs _ ti, .rs _ st, .si .i64 ce, .rs _ hd, .rs _ rt])] (Yrh Xln A K) = Xi5 l er i pl sh ti st ce hd rt A K := by kernel_rfl
def Xkz : Prop := ∀ (W : InW) (body a : Code), (Try.prog.funcs[48]?).bind (·.body) = some body -> a ∈ Ys body -> Ye9 a = 4 -> @Yk2 W Try.prog a (@Yqt W Xln)
theorem Xu3 (meas : [InW] -> List Ed -> Nat) (hyp_ : ∀ (W : InW) (l : Ro Ja) (er i : Int) (pl sh ti : Ro Jb) (st : Ro Jd) (ce : Int) (hd : Ro Iv4) (rt : Ro Je) (K : Nat -> List Ed -> Prop), Xjw [.ro _ l, .i er, .i i, .ro _ pl, .ro _ sh, .ro _ ti, .ro _ st, .i ce, .ro _ hd, .ro _ rt] K -> ∀ A : List Ed -> Prop, (∀ e, meas e < meas [.ro _ l, .i er, .i i, .ro _ pl, .ro _ sh, .ro _ ti, .ro _ st, .i ce, .ro _ hd, .ro _ rt] -> Xjw e K -> A e) -> Xi5 l er i pl sh ti st ce hd rt A K) : Xkz :=
 LE.okOf' (fun W => @TT W) (fun W => @Xb W) Xa T35 1000 50 (by kernel_rfl) Xln (fun W => @meas W) fun W l er i pl sh ti st ce hd rt K hs =>
  (Xti W l er i pl sh ti st ce hd rt (fun e => meas e < meas [.ro _ l, .i er, .i i, .ro _ pl, .ro _ sh, .ro _ ti, .ro _ st, .i ce, .ro _ hd, .ro _ rt] /\ Xjw e K) K).mpr (hyp_ W l er i pl sh ti st ce hd rt K hs _ fun e h1 h2 => ⟨h1, h2⟩)
theorem Xx2 : Xkz := Xu3 (fun e => match e with | .ro _ l :: _ :: .i i :: _ => ((l.xs.length : Int) - i).toNat | _ => 0) fun W l er i pl sh ti st ce hd rt K hs A hA => by
 obtain ⟨⟨h0, h1⟩, hk⟩ := hs;unfold Xi5;delta Zz Zc Za;have hm := l.len;have hm2 := rt.len;simp only [maxLen] at hm hm2;refine vifd (fun e => ?_) fun e => ?_
 ·rw [show l.xs.length - i.toNat = (l.xs.length - (i.toNat + 1)) + 1 by omega] at hk;simp only [Sp.outs] at hk;have ez : (i + 1).toNat = i.toNat + 1 := by omega
  have hA' : ∀ m, K 0 [.i (if m = 0 then (if Sp.outs 0 ((rt.xs.length : Int) - 1) l.xs (i.toNat + 1) (l.xs.length - (i.toNat + 1)) then 4 else 0) else m)] -> A [.ro _ l, .i m, .i (i + 1), .ro _ pl, .ro _ sh, .ro _ ti, .ro _ st, .i ce, .ro _ hd, .ro _ rt] := fun m hm => hA _ (by show ((l.xs.length : Int) - (i + 1)).toNat < ((l.xs.length : Int) - i).toNat; omega) ⟨⟨by omega, by omega⟩, by rw [ez]; exact hm⟩;clear hA
  repeat' (first | omega | with_reducible refine vifd (fun _ => ?_) fun _ => ?_ | with_reducible refine vifn (fun _ => ?_) fun _ => ?_ | with_reducible refine vifq (fun _ => ?_) fun _ => ?_ | with_reducible refine vifq0 (fun _ => ?_) fun _ => ?_ | with_reducible refine vifq1 (fun _ => ?_) fun _ => ?_ | with_reducible refine vifb (fun _ => ?_) fun _ => ?_ | with_reducible refine vif (fun _ => ?_) fun _ => ?_ | (with_reducible refine nedd ?_ ?_; omega) | (with_reducible refine ned ?_ ?_; simp only [Bool.and_eq_true, decide_eq_true_eq]; omega) | (with_reducible refine ar64 ?_ ?_; omega) | (with_reducible refine Xf ?_ ?_; (first | trivial | omega | assumption | (refine ⟨?_, ?_⟩ <;> first | trivial | omega | assumption) | (refine ⟨?_, ?_, ?_⟩ <;> first | trivial | omega | assumption) | (refine ⟨?_, ?_, ?_, ?_⟩ <;> first | trivial | omega | assumption))))
  all_goals first | (refine hA' _ ?_; simp_all; done) | skip
  all_goals trace_state
 ·rw [show l.xs.length - i.toNat = 0 by omega] at hk;simp only [Sp.outs] at hk
  split at hk
  ·rename_i h; rw [h]; exact hk
  ·exact hk
noncomputable def Xyv : LE Try.prog := ⟨48, 4, fun W => @Yqt W Xln, Xx2⟩
noncomputable def T36 : Tab Try.prog := ⟨[Xbi], [Xyv], []⟩
def Xdr [W : InW] (c_Pl c_Sh c_Ti : Ro [.str]) (c_St : Ro [.int .i64, .int .i64, .int .i64, .int .i64, .int .i64, .bool, .sl [.int .i64]]) (c_Ce : Int) (c_Hd : Ro [.int .i64, .int .i64, .int .i64, .int .i64]) (c_Rt : Ro [.sl [.int .i64, .bool]]) (l : Ro [.int .i64]) (Q : DS -> Prop) : Prop :=
 Pre (Sp.NamesOk c_Pl.xs /\ Sp.NamesOk c_Sh.xs /\ Sp.NamesOk c_Ti.xs) (Pre (Za <= Za /\ Za <= (↑(l.xs.length) : Int)) (Q [[Cl.i (Decidable.rec (fun h => (fun x => (((List.tail (Xbi.res [[Cl.l c_Pl.xs, Cl.l c_Sh.xs, Cl.l c_Ti.xs, Cl.l c_St.xs, Cl.i c_Ce, Cl.l c_Hd.xs, Cl.l c_Rt.xs]])).tail.headD []).headD Cl.z).int) h) (fun h => (fun x => if Sp.outs Za ((↑(List.length (rsK._proof_1 [Ty.sl [Ty.int IntKind.i64, Ty.bool]] [Ty.sl [Ty.int IntKind.i64, Ty.bool]] rfl ▸ c_Rt).xs) : Int) - (1 : Int)) l.xs (Int.toNat Za) (l.xs.length - Int.toNat Za) = true then (4 : Int) else Za) h) ((((List.tail (Xbi.res [[Cl.l c_Pl.xs, Cl.l c_Sh.xs, Cl.l c_Ti.xs, Cl.l c_St.xs, Cl.i c_Ce, Cl.l c_Hd.xs, Cl.l c_Rt.xs]])).tail.headD []).headD Cl.z).int.instDecidableEq Za))]]))
theorem Xmz (W : InW) (c_Pl c_Sh c_Ti c_St c_Ce c_Hd c_Rt l Q) : Yte (cxT Try.prog TT T36 1000 50) 1000 48 [.agg [.rs _ c_Pl, .rs _ c_Sh, .rs _ c_Ti, .rs _ c_St, .si .i64 c_Ce, .rs _ c_Hd, .rs _ c_Rt], .rs _ l] [] 0 (Ywt [(false, [.int .i64])] Q) (fun _ _ _ _ => Stuck 421) = Xdr c_Pl c_Sh c_Ti c_St c_Ce c_Hd c_Rt l Q := by kernel_rfl
abbrev Xbu : List AT := [.agg [.sl Jb, .sl Jb, .sl Jb, .sl Jd, .int .i64, .sl Iv4, .sl Je], .one (.sl Ja)]
theorem Xoe {pre : DS -> Prop} {res : DS -> DS} (hyp_ : ∀ (W : InW) (c_Pl c_Sh c_Ti : Ro Jb) (c_St : Ro Jd) (c_Ce : Int) (c_Hd : Ro Iv4) (c_Rt : Ro Je) (l : Ro Ja), pre [[.l c_Pl.xs, .l c_Sh.xs, .l c_Ti.xs, .l c_St.xs, .i c_Ce, .l c_Hd.xs, .l c_Rt.xs], [.l l.xs]] -> ∀ Q : DS -> Prop, Q (res [[.l c_Pl.xs, .l c_Sh.xs, .l c_Ti.xs, .l c_St.xs, .i c_Ce, .l c_Hd.xs, .l c_Rt.xs], [.l l.xs]]) -> Xdr c_Pl c_Sh c_Ti c_St c_Ce c_Hd c_Rt l Q) : PureOk Try.prog 48 Xbu [(false, [.int .i64])] pre res :=
 PureOk.of' (fun W => @TT W) (fun W => @Xb W) Xa T36 1000 50 fun W c_Pl c_Sh c_Ti c_St c_Ce c_Hd c_Rt l hp =>
  (Xmz W c_Pl c_Sh c_Ti c_St c_Ce c_Hd c_Rt l (fun o => o = res [[.l c_Pl.xs, .l c_Sh.xs, .l c_Ti.xs, .l c_St.xs, .i c_Ce, .l c_Hd.xs, .l c_Rt.xs], [.l l.xs]])).mpr (hyp_ W c_Pl c_Sh c_Ti c_St c_Ce c_Hd c_Rt l hp _ rfl)
abbrev Xee (ds : DS) : DS := match ds with | [[.l pl, .l sh, .l ti, .l st, .i ce, .l hd, .l rt], [.l l]] => [[.i (Sp.rtsE pl sh ti st ce hd rt l)]] | _ => []
abbrev Xe (ds : DS) : Prop := match ds with | (.l pl :: .l sh :: .l ti :: _) :: _ => Sp.NamesOk pl /\ Sp.NamesOk sh /\ Sp.NamesOk ti | _ => False
theorem Xq1 : PureOk Try.prog 48 Xbu [(false, [.int .i64])] Xe Xee :=
 Xoe fun W pl sh ti st ce hd rt l hp Q h => by
  have hp : Sp.NamesOk pl.xs /\ Sp.NamesOk sh.xs /\ Sp.NamesOk ti.xs := hp;unfold Xdr;delta Za;exact ⟨hp, ⟨by omega, by omega⟩, h⟩
noncomputable def Xhj : PC Try.prog := ⟨48, Xbu, [(false, [.int .i64])], Xe, Xee, Xq1⟩
open Go.RowKit
set_option maxRecDepth 100000
set_option maxHeartbeats 1600000
namespace Sp
def dAt (l : Dt) (i : Nat) : List Int := (List.range 40).map fun s => cnt l s 0 i 0
structure DOk (l : Dt) (i : Int) (ds : List Int) : Prop where
 i0 : 0 <= i
 i1 : i <= l.length
 ln : l.length <= 60
 xs : ∀ k, k < l.length -> 0 <= xS l k /\ xS l k < 40
 ds : ds = dAt l i.toNat
end Sp
def edI [InW] : List Ed -> List Int
 | .i n :: es => n :: edI es
 | _ => []
def Xqk [InW] (e : List Ed) (K : Nat -> List Ed -> Prop) : Prop := match e with
 | .ro _ l :: .i n :: .i i :: ds => Pre (n = l.xs.length /\ Sp.DOk l.xs i (edI ds)) (K 0 ((Sp.dAt l.xs l.xs.length).map Ed.i))
 | _ => False
noncomputable def Xsp : LC where
 len := 59
 T := [(8, (.ptr 1 0)), (36, .rs Jf), (37, .int .i64), (38, .int .i64)]
 H := [(1, .blk 125 [.int .i64, .int .i64, .int .i64, .int .i64, .int .i64, .int .i64, .int .i64, .int .i64, .int .i64, .int .i64, .int .i64, .int .i64, .int .i64, .int .i64, .int .i64, .int .i64, .int .i64, .int .i64, .int .i64, .int .i64, .int .i64, .int .i64, .int .i64, .int .i64, .int .i64, .int .i64, .int .i64, .int .i64, .int .i64, .int .i64, .int .i64, .int .i64, .int .i64, .int .i64, .int .i64, .int .i64, .int .i64, .int .i64, .int .i64, .int .i64])]
 W := [10, 39, 40, 41, 42, 43, 44, 45, 46, 47, 48]
 outs := [⟨.exit 0, [(8, (.ptr 1 0))], [(1, .blk 125 [.int .i64, .int .i64, .int .i64, .int .i64, .int .i64, .int .i64, .int .i64, .int .i64, .int .i64, .int .i64, .int .i64, .int .i64, .int .i64, .int .i64, .int .i64, .int .i64, .int .i64, .int .i64, .int .i64, .int .i64, .int .i64, .int .i64, .int .i64, .int .i64, .int .i64, .int .i64, .int .i64, .int .i64, .int .i64, .int .i64, .int .i64, .int .i64, .int .i64, .int .i64, .int .i64, .int .i64, .int .i64, .int .i64, .int .i64, .int .i64])], [10, 36, 37, 38, 39, 40, 41, 42, 43, 44, 45, 46, 47, 48]⟩]
 spec := Xqk
def Zba [W : InW] (l : Ro Jf) (i : Int) := cel l.xs i.toNat (0 : Nat)
def Xpi [W : InW] (l : Ro Jf) (n i d0 d1 d2 d3 d4 d5 d6 d7 d8 d9 d10 d11 d12 d13 d14 d15 d16 d17 d18 d19 d20 d21 d22 d23 d24 d25 d26 d27 d28 d29 d30 d31 d32 d33 d34 d35 d36 d37 d38 d39 : Int) (A : List Ed -> Prop) (K : Nat -> List Ed -> Prop) : Prop :=
 Vif (decide (i < n)) (Need (decide (Za <= i) && decide (i < (↑(l.xs.length) : Int))) (Need (decide (i.toNat < l.xs.length)) (Need (decide (Za <= (Zba l i).int) && decide ((Zba l i).int < (↑(40 : Nat) : Int))) (Need (decide ((Zba l i).int.toNat < [d0, d1, d2, d3, d4, d5, d6, d7, d8, d9, d10, d11, d12, d13, d14, d15, d16, d17, d18, d19, d20, d21, d22, d23, d24, d25, d26, d27, d28, d29, d30, d31, d32, d33, d34, d35, d36, d37, d38, d39].length)) (Ar .i64 ([d0, d1, d2, d3, d4, d5, d6, d7, d8, d9, d10, d11, d12, d13, d14, d15, d16, d17, d18, d19, d20, d21, d22, d23, d24, d25, d26, d27, d28, d29, d30, d31, d32, d33, d34, d35, d36, d37, d38, d39].getD (Zba l i).int.toNat Za + (1 : Int)) fun z => Need (decide (Za <= (Zba l i).int) && decide ((Zba l i).int < (↑(40 : Nat) : Int))) (Need (decide ((Zba l i).int.toNat < [d0, d1, d2, d3, d4, d5, d6, d7, d8, d9, d10, d11, d12, d13, d14, d15, d16, d17, d18, d19, d20, d21, d22, d23, d24, d25, d26, d27, d28, d29, d30, d31, d32, d33, d34, d35, d36, d37, d38, d39].length)) (Ar .i64 (i + (1 : Int)) fun z_1 => A [.ro _ l, .i n, .i z_1, .i (Decidable.rec (fun h => (fun x => d0) h) (fun h => (fun x => z) h) (instDecidableEqNat (Zba l i).int.toNat (0 : Nat))), .i (Decidable.rec (fun h => (fun x => d1) h) (fun h => (fun x => z) h) (instDecidableEqNat (Zba l i).int.toNat (0+1 : Nat))), .i (Decidable.rec (fun h => (fun x => d2) h) (fun h => (fun x => z) h) (instDecidableEqNat (Zba l i).int.toNat (1+1 : Nat))), .i (Decidable.rec (fun h => (fun x => d3) h) (fun h => (fun x => z) h) (instDecidableEqNat (Zba l i).int.toNat (2+1 : Nat))), .i (Decidable.rec (fun h => (fun x => d4) h) (fun h => (fun x => z) h) (instDecidableEqNat (Zba l i).int.toNat (3+1 : Nat))), .i (Decidable.rec (fun h => (fun x => d5) h) (fun h => (fun x => z) h) (instDecidableEqNat (Zba l i).int.toNat (4+1 : Nat))), .i (Decidable.rec (fun h => (fun x => d6) h) (fun h => (fun x => z) h) (instDecidableEqNat (Zba l i).int.toNat (5+1 : Nat))), .i (Decidable.rec (fun h => (fun x => d7) h) (fun h => (fun x => z) h) (instDecidableEqNat (Zba l i).int.toNat (6+1 : Nat))), .i (Decidable.rec (fun h => (fun x => d8) h) (fun h => (fun x => z) h) (instDecidableEqNat (Zba l i).int.toNat (7+1 : Nat))), .i (Decidable.rec (fun h => (fun x => d9) h) (fun h => (fun x => z) h) (instDecidableEqNat (Zba l i).int.toNat (8+1 : Nat))), .i (Decidable.rec (fun h => (fun x => d10) h) (fun h => (fun x => z) h) (instDecidableEqNat (Zba l i).int.toNat (9+1 : Nat))), .i (Decidable.rec (fun h => (fun x => d11) h) (fun h => (fun x => z) h) (instDecidableEqNat (Zba l i).int.toNat (10+1 : Nat))), .i (Decidable.rec (fun h => (fun x => d12) h) (fun h => (fun x => z) h) (instDecidableEqNat (Zba l i).int.toNat (11+1 : Nat))), .i (Decidable.rec (fun h => (fun x => d13) h) (fun h => (fun x => z) h) (instDecidableEqNat (Zba l i).int.toNat (12+1 : Nat))), .i (Decidable.rec (fun h => (fun x => d14) h) (fun h => (fun x => z) h) (instDecidableEqNat (Zba l i).int.toNat (13+1 : Nat))), .i (Decidable.rec (fun h => (fun x => d15) h) (fun h => (fun x => z) h) (instDecidableEqNat (Zba l i).int.toNat (14+1 : Nat))), .i (Decidable.rec (fun h => (fun x => d16) h) (fun h => (fun x => z) h) (instDecidableEqNat (Zba l i).int.toNat (15+1 : Nat))), .i (Decidable.rec (fun h => (fun x => d17) h) (fun h => (fun x => z) h) (instDecidableEqNat (Zba l i).int.toNat (16+1 : Nat))), .i (Decidable.rec (fun h => (fun x => d18) h) (fun h => (fun x => z) h) (instDecidableEqNat (Zba l i).int.toNat (17+1 : Nat))), .i (Decidable.rec (fun h => (fun x => d19) h) (fun h => (fun x => z) h) (instDecidableEqNat (Zba l i).int.toNat (18+1 : Nat))), .i (Decidable.rec (fun h => (fun x => d20) h) (fun h => (fun x => z) h) (instDecidableEqNat (Zba l i).int.toNat (19+1 : Nat))), .i (Decidable.rec (fun h => (fun x => d21) h) (fun h => (fun x => z) h) (instDecidableEqNat (Zba l i).int.toNat (20+1 : Nat))), .i (Decidable.rec (fun h => (fun x => d22) h) (fun h => (fun x => z) h) (instDecidableEqNat (Zba l i).int.toNat (21+1 : Nat))), .i (Decidable.rec (fun h => (fun x => d23) h) (fun h => (fun x => z) h) (instDecidableEqNat (Zba l i).int.toNat (22+1 : Nat))), .i (Decidable.rec (fun h => (fun x => d24) h) (fun h => (fun x => z) h) (instDecidableEqNat (Zba l i).int.toNat (23+1 : Nat))), .i (Decidable.rec (fun h => (fun x => d25) h) (fun h => (fun x => z) h) (instDecidableEqNat (Zba l i).int.toNat (24+1 : Nat))), .i (Decidable.rec (fun h => (fun x => d26) h) (fun h => (fun x => z) h) (instDecidableEqNat (Zba l i).int.toNat (25+1 : Nat))), .i (Decidable.rec (fun h => (fun x => d27) h) (fun h => (fun x => z) h) (instDecidableEqNat (Zba l i).int.toNat (26+1 : Nat))), .i (Decidable.rec (fun h => (fun x => d28) h) (fun h => (fun x => z) h) (instDecidableEqNat (Zba l i).int.toNat (27+1 : Nat))), .i (Decidable.rec (fun h => (fun x => d29) h) (fun h => (fun x => z) h) (instDecidableEqNat (Zba l i).int.toNat (28+1 : Nat))), .i (Decidable.rec (fun h => (fun x => d30) h) (fun h => (fun x => z) h) (instDecidableEqNat (Zba l i).int.toNat (29+1 : Nat))), .i (Decidable.rec (fun h => (fun x => d31) h) (fun h => (fun x => z) h) (instDecidableEqNat (Zba l i).int.toNat (30+1 : Nat))), .i (Decidable.rec (fun h => (fun x => d32) h) (fun h => (fun x => z) h) (instDecidableEqNat (Zba l i).int.toNat (31+1 : Nat))), .i (Decidable.rec (fun h => (fun x => d33) h) (fun h => (fun x => z) h) (instDecidableEqNat (Zba l i).int.toNat (32+1 : Nat))), .i (Decidable.rec (fun h => (fun x => d34) h) (fun h => (fun x => z) h) (instDecidableEqNat (Zba l i).int.toNat (33+1 : Nat))), .i (Decidable.rec (fun h => (fun x => d35) h) (fun h => (fun x => z) h) (instDecidableEqNat (Zba l i).int.toNat (34+1 : Nat))), .i (Decidable.rec (fun h => (fun x => d36) h) (fun h => (fun x => z) h) (instDecidableEqNat (Zba l i).int.toNat (35+1 : Nat))), .i (Decidable.rec (fun h => (fun x => d37) h) (fun h => (fun x => z) h) (instDecidableEqNat (Zba l i).int.toNat (36+1 : Nat))), .i (Decidable.rec (fun h => (fun x => d38) h) (fun h => (fun x => z) h) (instDecidableEqNat (Zba l i).int.toNat (37+1 : Nat))), .i (Decidable.rec (fun h => (fun x => d39) h) (fun h => (fun x => z) h) (instDecidableEqNat (Zba l i).int.toNat (38+1 : Nat)))]))))))) (K (0 : Nat) [.i d0, .i d1, .i d2, .i d3, .i d4, .i d5, .i d6, .i d7, .i d8, .i d9, .i d10, .i d11, .i d12, .i d13, .i d14, .i d15, .i d16, .i d17, .i d18, .i d19, .i d20, .i d21, .i d22, .i d23, .i d24, .i d25, .i d26, .i d27, .i d28, .i d29, .i d30, .i d31, .i d32, .i d33, .i d34, .i d35, .i d36, .i d37, .i d38, .i d39])
theorem Xw9 (W : InW) (l n i d0 d1 d2 d3 d4 d5 d6 d7 d8 d9 d10 d11 d12 d13 d14 d15 d16 d17 d18 d19 d20 d21 d22 d23 d24 d25 d26 d27 d28 d29 d30 d31 d32 d33 d34 d35 d36 d37 d38 d39 A K) : Yer { cxT Try.prog TT T21 1000 50 with fn := 90 } 1000 (Yl5 Try.prog 90 11) (Ydl 59 [(8, .ptr 1 0), (36, .rs _ l), (37, .si .i64 n), (38, .si .i64 i)] [10, 39, 40, 41, 42, 43, 44, 45, 46, 47, 48]) [(1, .blk 125 [.si .i64 d0, .si .i64 d1, .si .i64 d2, .si .i64 d3, .si .i64 d4, .si .i64 d5, .si .i64 d6, .si .i64 d7, .si .i64 d8, .si .i64 d9, .si .i64 d10, .si .i64 d11, .si .i64 d12, .si .i64 d13, .si .i64 d14, .si .i64 d15, .si .i64 d16, .si .i64 d17, .si .i64 d18, .si .i64 d19, .si .i64 d20, .si .i64 d21, .si .i64 d22, .si .i64 d23, .si .i64 d24, .si .i64 d25, .si .i64 d26, .si .i64 d27, .si .i64 d28, .si .i64 d29, .si .i64 d30, .si .i64 d31, .si .i64 d32, .si .i64 d33, .si .i64 d34, .si .i64 d35, .si .i64 d36, .si .i64 d37, .si .i64 d38, .si .i64 d39])] (Yrh Xsp A K) = Xpi l n i d0 d1 d2 d3 d4 d5 d6 d7 d8 d9 d10 d11 d12 d13 d14 d15 d16 d17 d18 d19 d20 d21 d22 d23 d24 d25 d26 d27 d28 d29 d30 d31 d32 d33 d34 d35 d36 d37 d38 d39 A K := by kernel_rfl
def Xov : Prop := ∀ (W : InW) (body a : Code), (Try.prog.funcs[90]?).bind (·.body) = some body -> a ∈ Ys body -> Ye9 a = 11 -> @Yk2 W Try.prog a (@Yqt W Xsp)
theorem Xxs (meas : [InW] -> List Ed -> Nat) (hyp_ : ∀ (W : InW) (l : Ro Jf) (n i d0 d1 d2 d3 d4 d5 d6 d7 d8 d9 d10 d11 d12 d13 d14 d15 d16 d17 d18 d19 d20 d21 d22 d23 d24 d25 d26 d27 d28 d29 d30 d31 d32 d33 d34 d35 d36 d37 d38 d39 : Int) (K : Nat -> List Ed -> Prop), Xqk [.ro _ l, .i n, .i i, .i d0, .i d1, .i d2, .i d3, .i d4, .i d5, .i d6, .i d7, .i d8, .i d9, .i d10, .i d11, .i d12, .i d13, .i d14, .i d15, .i d16, .i d17, .i d18, .i d19, .i d20, .i d21, .i d22, .i d23, .i d24, .i d25, .i d26, .i d27, .i d28, .i d29, .i d30, .i d31, .i d32, .i d33, .i d34, .i d35, .i d36, .i d37, .i d38, .i d39] K -> ∀ A : List Ed -> Prop, (∀ e, meas e < meas [.ro _ l, .i n, .i i, .i d0, .i d1, .i d2, .i d3, .i d4, .i d5, .i d6, .i d7, .i d8, .i d9, .i d10, .i d11, .i d12, .i d13, .i d14, .i d15, .i d16, .i d17, .i d18, .i d19, .i d20, .i d21, .i d22, .i d23, .i d24, .i d25, .i d26, .i d27, .i d28, .i d29, .i d30, .i d31, .i d32, .i d33, .i d34, .i d35, .i d36, .i d37, .i d38, .i d39] -> Xqk e K -> A e) -> Xpi l n i d0 d1 d2 d3 d4 d5 d6 d7 d8 d9 d10 d11 d12 d13 d14 d15 d16 d17 d18 d19 d20 d21 d22 d23 d24 d25 d26 d27 d28 d29 d30 d31 d32 d33 d34 d35 d36 d37 d38 d39 A K) : Xov :=
 LE.okOf' (fun W => @TT W) (fun W => @Xb W) Xa T21 1000 50 (by kernel_rfl) Xsp (fun W => @meas W) fun W l n i d0 d1 d2 d3 d4 d5 d6 d7 d8 d9 d10 d11 d12 d13 d14 d15 d16 d17 d18 d19 d20 d21 d22 d23 d24 d25 d26 d27 d28 d29 d30 d31 d32 d33 d34 d35 d36 d37 d38 d39 K hs =>
  (Xw9 W l n i d0 d1 d2 d3 d4 d5 d6 d7 d8 d9 d10 d11 d12 d13 d14 d15 d16 d17 d18 d19 d20 d21 d22 d23 d24 d25 d26 d27 d28 d29 d30 d31 d32 d33 d34 d35 d36 d37 d38 d39 (fun e => meas e < meas [.ro _ l, .i n, .i i, .i d0, .i d1, .i d2, .i d3, .i d4, .i d5, .i d6, .i d7, .i d8, .i d9, .i d10, .i d11, .i d12, .i d13, .i d14, .i d15, .i d16, .i d17, .i d18, .i d19, .i d20, .i d21, .i d22, .i d23, .i d24, .i d25, .i d26, .i d27, .i d28, .i d29, .i d30, .i d31, .i d32, .i d33, .i d34, .i d35, .i d36, .i d37, .i d38, .i d39] /\ Xqk e K) K).mpr (hyp_ W l n i d0 d1 d2 d3 d4 d5 d6 d7 d8 d9 d10 d11 d12 d13 d14 d15 d16 d17 d18 d19 d20 d21 d22 d23 d24 d25 d26 d27 d28 d29 d30 d31 d32 d33 d34 d35 d36 d37 d38 d39 K hs _ fun e h1 h2 => ⟨h1, h2⟩)
theorem Xmb (l : Dt) (s : Nat) : ∀ (n i : Nat) (a : Int), Sp.cnt l s i (n + 1) a = if Sp.xS l (i + n) = s then Sp.cnt l s i n a + 1 else Sp.cnt l s i n a
 | 0, i, a => rfl
 | n + 1, i, a => by
  rw [show Sp.cnt l s i (n + 1 + 1) a = Sp.cnt l s (i + 1) (n + 1) (if Sp.xS l i = s then a + 1 else a) from rfl, Xmb l s n (i + 1), show i + 1 + n = i + (n + 1) by omega];rfl
theorem okLdl : Xov := Xxs (fun e => match e with | .ro _ l :: _ :: .i i :: _ => ((l.xs.length : Int) - i).toNat | _ => 0) fun W l n i d0 d1 d2 d3 d4 d5 d6 d7 d8 d9 d10 d11 d12 d13 d14 d15 d16 d17 d18 d19 d20 d21 d22 d23 d24 d25 d26 d27 d28 d29 d30 d31 d32 d33 d34 d35 d36 d37 d38 d39 K hs A hA => by
 obtain ⟨⟨rfl, hD⟩, hk⟩ := hs;unfold Xpi;delta Zba Za;have hns : [d0, d1, d2, d3, d4, d5, d6, d7, d8, d9, d10, d11, d12, d13, d14, d15, d16, d17, d18, d19, d20, d21, d22, d23, d24, d25, d26, d27, d28, d29, d30, d31, d32, d33, d34, d35, d36, d37, d38, d39] = Sp.dAt l.xs i.toNat := hD.ds;have h0 := hD.i0;have h1 := hD.i1;have h2 := hD.ln;have hget : ∀ s, s < 40 -> ([d0, d1, d2, d3, d4, d5, d6, d7, d8, d9, d10, d11, d12, d13, d14, d15, d16, d17, d18, d19, d20, d21, d22, d23, d24, d25, d26, d27, d28, d29, d30, d31, d32, d33, d34, d35, d36, d37, d38, d39] : List Int).getD s 0 = Sp.cnt l.xs s 0 i.toNat 0 := fun s hs => by
  rw [hns, List.getD_eq_getElem?_getD];unfold Sp.dAt;rw [List.getElem?_map, List.getElem?_range hs];rfl
 refine vifd (fun e => ?_) fun e => ?_
 ·have hx := hD.xs i.toNat (by omega);have hx' : 0 <= (cel l.xs i.toNat 0).int /\ (cel l.xs i.toNat 0).int < 40 := hx;have hp : (cel l.xs i.toNat 0).int.toNat < 40 := by omega
  have hv := hget _ hp;have hc := Sp.cnt_in l.xs (cel l.xs i.toNat 0).int.toNat i.toNat 0 0;have ez : (i + 1).toNat = i.toNat + 1 := by omega
  refine ned (by simp; omega) (nedd (by omega) (ned (by simp; omega) (nedd hp (ar64 (by rw [hv]; omega) (ned (by simp; omega) (nedd hp (ar64 (by omega) (hA _ ?_ ?_))))))))
  ·show ((l.xs.length : Int) - (i + 1)).toNat < ((l.xs.length : Int) - i).toNat
   omega
  ·refine ⟨⟨rfl, ⟨by omega, by omega, h2, hD.xs, ?_⟩⟩, hk⟩;refine Eq.trans (b := (List.range 40).map fun s => selU (cel l.xs i.toNat 0).int.toNat s (([d0, d1, d2, d3, d4, d5, d6, d7, d8, d9, d10, d11, d12, d13, d14, d15, d16, d17, d18, d19, d20, d21, d22, d23, d24, d25, d26, d27, d28, d29, d30, d31, d32, d33, d34, d35, d36, d37, d38, d39] : List Int).getD (cel l.xs i.toNat 0).int.toNat 0 + 1) (([d0, d1, d2, d3, d4, d5, d6, d7, d8, d9, d10, d11, d12, d13, d14, d15, d16, d17, d18, d19, d20, d21, d22, d23, d24, d25, d26, d27, d28, d29, d30, d31, d32, d33, d34, d35, d36, d37, d38, d39] : List Int).getD s 0)) rfl ?_;unfold Sp.dAt;refine List.map_congr_left fun s hs => ?_;rw [List.mem_range] at hs;rw [hget s hs, hv, ez, Xmb, Nat.zero_add];unfold selU;have hxs : Sp.xS l.xs i.toNat = (cel l.xs i.toNat 0).int := rfl
   by_cases hps : (cel l.xs i.toNat 0).int.toNat = s
   ·rw [if_pos hps, if_pos (by omega), hps]
   ·rw [if_neg hps, if_neg (by omega)]
 ·have hl : i.toNat = l.xs.length := by omega
  rw [hl] at hns;rw [<- hns] at hk;exact hk
noncomputable def le_dl : LE Try.prog := ⟨90, 11, fun W => @Yqt W Xsp, okLdl⟩
open Go.RowKit
set_option maxRecDepth 100000
set_option maxHeartbeats 1600000
noncomputable def T41 : Tab Try.prog := ⟨[Xnr], [], []⟩
def Xj7 [InW] (e : List Ed) (K : Nat -> List Ed -> Prop) : Prop := match e with
 | [.ro _ hd, .i n, .i i] => Pre (n = hd.xs.length /\ 0 <= i /\ i <= n) (Vif (Sp.hasE (Sp.hdErr hd.xs) i.toNat (hd.xs.length - i.toNat))
   (K 1 [.i (Sp.idxE (Sp.hdErr hd.xs) i.toNat (hd.xs.length - i.toNat)), .i (Sp.hdErr hd.xs (Sp.idxE (Sp.hdErr hd.xs) i.toNat (hd.xs.length - i.toNat)))]) (K 0 []))
 | _ => False
noncomputable def Xly : LC where
 len := 23
 T := [(1, (.fn (.func 87) [] [])), (8, .rs Iv4), (9, .int .i64), (10, .int .i64)]
 H := []
 W := [4, 5, 6, 7, 11, 12, 13, 14, 15, 16, 17, 18, 19, 20, 21, 22]
 outs := [⟨.exit 0, [], [], [1, 4, 5, 6, 7, 8, 9, 10, 11, 12, 13, 14, 15, 16, 17, 18, 19, 20, 21, 22]⟩, ⟨.ret, [(4, .int .i64), (5, .int .i64)], [], [1, 6, 7, 8, 9, 10, 11, 12, 13, 14, 15, 16, 17, 18, 19, 20, 21, 22]⟩]
 spec := Xj7
def Xjg [W : InW] (hd : Ro Iv4) (n i : Int) (A : List Ed -> Prop) (K : Nat -> List Ed -> Prop) : Prop :=
 Vif (decide (i < n)) (Need (decide ((0 : Int) <= i) && decide (i < (↑(hd.xs.length) : Int))) (Need (decide (i.toNat < hd.xs.length)) (Pre True (Vif (!decide (Sp.hrdE (cel hd.xs i.toNat (0 : Nat)).int (cel hd.xs i.toNat (0+1 : Nat)).int (cel hd.xs i.toNat (0+1+1 : Nat)).int (cel hd.xs i.toNat (0+1+1+1 : Nat)).int = (0 : Int))) (K (0+1 : Nat) [.i i, .i (Sp.hrdE (cel hd.xs i.toNat (0 : Nat)).int (cel hd.xs i.toNat (0+1 : Nat)).int (cel hd.xs i.toNat (0+1+1 : Nat)).int (cel hd.xs i.toNat (0+1+1+1 : Nat)).int)]) (Ar .i64 (i + (1 : Int)) fun z => A [.ro _ hd, .i n, .i z]))))) (K (0 : Nat) [])
theorem Xtt (W : InW) (hd n i A K) : Yer { cxT Try.prog TT T41 1000 50 with fn := 86 } 1000 (Yl5 Try.prog 86 3) (Ydl 23 [(1, .fn (.func 87) [] []), (8, .rs _ hd), (9, .si .i64 n), (10, .si .i64 i)] [4, 5, 6, 7, 11, 12, 13, 14, 15, 16, 17, 18, 19, 20, 21, 22]) [] (Yrh Xly A K) = Xjg hd n i A K := by kernel_rfl
def Xla : Prop := ∀ (W : InW) (body a : Code), (Try.prog.funcs[86]?).bind (·.body) = some body -> a ∈ Ys body -> Ye9 a = 3 -> @Yk2 W Try.prog a (@Yqt W Xly)
theorem Xve (meas : [InW] -> List Ed -> Nat) (hyp_ : ∀ (W : InW) (hd : Ro Iv4) (n i : Int) (K : Nat -> List Ed -> Prop), Xj7 [.ro _ hd, .i n, .i i] K -> ∀ A : List Ed -> Prop, (∀ e, meas e < meas [.ro _ hd, .i n, .i i] -> Xj7 e K -> A e) -> Xjg hd n i A K) : Xla :=
 LE.okOf' (fun W => @TT W) (fun W => @Xb W) Xa T41 1000 50 (by kernel_rfl) Xly (fun W => @meas W) fun W hd n i K hs =>
  (Xtt W hd n i (fun e => meas e < meas [.ro _ hd, .i n, .i i] /\ Xj7 e K) K).mpr (hyp_ W hd n i K hs _ fun e h1 h2 => ⟨h1, h2⟩)
theorem Xyd : Xla := Xve (fun e => match e with | [.ro _ hd, _, .i i] => ((hd.xs.length : Int) - i).toNat | _ => 0) fun W hd n i K hs A hA => by
 obtain ⟨⟨rfl, h0, h1⟩, hk⟩ := hs;unfold Xjg;have hm := hd.len;simp only [maxLen] at hm;refine vifd (fun e => ?_) fun e => ?_
 ·rw [show hd.xs.length - i.toNat = (hd.xs.length - (i.toNat + 1)) + 1 by omega] at hk;obtain ⟨g1, g2⟩ := Xg7 (K1 := fun j e => K 1 [.i j, .i e]) hk;rw [Int.toNat_of_nonneg h0] at g1;have ez : (i + 1).toNat = i.toNat + 1 := by omega
  have hA' : Sp.hdErr hd.xs i.toNat = 0 -> A [.ro _ hd, .i hd.xs.length, .i (i + 1)] := fun f => hA _ (by show ((hd.xs.length : Int) - (i + 1)).toNat < ((hd.xs.length : Int) - i).toNat; omega) ⟨⟨rfl, by omega, by omega⟩, by rw [ez]; exact g2 f⟩;clear g2 hk hA;simp only [Nat.zero_add, Nat.reduceAdd];rw [show Sp.hrdE (cel hd.xs i.toNat 0).int (cel hd.xs i.toNat 1).int (cel hd.xs i.toNat 2).int (cel hd.xs i.toNat 3).int = Sp.hdErr hd.xs i.toNat from rfl];refine ned (by simp; omega) (nedd (by omega) ⟨trivial, vifn (fun e2 => g1 e2) fun e2 => ar64 (by omega) (hA' e2)⟩)
 ·rw [show hd.xs.length - i.toNat = 0 by omega] at hk;exact hk.2 rfl
noncomputable def Xy6 : LE Try.prog := ⟨86, 3, fun W => @Yqt W Xly, Xyd⟩
namespace Sp
def drvN (rt : Dt) (n : Nat) : Dt := (List.range n).map fun a => (List.range 40).map fun s => Cl.i (tms rt a s)
structure OpOk (pl sh ti st : Dt) (ce : Int) (rt : Dt) (i : Int) (dr : Dt) : Prop where
 i0 : 0 <= i
 i1 : i <= rt.length
 rl : rt.length <= 10
 nm : NamesOk pl /\ NamesOk sh /\ NamesOk ti
 te : tchkE pl sh ti st = 0
 ce : inr ce 0 ((pl.length : Int) - 1) = true
 dr : dr = drvN rt i.toNat
end Sp
noncomputable def T42 : Tab Try.prog := ⟨[Xp, Xhn], [le_dl], []⟩
def Xj5 [InW] (e : List Ed) (K : Nat -> List Ed -> Prop) : Prop := match e with
 | [.ro _ rt, .i n, .i i, .ro _ pl, .ro _ sh, .ro _ ti, .ro _ st, .i ce, .l dr] => Pre (n = rt.xs.length /\ Sp.OpOk pl.xs sh.xs ti.xs st.xs ce rt.xs i dr) (Vif (Sp.hasE (Sp.rtErr st.xs rt.xs ce) i.toNat (rt.xs.length - i.toNat))
   (K 1 [.i (Sp.idxE (Sp.rtErr st.xs rt.xs ce) i.toNat (rt.xs.length - i.toNat)), .i (Sp.rtErr st.xs rt.xs ce (Sp.idxE (Sp.rtErr st.xs rt.xs ce) i.toNat (rt.xs.length - i.toNat))), .ro _ pl, .ro _ sh, .ro _ ti, .ro _ st, .i ce, .l (Sp.drvN rt.xs (Sp.idxE (Sp.rtErr st.xs rt.xs ce) i.toNat (rt.xs.length - i.toNat)))])
   (K 0 [.ro _ pl, .ro _ sh, .ro _ ti, .ro _ st, .i ce, .l (Sp.drvN rt.xs rt.xs.length)]))
 | _ => False
noncomputable def Xlw : LC where
 len := 23
 T := [(1, (.fn (.func 90) [] [(.ptr 1 0), (.ptr 4 0)])), (8, .rs Je), (9, .int .i64), (10, .int .i64)]
 H := [(1, .blk 29 [.rs Jb, .rs Jb, .rs Jb, .rs Jd, .int .i64, (.opq 1051), (.opq 1054)]), (4, .blk 100 [(.ptr 7 0)]), (7, .blk 111 [(.opq 1021), (.opq 1024), (.opq 1027), (.opq 1030), (.opq 1033), (.opq 1036), (.opq 1039), (.row 6)]), (6, .arr 125 Jc)]
 W := [4, 5, 6, 7, 11, 12, 13, 14, 15, 16, 17, 18, 19, 20, 21, 22]
 outs := [⟨.exit 0, [(1, (.fn (.func 90) [] [(.ptr 1 0), (.ptr 4 0)]))], [(1, .blk 29 [.rs Jb, .rs Jb, .rs Jb, .rs Jd, .int .i64, (.opq 1051), (.opq 1054)]), (4, .blk 100 [(.ptr 7 0)]), (7, .blk 111 [(.opq 1021), (.opq 1024), (.opq 1027), (.opq 1030), (.opq 1033), (.opq 1036), (.opq 1039), (.row 9)]), (9, .arr 125 Jc)], [4, 5, 6, 7, 8, 9, 10, 11, 12, 13, 14, 15, 16, 17, 18, 19, 20, 21, 22]⟩, ⟨.ret, [(1, (.fn (.func 90) [] [(.ptr 1 0), (.ptr 4 0)])), (4, .int .i64), (5, .int .i64)], [(1, .blk 29 [.rs Jb, .rs Jb, .rs Jb, .rs Jd, .int .i64, (.opq 1051), (.opq 1054)]), (4, .blk 100 [(.ptr 7 0)]), (7, .blk 111 [(.opq 1021), (.opq 1024), (.opq 1027), (.opq 1030), (.opq 1033), (.opq 1036), (.opq 1039), (.row 9)]), (9, .arr 125 Jc)], [6, 7, 8, 9, 10, 11, 12, 13, 14, 15, 16, 17, 18, 19, 20, 21, 22]⟩]
 spec := Xj5
def Zbf := (0 : Nat)
def Zbc [W : InW] (rt : Ro Je) (i : Int) := cel rt.xs i.toNat Zbf
def Zbe [W : InW] (rt : Ro Je) (i : Int) := List.length (Zbc rt i).lst
def Zbb [W : InW] (rt : Ro Je) (i : Int) := [[Cl.i (Sp.cnt (Zbc rt i).lst (Zbf) Zbf (Zbe rt i) Za), Cl.i (Sp.cnt (Zbc rt i).lst ((1 : Nat)) Zbf (Zbe rt i) Za), Cl.i (Sp.cnt (Zbc rt i).lst ((2 : Nat)) Zbf (Zbe rt i) Za), Cl.i (Sp.cnt (Zbc rt i).lst ((3 : Nat)) Zbf (Zbe rt i) Za), Cl.i (Sp.cnt (Zbc rt i).lst ((4 : Nat)) Zbf (Zbe rt i) Za), Cl.i (Sp.cnt (Zbc rt i).lst ((5 : Nat)) Zbf (Zbe rt i) Za), Cl.i (Sp.cnt (Zbc rt i).lst ((6 : Nat)) Zbf (Zbe rt i) Za), Cl.i (Sp.cnt (Zbc rt i).lst ((7 : Nat)) Zbf (Zbe rt i) Za), Cl.i (Sp.cnt (Zbc rt i).lst ((8 : Nat)) Zbf (Zbe rt i) Za), Cl.i (Sp.cnt (Zbc rt i).lst ((9 : Nat)) Zbf (Zbe rt i) Za), Cl.i (Sp.cnt (Zbc rt i).lst ((10 : Nat)) Zbf (Zbe rt i) Za), Cl.i (Sp.cnt (Zbc rt i).lst ((11 : Nat)) Zbf (Zbe rt i) Za), Cl.i (Sp.cnt (Zbc rt i).lst ((12 : Nat)) Zbf (Zbe rt i) Za), Cl.i (Sp.cnt (Zbc rt i).lst ((13 : Nat)) Zbf (Zbe rt i) Za), Cl.i (Sp.cnt (Zbc rt i).lst ((14 : Nat)) Zbf (Zbe rt i) Za), Cl.i (Sp.cnt (Zbc rt i).lst ((15 : Nat)) Zbf (Zbe rt i) Za), Cl.i (Sp.cnt (Zbc rt i).lst ((16 : Nat)) Zbf (Zbe rt i) Za), Cl.i (Sp.cnt (Zbc rt i).lst ((17 : Nat)) Zbf (Zbe rt i) Za), Cl.i (Sp.cnt (Zbc rt i).lst ((18 : Nat)) Zbf (Zbe rt i) Za), Cl.i (Sp.cnt (Zbc rt i).lst ((19 : Nat)) Zbf (Zbe rt i) Za), Cl.i (Sp.cnt (Zbc rt i).lst ((20 : Nat)) Zbf (Zbe rt i) Za), Cl.i (Sp.cnt (Zbc rt i).lst ((21 : Nat)) Zbf (Zbe rt i) Za), Cl.i (Sp.cnt (Zbc rt i).lst ((22 : Nat)) Zbf (Zbe rt i) Za), Cl.i (Sp.cnt (Zbc rt i).lst ((23 : Nat)) Zbf (Zbe rt i) Za), Cl.i (Sp.cnt (Zbc rt i).lst ((24 : Nat)) Zbf (Zbe rt i) Za), Cl.i (Sp.cnt (Zbc rt i).lst ((25 : Nat)) Zbf (Zbe rt i) Za), Cl.i (Sp.cnt (Zbc rt i).lst ((26 : Nat)) Zbf (Zbe rt i) Za), Cl.i (Sp.cnt (Zbc rt i).lst ((27 : Nat)) Zbf (Zbe rt i) Za), Cl.i (Sp.cnt (Zbc rt i).lst ((28 : Nat)) Zbf (Zbe rt i) Za), Cl.i (Sp.cnt (Zbc rt i).lst ((29 : Nat)) Zbf (Zbe rt i) Za), Cl.i (Sp.cnt (Zbc rt i).lst ((30 : Nat)) Zbf (Zbe rt i) Za), Cl.i (Sp.cnt (Zbc rt i).lst ((31 : Nat)) Zbf (Zbe rt i) Za), Cl.i (Sp.cnt (Zbc rt i).lst ((32 : Nat)) Zbf (Zbe rt i) Za), Cl.i (Sp.cnt (Zbc rt i).lst ((33 : Nat)) Zbf (Zbe rt i) Za), Cl.i (Sp.cnt (Zbc rt i).lst ((34 : Nat)) Zbf (Zbe rt i) Za), Cl.i (Sp.cnt (Zbc rt i).lst ((35 : Nat)) Zbf (Zbe rt i) Za), Cl.i (Sp.cnt (Zbc rt i).lst ((36 : Nat)) Zbf (Zbe rt i) Za), Cl.i (Sp.cnt (Zbc rt i).lst ((37 : Nat)) Zbf (Zbe rt i) Za), Cl.i (Sp.cnt (Zbc rt i).lst ((38 : Nat)) Zbf (Zbe rt i) Za), Cl.i (Sp.cnt (Zbc rt i).lst ((39 : Nat)) Zbf (Zbe rt i) Za)]]
def Zbd [W : InW] (rt : Ro Je) (n i : Int) (pl sh ti : Ro Jb) (st : Ro Jd) (ce : Int) (dr : Dt) (A : List Ed -> Prop) (K : Nat -> List Ed -> Prop) := Vif (!decide (Sp.drvE pl.xs sh.xs ti.xs st.xs ce Za (Zbc rt i).lst = Za)) (Vif (!decide (Sp.drvE pl.xs sh.xs ti.xs st.xs ce Za (Zbc rt i).lst = Za)) (K (0+1 : Nat) [.i i, .i (Sp.drvE pl.xs sh.xs ti.xs st.xs ce Za (Zbc rt i).lst), .ro _ pl, .ro _ sh, .ro _ ti, .ro Zc st, .i ce, .l dr]) (Ar .i64 (i + (1 : Int)) fun z => A [.ro Zz rt, .i n, .i z, .ro _ pl, .ro _ sh, .ro _ ti, .ro Zc st, .i ce, .l dr])) (Pre ((↑(Zbe rt i) : Int) = (↑(Zbe rt i) : Int) /\ Sp.DOk (Zbc rt i).lst Za [Za, Za, Za, Za, Za, Za, Za, Za, Za, Za, Za, Za, Za, Za, Za, Za, Za, Za, Za, Za, Za, Za, Za, Za, Za, Za, Za, Za, Za, Za, Za, Za, Za, Za, Za, Za, Za, Za, Za, Za]) (Need (decide ((dr.length + (Zbb rt i).length) * (320 : Nat) <= (140737488355328 : Nat))) (Ar .i64 (i + (1 : Int)) fun z => A [.ro Zz rt, .i n, .i z, .ro _ pl, .ro _ sh, .ro _ ti, .ro Zc st, .i ce, .l (dr ++ (Zbb rt i))])))
def Xje [W : InW] (rt : Ro Je) (n i : Int) (pl sh ti : Ro Jb) (st : Ro Jd) (ce : Int) (dr : Dt) (A : List Ed -> Prop) (K : Nat -> List Ed -> Prop) : Prop :=
 Vif (decide (i < n)) (Need (decide (Za <= i) && decide (i < (↑(rt.xs.length) : Int))) (Need (decide (i.toNat < rt.xs.length)) (Pre True (Vif (Sp.out (1 : Int) (60 : Int) [[Cl.i (↑(Zbe rt i) : Int)]]) (K (0+1 : Nat) [.i i, .i (3 : Int), .ro _ pl, .ro _ sh, .ro _ ti, .ro Zc st, .i ce, .l dr]) (Pre (Sp.NamesOk pl.xs /\ Sp.NamesOk sh.xs /\ Sp.NamesOk ti.xs) (Vif (decide (Sp.drvE pl.xs sh.xs ti.xs st.xs ce Za (Zbc rt i).lst = Za)) (Vif (!decide (Sp.dvT pl.xs sh.xs ti.xs st.xs ce Za (Zbc rt i).lst = ce)) (K (0+1 : Nat) [.i i, .i (9 : Int), .ro _ pl, .ro _ sh, .ro _ ti, .ro Zc st, .i ce, .l dr]) (Zbd rt n i pl sh ti st ce dr A K)) (Zbd rt n i pl sh ti st ce dr A K))))))) (K Zbf [.ro _ pl, .ro _ sh, .ro _ ti, .ro Zc st, .i ce, .l dr])
theorem Xtr (W : InW) (rt n i pl sh ti st ce dr A K) : Yer { cxT Try.prog TT T42 1000 50 with fn := 89 } 1000 (Yl5 Try.prog 89 3) (Ydl 23 [(1, .fn (.func 90) [] [.ptr 1 0, .ptr 4 0]), (8, .rs _ rt), (9, .si .i64 n), (10, .si .i64 i)] [4, 5, 6, 7, 11, 12, 13, 14, 15, 16, 17, 18, 19, 20, 21, 22]) [(1, .blk 29 [.rs _ pl, .rs _ sh, .rs _ ti, .rs _ st, .si .i64 ce, .opq 1051, .opq 1054]), (4, .blk 100 [.ptr 7 0]), (7, .blk 111 [.opq 1021, .opq 1024, .opq 1027, .opq 1030, .opq 1033, .opq 1036, .opq 1039, .rw 6]), (6, .arr 125 Jc dr)] (Yrh Xlw A K) = Xje rt n i pl sh ti st ce dr A K := by kernel_rfl
def Xk8 : Prop := ∀ (W : InW) (body a : Code), (Try.prog.funcs[89]?).bind (·.body) = some body -> a ∈ Ys body -> Ye9 a = 3 -> @Yk2 W Try.prog a (@Yqt W Xlw)
theorem Xvc (meas : [InW] -> List Ed -> Nat) (hyp_ : ∀ (W : InW) (rt : Ro Je) (n i : Int) (pl sh ti : Ro Jb) (st : Ro Jd) (ce : Int) (dr : Dt) (K : Nat -> List Ed -> Prop), Xj5 [.ro _ rt, .i n, .i i, .ro _ pl, .ro _ sh, .ro _ ti, .ro _ st, .i ce, .l dr] K -> ∀ A : List Ed -> Prop, (∀ e, meas e < meas [.ro _ rt, .i n, .i i, .ro _ pl, .ro _ sh, .ro _ ti, .ro _ st, .i ce, .l dr] -> Xj5 e K -> A e) -> Xje rt n i pl sh ti st ce dr A K) : Xk8 :=
 LE.okOf' (fun W => @TT W) (fun W => @Xb W) Xa T42 1000 50 (by kernel_rfl) Xlw (fun W => @meas W) fun W rt n i pl sh ti st ce dr K hs =>
  (Xtr W rt n i pl sh ti st ce dr (fun e => meas e < meas [.ro _ rt, .i n, .i i, .ro _ pl, .ro _ sh, .ro _ ti, .ro _ st, .i ce, .l dr] /\ Xj5 e K) K).mpr (hyp_ W rt n i pl sh ti st ce dr K hs _ fun e h1 h2 => ⟨h1, h2⟩)
theorem Xo2 (rt : Dt) (n : Nat) : Sp.drvN rt (n + 1) = Sp.drvN rt n ++ [(List.range 40).map fun s => Cl.i (Sp.tms rt n s)] := by
 unfold Sp.drvN;rw [show List.range (n + 1) = List.range n ++ [n] from List.range_succ, List.map_append];rfl
theorem Xyb : Xk8 := Xvc (fun e => match e with | .ro _ rt :: _ :: .i i :: _ => ((rt.xs.length : Int) - i).toNat | _ => 0) fun W rt n i pl sh ti st ce dr K hs A hA => by
 obtain ⟨⟨rfl, hO⟩, hk⟩ := hs;unfold Xje;delta Zbd Zbb Zbe Zbc Zc Zbf Za Zz;have hm := rt.len;simp only [maxLen] at hm;have h0 := hO.i0;have h1 := hO.i1;have hrl := hO.rl;have htw := Sp.tchk_ok hO.te;refine vifd (fun e => ?_) fun e => ?_
 ·rw [show rt.xs.length - i.toNat = (rt.xs.length - (i.toNat + 1)) + 1 by omega] at hk;obtain ⟨g1, g2⟩ := Xg7 (K1 := fun j e => K 1 [.i j, .i e, .ro _ pl, .ro _ sh, .ro _ ti, .ro _ st, .i ce, .l (Sp.drvN rt.xs j)]) hk;rw [Int.toNat_of_nonneg h0] at g1;have ez : (i + 1).toNat = i.toNat + 1 := by omega
  have hA' : Sp.rtErr st.xs rt.xs ce i.toNat = 0 -> A [.ro _ rt, .i rt.xs.length, .i (i + 1), .ro _ pl, .ro _ sh, .ro _ ti, .ro _ st, .i ce, .l (Sp.drvN rt.xs (i.toNat + 1))] := fun f => hA _ (by show ((rt.xs.length : Int) - (i + 1)).toNat < ((rt.xs.length : Int) - i).toNat; omega) ⟨⟨rfl, ⟨by omega, by omega, hrl, hO.nm, hO.te, hO.ce, by rw [ez]⟩⟩, by rw [ez]; exact g2 f⟩;clear g2 hk hA;have hdr := hO.dr;rw [Xo2, <- hdr] at hA';rw [<- hdr] at g1;have eT : ∀ s, Sp.tms rt.xs i.toNat s = Sp.cnt (cel rt.xs i.toNat 0).lst s 0 (cel rt.xs i.toNat 0).lst.length 0 := fun s => rfl;have hE : Sp.rtErr st.xs rt.xs ce i.toNat = Sp.routeE st.xs (cel rt.xs i.toNat 0).lst ce := rfl;have hti := htw.tiL;have hsl := htw.stL;have hD : Sp.drvE pl.xs sh.xs ti.xs st.xs ce 0 (cel rt.xs i.toNat 0).lst = Sp.stepsE st.xs (cel rt.xs i.toNat 0).lst ce := by
   unfold Sp.drvE;rw [if_pos hO.te, hO.ce, if_pos (by simp only [Bool.true_and]; exact Sp.inr_iff.2 ⟨by omega, by omega⟩)]
  have hT : Sp.stepsE st.xs (cel rt.xs i.toNat 0).lst ce = 0 -> Sp.dvT pl.xs sh.xs ti.xs st.xs ce 0 (cel rt.xs i.toNat 0).lst = Sp.stepsT st.xs (cel rt.xs i.toNat 0).lst ce := fun e => by
   unfold Sp.dvT;rw [if_pos (by rw [hD]; exact e)]
  have hdl : dr.length = i.toNat := by rw [hdr]; unfold Sp.drvN; simp
  simp only [Nat.zero_add, Nat.reduceAdd, out1, hD];unfold Sp.routeE at hE;refine ned (by simp; omega) (nedd (by omega) ⟨trivial, vifb (fun e1 => ?_) fun e1 => ⟨hO.nm, vifd (fun e2 => vifn (fun e3 => ?_) fun e3 => vifn (fun e4 => absurd e2 e4) fun e4 => ⟨⟨trivial, ?_⟩, nedd ?_ ?_⟩) fun e2 => vifn (fun e4 => vifn (fun _ => ?_) fun e5 => absurd e5 e2) fun e4 => absurd e4 e2⟩⟩)
  ·rw [if_neg (by simp [e1])] at hE;rw [hE] at g1;exact g1 (by decide)
  ·rw [if_pos e1, if_pos e2, if_neg (by rw [<- hT e2]; exact e3)] at hE;rw [hE] at g1;exact g1 (by decide)
  ·have e1' := Sp.inr_iff.1 e1;have hs := (Sp.steps_street e2).2;exact ⟨by omega, by omega, by omega, fun k hk => by have := hs k hk; omega, rfl⟩
  ·simp only [List.length_cons, List.length_nil];omega
  ·rw [if_pos e1, if_pos e2, if_pos (by rw [<- hT e2]; exact e3)] at hE;have := hA' hE;refine ar64 (by omega) ?_;exact this
  ·rw [if_pos e1, if_neg e2] at hE;rw [hE] at g1;exact g1 e2
 ·rw [show rt.xs.length - i.toNat = 0 by omega] at hk;have hl : i.toNat = rt.xs.length := by omega
  have := hk.2 rfl;rw [<- hl, <- hO.dr] at this;exact this
noncomputable def Xy4 : LE Try.prog := ⟨89, 3, fun W => @Yqt W Xlw, Xyb⟩
noncomputable def T43 : Tab Try.prog := ⟨[Xp, Xhp], [Xy6, Xy4], []⟩
def Xng [InW] (e : List Ed) (K : Nat -> List Ed -> Prop) : Prop := match e with
 | [.ro _ pl, .ro _ sh, .ro _ ti, .ro _ st, .i ce, .ro _ hd, .ro _ rt] => Pre (Sp.NamesOk pl.xs /\ Sp.NamesOk sh.xs /\ Sp.NamesOk ti.xs) (Vif (decide (Sp.cE pl.xs sh.xs ti.xs st.xs ce hd.xs rt.xs = 0))
   (K 1 [.ro _ pl, .ro _ sh, .ro _ ti, .ro _ st, .i ce, .ro _ hd, .ro _ rt, .l (Sp.drvN rt.xs rt.xs.length)])
   (K 0 [.i (Sp.cP pl.xs sh.xs ti.xs st.xs ce hd.xs rt.xs), .i (Sp.cI pl.xs sh.xs ti.xs st.xs ce hd.xs rt.xs), .i (Sp.cE pl.xs sh.xs ti.xs st.xs ce hd.xs rt.xs)]))
 | _ => False
noncomputable def Xv : CC where
 g := 71
 args := [.agg [.rs Jb, .rs Jb, .rs Jb, .rs Jd, .int .i64, .rs Iv4, .rs Je]]
 H := []
 outs := [⟨false, .tup [(.lit (.pointer none)), .int .i64, .int .i64, .int .i64], [], false⟩, ⟨false, .tup [(.ptr 6 0), (.lit (.int .i64 0)), (.lit (.int .i64 0)), (.lit (.int .i64 0))], [(6, .blk 111 [.rs Jb, .rs Jb, .rs Jb, .rs Jd, .int .i64, .rs Iv4, .rs Je, (.row 12)]), (12, .arr 125 Jc)], false⟩]
 spec := Xng
def Zbh [W : InW] (hd : Ro Iv4) := Sp.idxE (Sp.hdErr hd.xs) Zg (hd.xs.length - Int.toNat Za)
def Zbg [W : InW] (pl sh ti : Ro Jb) (st : Ro Jd) (ce : Int) (hd : Ro Iv4) (rt : Ro Je) (K : Nat -> List Ed -> Prop) := Pre ((↑(rt.xs.length) : Int) = (↑(rt.xs.length) : Int) /\ Sp.OpOk pl.xs sh.xs ti.xs st.xs ce rt.xs Za []) (Vif (Sp.hasE (Sp.rtErr st.xs rt.xs ce) Zg (rt.xs.length - Int.toNat Za)) (Vif (!decide (Sp.rtErr st.xs rt.xs ce (Sp.idxE (Sp.rtErr st.xs rt.xs ce) Zg (rt.xs.length - Int.toNat Za)) = Za)) (K Zbf [.i (3 : Int), .i (↑(Sp.idxE (Sp.rtErr st.xs rt.xs ce) Zg (rt.xs.length - Int.toNat Za)) : Int), .i (Sp.rtErr st.xs rt.xs ce (Sp.idxE (Sp.rtErr st.xs rt.xs ce) Zg (rt.xs.length - Int.toNat Za)))]) (K (0+1 : Nat) [.ro _ pl, .ro _ sh, .ro _ ti, .ro Zc st, .i ce, .ro _ hd, .ro Zz rt, .l (Sp.drvN rt.xs (Sp.idxE (Sp.rtErr st.xs rt.xs ce) Zg (rt.xs.length - Int.toNat Za)))])) (K (0+1 : Nat) [.ro _ pl, .ro _ sh, .ro _ ti, .ro Zc st, .i ce, .ro _ hd, .ro Zz rt, .l (Sp.drvN rt.xs (rt.xs.length))]))
def Xg5 [W : InW] (pl sh ti : Ro Jb) (st : Ro Jd) (ce : Int) (hd : Ro Iv4) (rt : Ro Je) (K : Nat -> List Ed -> Prop) : Prop :=
 Pre (Sp.NamesOk pl.xs /\ Sp.NamesOk sh.xs /\ Sp.NamesOk ti.xs) (Vif (!decide (Sp.tchkE pl.xs sh.xs ti.xs st.xs = Za)) (K Zbf [.i (1 : Int), .i Za, .i (Sp.tchkE pl.xs sh.xs ti.xs st.xs)]) (Ar .i64 ((↑(pl.xs.length) : Int) - (1 : Int)) fun z => Pre True (Vif (Sp.out Za z [[Cl.i ce]]) (K Zbf [.i (1 : Int), .i Za, .i (4 : Int)]) (Vif (!decide ((↑(hd.xs.length) : Int) = (↑(st.xs.length) : Int))) (K Zbf [.i (1 : Int), .i Za, .i (3 : Int)]) (Vif (decide ((10 : Int) < (↑(rt.xs.length) : Int))) (K Zbf [.i (1 : Int), .i Za, .i (3 : Int)]) (Pre ((↑(hd.xs.length) : Int) = (↑(hd.xs.length) : Int) /\ Za <= Za /\ Za <= (↑(hd.xs.length) : Int)) (Vif (Sp.hasE (Sp.hdErr hd.xs) Zg (hd.xs.length - Int.toNat Za)) (Vif (!decide (Sp.hdErr hd.xs (Zbh hd) = Za)) (K Zbf [.i (2 : Int), .i (↑(Zbh hd) : Int), .i (Sp.hdErr hd.xs (Zbh hd))]) (Zbg pl sh ti st ce hd rt K)) (Zbg pl sh ti st ce hd rt K))))))))
theorem Xp1 (W : InW) (pl sh ti st ce hd rt K) : Ytb (cxT Try.prog TT T43 1000 50) 1000 71 [.agg [.rs _ pl, .rs _ sh, .rs _ ti, .rs _ st, .si .i64 ce, .rs _ hd, .rs _ rt]] [] (fun v h => outC Xv.H [] Xv.outs 0 false v h K) (fun v h => outC Xv.H [] Xv.outs 0 true v h K) = Xg5 pl sh ti st ce hd rt K := by kernel_rfl
theorem Xrw (hyp_ : ∀ (W : InW) (pl sh ti : Ro Jb) (st : Ro Jd) (ce : Int) (hd : Ro Iv4) (rt : Ro Je) (K : Nat -> List Ed -> Prop), Xng [.ro _ pl, .ro _ sh, .ro _ ti, .ro _ st, .i ce, .ro _ hd, .ro _ rt] K -> Xg5 pl sh ti st ce hd rt K) : ∀ W : InW, @CallC W Try.prog Xv :=
 CC.okOf (fun W => @TT W) (fun W => @Xb W) Xa T43 1000 50 Xv fun W pl sh ti st ce hd rt K hs => (Xp1 W pl sh ti st ce hd rt K).mpr (hyp_ W pl sh ti st ce hd rt K hs)
theorem Xwl : ∀ W : InW, @CallC W Try.prog Xv := Xrw fun W pl sh ti st ce hd rt K hs => by
 obtain ⟨hp, hk⟩ := hs;unfold Xg5;delta Zbg Zbh Zg Zz Zc Za Zbf;have hpl := pl.len;simp only [maxLen] at hpl;have i1 := fun e => (Sp.hasE_ix (f := Sp.hdErr hd.xs) (n := hd.xs.length) (i := 0) e).2.2;have i2 := fun e => (Sp.hasE_ix (f := Sp.rtErr st.xs rt.xs ce) (n := rt.xs.length) (i := 0) e).2.2;have hop : Sp.tchkE pl.xs sh.xs ti.xs st.xs = 0 -> Sp.inr ce 0 ((pl.xs.length : Int) - 1) = true -> ¬ 10 < (rt.xs.length : Int) -> Sp.OpOk pl.xs sh.xs ti.xs st.xs ce rt.xs 0 [] := fun e1 e2 e3 => ⟨by omega, by omega, by omega, hp, e1, e2, rfl⟩;obtain ⟨q0, q1, q2, q3, q4, q5⟩ := Xmc (pl := pl.xs) (sh := sh.xs) (ti := ti.xs) (st := st.xs) (ce := ce) (hd := hd.xs) (rt := rt.xs) (Q := fun r => Vif (decide (r.2.2 = 0)) (K 1 [.ro _ pl, .ro _ sh, .ro _ ti, .ro _ st, .i ce, .ro _ hd, .ro _ rt, .l (Sp.drvN rt.xs rt.xs.length)]) (K 0 [.i r.1, .i r.2.1, .i r.2.2])) hk;clear hk;simp only [show Int.toNat 0 = 0 from rfl, Nat.sub_zero, out1]
 repeat' (first | (refine ⟨⟨trivial, hop (by assumption) (by assumption) (by assumption)⟩, ?_⟩) | (refine ⟨⟨rfl, hop (by assumption) (by assumption) (by assumption)⟩, ?_⟩) | omega | with_reducible refine vifd (fun _ => ?_) fun _ => ?_ | with_reducible refine vifn (fun _ => ?_) fun _ => ?_ | with_reducible refine vifq (fun _ => ?_) fun _ => ?_ | with_reducible refine vifq0 (fun _ => ?_) fun _ => ?_ | with_reducible refine vifq1 (fun _ => ?_) fun _ => ?_ | with_reducible refine vifb (fun _ => ?_) fun _ => ?_ | with_reducible refine vif (fun _ => ?_) fun _ => ?_ | (with_reducible refine nedd ?_ ?_; omega) | (with_reducible refine ned ?_ ?_; simp only [Bool.and_eq_true, decide_eq_true_eq]; omega) | (with_reducible refine ar64 ?_ ?_; omega) | (with_reducible refine Xf ?_ ?_; (first | trivial | omega | assumption | (refine ⟨?_, ?_⟩ <;> first | trivial | omega | assumption) | (refine ⟨?_, ?_, ?_⟩ <;> first | trivial | omega | assumption) | (refine ⟨?_, ?_, ?_, ?_⟩ <;> first | trivial | omega | assumption))))
 all_goals first | contradiction | exact absurd (by assumption) (i1 (by assumption)) | exact absurd (by assumption) (i2 (by assumption)) | exact (q0 (by assumption)).2 (decide_eq_false (by assumption)) | exact (q1 (by assumption) (by assumption)).2 rfl | exact (q2 (by assumption) (by assumption) (.inl (by assumption))).2 rfl | exact (q2 (by assumption) (by assumption) (.inr (by assumption))).2 rfl | exact (q3 (by assumption) (by assumption) (by assumption) (by assumption) (by assumption)).2 (decide_eq_false (i1 (by assumption))) | exact (q4 (by assumption) (by assumption) (by assumption) (by assumption) (by assumption) (by assumption)).2 (decide_eq_false (i2 (by assumption))) | exact (q5 (by assumption) (by assumption) (by assumption) (by assumption) (by assumption) (by assumption)).1 rfl | skip
noncomputable def Xbr := ceOf Xv Xwl
namespace Sp
def sumT (hd rt : Dt) (a : Nat) (tr : Dt) : Int := sumF (fun s => tms rt a s * atH hd s (cel tr s 0).int) 0 hd.length 0
structure TrOk (hd tr : Dt) : Prop where
 len : tr.length = hd.length
 each : ∀ s, s < hd.length -> hLo hd s <= (cel tr s 0).int /\ (cel tr s 0).int <= hHi hd s
def trB (hd tr : Dt) (s : Nat) : Int := if inr (cel tr s 0).int (hLo hd s) (hHi hd s) then 0 else 7
def trErr (hd tr : Dt) : Int := if (tr.length : Int) = hd.length then (if hasE (trB hd tr) 0 tr.length then 7 else 0) else 3
theorem sum_dif (hd rt : Dt) (a b : Nat) (tr : Dt) : sumT hd rt a tr - sumT hd rt b tr = sumF (fun s => dif rt a b s * atH hd s (cel tr s 0).int) 0 hd.length 0 := by
 unfold sumT;rw [sumF_sub];refine sumF_congr fun k _ _ => ?_;unfold dif;rw [Int.sub_mul]
theorem cel_gen {f : Nat -> Int} {n s : Nat} (h : s < n) : cel ((List.range n).map fun s => [Cl.i (f s)]) s 0 = Cl.i (f s) := by
 unfold cel;rw [List.getD_eq_getElem?_getD, List.getD_eq_getElem?_getD, List.getElem?_map, List.getElem?_range h];rfl
theorem sum_le (hd rt : Dt) (a b : Nat) : sumT hd rt a (apLe hd rt a b hd.length) - sumT hd rt b (apLe hd rt a b hd.length) = apLo hd rt a b := by
 rw [sum_dif];unfold apLo apLe;exact sumF_congr fun k _ hk => by rw [cel_gen (by omega)]; rfl
theorem sum_gr (hd rt : Dt) (a b : Nat) : sumT hd rt a (apGr hd rt a b hd.length) - sumT hd rt b (apGr hd rt a b hd.length) = apHi hd rt a b := by
 rw [sum_dif];unfold apHi apGr;exact sumF_congr fun k _ hk => by rw [cel_gen (by omega)]; rfl
theorem leT_in {hd : Dt} {n : Int} {s : Nat} (h : HdOk hd s) : hLo hd s <= leT hd n s /\ leT hd n s <= hHi hd s := by
 have := h.le;unfold leT
 repeat' split
 all_goals omega
theorem grT_in {hd : Dt} {n : Int} {s : Nat} (h : HdOk hd s) : hLo hd s <= grT hd n s /\ grT hd n s <= hHi hd s := by
 have := h.le;unfold grT
 repeat' split
 all_goals omega
theorem le_tr {hd rt : Dt} {a b : Nat} (h : ∀ i, i < hd.length -> HdOk hd i) : TrOk hd (apLe hd rt a b hd.length) := ⟨by unfold apLe; simp, fun s hs => by unfold apLe; rw [cel_gen hs]; exact leT_in (h s hs)⟩
theorem gr_tr {hd rt : Dt} {a b : Nat} (h : ∀ i, i < hd.length -> HdOk hd i) : TrOk hd (apGr hd rt a b hd.length) := ⟨by unfold apGr; simp, fun s hs => by unfold apGr; rw [cel_gen hs]; exact grT_in (h s hs)⟩
theorem far_in {hd rt tr : Dt} {a b : Nat} (h : ∀ i, i < hd.length -> HdOk hd i) (ht : TrOk hd tr) : apLo hd rt a b <= sumT hd rt a tr - sumT hd rt b tr /\ sumT hd rt a tr - sumT hd rt b tr <= apHi hd rt a b := by
 rw [sum_dif];unfold apLo apHi;refine ⟨sumF_le (fun k _ hk => ?_) (Int.le_refl _), sumF_le (fun k _ hk => ?_) (Int.le_refl _)⟩
 ·exact (ap_in (h k (by omega)).pe.1 (ht.each k (by omega)).1 (ht.each k (by omega)).2).1
 ·exact (ap_in (h k (by omega)).pe.1 (ht.each k (by omega)).1 (ht.each k (by omega)).2).2
def far (hd rt : Dt) (a b : Nat) (tr : Dt) : Int := max (sumT hd rt a tr - sumT hd rt b tr) (-(sumT hd rt a tr - sumT hd rt b tr))
def haLo (hd rt : Dt) (a : Nat) : Int := sumF (fun s => tms rt a s * atH hd s (hLo hd s)) 0 hd.length 0
def haHi (hd rt : Dt) (a : Nat) : Int := sumF (fun s => tms rt a s * atH hd s (hHi hd s)) 0 hd.length 0
end Sp
namespace Sp
def bound (hd rt l : Dt) : Int := bdF hd rt l 0 l.length 0
def pickR (p : Nat -> Bool) (hd rt : Dt) (dm many : Int) : Dt × Int := refF p hd rt dm many 1 (2 ^ rt.length - 1) ([], 0)
theorem meets_len {p : Nat -> Bool} {rt : Dt} {ns : Nat} {dm many : Int} {l : Dt} (h : meets p rt ns dm many l = true) : (l.length : Int) = many := by
 unfold meets at h;rw [Bool.and_eq_true, decide_eq_true_eq] at h;exact h.1
theorem pick_facts (p : Nat -> Bool) (hd rt : Dt) (dm many : Int) (hm : 1 <= many) :
  (pickR p hd rt dm many = ([], 0) /\ ∀ l, Asc rt.length l -> meets p rt hd.length dm many l = false) \/
  ((pickR p hd rt dm many).1 ≠ [] /\ Asc rt.length (pickR p hd rt dm many).1 /\ meets p rt hd.length dm many (pickR p hd rt dm many).1 = true /\ (pickR p hd rt dm many).2 = bound hd rt (pickR p hd rt dm many).1 /\
   ∀ l, Asc rt.length l -> meets p rt hd.length dm many l = true -> (pickR p hd rt dm many).2 <= bound hd rt l) := by
 have hne : ∀ y ∈ lsts p hd rt dm many 1 (2 ^ rt.length - 1), y.1 ≠ [] /\ ((y.1.length : Int) = many /\ Asc rt.length y.1) := fun y hy => by
  obtain ⟨t, _, _, h3, rfl⟩ := mem_lsts.1 hy;have h4 := meets_len h3;exact ⟨fun g => by dsimp only at g; rw [g] at h4; simp at h4; omega, h4, ⟨lsF_sub _ _ _⟩⟩
 have hmem : ∀ l, Asc rt.length l -> meets p rt hd.length dm many l = true -> (l, bound hd rt l) ∈ lsts p hd rt dm many 1 (2 ^ rt.length - 1) := fun l ha hl => by
  have hn : l ≠ [] := fun g => by
   have h4 := meets_len hl;rw [g] at h4; simp at h4; omega
  obtain ⟨t, t1, t2, rfl⟩ := (lsF_mem hn).1 ha.sub;exact mem_lsts.2 ⟨t, t1, by omega, hl, rfl⟩
 have hall := Pk.foldR_all (key := keyR) (lxB := bfB) (Q := fun e => (e.length : Int) = many /\ Asc rt.length e) (fun x y hx hy => by
  have hl : x.length = y.length := by have := hx.1; have := hy.1; omega
  have := bf_lx (x := x) (y := y) x.length 0 (by omega) hl;simpa [bfB] using this) (fun x y hx hy => key_inj hx.2 hy.2 (by have := hx.1; have := hy.1; omega)) 0 hne
 rw [<- refF_eq] at hall
 change (_ /\ pickR p hd rt dm many = _) \/ Pk.Least keyR _ (pickR p hd rt dm many) at hall
 rcases hall with ⟨h1, h2⟩ | ⟨h1, h2⟩
 ·refine .inl ⟨h2, fun l ha => ?_⟩;cases hl : meets p rt hd.length dm many l with
  | false => rfl
  | true =>
   have := hmem l ha hl;rw [h1] at this;cases this
 ·refine .inr ⟨(hne _ h1).1, (hne _ h1).2.2, ?_, ?_, fun l ha hl => ?_⟩
  ·obtain ⟨t, _, _, h3, h4⟩ := mem_lsts.1 h1;rw [h4]; exact h3
  ·obtain ⟨t, _, _, h3, h4⟩ := mem_lsts.1 h1;rw [h4]; rfl
  ·have := h2 _ (hmem l ha hl);dsimp only at this;omega
theorem bd_mono {hd hd' rt rt' l l' : Dt} : ∀ (n i : Nat) (b b' : Int), b <= b' -> (∀ j, i <= j -> j < i + n -> ∀ k, k < j -> most hd rt (rI l k) (rI l j) <= most hd' rt' (rI l' k) (rI l' j)) -> bdF hd rt l i n b <= bdF hd' rt' l' i n b'
 | 0, _, _, _, h, _ => h
 | n + 1, i, b, b', h, hm => by
  simp only [bdF];refine bd_mono n (i + 1) _ _ ?_ fun j h1 h2 k hk => hm j (by omega) (by omega) k hk;have gen : ∀ (n k : Nat) (b b' : Int), k + n = i -> b <= b' -> bkF hd rt l i k n b <= bkF hd' rt' l' i k n b' := fun n => by
   induction n with
   | zero => intro k b b' _ h; exact h
   | succ n ih =>
    intro k b b' hk h;simp only [bkF];refine ih (k + 1) _ _ (by omega) ?_;have := hm i (by omega) (by omega) k (by omega);omega
  exact gen i 0 b b' (by omega) h
end Sp
namespace Sp
structure Wider (hd hd' : Dt) : Prop where
 len : hd'.length = hd.length
 ba : ∀ s, s < hd.length -> hBa hd' s = hBa hd s
 pe : ∀ s, s < hd.length -> hPe hd' s = hPe hd s
 lo : ∀ s, s < hd.length -> hLo hd' s <= hLo hd s
 hi : ∀ s, s < hd.length -> hHi hd s <= hHi hd' s
theorem Wider.tr {hd hd' tr : Dt} (h : Wider hd hd') (ht : TrOk hd tr) : TrOk hd' tr := ⟨by rw [ht.len, h.len], fun s hs => by
 rw [h.len] at hs;have := ht.each s hs;have := h.lo s hs;have := h.hi s hs;omega⟩
theorem Wider.sum {hd hd' : Dt} (h : Wider hd hd') (rt : Dt) (a : Nat) (tr : Dt) : sumT hd' rt a tr = sumT hd rt a tr := by
 unfold sumT;rw [h.len];refine sumF_congr fun k _ hk => ?_;unfold atH;rw [h.ba k (by omega), h.pe k (by omega)]
theorem Wider.ap {hd hd' : Dt} (h : Wider hd hd') (h1 : ∀ i, i < hd.length -> HdOk hd i) (h2 : ∀ i, i < hd'.length -> HdOk hd' i) (rt : Dt) (a b : Nat) : apLo hd' rt a b <= apLo hd rt a b /\ apHi hd rt a b <= apHi hd' rt a b := by
 have g1 := far_in (rt := rt) (a := a) (b := b) h2 (h.tr (le_tr (rt := rt) (a := a) (b := b) h1));have g2 := far_in (rt := rt) (a := a) (b := b) h2 (h.tr (gr_tr (rt := rt) (a := a) (b := b) h1));rw [h.sum, h.sum] at g1 g2;rw [sum_le] at g1;rw [sum_gr] at g2;omega
theorem Wider.most {hd hd' : Dt} (h : Wider hd hd') (h1 : ∀ i, i < hd.length -> HdOk hd i) (h2 : ∀ i, i < hd'.length -> HdOk hd' i) (rt : Dt) (a b : Nat) : most hd rt a b <= most hd' rt a b := by
 have := h.ap h1 h2 rt a b;unfold Sp.most; omega
theorem Wider.ha {hd hd' : Dt} (h : Wider hd hd') (h1 : ∀ i, i < hd.length -> HdOk hd i) (rt : Dt) (a : Nat) : haLo hd' rt a <= haLo hd rt a /\ haHi hd rt a <= haHi hd' rt a := by
 unfold haLo haHi;rw [h.len];refine ⟨sumF_le (fun k _ hk => ?_) (Int.le_refl _), sumF_le (fun k _ hk => ?_) (Int.le_refl _)⟩
 ·unfold atH;rw [h.ba k (by omega), h.pe k (by omega)];exact mul_up (tms_in rt a k).1 (h1 k (by omega)).pe.1 (h.lo k (by omega))
 ·unfold atH;rw [h.ba k (by omega), h.pe k (by omega)];exact mul_up (tms_in rt a k).1 (h1 k (by omega)).pe.1 (h.hi k (by omega))
theorem Wider.pick {hd hd' : Dt} (h : Wider hd hd') (h1 : ∀ i, i < hd.length -> HdOk hd i) (h2 : ∀ i, i < hd'.length -> HdOk hd' i) {p : Nat -> Bool} {rt : Dt} {dm many : Int} (hm : 1 <= many) (hp : (pickR p hd rt dm many).1 ≠ []) :
  (pickR p hd' rt dm many).1 ≠ [] /\ (pickR p hd rt dm many).2 <= (pickR p hd' rt dm many).2 := by
 rcases pick_facts p hd rt dm many hm with ⟨f, _⟩ | ⟨_, f2, f3, f4, f5⟩
 ·rw [f] at hp; exact absurd rfl hp
 rcases pick_facts p hd' rt dm many hm with ⟨g1, g2⟩ | ⟨g1, g2, g3, g4, g5⟩
 ·have := g2 _ f2;rw [h.len, f3] at this;cases this
 ·refine ⟨g1, ?_⟩;rw [h.len] at g3;have := f5 _ g2 g3;have h3 : bound hd rt (pickR p hd' rt dm many).1 <= bound hd' rt (pickR p hd' rt dm many).1 := bd_mono _ _ _ _ (Int.le_refl _) fun j _ _ k _ => h.most h1 h2 rt _ _;omega
def cut (rt : Dt) (r : Nat) : Dt := rt.take r ++ rt.drop (r + 1)
end Sp
namespace Sp
def hasK (hd rt l : Dt) (bd : Int) (i : Nat) : Nat -> Nat -> Bool
 | _, 0 => false
 | k, n + 1 => !decide (most hd rt (rI l i) (rI l k) <= bd) || hasK hd rt l bd i (k + 1) n
def ixK (hd rt l : Dt) (bd : Int) (i : Nat) : Nat -> Nat -> Nat
 | k, 0 => k
 | k, n + 1 => if most hd rt (rI l i) (rI l k) <= bd then ixK hd rt l bd i (k + 1) n else k
def hasD (hd rt l : Dt) (bd : Int) : Nat -> Nat -> Bool
 | _, 0 => false
 | i, n + 1 => hasK hd rt l bd i (i + 1) n || hasD hd rt l bd (i + 1) n
def ixD (hd rt l : Dt) (bd : Int) : Nat -> Nat -> Nat × Nat
 | i, 0 => (i, i)
 | i, n + 1 => if hasK hd rt l bd i (i + 1) n then (i, ixK hd rt l bd i (i + 1) n) else ixD hd rt l bd (i + 1) n
def worst (hd rt : Dt) (a b : Nat) : Dt := if apHi hd rt a b <= -apLo hd rt a b then apLe hd rt a b hd.length else apGr hd rt a b hd.length
def dbA (hd rt l : Dt) (bd : Int) : Int := if hasD hd rt l bd 0 l.length then (cel l (ixD hd rt l bd 0 l.length).1 0).int else -1
def dbB (hd rt l : Dt) (bd : Int) : Int := if hasD hd rt l bd 0 l.length then (cel l (ixD hd rt l bd 0 l.length).2 0).int else -1
def dbT (hd rt l : Dt) (bd : Int) : Dt := if hasD hd rt l bd 0 l.length then worst hd rt (rI l (ixD hd rt l bd 0 l.length).1) (rI l (ixD hd rt l bd 0 l.length).2) else []
def rcK (hd rt l : Dt) (bd : Int) (i : Nat) : Nat -> Nat -> Bool -> Bool
 | _, 0, f => f
 | k, n + 1, f => rcK hd rt l bd i (k + 1) n (f || (decide (far hd rt (rI l i) (rI l k) (apLe hd rt (rI l i) (rI l k) hd.length) = bd) || decide (far hd rt (rI l i) (rI l k) (apGr hd rt (rI l i) (rI l k) hd.length) = bd)))
end Sp
open Go.RowKit
set_option maxRecDepth 100000
set_option maxHeartbeats 1600000
namespace Sp
def tD (dr : Dt) (a s : Nat) : Int := (cel dr a s).int
def atV (ba pe t : Int) : Int := ba + pe * t
structure DrOk (hd dr : Dt) : Prop where
 hl : hd.length <= 40
 hdO : ∀ i, i < hd.length -> HdOk hd i
 drO : ∀ a s, 0 <= tD dr a s /\ tD dr a s <= 60
structure Acc (n : Nat) (i lo : Int) : Prop where
 i0 : 0 <= i
 i1 : i <= n
 lo : -660000 * i <= lo /\ lo <= 660000 * i
def haL (hd dr : Dt) (a s : Nat) : Int := tD dr a s * atH hd s (hLo hd s)
def haH (hd dr : Dt) (a s : Nat) : Int := tD dr a s * atH hd s (hHi hd s)
def haT (hd dr tr : Dt) (a s : Nat) : Int := tD dr a s * atH hd s (cel tr s 0).int
end Sp
theorem Xib {pl sh ti st : Dt} {ce : Int} {hd rt : Dt} (h : Sp.CrOk pl sh ti st ce hd rt) : Sp.DrOk hd (Sp.drvN rt rt.length) := by
 refine ⟨by have := h.tw.stL; have := h.hl; omega, h.hdO, fun a s => ?_⟩;unfold Sp.tD cel
 by_cases ha : a < rt.length
 ·rw [show (Sp.drvN rt rt.length).getD a [] = (List.range 40).map fun s => Cl.i (Sp.tms rt a s) by
   unfold Sp.drvN;rw [List.getD_eq_getElem?_getD, List.getElem?_map, List.getElem?_range ha];rfl]
  by_cases hs : s < 40
  ·rw [List.getD_eq_getElem?_getD, List.getElem?_map, List.getElem?_range hs];have := Sp.tms_in rt a s;have := (h.rtO a ha).len
   show 0 <= Sp.tms rt a s /\ Sp.tms rt a s <= 60
   omega
  ·rw [List.getD_eq_getElem?_getD, List.getElem?_eq_none (by simp; omega)]
   show (0 : Int) <= 0 /\ (0 : Int) <= 60
   omega
 ·rw [show (Sp.drvN rt rt.length).getD a [] = [] by
   unfold Sp.drvN;rw [List.getD_eq_getElem?_getD, List.getElem?_eq_none (by simp; omega)];rfl]
  show (0 : Int) <= 0 /\ (0 : Int) <= 60
  omega
theorem Xda {rt : Dt} {a s : Nat} (ha : a < rt.length) (hs : s < 40) : Sp.tD (Sp.drvN rt rt.length) a s = Sp.tms rt a s := by
 unfold Sp.tD cel;rw [show (Sp.drvN rt rt.length).getD a [] = (List.range 40).map fun s => Cl.i (Sp.tms rt a s) by
  unfold Sp.drvN;rw [List.getD_eq_getElem?_getD, List.getElem?_map, List.getElem?_range ha];rfl]
 rw [List.getD_eq_getElem?_getD, List.getElem?_map, List.getElem?_range hs];rfl
def Xpf [W : InW] (h_Ba h_Pe h_Lo h_Hi t : Int) (Q : DS -> Prop) : Prop :=
 Ar .i64 (h_Pe * t) fun z => Ar .i64 (h_Ba + z) fun z => Q [[Cl.i z]]
theorem Xxb (W : InW) (h_Ba h_Pe h_Lo h_Hi t Q) : Yte (cxT Try.prog TT T21 1000 50) 1000 62 [.agg [.si .i64 h_Ba, .si .i64 h_Pe, .si .i64 h_Lo, .si .i64 h_Hi], .si .i64 t] [] 0 (Ywt [(false, [.int .i64])] Q) (fun _ _ _ _ => Stuck 421) = Xpf h_Ba h_Pe h_Lo h_Hi t Q := by kernel_rfl
abbrev Xir : List AT := [.agg [.int .i64, .int .i64, .int .i64, .int .i64], .one (.int .i64)]
theorem Xxw {pre : DS -> Prop} {res : DS -> DS} (hyp_ : ∀ (W : InW) (h_Ba h_Pe h_Lo h_Hi t : Int), pre [[.i h_Ba, .i h_Pe, .i h_Lo, .i h_Hi], [.i t]] -> ∀ Q : DS -> Prop, Q (res [[.i h_Ba, .i h_Pe, .i h_Lo, .i h_Hi], [.i t]]) -> Xpf h_Ba h_Pe h_Lo h_Hi t Q) : PureOk Try.prog 62 Xir [(false, [.int .i64])] pre res :=
 PureOk.of' (fun W => @TT W) (fun W => @Xb W) Xa T21 1000 50 fun W h_Ba h_Pe h_Lo h_Hi t hp =>
  (Xxb W h_Ba h_Pe h_Lo h_Hi t (fun o => o = res [[.i h_Ba, .i h_Pe, .i h_Lo, .i h_Hi], [.i t]])).mpr (hyp_ W h_Ba h_Pe h_Lo h_Hi t hp _ rfl)
def Xpe [W : InW] (h_Ba h_Pe h_Lo h_Hi t : Int) (Q : DS -> Prop) : Prop :=
 Ar .i64 (h_Pe * t) fun z => Ar .i64 (h_Ba + z) fun z => Q [[Cl.i z]]
theorem Xxa (W : InW) (h_Ba h_Pe h_Lo h_Hi t Q) : Yte (cxT Try.prog TT T21 1000 50) 1000 66 [.agg [.si .i64 h_Ba, .si .i64 h_Pe, .si .i64 h_Lo, .si .i64 h_Hi], .si .i64 t] [] 0 (Ywt [(false, [.int .i64])] Q) (fun _ _ _ _ => Stuck 421) = Xpe h_Ba h_Pe h_Lo h_Hi t Q := by kernel_rfl
abbrev Xiq : List AT := [.agg [.int .i64, .int .i64, .int .i64, .int .i64], .one (.int .i64)]
theorem Xxv {pre : DS -> Prop} {res : DS -> DS} (hyp_ : ∀ (W : InW) (h_Ba h_Pe h_Lo h_Hi t : Int), pre [[.i h_Ba, .i h_Pe, .i h_Lo, .i h_Hi], [.i t]] -> ∀ Q : DS -> Prop, Q (res [[.i h_Ba, .i h_Pe, .i h_Lo, .i h_Hi], [.i t]]) -> Xpe h_Ba h_Pe h_Lo h_Hi t Q) : PureOk Try.prog 66 Xiq [(false, [.int .i64])] pre res :=
 PureOk.of' (fun W => @TT W) (fun W => @Xb W) Xa T21 1000 50 fun W h_Ba h_Pe h_Lo h_Hi t hp =>
  (Xxa W h_Ba h_Pe h_Lo h_Hi t (fun o => o = res [[.i h_Ba, .i h_Pe, .i h_Lo, .i h_Hi], [.i t]])).mpr (hyp_ W h_Ba h_Pe h_Lo h_Hi t hp _ rfl)
abbrev Xkn (ds : DS) : DS := match ds with | [[.i ba, .i pe, .i _, .i _], [.i t]] => [[.i (Sp.atV ba pe t)]] | _ => []
abbrev Xks (ds : DS) : Prop := match ds with | [[.i ba, .i pe, .i _, .i _], [.i t]] => (0 <= ba /\ ba <= 1000) /\ (0 <= pe /\ pe <= 100) /\ 0 <= t /\ t <= 100 | _ => False
theorem Xtd {pe t : Int} (h1 : 0 <= pe /\ pe <= 100) (h2 : 0 <= t /\ t <= 100) : 0 <= pe * t /\ pe * t <= 10000 := ⟨Int.mul_nonneg h1.1 h2.1, by have := Int.mul_le_mul h1.2 h2.2 h2.1 (by omega); omega⟩
theorem okpat : PureOk Try.prog 62 Xir [(false, [.int .i64])] Xks Xkn :=
 Xxw fun W ba pe lo hi t hp Q h => by
  unfold Xpf;obtain ⟨h1, h2, h3⟩ : (0 <= ba /\ ba <= 1000) /\ (0 <= pe /\ pe <= 100) /\ 0 <= t /\ t <= 100 := hp;have := Xtd h2 h3;exact ar64 (by omega) (ar64 (by omega) h)
theorem okrat : PureOk Try.prog 66 Xiq [(false, [.int .i64])] Xks Xkn :=
 Xxv fun W ba pe lo hi t hp Q h => by
  unfold Xpe;obtain ⟨h1, h2, h3⟩ : (0 <= ba /\ ba <= 1000) /\ (0 <= pe /\ pe <= 100) /\ 0 <= t /\ t <= 100 := hp;have := Xtd h2 h3;exact ar64 (by omega) (ar64 (by omega) h)
noncomputable def Xxj : PC Try.prog := ⟨62, Xir, [(false, [.int .i64])], Xks, Xkn, okpat⟩
noncomputable def Xxi : PC Try.prog := ⟨66, Xiq, [(false, [.int .i64])], Xks, Xkn, okrat⟩
noncomputable def T51 : Tab Try.prog := ⟨[Xxj, Xxi, Xp, Xem, Xqy], [], []⟩
def Xco [InW] (e : List Ed) (K : Nat -> List Ed -> Prop) : Prop := match e with
 | [.i a, .ro _ hd, .i n, .i i, .l dr, .i lo, .i hi] => Pre (n = hd.xs.length /\ Sp.DrOk hd.xs dr /\ (0 <= a /\ a < dr.length) /\ Sp.Acc hd.xs.length i lo /\ Sp.Acc hd.xs.length i hi)
   (K 0 [.i (Sp.sumF (Sp.haL hd.xs dr a.toNat) i.toNat (hd.xs.length - i.toNat) lo), .i (Sp.sumF (Sp.haH hd.xs dr a.toNat) i.toNat (hd.xs.length - i.toNat) hi)])
 | _ => False
noncomputable def Xcv : LC where
 len := 70
 T := [(1, .int .i64), (4, (.ptr 4 0)), (6, (.ptr 1 0)), (7, (.fn (.func 62) [] [])), (26, .rs Iv4), (27, .int .i64), (28, .int .i64)]
 H := [(1, .blk 111 [(.opq 1021), (.opq 1024), (.opq 1027), (.opq 1030), (.opq 1033), (.opq 1036), (.opq 1039), (.row 13)]), (13, .arr 125 Jc), (4, .blk 32 [.int .i64, .int .i64])]
 W := [8, 9, 10, 29, 30, 31, 32, 33, 34, 35, 36, 37, 38, 39, 40, 41, 42, 43, 44, 45, 46, 47, 48, 49, 50, 51, 52, 53, 54, 55, 56, 57, 58, 59, 60, 61, 62, 63, 64, 65, 66, 67, 68]
 outs := [⟨.exit 0, [(4, (.ptr 4 0))], [(4, .blk 32 [.int .i64, .int .i64])], [1, 6, 7, 8, 9, 10, 26, 27, 28, 29, 30, 31, 32, 33, 34, 35, 36, 37, 38, 39, 40, 41, 42, 43, 44, 45, 46, 47, 48, 49, 50, 51, 52, 53, 54, 55, 56, 57, 58, 59, 60, 61, 62, 63, 64, 65, 66, 67, 68]⟩]
 spec := Xco
def Zbi [W : InW] (hd : Ro Iv4) (i : Int) := cel hd.xs i.toNat (0+1 : Nat)
def Xeb [W : InW] (a : Int) (hd : Ro Iv4) (n i : Int) (dr : Dt) (lo hi : Int) (A : List Ed -> Prop) (K : Nat -> List Ed -> Prop) : Prop :=
 Vif (decide (i < n)) (Need (decide (Za <= i) && decide (i < (↑(hd.xs.length) : Int))) (Need (decide (i.toNat < hd.xs.length)) (Need (decide (Za <= a) && decide (a < (↑(dr.length) : Int))) (Need (decide (Za <= i) && decide (i < (↑(40 : Nat) : Int))) (Need (decide (i.toNat < [Ty.int IntKind.i64, Ty.int IntKind.i64, Ty.int IntKind.i64, Ty.int IntKind.i64, Ty.int IntKind.i64, Ty.int IntKind.i64, Ty.int IntKind.i64, Ty.int IntKind.i64, Ty.int IntKind.i64, Ty.int IntKind.i64, Ty.int IntKind.i64, Ty.int IntKind.i64, Ty.int IntKind.i64, Ty.int IntKind.i64, Ty.int IntKind.i64, Ty.int IntKind.i64, Ty.int IntKind.i64, Ty.int IntKind.i64, Ty.int IntKind.i64, Ty.int IntKind.i64, Ty.int IntKind.i64, Ty.int IntKind.i64, Ty.int IntKind.i64, Ty.int IntKind.i64, Ty.int IntKind.i64, Ty.int IntKind.i64, Ty.int IntKind.i64, Ty.int IntKind.i64, Ty.int IntKind.i64, Ty.int IntKind.i64, Ty.int IntKind.i64, Ty.int IntKind.i64, Ty.int IntKind.i64, Ty.int IntKind.i64, Ty.int IntKind.i64, Ty.int IntKind.i64, Ty.int IntKind.i64, Ty.int IntKind.i64, Ty.int IntKind.i64, Ty.int IntKind.i64].length) && decide (a.toNat < dr.length)) (Pre ((Za <= (cel hd.xs i.toNat Zbf).int /\ (cel hd.xs i.toNat Zbf).int <= (1000 : Int)) /\ (Za <= (Zbi hd i).int /\ (Zbi hd i).int <= (100 : Int)) /\ Za <= (cel hd.xs i.toNat (0+1+1 : Nat)).int /\ (cel hd.xs i.toNat (0+1+1 : Nat)).int <= (100 : Int)) (Ar .i64 ((cel dr a.toNat i.toNat).int * Sp.atV (cel hd.xs i.toNat Zbf).int (Zbi hd i).int (cel hd.xs i.toNat (0+1+1 : Nat)).int) fun z => Ar .i64 (lo + z) fun z => Pre ((Za <= (cel hd.xs i.toNat Zbf).int /\ (cel hd.xs i.toNat Zbf).int <= (1000 : Int)) /\ (Za <= (Zbi hd i).int /\ (Zbi hd i).int <= (100 : Int)) /\ Za <= (cel hd.xs i.toNat (0+1+1+1 : Nat)).int /\ (cel hd.xs i.toNat (0+1+1+1 : Nat)).int <= (100 : Int)) (Ar .i64 ((cel dr a.toNat i.toNat).int * Sp.atV (cel hd.xs i.toNat Zbf).int (Zbi hd i).int (cel hd.xs i.toNat (0+1+1+1 : Nat)).int) fun z_1 => Ar .i64 (hi + z_1) fun z_2 => Ar .i64 (i + (1 : Int)) fun z_3 => A [.i a, .ro _ hd, .i n, .i z_3, .l dr, .i z, .i z_2])))))))) (K Zbf [.i lo, .i hi])
theorem Xmw (W : InW) (a hd n i dr lo hi A K) : Yer { cxT Try.prog TT T51 1000 50 with fn := 27 } 1000 (Yl5 Try.prog 27 7) (Ydl 70 [(1, .si .i64 a), (4, .ptr 4 0), (6, .ptr 1 0), (7, .fn (.func 62) [] []), (26, .rs _ hd), (27, .si .i64 n), (28, .si .i64 i)] [8, 9, 10, 29, 30, 31, 32, 33, 34, 35, 36, 37, 38, 39, 40, 41, 42, 43, 44, 45, 46, 47, 48, 49, 50, 51, 52, 53, 54, 55, 56, 57, 58, 59, 60, 61, 62, 63, 64, 65, 66, 67, 68]) [(1, .blk 111 [.opq 1021, .opq 1024, .opq 1027, .opq 1030, .opq 1033, .opq 1036, .opq 1039, .rw 13]), (13, .arr 125 Jc dr), (4, .blk 32 [.si .i64 lo, .si .i64 hi])] (Yrh Xcv A K) = Xeb a hd n i dr lo hi A K := by kernel_rfl
def Xer : Prop := ∀ (W : InW) (body a : Code), (Try.prog.funcs[27]?).bind (·.body) = some body -> a ∈ Ys body -> Ye9 a = 7 -> @Yk2 W Try.prog a (@Yqt W Xcv)
theorem Xoa (meas : [InW] -> List Ed -> Nat) (hyp_ : ∀ (W : InW) (a : Int) (hd : Ro Iv4) (n i : Int) (dr : Dt) (lo hi : Int) (K : Nat -> List Ed -> Prop), Xco [.i a, .ro _ hd, .i n, .i i, .l dr, .i lo, .i hi] K -> ∀ A : List Ed -> Prop, (∀ e, meas e < meas [.i a, .ro _ hd, .i n, .i i, .l dr, .i lo, .i hi] -> Xco e K -> A e) -> Xeb a hd n i dr lo hi A K) : Xer :=
 LE.okOf' (fun W => @TT W) (fun W => @Xb W) Xa T51 1000 50 (by kernel_rfl) Xcv (fun W => @meas W) fun W a hd n i dr lo hi K hs =>
  (Xmw W a hd n i dr lo hi (fun e => meas e < meas [.i a, .ro _ hd, .i n, .i i, .l dr, .i lo, .i hi] /\ Xco e K) K).mpr (hyp_ W a hd n i dr lo hi K hs _ fun e h1 h2 => ⟨h1, h2⟩)
theorem Xsi : Xer := Xoa (fun e => match e with | _ :: .ro _ hd :: _ :: .i i :: _ => ((hd.xs.length : Int) - i).toNat | _ => 0) fun W a hd n i dr lo hi K hs A hA => by
 obtain ⟨⟨rfl, hD, ha, hl, hh⟩, hk⟩ := hs;unfold Xeb;delta Zbf Zbi Za;have h0 := hl.i0;have h1 := hl.i1;have hhl := hD.hl;refine vifd (fun e => ?_) fun e => ?_
 ·rw [show hd.xs.length - i.toNat = (hd.xs.length - (i.toNat + 1)) + 1 by omega] at hk;simp only [Sp.sumF] at hk;have ez : (i + 1).toNat = i.toNat + 1 := by omega
  have hO := hD.hdO i.toNat (by omega);have hT := hD.drO a.toNat i.toNat;have a1 := Sp.at_in hO (t := Sp.hLo hd.xs i.toNat) hO.lo (by have := hO.le; have := hO.hi; omega);have a2 := Sp.at_in hO (t := Sp.hHi hd.xs i.toNat) (by have := hO.le; have := hO.lo; omega) hO.hi;have m1 := Sp.mul_in (show -60 <= Sp.tD dr a.toNat i.toNat by omega) hT.2 a1.1 a1.2;have m2 := Sp.mul_in (show -60 <= Sp.tD dr a.toNat i.toNat by omega) hT.2 a2.1 a2.2;have hA' : ∀ x y, x = lo + Sp.haL hd.xs dr a.toNat i.toNat -> y = hi + Sp.haH hd.xs dr a.toNat i.toNat -> A [.i a, .ro _ hd, .i hd.xs.length, .i (i + 1), .l dr, .i x, .i y] := fun x y hx hy => hA _ (by show ((hd.xs.length : Int) - (i + 1)).toNat < ((hd.xs.length : Int) - i).toNat; omega) ⟨⟨rfl, hD, ha, ⟨by omega, by omega, by have := hl.lo; unfold Sp.haL at hx; omega⟩, ⟨by omega, by omega, by have := hh.lo; unfold Sp.haH at hy; omega⟩⟩, by rw [ez, hx, hy]; exact hk⟩;have l1 := hl.lo;have l2 := hh.lo;have b1 := hO.ba;have b2 := hO.pe;have b3 := hO.lo;have b4 := hO.hi;have b5 := hO.le;clear hA hk;simp only [Nat.zero_add, List.length_cons, List.length_nil, Nat.reduceAdd];simp only [Sp.tD, Sp.atH, Sp.hBa, Sp.hPe, Sp.hLo, Sp.hHi, Sp.atV, Sp.haL, Sp.haH] at *
  repeat' (first | omega | with_reducible refine vifd (fun _ => ?_) fun _ => ?_ | with_reducible refine vifn (fun _ => ?_) fun _ => ?_ | with_reducible refine vifq (fun _ => ?_) fun _ => ?_ | with_reducible refine vifq0 (fun _ => ?_) fun _ => ?_ | with_reducible refine vifq1 (fun _ => ?_) fun _ => ?_ | with_reducible refine vifb (fun _ => ?_) fun _ => ?_ | with_reducible refine vif (fun _ => ?_) fun _ => ?_ | (with_reducible refine nedd ?_ ?_; omega) | (with_reducible refine ned ?_ ?_; simp only [Bool.and_eq_true, decide_eq_true_eq]; omega) | (with_reducible refine ar64 ?_ ?_; omega) | (with_reducible refine Xf ?_ ?_; (first | trivial | omega | assumption | (refine ⟨?_, ?_⟩ <;> first | trivial | omega | assumption) | (refine ⟨?_, ?_, ?_⟩ <;> first | trivial | omega | assumption) | (refine ⟨?_, ?_, ?_, ?_⟩ <;> first | trivial | omega | assumption))))
  all_goals first | exact hA' _ _ rfl rfl | skip
  all_goals trace_state
 ·rw [show hd.xs.length - i.toNat = 0 by omega] at hk;exact hk
noncomputable def Xsn : LE Try.prog := ⟨27, 7, fun W => @Yqt W Xcv, Xsi⟩
namespace Sp
def haE (pl sh ti st : Dt) (ce : Int) (hd rt : Dt) (a : Int) : Int := rtsE pl sh ti st ce hd rt [[.i a]]
def hvLo (pl sh ti st : Dt) (ce : Int) (hd rt : Dt) (a : Int) : Int := if haE pl sh ti st ce hd rt a = 0 then haLo hd rt a.toNat else 0
def hvHi (pl sh ti st : Dt) (ce : Int) (hd rt : Dt) (a : Int) : Int := if haE pl sh ti st ce hd rt a = 0 then haHi hd rt a.toNat else 0
structure RfOk (hd rt : Dt) (a : Int) : Prop where
 hl : hd.length <= 40
 hdO : ∀ i, i < hd.length -> HdOk hd i
 a0 : 0 <= a
 a1 : a < rt.length
 ln : (rtL rt a.toNat).length <= 60
end Sp
theorem Xc1 {pl sh ti st : Dt} {ce : Int} {hd rt : Dt} (h : Sp.CrOk pl sh ti st ce hd rt) {a : Int} (h0 : 0 <= a) (h1 : a < rt.length) : Sp.RfOk hd rt a := ⟨by have := h.tw.stL; have := h.hl; omega, h.hdO, h0, h1, (h.rtO a.toNat (by omega)).len.2⟩
theorem Xkk {hd rt : Dt} {a : Int} (h : Sp.RfOk hd rt a) (s : Nat) : 0 <= Sp.tms rt a.toNat s /\ Sp.tms rt a.toNat s <= 60 := by
 have := Sp.tms_in rt a.toNat s;have := h.ln;omega
theorem Xuh {hd rt : Dt} {a : Nat} (ha : a < rt.length) (hl : hd.length <= 40) : Sp.sumF (Sp.haL hd (Sp.drvN rt rt.length) a) 0 hd.length 0 = Sp.haLo hd rt a /\ Sp.sumF (Sp.haH hd (Sp.drvN rt rt.length) a) 0 hd.length 0 = Sp.haHi hd rt a := by
 unfold Sp.haLo Sp.haHi;exact ⟨Sp.sumF_congr fun k _ hk => by unfold Sp.haL; rw [Xda ha (by omega)], Sp.sumF_congr fun k _ hk => by unfold Sp.haH; rw [Xda ha (by omega)]⟩
theorem Xij {pl sh ti st : Dt} {ce : Int} {hd rt : Dt} {a : Int} : (Sp.haE pl sh ti st ce hd rt a = if Sp.cE pl sh ti st ce hd rt = 0 then (if Sp.inr a 0 ((rt.length : Int) - 1) then 0 else 4) else Sp.cE pl sh ti st ce hd rt) := by
 unfold Sp.haE Sp.rtsE;rw [out1];cases Sp.inr a 0 ((rt.length : Int) - 1) <;> rfl
theorem Xw4 {pl sh ti st : Dt} {ce : Int} {hd rt : Dt} {a : Int} (h : Sp.haE pl sh ti st ce hd rt a = 0) : Sp.CrOk pl sh ti st ce hd rt /\ 0 <= a /\ a < rt.length := by
 rw [Xij] at h
 split at h
 ·rename_i e
  split at h
  ·rename_i e2;have := Sp.inr_iff.1 e2;exact ⟨Sp.cchk_ok e, by omega, by omega⟩
  ·omega
 ·contradiction
theorem acc0 (n : Nat) : Sp.Acc n 0 0 := ⟨by omega, by omega, by omega⟩
theorem Xi (rt : Dt) : (Sp.drvN rt rt.length).length = rt.length := by unfold Sp.drvN; simp
theorem Xzf {pl sh ti st : Dt} {ce : Int} {hd rt : Dt} {a : Int} {Q : Int -> Int -> Int -> Prop} (h : Q (Sp.hvLo pl sh ti st ce hd rt a) (Sp.hvHi pl sh ti st ce hd rt a) (Sp.haE pl sh ti st ce hd rt a)) :
  (¬ Sp.cE pl sh ti st ce hd rt = 0 -> Q 0 0 (Sp.cE pl sh ti st ce hd rt)) /\ (Sp.cE pl sh ti st ce hd rt = 0 -> Sp.inr a 0 ((rt.length : Int) - 1) = false -> Q 0 0 4) /\
  (Sp.cE pl sh ti st ce hd rt = 0 -> Sp.inr a 0 ((rt.length : Int) - 1) = true -> Sp.CrOk pl sh ti st ce hd rt /\ (0 <= a /\ a < rt.length) /\ Q (Sp.haLo hd rt a.toNat) (Sp.haHi hd rt a.toNat) 0) := by
 unfold Sp.hvLo Sp.hvHi at h;rw [Xij] at h;refine ⟨fun e => ?_, fun e e2 => ?_, fun e e2 => ⟨Sp.cchk_ok e, by have := Sp.inr_iff.1 e2; omega, ?_⟩⟩
 ·rw [if_neg e, if_neg e, if_neg e] at h; exact h
 ·rw [if_pos e, e2, if_neg (by decide), if_neg (by decide), if_neg (by decide)] at h; exact h
 ·rw [if_pos e, e2, if_pos rfl, if_pos rfl, if_pos rfl] at h; exact h
noncomputable def T52 : Tab Try.prog := ⟨[Xp], [Xsn], [Xbr]⟩
abbrev Xfb : RTs := [(true, [.int .i64, .int .i64]), (false, [.int .i64])]
def Xgk [W : InW] (c_Pl c_Sh c_Ti : Ro Jb) (c_St : Ro Jd) (c_Ce : Int) (c_Hd : Ro Iv4) (c_Rt : Ro Je) (a : Int) (Q : DS -> Prop) : Prop :=
 Pre (Sp.NamesOk c_Pl.xs /\ Sp.NamesOk c_Sh.xs /\ Sp.NamesOk c_Ti.xs) (Vif (decide (Sp.cE c_Pl.xs c_Sh.xs c_Ti.xs c_St.xs c_Ce c_Hd.xs c_Rt.xs = Za)) (Ar .i64 ((↑(c_Rt.xs.length) : Int) - (1 : Int)) fun z => Pre True (Vif (Sp.out Za z [[Cl.i a]]) (Q [[Cl.i Za, Cl.i Za], [Cl.i (4 : Int)]]) (Pre ((↑(c_Hd.xs.length) : Int) = (↑(c_Hd.xs.length) : Int) /\ Sp.DrOk c_Hd.xs (Sp.drvN c_Rt.xs (c_Rt.xs.length)) /\ (Za <= a /\ a < (↑(List.length (Sp.drvN c_Rt.xs (c_Rt.xs.length))) : Int)) /\ Sp.Acc (c_Hd.xs.length) Za Za /\ Sp.Acc (c_Hd.xs.length) Za Za) (Q [[Cl.i (Sp.sumF (Sp.haL c_Hd.xs (Sp.drvN c_Rt.xs (c_Rt.xs.length)) a.toNat) Zg (c_Hd.xs.length - Int.toNat Za) Za), Cl.i (Sp.sumF (Sp.haH c_Hd.xs (Sp.drvN c_Rt.xs (c_Rt.xs.length)) a.toNat) Zg (c_Hd.xs.length - Int.toNat Za) Za)], [Cl.i Za]])))) (Vif (decide (Sp.cE c_Pl.xs c_Sh.xs c_Ti.xs c_St.xs c_Ce c_Hd.xs c_Rt.xs = Za)) ((16 : Nat) = (16 : Nat) + (1 : Nat)) (Vif (!decide (Sp.cE c_Pl.xs c_Sh.xs c_Ti.xs c_St.xs c_Ce c_Hd.xs c_Rt.xs = Za)) (Q [[Cl.i Za, Cl.i Za], [Cl.i (Sp.cE c_Pl.xs c_Sh.xs c_Ti.xs c_St.xs c_Ce c_Hd.xs c_Rt.xs)]]) ((16 : Nat) = (16 : Nat) + (1 : Nat)))))
theorem Xqc (W : InW) (c_Pl c_Sh c_Ti c_St c_Ce c_Hd c_Rt a Q) : Yte (cxT Try.prog TT T52 1000 50) 1000 27 [.agg [.rs _ c_Pl, .rs _ c_Sh, .rs _ c_Ti, .rs _ c_St, .si .i64 c_Ce, .rs _ c_Hd, .rs _ c_Rt], .si .i64 a] [] 0 (Ywt Xfb Q) (fun _ _ _ _ => Stuck 421) = Xgk c_Pl c_Sh c_Ti c_St c_Ce c_Hd c_Rt a Q := by kernel_rfl
abbrev Xdm : List AT := [.agg [.sl Jb, .sl Jb, .sl Jb, .sl Jd, .int .i64, .sl Iv4, .sl Je], .one (.int .i64)]
theorem Xsa {pre : DS -> Prop} {res : DS -> DS} (hyp_ : ∀ (W : InW) (c_Pl c_Sh c_Ti : Ro Jb) (c_St : Ro Jd) (c_Ce : Int) (c_Hd : Ro Iv4) (c_Rt : Ro Je) (a : Int), pre [[.l c_Pl.xs, .l c_Sh.xs, .l c_Ti.xs, .l c_St.xs, .i c_Ce, .l c_Hd.xs, .l c_Rt.xs], [.i a]] -> ∀ Q : DS -> Prop, Q (res [[.l c_Pl.xs, .l c_Sh.xs, .l c_Ti.xs, .l c_St.xs, .i c_Ce, .l c_Hd.xs, .l c_Rt.xs], [.i a]]) -> Xgk c_Pl c_Sh c_Ti c_St c_Ce c_Hd c_Rt a Q) : PureOk Try.prog 27 Xdm Xfb pre res :=
 PureOk.of' (fun W => @TT W) (fun W => @Xb W) Xa T52 1000 50 fun W c_Pl c_Sh c_Ti c_St c_Ce c_Hd c_Rt a hp =>
  (Xqc W c_Pl c_Sh c_Ti c_St c_Ce c_Hd c_Rt a (fun o => o = res [[.l c_Pl.xs, .l c_Sh.xs, .l c_Ti.xs, .l c_St.xs, .i c_Ce, .l c_Hd.xs, .l c_Rt.xs], [.i a]])).mpr (hyp_ W c_Pl c_Sh c_Ti c_St c_Ce c_Hd c_Rt a hp _ rfl)
abbrev Xs2 (ds : DS) : DS := match ds with | [[.l pl, .l sh, .l ti, .l st, .i ce, .l hd, .l rt], [.i a]] => [[.i (Sp.hvLo pl sh ti st ce hd rt a), .i (Sp.hvHi pl sh ti st ce hd rt a)], [.i (Sp.haE pl sh ti st ce hd rt a)]] | _ => []
theorem Xu0 : PureOk Try.prog 27 Xdm Xfb Xe Xs2 :=
 Xsa fun W pl sh ti st ce hd rt a hp Q h => by
  have hp : Sp.NamesOk pl.xs /\ Sp.NamesOk sh.xs /\ Sp.NamesOk ti.xs := hp;unfold Xgk;delta Zg Za;have hrt := rt.len;simp only [maxLen] at hrt;obtain ⟨q0, q1, q2⟩ := Xzf (Q := fun x y z => Q [[.i x, .i y], [.i z]]) h;clear h;simp only [out1, show Int.toNat 0 = 0 from rfl, Nat.sub_zero];refine ⟨hp, vifd (fun e => ar64 (by omega) ⟨trivial, vifb (fun e2 => q1 e e2) fun e2 => ?_⟩) fun e => vifd (fun e3 => absurd e3 e) fun _ => vifn (fun _ => q0 e) fun e3 => absurd e3 e⟩;obtain ⟨hC, ha, hq⟩ := q2 e e2;have hl : hd.xs.length <= 40 := by have := hC.tw.stL; have := hC.hl; omega
  have hs := Xuh (hd := hd.xs) (rt := rt.xs) (a := a.toNat) (by omega) hl;refine ⟨⟨trivial, Xib hC, by rw [Xi]; exact ha, acc0 _, acc0 _⟩, ?_⟩;rw [hs.1, hs.2];exact hq
noncomputable def Xqv : PC Try.prog := ⟨27, Xdm, Xfb, Xe, Xs2, Xu0⟩
def Xe4 [InW] (e : List Ed) (K : Nat -> List Ed -> Prop) : Prop := match e with
 | [.i a, .ro _ tr, .i x, .ro _ hd, .i n, .i i, .l dr] => Pre (n = hd.xs.length /\ Sp.DrOk hd.xs dr /\ (0 <= a /\ a < dr.length) /\ tr.xs.length = hd.xs.length /\ Sp.Acc hd.xs.length i x)
   (Vif (Sp.hasE (Sp.trB hd.xs tr.xs) i.toNat (hd.xs.length - i.toNat)) (K 1 []) (K 0 [.i (Sp.sumF (Sp.haT hd.xs dr tr.xs a.toNat) i.toNat (hd.xs.length - i.toNat) x)]))
 | _ => False
noncomputable def Xfr : LC where
 len := 76
 T := [(1, .int .i64), (2, .rs Ja), (6, .int .i64), (8, (.ptr 1 0)), (36, .rs Iv4), (37, .int .i64), (38, .int .i64)]
 H := [(1, .blk 111 [(.opq 1021), (.opq 1024), (.opq 1027), (.opq 1030), (.opq 1033), (.opq 1036), (.opq 1039), (.row 13)]), (13, .arr 125 Jc)]
 W := [7, 9, 10, 39, 40, 41, 42, 43, 44, 45, 46, 47, 48, 49, 50, 51, 52, 53, 54, 55, 56, 57, 58, 59, 60, 61, 62, 63, 64, 65, 66, 67, 68, 69, 70, 71, 72, 73, 74]
 outs := [⟨.exit 1, [(6, .int .i64)], [], [1, 2, 7, 8, 9, 10, 36, 37, 38, 39, 40, 41, 42, 43, 44, 45, 46, 47, 48, 49, 50, 51, 52, 53, 54, 55, 56, 57, 58, 59, 60, 61, 62, 63, 64, 65, 66, 67, 68, 69, 70, 71, 72, 73, 74]⟩, ⟨.ret, [(6, (.lit (.int .i64 0))), (7, (.lit (.int .i64 7)))], [], [1, 2, 8, 9, 10, 36, 37, 38, 39, 40, 41, 42, 43, 44, 45, 46, 47, 48, 49, 50, 51, 52, 53, 54, 55, 56, 57, 58, 59, 60, 61, 62, 63, 64, 65, 66, 67, 68, 69, 70, 71, 72, 73, 74]⟩]
 spec := Xe4
def Xgy [W : InW] (a : Int) (tr : Ro Ja) (x : Int) (hd : Ro Iv4) (n i : Int) (dr : Dt) (A : List Ed -> Prop) (K : Nat -> List Ed -> Prop) : Prop :=
 Vif (decide (i < n)) (Need (decide (Za <= i) && decide (i < (↑(hd.xs.length) : Int))) (Need (decide (i.toNat < hd.xs.length)) (Need (decide (Za <= i) && decide (i < (↑(tr.xs.length) : Int))) (Need (decide (i.toNat < tr.xs.length)) (Pre True (Vif (Sp.out (cel hd.xs i.toNat (0+1+1 : Nat)).int (cel hd.xs i.toNat (0+1+1+1 : Nat)).int [[Cl.i (cel tr.xs i.toNat Zbf).int]]) (K (0+1 : Nat) []) (Need (decide (Za <= a) && decide (a < (↑(dr.length) : Int))) (Need (decide (Za <= i) && decide (i < (↑(40 : Nat) : Int))) (Need (decide (i.toNat < [Ty.int IntKind.i64, Ty.int IntKind.i64, Ty.int IntKind.i64, Ty.int IntKind.i64, Ty.int IntKind.i64, Ty.int IntKind.i64, Ty.int IntKind.i64, Ty.int IntKind.i64, Ty.int IntKind.i64, Ty.int IntKind.i64, Ty.int IntKind.i64, Ty.int IntKind.i64, Ty.int IntKind.i64, Ty.int IntKind.i64, Ty.int IntKind.i64, Ty.int IntKind.i64, Ty.int IntKind.i64, Ty.int IntKind.i64, Ty.int IntKind.i64, Ty.int IntKind.i64, Ty.int IntKind.i64, Ty.int IntKind.i64, Ty.int IntKind.i64, Ty.int IntKind.i64, Ty.int IntKind.i64, Ty.int IntKind.i64, Ty.int IntKind.i64, Ty.int IntKind.i64, Ty.int IntKind.i64, Ty.int IntKind.i64, Ty.int IntKind.i64, Ty.int IntKind.i64, Ty.int IntKind.i64, Ty.int IntKind.i64, Ty.int IntKind.i64, Ty.int IntKind.i64, Ty.int IntKind.i64, Ty.int IntKind.i64, Ty.int IntKind.i64, Ty.int IntKind.i64].length) && decide (a.toNat < dr.length)) (Need (decide (Za <= i) && decide (i < (↑(tr.xs.length) : Int))) (Need (decide (i.toNat < tr.xs.length)) (Pre ((Za <= (cel hd.xs i.toNat Zbf).int /\ (cel hd.xs i.toNat Zbf).int <= (1000 : Int)) /\ (Za <= (cel hd.xs i.toNat (0+1 : Nat)).int /\ (cel hd.xs i.toNat (0+1 : Nat)).int <= (100 : Int)) /\ Za <= (cel tr.xs i.toNat Zbf).int /\ (cel tr.xs i.toNat Zbf).int <= (100 : Int)) (Ar .i64 ((cel dr a.toNat i.toNat).int * Sp.atV (cel hd.xs i.toNat Zbf).int (cel hd.xs i.toNat (0+1 : Nat)).int (cel tr.xs i.toNat Zbf).int) fun z => Ar .i64 (x + z) fun z => Ar .i64 (i + (1 : Int)) fun z_1 => A [.i a, .ro _ tr, .i z, .ro _ hd, .i n, .i z_1, .l dr]))))))))))))) (K Zbf [.i x])
theorem Xpu (W : InW) (a tr x hd n i dr A K) : Yer { cxT Try.prog TT T51 1000 50 with fn := 38 } 1000 (Yl5 Try.prog 38 8) (Ydl 76 [(1, .si .i64 a), (2, .rs _ tr), (6, .si .i64 x), (8, .ptr 1 0), (36, .rs _ hd), (37, .si .i64 n), (38, .si .i64 i)] [7, 9, 10, 39, 40, 41, 42, 43, 44, 45, 46, 47, 48, 49, 50, 51, 52, 53, 54, 55, 56, 57, 58, 59, 60, 61, 62, 63, 64, 65, 66, 67, 68, 69, 70, 71, 72, 73, 74]) [(1, .blk 111 [.opq 1021, .opq 1024, .opq 1027, .opq 1030, .opq 1033, .opq 1036, .opq 1039, .rw 13]), (13, .arr 125 Jc dr)] (Yrh Xfr A K) = Xgy a tr x hd n i dr A K := by kernel_rfl
def Xh2 : Prop := ∀ (W : InW) (body a : Code), (Try.prog.funcs[38]?).bind (·.body) = some body -> a ∈ Ys body -> Ye9 a = 8 -> @Yk2 W Try.prog a (@Yqt W Xfr)
theorem Xro (meas : [InW] -> List Ed -> Nat) (hyp_ : ∀ (W : InW) (a : Int) (tr : Ro Ja) (x : Int) (hd : Ro Iv4) (n i : Int) (dr : Dt) (K : Nat -> List Ed -> Prop), Xe4 [.i a, .ro _ tr, .i x, .ro _ hd, .i n, .i i, .l dr] K -> ∀ A : List Ed -> Prop, (∀ e, meas e < meas [.i a, .ro _ tr, .i x, .ro _ hd, .i n, .i i, .l dr] -> Xe4 e K -> A e) -> Xgy a tr x hd n i dr A K) : Xh2 :=
 LE.okOf' (fun W => @TT W) (fun W => @Xb W) Xa T51 1000 50 (by kernel_rfl) Xfr (fun W => @meas W) fun W a tr x hd n i dr K hs =>
  (Xpu W a tr x hd n i dr (fun e => meas e < meas [.i a, .ro _ tr, .i x, .ro _ hd, .i n, .i i, .l dr] /\ Xe4 e K) K).mpr (hyp_ W a tr x hd n i dr K hs _ fun e h1 h2 => ⟨h1, h2⟩)
theorem Xwe : Xh2 := Xro (fun e => match e with | [_, _, _, .ro _ hd, _, .i i, _] => ((hd.xs.length : Int) - i).toNat | _ => 0) fun W a tr x hd n i dr K hs A hA => by
 obtain ⟨⟨rfl, hD, ha, htl, hl⟩, hk⟩ := hs;unfold Xgy;delta Zbf Za;have h0 := hl.i0;have h1 := hl.i1;have hhl := hD.hl;refine vifd (fun e => ?_) fun e => ?_
 ·rw [show hd.xs.length - i.toNat = (hd.xs.length - (i.toNat + 1)) + 1 by omega] at hk;simp only [Sp.sumF, Sp.hasE] at hk;have ez : (i + 1).toNat = i.toNat + 1 := by omega
  have hO := hD.hdO i.toNat (by omega);have hT := hD.drO a.toNat i.toNat;have bad : Sp.inr (cel tr.xs i.toNat 0).int (cel hd.xs i.toNat 2).int (cel hd.xs i.toNat 3).int = false -> K 1 [] := fun f => by
   have e7 : Sp.trB hd.xs tr.xs i.toNat = 7 := if_neg (show ¬ Sp.inr (cel tr.xs i.toNat 0).int (cel hd.xs i.toNat 2).int (cel hd.xs i.toNat 3).int = true by simp [f]);rw [decide_eq_false (show ¬ Sp.trB hd.xs tr.xs i.toNat = 0 by rw [e7]; decide)] at hk;exact hk.1 rfl
  have hin : Sp.inr (cel tr.xs i.toNat 0).int (cel hd.xs i.toNat 2).int (cel hd.xs i.toNat 3).int = true -> (0 <= (cel tr.xs i.toNat 0).int /\ (cel tr.xs i.toNat 0).int <= 100) /\ -660000 <= Sp.haT hd.xs dr tr.xs a.toNat i.toNat /\ Sp.haT hd.xs dr tr.xs a.toNat i.toNat <= 660000 := fun f => by
   have f' := Sp.inr_iff.1 f;have b3 := hO.lo;have b4 := hO.hi;simp only [Sp.hLo, Sp.hHi] at b3 b4;have a1 := Sp.at_in hO (t := (cel tr.xs i.toNat 0).int) (by omega) (by omega);exact ⟨by omega, Sp.mul_in (by omega) hT.2 a1.1 a1.2⟩
  have hA' : Sp.inr (cel tr.xs i.toNat 0).int (cel hd.xs i.toNat 2).int (cel hd.xs i.toNat 3).int = true -> ∀ y, y = x + Sp.haT hd.xs dr tr.xs a.toNat i.toNat -> A [.i a, .ro _ tr, .i y, .ro _ hd, .i hd.xs.length, .i (i + 1), .l dr] := fun f y hy => hA _ (by show ((hd.xs.length : Int) - (i + 1)).toNat < ((hd.xs.length : Int) - i).toNat; omega) ⟨⟨rfl, hD, ha, htl, ⟨by omega, by omega, by have := hl.lo; have := (hin f).2; omega⟩⟩, by
   rw [ez, hy];rw [decide_eq_true (show Sp.trB hd.xs tr.xs i.toNat = 0 from if_pos f)] at hk;exact hk⟩
  have l1 := hl.lo;have b1 := hO.ba;have b2 := hO.pe;clear hA hk;simp only [Nat.zero_add, List.length_cons, List.length_nil, Nat.reduceAdd, out1];simp only [Sp.tD, Sp.atH, Sp.hBa, Sp.hPe, Sp.atV, Sp.haT] at *;refine ned (by simp; omega) (nedd (by omega) ?_);refine ned (by simp; omega) (nedd (by omega) ⟨trivial, vifb (fun e1 => bad e1) fun e1 => ?_⟩);have g := hin e1
  repeat' (first | omega | with_reducible refine vifd (fun _ => ?_) fun _ => ?_ | with_reducible refine vifn (fun _ => ?_) fun _ => ?_ | with_reducible refine vifq (fun _ => ?_) fun _ => ?_ | with_reducible refine vifq0 (fun _ => ?_) fun _ => ?_ | with_reducible refine vifq1 (fun _ => ?_) fun _ => ?_ | with_reducible refine vifb (fun _ => ?_) fun _ => ?_ | with_reducible refine vif (fun _ => ?_) fun _ => ?_ | (with_reducible refine nedd ?_ ?_; omega) | (with_reducible refine ned ?_ ?_; simp only [Bool.and_eq_true, decide_eq_true_eq]; omega) | (with_reducible refine ar64 ?_ ?_; omega) | (with_reducible refine Xf ?_ ?_; (first | trivial | omega | assumption | (refine ⟨?_, ?_⟩ <;> first | trivial | omega | assumption) | (refine ⟨?_, ?_, ?_⟩ <;> first | trivial | omega | assumption) | (refine ⟨?_, ?_, ?_, ?_⟩ <;> first | trivial | omega | assumption))))
  all_goals first | exact hA' e1 _ rfl | skip
  all_goals trace_state
 ·rw [show hd.xs.length - i.toNat = 0 by omega] at hk;exact hk.2 rfl
noncomputable def Xww : LE Try.prog := ⟨38, 8, fun W => @Yqt W Xfr, Xwe⟩
namespace Sp
def aeE (pl sh ti st : Dt) (ce : Int) (hd rt : Dt) (a : Int) (tr : Dt) : Int := if haE pl sh ti st ce hd rt a = 0 then trErr hd tr else haE pl sh ti st ce hd rt a
def avN (pl sh ti st : Dt) (ce : Int) (hd rt : Dt) (a : Int) (tr : Dt) : Int := if aeE pl sh ti st ce hd rt a tr = 0 then sumT hd rt a.toNat tr else 0
end Sp
noncomputable def T56 : Tab Try.prog := ⟨[Xp], [Xww], [Xbr]⟩
def Xpg [W : InW] (c_Pl c_Sh c_Ti : Ro Jb) (c_St : Ro Jd) (c_Ce : Int) (c_Hd : Ro Iv4) (c_Rt : Ro Je) (a : Int) (tr : Ro Ja) (Q : DS -> Prop) : Prop :=
 Pre (Sp.NamesOk c_Pl.xs /\ Sp.NamesOk c_Sh.xs /\ Sp.NamesOk c_Ti.xs) (Vif (decide (Sp.cE c_Pl.xs c_Sh.xs c_Ti.xs c_St.xs c_Ce c_Hd.xs c_Rt.xs = Za)) (Ar .i64 ((↑(c_Rt.xs.length) : Int) - (1 : Int)) fun z => Pre True (Vif (Sp.out Za z [[Cl.i a]]) (Q [[Cl.i Za], [Cl.i (4 : Int)]]) (Vif (!decide ((↑(tr.xs.length) : Int) = (↑(c_Hd.xs.length) : Int))) (Q [[Cl.i Za], [Cl.i (3 : Int)]]) (Pre ((↑(c_Hd.xs.length) : Int) = (↑(c_Hd.xs.length) : Int) /\ Sp.DrOk c_Hd.xs (Sp.drvN c_Rt.xs (c_Rt.xs.length)) /\ (Za <= a /\ a < (↑(List.length (Sp.drvN c_Rt.xs (c_Rt.xs.length))) : Int)) /\ tr.xs.length = c_Hd.xs.length /\ Sp.Acc (c_Hd.xs.length) Za Za) (Vif (Sp.hasE (Sp.trB c_Hd.xs tr.xs) Zg (c_Hd.xs.length - Int.toNat Za)) (Q [[Cl.i Za], [Cl.i (7 : Int)]]) (Q [[Cl.i (Sp.sumF (Sp.haT c_Hd.xs (Sp.drvN c_Rt.xs (c_Rt.xs.length)) tr.xs a.toNat) Zg (c_Hd.xs.length - Int.toNat Za) Za)], [Cl.i Za]])))))) (Vif (decide (Sp.cE c_Pl.xs c_Sh.xs c_Ti.xs c_St.xs c_Ce c_Hd.xs c_Rt.xs = Za)) ((16 : Nat) = (16 : Nat) + (1 : Nat)) (Vif (!decide (Sp.cE c_Pl.xs c_Sh.xs c_Ti.xs c_St.xs c_Ce c_Hd.xs c_Rt.xs = Za)) (Q [[Cl.i Za], [Cl.i (Sp.cE c_Pl.xs c_Sh.xs c_Ti.xs c_St.xs c_Ce c_Hd.xs c_Rt.xs)]]) ((16 : Nat) = (16 : Nat) + (1 : Nat)))))
theorem Xxc (W : InW) (c_Pl c_Sh c_Ti c_St c_Ce c_Hd c_Rt a tr Q) : Yte (cxT Try.prog TT T56 1000 50) 1000 38 [.agg [.rs _ c_Pl, .rs _ c_Sh, .rs _ c_Ti, .rs _ c_St, .si .i64 c_Ce, .rs _ c_Hd, .rs _ c_Rt], .si .i64 a, .rs _ tr] [] 0 (Ywt [(false, [.int .i64]), (false, [.int .i64])] Q) (fun _ _ _ _ => Stuck 421) = Xpg c_Pl c_Sh c_Ti c_St c_Ce c_Hd c_Rt a tr Q := by kernel_rfl
abbrev Xis : List AT := [.agg [.sl Jb, .sl Jb, .sl Jb, .sl Jd, .int .i64, .sl Iv4, .sl Je], .one (.int .i64), .one (.sl Ja)]
theorem Xxx {pre : DS -> Prop} {res : DS -> DS} (hyp_ : ∀ (W : InW) (c_Pl c_Sh c_Ti : Ro Jb) (c_St : Ro Jd) (c_Ce : Int) (c_Hd : Ro Iv4) (c_Rt : Ro Je) (a : Int) (tr : Ro Ja), pre [[.l c_Pl.xs, .l c_Sh.xs, .l c_Ti.xs, .l c_St.xs, .i c_Ce, .l c_Hd.xs, .l c_Rt.xs], [.i a], [.l tr.xs]] -> ∀ Q : DS -> Prop, Q (res [[.l c_Pl.xs, .l c_Sh.xs, .l c_Ti.xs, .l c_St.xs, .i c_Ce, .l c_Hd.xs, .l c_Rt.xs], [.i a], [.l tr.xs]]) -> Xpg c_Pl c_Sh c_Ti c_St c_Ce c_Hd c_Rt a tr Q) : PureOk Try.prog 38 Xis [(false, [.int .i64]), (false, [.int .i64])] pre res :=
 PureOk.of' (fun W => @TT W) (fun W => @Xb W) Xa T56 1000 50 fun W c_Pl c_Sh c_Ti c_St c_Ce c_Hd c_Rt a tr hp =>
  (Xxc W c_Pl c_Sh c_Ti c_St c_Ce c_Hd c_Rt a tr (fun o => o = res [[.l c_Pl.xs, .l c_Sh.xs, .l c_Ti.xs, .l c_St.xs, .i c_Ce, .l c_Hd.xs, .l c_Rt.xs], [.i a], [.l tr.xs]])).mpr (hyp_ W c_Pl c_Sh c_Ti c_St c_Ce c_Hd c_Rt a tr hp _ rfl)
abbrev Xs3 (ds : DS) : DS := match ds with | [[.l pl, .l sh, .l ti, .l st, .i ce, .l hd, .l rt], [.i a], [.l tr]] => [[.i (Sp.avN pl sh ti st ce hd rt a tr)], [.i (Sp.aeE pl sh ti st ce hd rt a tr)]] | _ => []
theorem Xqj {hd rt tr : Dt} {a : Nat} (ha : a < rt.length) (hl : hd.length <= 40) : Sp.sumF (Sp.haT hd (Sp.drvN rt rt.length) tr a) 0 hd.length 0 = Sp.sumT hd rt a tr := by
 unfold Sp.sumT;exact Sp.sumF_congr fun k _ hk => by unfold Sp.haT; rw [Xda ha (by omega)]
theorem Xzj {pl sh ti st : Dt} {ce : Int} {hd rt tr : Dt} {a : Int} {Q : Int -> Int -> Prop} (h : Q (Sp.avN pl sh ti st ce hd rt a tr) (Sp.aeE pl sh ti st ce hd rt a tr)) :
  (¬ Sp.haE pl sh ti st ce hd rt a = 0 -> Q 0 (Sp.haE pl sh ti st ce hd rt a)) /\ (Sp.haE pl sh ti st ce hd rt a = 0 -> ¬ Sp.trErr hd tr = 0 -> Q 0 (Sp.trErr hd tr)) /\
  (Sp.haE pl sh ti st ce hd rt a = 0 -> Sp.trErr hd tr = 0 -> Q (Sp.sumT hd rt a.toNat tr) 0) := by
 unfold Sp.avN at h;refine ⟨fun e => ?_, fun e e2 => ?_, fun e e2 => ?_⟩
 ·have g : Sp.aeE pl sh ti st ce hd rt a tr = Sp.haE pl sh ti st ce hd rt a := by unfold Sp.aeE; rw [if_neg e]
  rw [g, if_neg e] at h; exact h
 ·have g : Sp.aeE pl sh ti st ce hd rt a tr = Sp.trErr hd tr := by unfold Sp.aeE; rw [if_pos e]
  rw [g, if_neg e2] at h; exact h
 ·have g : Sp.aeE pl sh ti st ce hd rt a tr = 0 := by unfold Sp.aeE; rw [if_pos e, e2]
  rw [g, if_pos rfl] at h; exact h
theorem Xsw {hd tr : Dt} {Q : Int -> Prop} (h : Q (Sp.trErr hd tr)) : (¬ (tr.length : Int) = hd.length -> Q 3) /\ ((tr.length : Int) = hd.length -> Sp.hasE (Sp.trB hd tr) 0 hd.length = true -> Q 7) := by
 unfold Sp.trErr at h;refine ⟨fun e => ?_, fun e e2 => ?_⟩
 ·rw [if_neg e] at h; exact h
 ·rw [if_pos e, show tr.length = hd.length by omega, if_pos e2] at h; exact h
theorem Xug {hd tr : Dt} (e : (tr.length : Int) = hd.length) (e2 : Sp.hasE (Sp.trB hd tr) 0 hd.length = false) : Sp.trErr hd tr = 0 := by
 unfold Sp.trErr;rw [if_pos e, show tr.length = hd.length by omega, if_neg (by simp [e2])]
theorem okpAt : PureOk Try.prog 38 Xis [(false, [.int .i64]), (false, [.int .i64])] Xe Xs3 :=
 Xxx fun W pl sh ti st ce hd rt a tr hp Q h => by
  have hp : Sp.NamesOk pl.xs /\ Sp.NamesOk sh.xs /\ Sp.NamesOk ti.xs := hp;unfold Xpg;delta Zg Za;have hrt := rt.len;simp only [maxLen] at hrt;obtain ⟨q0, q1, q2⟩ := Xzj (Q := fun x y => Q [[.i x], [.i y]]) h;clear h;have hx := Xij (pl := pl.xs) (sh := sh.xs) (ti := ti.xs) (st := st.xs) (ce := ce) (hd := hd.xs) (rt := rt.xs) (a := a);simp only [out1, show Int.toNat 0 = 0 from rfl, Nat.sub_zero];refine ⟨hp, vifd (fun e => ar64 (by omega) ⟨trivial, vifb (fun e2 => ?_) fun e2 => ?_⟩) fun e => vifd (fun e3 => absurd e3 e) fun _ => vifn (fun _ => ?_) fun e3 => absurd e3 e⟩
  ·rw [if_pos e, e2, if_neg (by decide)] at hx;rw [hx] at q0;exact q0 (by decide)
  ·rw [if_pos e, e2, if_pos rfl] at hx;obtain ⟨hC, g0, g1⟩ := Xw4 hx;have hl : hd.xs.length <= 40 := by have := hC.tw.stL; have := hC.hl; omega
   refine vifn (fun e3 => ?_) fun e3 => ⟨⟨trivial, Xib hC, by rw [Xi]; omega, by omega, acc0 _⟩, vif (fun e4 => ?_) fun e4 => ?_⟩
   ·have g := (Xsw (hd := hd.xs) (tr := tr.xs) (Q := fun z => Sp.trErr hd.xs tr.xs = z) rfl).1 e3;have := q1 hx (by rw [g]; decide);rw [g] at this;exact this
   ·have g := (Xsw (hd := hd.xs) (tr := tr.xs) (Q := fun z => Sp.trErr hd.xs tr.xs = z) rfl).2 e3 e4;have := q1 hx (by rw [g]; decide);rw [g] at this;exact this
   ·rw [Xqj (by omega) hl];exact q2 hx (Xug e3 e4)
  ·rw [if_neg e] at hx;rw [hx] at q0;exact q0 e
noncomputable def Xxk : PC Try.prog := ⟨38, Xis, [(false, [.int .i64]), (false, [.int .i64])], Xe, Xs3, okpAt⟩
open Go.RowKit
set_option maxRecDepth 100000
set_option maxHeartbeats 1600000
namespace Sp
def difD (dr : Dt) (a b s : Nat) : Int := tD dr a s - tD dr b s
def leD (hd dr : Dt) (a b n : Nat) : Dt := (List.range n).map fun s => [Cl.i (leT hd (difD dr a b s) s)]
def grD (hd dr : Dt) (a b n : Nat) : Dt := (List.range n).map fun s => [Cl.i (grT hd (difD dr a b s) s)]
def adL (hd dr : Dt) (a b s : Nat) : Int := difD dr a b s * atH hd s (leT hd (difD dr a b s) s)
def adH (hd dr : Dt) (a b s : Nat) : Int := difD dr a b s * atH hd s (grT hd (difD dr a b s) s)
structure ApOk (hd dr : Dt) (a b i lo hi : Int) (le gr : Dt) : Prop where
 drK : DrOk hd dr
 a0 : 0 <= a
 a1 : a < dr.length
 b0 : 0 <= b
 b1 : b < dr.length
 loA : Acc hd.length i lo
 hiA : Acc hd.length i hi
 leE : le = leD hd dr a.toNat b.toNat i.toNat
 grE : gr = grD hd dr a.toNat b.toNat i.toNat
end Sp
def Xe5 [InW] (e : List Ed) (K : Nat -> List Ed -> Prop) : Prop := match e with
 | [.i a, .i b, .ro _ hd, .i n, .i i, .l dr, .i lo, .i hi, .l le, .l gr] => Pre (n = hd.xs.length /\ Sp.ApOk hd.xs dr a b i lo hi le gr)
   (K 0 [.l dr, .i (Sp.sumF (Sp.adL hd.xs dr a.toNat b.toNat) i.toNat (hd.xs.length - i.toNat) lo), .i (Sp.sumF (Sp.adH hd.xs dr a.toNat b.toNat) i.toNat (hd.xs.length - i.toNat) hi), .l (Sp.leD hd.xs dr a.toNat b.toNat hd.xs.length), .l (Sp.grD hd.xs dr a.toNat b.toNat hd.xs.length)])
 | _ => False
noncomputable def Xfs : LC where
 len := 102
 T := [(0, (.ptr 1 0)), (1, .int .i64), (2, .int .i64), (6, (.ptr 4 0)), (16, .rs Iv4), (17, .int .i64), (18, .int .i64)]
 H := [(1, .blk 111 [(.opq 1021), (.opq 1024), (.opq 1027), (.opq 1030), (.opq 1033), (.opq 1036), (.opq 1039), (.row 13)]), (13, .arr 125 Jc), (4, .blk 35 [.int .i64, .int .i64, (.row 6), (.row 9)]), (6, .arr 3 Ja), (9, .arr 3 Ja)]
 W := [7, 8, 9, 10, 11, 19, 20, 21, 22, 23, 24, 25, 26, 27, 28, 29, 30, 31, 32, 33, 34, 35, 36, 37, 38, 39, 40, 41, 42, 43, 44, 45, 46, 47, 48, 49, 50, 51, 52, 53, 54, 55, 56, 57, 58, 59, 60, 61, 62, 63, 64, 65, 66, 67, 68, 69, 70, 71, 72, 73, 74, 75, 76, 77, 78, 79, 80, 81, 82, 83, 84, 85, 86, 87, 88, 89, 90, 91, 92, 93, 94, 95, 96, 97, 98, 99, 100]
 outs := [⟨.exit 0, [(0, (.ptr 1 0)), (6, (.ptr 4 0))], [(1, .blk 111 [(.opq 1021), (.opq 1024), (.opq 1027), (.opq 1030), (.opq 1033), (.opq 1036), (.opq 1039), (.row 13)]), (13, .arr 125 Jc), (4, .blk 35 [.int .i64, .int .i64, (.row 12), (.row 15)]), (12, .arr 3 Ja), (15, .arr 3 Ja)], [1, 2, 7, 8, 9, 10, 11, 16, 17, 18, 19, 20, 21, 22, 23, 24, 25, 26, 27, 28, 29, 30, 31, 32, 33, 34, 35, 36, 37, 38, 39, 40, 41, 42, 43, 44, 45, 46, 47, 48, 49, 50, 51, 52, 53, 54, 55, 56, 57, 58, 59, 60, 61, 62, 63, 64, 65, 66, 67, 68, 69, 70, 71, 72, 73, 74, 75, 76, 77, 78, 79, 80, 81, 82, 83, 84, 85, 86, 87, 88, 89, 90, 91, 92, 93, 94, 95, 96, 97, 98, 99, 100]⟩]
 spec := Xe5
def Zbk := [Ty.int IntKind.i64, Ty.int IntKind.i64, Ty.int IntKind.i64, Ty.int IntKind.i64, Ty.int IntKind.i64, Ty.int IntKind.i64, Ty.int IntKind.i64, Ty.int IntKind.i64, Ty.int IntKind.i64, Ty.int IntKind.i64, Ty.int IntKind.i64, Ty.int IntKind.i64, Ty.int IntKind.i64, Ty.int IntKind.i64, Ty.int IntKind.i64, Ty.int IntKind.i64, Ty.int IntKind.i64, Ty.int IntKind.i64, Ty.int IntKind.i64, Ty.int IntKind.i64, Ty.int IntKind.i64, Ty.int IntKind.i64, Ty.int IntKind.i64, Ty.int IntKind.i64, Ty.int IntKind.i64, Ty.int IntKind.i64, Ty.int IntKind.i64, Ty.int IntKind.i64, Ty.int IntKind.i64, Ty.int IntKind.i64, Ty.int IntKind.i64, Ty.int IntKind.i64, Ty.int IntKind.i64, Ty.int IntKind.i64, Ty.int IntKind.i64, Ty.int IntKind.i64, Ty.int IntKind.i64, Ty.int IntKind.i64, Ty.int IntKind.i64, Ty.int IntKind.i64]
def Zbn [W : InW] (hd : Ro Iv4) (i : Int) := cel hd.xs i.toNat (0+1 : Nat)
def Zbo [W : InW] (hd : Ro Iv4) (i : Int) := cel hd.xs i.toNat (0 : Nat)
def Zbl [W : InW] (hd : Ro Iv4) (i : Int) := cel hd.xs i.toNat (0+1+1 : Nat)
def Zbj [W : InW] (hd : Ro Iv4) (i : Int) := (Za <= (Zbo hd i).int /\ (Zbo hd i).int <= (1000 : Int)) /\ (Za <= (Zbn hd i).int /\ (Zbn hd i).int <= (100 : Int)) /\ Za <= (Zbl hd i).int /\ (Zbl hd i).int <= (100 : Int)
def Zbr [W : InW] (hd : Ro Iv4) (i : Int) := [[Cl.i (Zbl hd i).int]]
def Zbq := (140737488355328 : Nat)
def Zbs [W : InW] (hd : Ro Iv4) (i : Int) (le : Dt) := decide ((le.length + (Zbr hd i).length) * (8 : Nat) <= Zbq)
def Zbt [W : InW] (hd : Ro Iv4) (i : Int) (gr : Dt) := decide ((gr.length + (Zbr hd i).length) * (8 : Nat) <= Zbq)
def Zbp [W : InW] (hd : Ro Iv4) (i : Int) := cel hd.xs i.toNat (0+1+1+1 : Nat)
def Zbm [W : InW] (hd : Ro Iv4) (i : Int) := (Za <= (Zbo hd i).int /\ (Zbo hd i).int <= (1000 : Int)) /\ (Za <= (Zbn hd i).int /\ (Zbn hd i).int <= (100 : Int)) /\ Za <= (Zbp hd i).int /\ (Zbp hd i).int <= (100 : Int)
def Xgz [W : InW] (a b : Int) (hd : Ro Iv4) (n i : Int) (dr : Dt) (lo hi : Int) (le gr : Dt) (A : List Ed -> Prop) (K : Nat -> List Ed -> Prop) : Prop :=
 Vif (decide (i < n)) (Need (decide (Za <= i) && decide (i < (↑(hd.xs.length) : Int))) (Need (decide (i.toNat < hd.xs.length)) (Need (decide (Za <= a) && decide (a < (↑(dr.length) : Int))) (Need (decide (Za <= i) && decide (i < (↑(40 : Nat) : Int))) (Need (decide (i.toNat < Zbk.length) && decide (a.toNat < dr.length)) (Need (decide (Za <= b) && decide (b < (↑(dr.length) : Int))) (Need (decide (Za <= i) && decide (i < (↑(40 : Nat) : Int))) (Need (decide (i.toNat < Zbk.length) && decide (b.toNat < dr.length)) (Ar .i64 ((cel dr a.toNat i.toNat).int - (cel dr b.toNat i.toNat).int) fun z => Vif (decide ((Zbn hd i).int = Za)) (Pre (Zbj hd i) (Ar .i64 (z * Sp.atV (Zbo hd i).int (Zbn hd i).int (Zbl hd i).int) fun z_1 => Ar .i64 (lo + z_1) fun z_2 => Pre (Zbj hd i) (Ar .i64 (z * Sp.atV (Zbo hd i).int (Zbn hd i).int (Zbl hd i).int) fun z => Ar .i64 (hi + z) fun z => Need (Zbs hd i le) (Need (Zbt hd i gr) (Ar .i64 (i + (1 : Int)) fun z_3 => A [.i a, .i b, .ro _ hd, .i n, .i z_3, .l dr, .i z_2, .i z, .l (le ++ (Zbr hd i)), .l (gr ++ (Zbr hd i))]))))) (Vif (decide (Za < z)) (Pre (Zbj hd i) (Ar .i64 (z * Sp.atV (Zbo hd i).int (Zbn hd i).int (Zbl hd i).int) fun z_1 => Ar .i64 (lo + z_1) fun z_2 => Pre (Zbm hd i) (Ar .i64 (z * Sp.atV (Zbo hd i).int (Zbn hd i).int (Zbp hd i).int) fun z => Ar .i64 (hi + z) fun z => Need (Zbs hd i le) (Need (decide ((gr.length + [[Cl.i (Zbp hd i).int]].length) * (8 : Nat) <= Zbq)) (Ar .i64 (i + (1 : Int)) fun z_3 => A [.i a, .i b, .ro _ hd, .i n, .i z_3, .l dr, .i z_2, .i z, .l (le ++ (Zbr hd i)), .l (gr ++ [[Cl.i (Zbp hd i).int]])]))))) (Vif (decide (z < Za)) (Pre (Zbm hd i) (Ar .i64 (z * Sp.atV (Zbo hd i).int (Zbn hd i).int (Zbp hd i).int) fun z_1 => Ar .i64 (lo + z_1) fun z_2 => Pre (Zbj hd i) (Ar .i64 (z * Sp.atV (Zbo hd i).int (Zbn hd i).int (Zbl hd i).int) fun z => Ar .i64 (hi + z) fun z => Need (decide ((le.length + [[Cl.i (Zbp hd i).int]].length) * (8 : Nat) <= Zbq)) (Need (Zbt hd i gr) (Ar .i64 (i + (1 : Int)) fun z_3 => A [.i a, .i b, .ro _ hd, .i n, .i z_3, .l dr, .i z_2, .i z, .l (le ++ [[Cl.i (Zbp hd i).int]]), .l (gr ++ (Zbr hd i))]))))) (Pre (Zbj hd i) (Ar .i64 (z * Sp.atV (Zbo hd i).int (Zbn hd i).int (Zbl hd i).int) fun z_1 => Ar .i64 (lo + z_1) fun z_2 => Pre (Zbj hd i) (Ar .i64 (z * Sp.atV (Zbo hd i).int (Zbn hd i).int (Zbl hd i).int) fun z => Ar .i64 (hi + z) fun z => Need (Zbs hd i le) (Need (Zbt hd i gr) (Ar .i64 (i + (1 : Int)) fun z_3 => A [.i a, .i b, .ro _ hd, .i n, .i z_3, .l dr, .i z_2, .i z, .l (le ++ (Zbr hd i)), .l (gr ++ (Zbr hd i))])))))))))))))))) (K (0 : Nat) [.l dr, .i lo, .i hi, .l le, .l gr])
theorem Xpv (W : InW) (a b hd n i dr lo hi le gr A K) : Yer { cxT Try.prog TT T51 1000 50 with fn := 47 } 1000 (Yl5 Try.prog 47 3) (Ydl 102 [(0, .ptr 1 0), (1, .si .i64 a), (2, .si .i64 b), (6, .ptr 4 0), (16, .rs _ hd), (17, .si .i64 n), (18, .si .i64 i)] [7, 8, 9, 10, 11, 19, 20, 21, 22, 23, 24, 25, 26, 27, 28, 29, 30, 31, 32, 33, 34, 35, 36, 37, 38, 39, 40, 41, 42, 43, 44, 45, 46, 47, 48, 49, 50, 51, 52, 53, 54, 55, 56, 57, 58, 59, 60, 61, 62, 63, 64, 65, 66, 67, 68, 69, 70, 71, 72, 73, 74, 75, 76, 77, 78, 79, 80, 81, 82, 83, 84, 85, 86, 87, 88, 89, 90, 91, 92, 93, 94, 95, 96, 97, 98, 99, 100]) [(1, .blk 111 [.opq 1021, .opq 1024, .opq 1027, .opq 1030, .opq 1033, .opq 1036, .opq 1039, .rw 13]), (13, .arr 125 Jc dr), (4, .blk 35 [.si .i64 lo, .si .i64 hi, .rw 6, .rw 9]), (6, .arr 3 Ja le), (9, .arr 3 Ja gr)] (Yrh Xfs A K) = Xgz a b hd n i dr lo hi le gr A K := by kernel_rfl
def Xh3 : Prop := ∀ (W : InW) (body a : Code), (Try.prog.funcs[47]?).bind (·.body) = some body -> a ∈ Ys body -> Ye9 a = 3 -> @Yk2 W Try.prog a (@Yqt W Xfs)
theorem Xrp (meas : [InW] -> List Ed -> Nat) (hyp_ : ∀ (W : InW) (a b : Int) (hd : Ro Iv4) (n i : Int) (dr : Dt) (lo hi : Int) (le gr : Dt) (K : Nat -> List Ed -> Prop), Xe5 [.i a, .i b, .ro _ hd, .i n, .i i, .l dr, .i lo, .i hi, .l le, .l gr] K -> ∀ A : List Ed -> Prop, (∀ e, meas e < meas [.i a, .i b, .ro _ hd, .i n, .i i, .l dr, .i lo, .i hi, .l le, .l gr] -> Xe5 e K -> A e) -> Xgz a b hd n i dr lo hi le gr A K) : Xh3 :=
 LE.okOf' (fun W => @TT W) (fun W => @Xb W) Xa T51 1000 50 (by kernel_rfl) Xfs (fun W => @meas W) fun W a b hd n i dr lo hi le gr K hs =>
  (Xpv W a b hd n i dr lo hi le gr (fun e => meas e < meas [.i a, .i b, .ro _ hd, .i n, .i i, .l dr, .i lo, .i hi, .l le, .l gr] /\ Xe5 e K) K).mpr (hyp_ W a b hd n i dr lo hi le gr K hs _ fun e h1 h2 => ⟨h1, h2⟩)
theorem Xso (hd dr : Dt) (a b n : Nat) : Sp.leD hd dr a b (n + 1) = Sp.leD hd dr a b n ++ [[Cl.i (Sp.leT hd (Sp.difD dr a b n) n)]] := by
 unfold Sp.leD;rw [show List.range (n + 1) = List.range n ++ [n] from List.range_succ, List.map_append];rfl
theorem Xsr (hd dr : Dt) (a b n : Nat) : Sp.grD hd dr a b (n + 1) = Sp.grD hd dr a b n ++ [[Cl.i (Sp.grT hd (Sp.difD dr a b n) n)]] := by
 unfold Sp.grD;rw [show List.range (n + 1) = List.range n ++ [n] from List.range_succ, List.map_append];rfl
theorem Xwf : Xh3 := Xrp (fun e => match e with | [_, _, .ro _ hd, _, .i i, _, _, _, _, _] => ((hd.xs.length : Int) - i).toNat | _ => 0) fun W a b hd n i dr lo hi le gr K hs A hA => by
 obtain ⟨⟨rfl, hO⟩, hk⟩ := hs;unfold Xgz;delta Zbt Zbs Zbr Zbj Zbm Zbl Zbq Zbn Zbo Za Zbp Zbk;have hD := hO.drK;have h0 := hO.loA.i0;have h1 := hO.loA.i1;have hhl := hD.hl;have ha0 := hO.a0;have ha1 := hO.a1;have hb0 := hO.b0;have hb1 := hO.b1;refine vifd (fun e => ?_) fun e => ?_
 ·rw [show hd.xs.length - i.toNat = (hd.xs.length - (i.toNat + 1)) + 1 by omega] at hk;simp only [Sp.sumF] at hk;have ez : (i + 1).toNat = i.toNat + 1 := by omega
  have hH := hD.hdO i.toNat (by omega);have ta := hD.drO a.toNat i.toNat;have tb := hD.drO b.toNat i.toNat;have gl := Sp.leT_in (n := Sp.difD dr a.toNat b.toNat i.toNat) hH;have gg := Sp.grT_in (n := Sp.difD dr a.toNat b.toNat i.toNat) hH;have b3 := hH.lo;have b4 := hH.hi;have a1 := Sp.at_in hH (t := Sp.leT hd.xs (Sp.difD dr a.toNat b.toNat i.toNat) i.toNat) (by omega) (by omega);have a2 := Sp.at_in hH (t := Sp.grT hd.xs (Sp.difD dr a.toNat b.toNat i.toNat) i.toNat) (by omega) (by omega);have m1 := Sp.mul_in (n := Sp.difD dr a.toNat b.toNat i.toNat) (by unfold Sp.difD; omega) (by unfold Sp.difD; omega) a1.1 a1.2;have m2 := Sp.mul_in (n := Sp.difD dr a.toNat b.toNat i.toNat) (by unfold Sp.difD; omega) (by unfold Sp.difD; omega) a2.1 a2.2;have hle : le.length = i.toNat := by rw [hO.leE]; unfold Sp.leD; simp
  have hgr : gr.length = i.toNat := by rw [hO.grE]; unfold Sp.grD; simp
  have hA' : ∀ u v x y, u = Sp.leT hd.xs (Sp.difD dr a.toNat b.toNat i.toNat) i.toNat -> v = Sp.grT hd.xs (Sp.difD dr a.toNat b.toNat i.toNat) i.toNat -> x = lo + Sp.difD dr a.toNat b.toNat i.toNat * Sp.atH hd.xs i.toNat u -> y = hi + Sp.difD dr a.toNat b.toNat i.toNat * Sp.atH hd.xs i.toNat v -> A [.i a, .i b, .ro _ hd, .i hd.xs.length, .i (i + 1), .l dr, .i x, .i y, .l (le ++ [[.i u]]), .l (gr ++ [[.i v]])] := fun u v x y hu hv hx hy => hA _ (by show ((hd.xs.length : Int) - (i + 1)).toNat < ((hd.xs.length : Int) - i).toNat; omega) ⟨⟨rfl, ⟨hD, ha0, ha1, hb0, hb1, ⟨by omega, by omega, by have := hO.loA.lo; rw [hu] at hx; omega⟩, ⟨by omega, by omega, by have := hO.hiA.lo; rw [hv] at hy; omega⟩, by rw [ez, Xso, hO.leE, hu], by rw [ez, Xsr, hO.grE, hv]⟩⟩, by rw [ez, hx, hy, hu, hv]; exact hk⟩;have l1 := hO.loA.lo;have l2 := hO.hiA.lo;have b1 := hH.ba;have b2 := hH.pe;have b5 := hH.le;clear hA hk;simp only [Nat.zero_add, List.length_cons, List.length_nil, Nat.reduceAdd];simp only [show (cel hd.xs i.toNat 0).int = Sp.hBa hd.xs i.toNat from rfl, show (cel hd.xs i.toNat 1).int = Sp.hPe hd.xs i.toNat from rfl, show (cel hd.xs i.toNat 2).int = Sp.hLo hd.xs i.toNat from rfl, show (cel hd.xs i.toNat 3).int = Sp.hHi hd.xs i.toNat from rfl];simp only [show ∀ t, Sp.atV (Sp.hBa hd.xs i.toNat) (Sp.hPe hd.xs i.toNat) t = Sp.atH hd.xs i.toNat t from fun _ => rfl, show (cel dr a.toNat i.toNat).int - (cel dr b.toNat i.toNat).int = Sp.difD dr a.toNat b.toNat i.toNat from rfl];have hn : -60 <= Sp.difD dr a.toNat b.toNat i.toNat /\ Sp.difD dr a.toNat b.toNat i.toNat <= 60 := by unfold Sp.difD; omega
  generalize hN : Sp.difD dr a.toNat b.toNat i.toNat = N at *
  repeat (first | (with_reducible refine nedd ?_ ?_; omega) | (with_reducible refine ned ?_ ?_; simp only [Bool.and_eq_true, decide_eq_true_eq]; omega))
  refine ar64 (by omega) (vifd (fun c1 => ?_) fun c1 => vifd (fun c2 => ?_) fun c2 => vifd (fun c3 => ?_) fun c3 => ?_)
  ·have e1 : Sp.leT hd.xs N i.toNat = Sp.hLo hd.xs i.toNat := by unfold Sp.leT; rw [if_pos c1]
   have e2 : Sp.grT hd.xs N i.toNat = Sp.hLo hd.xs i.toNat := by unfold Sp.grT; rw [if_pos c1]
   rw [e1] at m1;rw [e2] at m2
   repeat' (first | omega | with_reducible refine vifd (fun _ => ?_) fun _ => ?_ | with_reducible refine vifn (fun _ => ?_) fun _ => ?_ | with_reducible refine vifq (fun _ => ?_) fun _ => ?_ | with_reducible refine vifq0 (fun _ => ?_) fun _ => ?_ | with_reducible refine vifq1 (fun _ => ?_) fun _ => ?_ | with_reducible refine vifb (fun _ => ?_) fun _ => ?_ | with_reducible refine vif (fun _ => ?_) fun _ => ?_ | (with_reducible refine nedd ?_ ?_; omega) | (with_reducible refine ned ?_ ?_; simp only [Bool.and_eq_true, decide_eq_true_eq]; omega) | (with_reducible refine ar64 ?_ ?_; omega) | (with_reducible refine Xf ?_ ?_; (first | trivial | omega | assumption | (refine ⟨?_, ?_⟩ <;> first | trivial | omega | assumption) | (refine ⟨?_, ?_, ?_⟩ <;> first | trivial | omega | assumption) | (refine ⟨?_, ?_, ?_, ?_⟩ <;> first | trivial | omega | assumption))))
   all_goals exact hA' _ _ _ _ e1.symm e2.symm rfl rfl
  ·have e1 : Sp.leT hd.xs N i.toNat = Sp.hLo hd.xs i.toNat := by unfold Sp.leT; rw [if_neg c1, if_neg (by omega)]
   have e2 : Sp.grT hd.xs N i.toNat = Sp.hHi hd.xs i.toNat := by unfold Sp.grT; rw [if_neg c1, if_pos c2]
   rw [e1] at m1;rw [e2] at m2
   repeat' (first | omega | with_reducible refine vifd (fun _ => ?_) fun _ => ?_ | with_reducible refine vifn (fun _ => ?_) fun _ => ?_ | with_reducible refine vifq (fun _ => ?_) fun _ => ?_ | with_reducible refine vifq0 (fun _ => ?_) fun _ => ?_ | with_reducible refine vifq1 (fun _ => ?_) fun _ => ?_ | with_reducible refine vifb (fun _ => ?_) fun _ => ?_ | with_reducible refine vif (fun _ => ?_) fun _ => ?_ | (with_reducible refine nedd ?_ ?_; omega) | (with_reducible refine ned ?_ ?_; simp only [Bool.and_eq_true, decide_eq_true_eq]; omega) | (with_reducible refine ar64 ?_ ?_; omega) | (with_reducible refine Xf ?_ ?_; (first | trivial | omega | assumption | (refine ⟨?_, ?_⟩ <;> first | trivial | omega | assumption) | (refine ⟨?_, ?_, ?_⟩ <;> first | trivial | omega | assumption) | (refine ⟨?_, ?_, ?_, ?_⟩ <;> first | trivial | omega | assumption))))
   all_goals exact hA' _ _ _ _ e1.symm e2.symm rfl rfl
  ·have e1 : Sp.leT hd.xs N i.toNat = Sp.hHi hd.xs i.toNat := by unfold Sp.leT; rw [if_neg c1, if_pos c3]
   have e2 : Sp.grT hd.xs N i.toNat = Sp.hLo hd.xs i.toNat := by unfold Sp.grT; rw [if_neg c1, if_neg c2]
   rw [e1] at m1;rw [e2] at m2
   repeat' (first | omega | with_reducible refine vifd (fun _ => ?_) fun _ => ?_ | with_reducible refine vifn (fun _ => ?_) fun _ => ?_ | with_reducible refine vifq (fun _ => ?_) fun _ => ?_ | with_reducible refine vifq0 (fun _ => ?_) fun _ => ?_ | with_reducible refine vifq1 (fun _ => ?_) fun _ => ?_ | with_reducible refine vifb (fun _ => ?_) fun _ => ?_ | with_reducible refine vif (fun _ => ?_) fun _ => ?_ | (with_reducible refine nedd ?_ ?_; omega) | (with_reducible refine ned ?_ ?_; simp only [Bool.and_eq_true, decide_eq_true_eq]; omega) | (with_reducible refine ar64 ?_ ?_; omega) | (with_reducible refine Xf ?_ ?_; (first | trivial | omega | assumption | (refine ⟨?_, ?_⟩ <;> first | trivial | omega | assumption) | (refine ⟨?_, ?_, ?_⟩ <;> first | trivial | omega | assumption) | (refine ⟨?_, ?_, ?_, ?_⟩ <;> first | trivial | omega | assumption))))
   all_goals exact hA' _ _ _ _ e1.symm e2.symm rfl rfl
  ·have e1 : Sp.leT hd.xs N i.toNat = Sp.hLo hd.xs i.toNat := by unfold Sp.leT; rw [if_neg c1, if_neg c3]
   have e2 : Sp.grT hd.xs N i.toNat = Sp.hLo hd.xs i.toNat := by unfold Sp.grT; rw [if_neg c1, if_neg c2]
   rw [e1] at m1;rw [e2] at m2
   repeat' (first | omega | with_reducible refine vifd (fun _ => ?_) fun _ => ?_ | with_reducible refine vifn (fun _ => ?_) fun _ => ?_ | with_reducible refine vifq (fun _ => ?_) fun _ => ?_ | with_reducible refine vifq0 (fun _ => ?_) fun _ => ?_ | with_reducible refine vifq1 (fun _ => ?_) fun _ => ?_ | with_reducible refine vifb (fun _ => ?_) fun _ => ?_ | with_reducible refine vif (fun _ => ?_) fun _ => ?_ | (with_reducible refine nedd ?_ ?_; omega) | (with_reducible refine ned ?_ ?_; simp only [Bool.and_eq_true, decide_eq_true_eq]; omega) | (with_reducible refine ar64 ?_ ?_; omega) | (with_reducible refine Xf ?_ ?_; (first | trivial | omega | assumption | (refine ⟨?_, ?_⟩ <;> first | trivial | omega | assumption) | (refine ⟨?_, ?_, ?_⟩ <;> first | trivial | omega | assumption) | (refine ⟨?_, ?_, ?_, ?_⟩ <;> first | trivial | omega | assumption))))
   all_goals exact hA' _ _ _ _ e1.symm e2.symm rfl rfl
 ·have hl : i.toNat = hd.xs.length := by omega
  rw [show hd.xs.length - i.toNat = 0 by omega] at hk;rw [<- hl, <- hO.leE, <- hO.grE] at hk;exact hk
noncomputable def Xwx : LE Try.prog := ⟨47, 3, fun W => @Yqt W Xfs, Xwf⟩
end Go.Proofs.Ytmogofidmchdoaa
