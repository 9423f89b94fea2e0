/-
  'CourseLess': for every input the law returns true, and what is handed in reads as before. No condition.
-/
import Derived.Test.YtmogofidmchdoaaQlsa
set_option linter.unusedVariables false
set_option linter.unusedSectionVars false
set_option linter.unusedSimpArgs false
namespace Go.Proofs.Ytmogofidmchdoaa
open Go.RowKit
abbrev Jc : List Ty := [.int .i64, .int .i64, .int .i64, .int .i64, .int .i64, .int .i64, .int .i64, .int .i64, .int .i64, .int .i64, .int .i64, .int .i64, .int .i64, .int .i64, .int .i64, .int .i64, .int .i64, .int .i64, .int .i64, .int .i64, .int .i64, .int .i64, .int .i64, .int .i64, .int .i64, .int .i64, .int .i64, .int .i64, .int .i64, .int .i64, .int .i64, .int .i64, .int .i64, .int .i64, .int .i64, .int .i64, .int .i64, .int .i64, .int .i64, .int .i64]
abbrev Jd : List Ty := [.int .i64, .int .i64, .int .i64, .int .i64, .int .i64, .bool, .sl [.int .i64]]
abbrev Je : List Ty := [.sl [.int .i64, .bool]]
abbrev Jf : List Ty := [.int .i64, .bool]
set_option maxRecDepth 100000
set_option maxHeartbeats 1600000
abbrev Xe : List Ty := [.int .i64, .bool]
namespace Sp
def eFr (st : Dt) (s : Int) (b : Bool) : Int := if b then sTo st s.toNat else sFr st s.toNat
def eTo (st : Dt) (s : Int) (b : Bool) : Int := if b then sFr st s.toNat else sTo st s.toNat
end Sp
noncomputable def T21 : Tab Try.prog := ⟨[], [], []⟩
def Xew [W : InW] (t_Pl t_Sh t_Ti : Ro Jb) (t_St : Ro Jd) (x_St : Int) (x_Bk : Bool) (Q : DS -> Prop) : Prop :=
 Need (decide (0 <= x_St) && decide (x_St < (↑(t_St.xs.length) : Int))) (Need (decide (x_St.toNat < t_St.xs.length)) (Vif x_Bk (Q [[Cl.i (cel t_St.xs x_St.toNat (0+1)).int], [Cl.i (cel t_St.xs x_St.toNat (0 : Nat)).int]]) (Q [[Cl.i (cel t_St.xs x_St.toNat (0 : Nat)).int], [Cl.i (cel t_St.xs x_St.toNat (0+1)).int]])))
theorem Xmk (W : InW) (t_Pl t_Sh t_Ti t_St x_St x_Bk Q) : Yvi (cxT Try.prog TT T21 1000 50) 1000 84 [.agg [.rs _ t_Pl, .rs _ t_Sh, .rs _ t_Ti, .rs _ t_St], .agg [.si .i64 x_St, .sb x_Bk]] [] 0 (Yzk [(false, [.int .i64]), (false, [.int .i64])] Q) (fun _ _ _ _ => Stuck 421) = Xew t_Pl t_Sh t_Ti t_St x_St x_Bk Q := by kernel_rfl
abbrev Xcr : List AT := [.agg [.sl Jb, .sl Jb, .sl Jb, .sl Jd], .agg [.int .i64, .bool]]
theorem Xn1 {pre : DS -> Prop} {res : DS -> DS} (hyp_ : ∀ (W : InW) (t_Pl t_Sh t_Ti : Ro Jb) (t_St : Ro Jd) (x_St : Int) (x_Bk : Bool), pre [[.l t_Pl.xs, .l t_Sh.xs, .l t_Ti.xs, .l t_St.xs], [.i x_St, .b x_Bk]] -> ∀ Q : DS -> Prop, Q (res [[.l t_Pl.xs, .l t_Sh.xs, .l t_Ti.xs, .l t_St.xs], [.i x_St, .b x_Bk]]) -> Xew t_Pl t_Sh t_Ti t_St x_St x_Bk Q) : PureOk Try.prog 84 Xcr [(false, [.int .i64]), (false, [.int .i64])] pre res :=
 PureOk.of' (fun W => @TT W) (fun W => @Xb W) Xa T21 1000 50 fun W t_Pl t_Sh t_Ti t_St x_St x_Bk hp =>
  (Xmk W t_Pl t_Sh t_Ti t_St x_St x_Bk (fun o => o = res [[.l t_Pl.xs, .l t_Sh.xs, .l t_Ti.xs, .l t_St.xs], [.i x_St, .b x_Bk]])).mpr (hyp_ W t_Pl t_Sh t_Ti t_St x_St x_Bk hp _ rfl)
def Xez [W : InW] (t_Pl t_Sh t_Ti : Ro Jb) (t_St : Ro Jd) (x_St : Int) (x_Bk : Bool) (Q : DS -> Prop) : Prop :=
 Need (decide (0 <= x_St) && decide (x_St < (↑(t_St.xs.length) : Int))) (Need (decide (x_St.toNat < t_St.xs.length)) (Vif x_Bk (Q [[Cl.i (cel t_St.xs x_St.toNat (0+1)).int], [Cl.i (cel t_St.xs x_St.toNat (0 : Nat)).int]]) (Q [[Cl.i (cel t_St.xs x_St.toNat (0 : Nat)).int], [Cl.i (cel t_St.xs x_St.toNat (0+1)).int]])))
theorem Xmn (W : InW) (t_Pl t_Sh t_Ti t_St x_St x_Bk Q) : Yvi (cxT Try.prog TT T21 1000 50) 1000 93 [.agg [.rs _ t_Pl, .rs _ t_Sh, .rs _ t_Ti, .rs _ t_St], .agg [.si .i64 x_St, .sb x_Bk]] [] 0 (Yzk [(false, [.int .i64]), (false, [.int .i64])] Q) (fun _ _ _ _ => Stuck 421) = Xez t_Pl t_Sh t_Ti t_St x_St x_Bk Q := by kernel_rfl
abbrev Xcu : List AT := [.agg [.sl Jb, .sl Jb, .sl Jb, .sl Jd], .agg [.int .i64, .bool]]
theorem Xn4 {pre : DS -> Prop} {res : DS -> DS} (hyp_ : ∀ (W : InW) (t_Pl t_Sh t_Ti : Ro Jb) (t_St : Ro Jd) (x_St : Int) (x_Bk : Bool), pre [[.l t_Pl.xs, .l t_Sh.xs, .l t_Ti.xs, .l t_St.xs], [.i x_St, .b x_Bk]] -> ∀ Q : DS -> Prop, Q (res [[.l t_Pl.xs, .l t_Sh.xs, .l t_Ti.xs, .l t_St.xs], [.i x_St, .b x_Bk]]) -> Xez t_Pl t_Sh t_Ti t_St x_St x_Bk Q) : PureOk Try.prog 93 Xcu [(false, [.int .i64]), (false, [.int .i64])] pre res :=
 PureOk.of' (fun W => @TT W) (fun W => @Xb W) Xa T21 1000 50 fun W t_Pl t_Sh t_Ti t_St x_St x_Bk hp =>
  (Xmn W t_Pl t_Sh t_Ti t_St x_St x_Bk (fun o => o = res [[.l t_Pl.xs, .l t_Sh.xs, .l t_Ti.xs, .l t_St.xs], [.i x_St, .b x_Bk]])).mpr (hyp_ W t_Pl t_Sh t_Ti t_St x_St x_Bk hp _ rfl)
abbrev Xt (ds : DS) : DS := match ds with | [[.l _, .l _, .l _, .l st], [.i s, .b b]] => [[.i (Sp.eFr st s b)], [.i (Sp.eTo st s b)]] | _ => []
abbrev Xb9 (ds : DS) : Prop := match ds with | [[.l _, .l _, .l _, .l st], [.i s, .b _]] => 0 <= s /\ s < st.length | _ => False
theorem Xp3 : PureOk Try.prog 84 Xcr [(false, [.int .i64]), (false, [.int .i64])] Xb9 Xt :=
 Xn1 fun W pl sh ti st s b hp Q h => by
  unfold Xew;obtain ⟨h1, h2⟩ : 0 <= s /\ s < st.xs.length := hp;simp only [Xt, Sp.eFr, Sp.eTo] at h;cases b <;> repeat' (first | omega | with_reducible refine vifd (fun _ => ?_) fun _ => ?_ | with_reducible refine vifn (fun _ => ?_) fun _ => ?_ | with_reducible refine vifq (fun _ => ?_) fun _ => ?_ | with_reducible refine vifq0 (fun _ => ?_) fun _ => ?_ | with_reducible refine vifq1 (fun _ => ?_) fun _ => ?_ | with_reducible refine vifb (fun _ => ?_) fun _ => ?_ | with_reducible refine vif (fun _ => ?_) fun _ => ?_ | (with_reducible refine nedd ?_ ?_; omega) | (with_reducible refine ned ?_ ?_; simp only [Bool.and_eq_true, decide_eq_true_eq]; omega) | (with_reducible refine ar64 ?_ ?_; omega) | (with_reducible refine Xd ?_ ?_; (first | trivial | omega | assumption | (refine ⟨?_, ?_⟩ <;> first | trivial | omega | assumption) | (refine ⟨?_, ?_, ?_⟩ <;> first | trivial | omega | assumption) | (refine ⟨?_, ?_, ?_, ?_⟩ <;> first | trivial | omega | assumption))))
  all_goals first | contradiction | exact h
theorem Xp7 : PureOk Try.prog 93 Xcu [(false, [.int .i64]), (false, [.int .i64])] Xb9 Xt :=
 Xn4 fun W pl sh ti st s b hp Q h => by
  unfold Xez;obtain ⟨h1, h2⟩ : 0 <= s /\ s < st.xs.length := hp;simp only [Xt, Sp.eFr, Sp.eTo] at h;cases b <;> repeat' (first | omega | with_reducible refine vifd (fun _ => ?_) fun _ => ?_ | with_reducible refine vifn (fun _ => ?_) fun _ => ?_ | with_reducible refine vifq (fun _ => ?_) fun _ => ?_ | with_reducible refine vifq0 (fun _ => ?_) fun _ => ?_ | with_reducible refine vifq1 (fun _ => ?_) fun _ => ?_ | with_reducible refine vifb (fun _ => ?_) fun _ => ?_ | with_reducible refine vif (fun _ => ?_) fun _ => ?_ | (with_reducible refine nedd ?_ ?_; omega) | (with_reducible refine ned ?_ ?_; simp only [Bool.and_eq_true, decide_eq_true_eq]; omega) | (with_reducible refine ar64 ?_ ?_; omega) | (with_reducible refine Xd ?_ ?_; (first | trivial | omega | assumption | (refine ⟨?_, ?_⟩ <;> first | trivial | omega | assumption) | (refine ⟨?_, ?_, ?_⟩ <;> first | trivial | omega | assumption) | (refine ⟨?_, ?_, ?_, ?_⟩ <;> first | trivial | omega | assumption))))
  all_goals first | contradiction | exact h
noncomputable def Xm0 : PC Try.prog := ⟨84, Xcr, [(false, [.int .i64]), (false, [.int .i64])], Xb9, Xt, Xp3⟩
noncomputable def Xm3 : PC Try.prog := ⟨93, Xcu, [(false, [.int .i64]), (false, [.int .i64])], Xb9, Xt, Xp7⟩
noncomputable def T22 : Tab Try.prog := ⟨[Xm0, Xm3, Xfw, Xcj], [], []⟩
theorem Xcc {st l : Dt} {i n : Nat} {p : Int} :
  Sp.folE st l i (n + 1) p = (if Sp.inr (Sp.xS l i) 0 ((st.length : Int) - 1) then (if Sp.xB l i && !Sp.sBo st (Sp.xS l i).toNat then 2 else if Sp.eFr st (Sp.xS l i) (Sp.xB l i) = p then Sp.folE st l (i + 1) n (Sp.eTo st (Sp.xS l i) (Sp.xB l i)) else 9) else 4) /\
  Sp.folT st l i (n + 1) p = (if Sp.inr (Sp.xS l i) 0 ((st.length : Int) - 1) then (if Sp.xB l i && !Sp.sBo st (Sp.xS l i).toNat then 0 else if Sp.eFr st (Sp.xS l i) (Sp.xB l i) = p then Sp.folT st l (i + 1) n (Sp.eTo st (Sp.xS l i) (Sp.xB l i)) else 0) else 0) := ⟨rfl, rfl⟩
theorem Xi4 [InW] {st l : Dt} {i n : Nat} {p : Int} {K0 K1 : Int -> Prop} (h : Vif (decide (Sp.folE st l i (n + 1) p = 0)) (K0 (Sp.folT st l i (n + 1) p)) (K1 (Sp.folE st l i (n + 1) p))) :
  (Sp.inr (Sp.xS l i) 0 ((st.length : Int) - 1) = false -> K1 4) /\
  (Sp.inr (Sp.xS l i) 0 ((st.length : Int) - 1) = true -> Sp.xB l i = true -> Sp.sBo st (Sp.xS l i).toNat = false -> K1 2) /\
  (Sp.inr (Sp.xS l i) 0 ((st.length : Int) - 1) = true -> (Sp.xB l i = false \/ Sp.sBo st (Sp.xS l i).toNat = true) -> ¬ Sp.eFr st (Sp.xS l i) (Sp.xB l i) = p -> K1 9) /\
  (Sp.inr (Sp.xS l i) 0 ((st.length : Int) - 1) = true -> (Sp.xB l i = false \/ Sp.sBo st (Sp.xS l i).toNat = true) -> Sp.eFr st (Sp.xS l i) (Sp.xB l i) = p ->
   Vif (decide (Sp.folE st l (i + 1) n (Sp.eTo st (Sp.xS l i) (Sp.xB l i)) = 0)) (K0 (Sp.folT st l (i + 1) n (Sp.eTo st (Sp.xS l i) (Sp.xB l i)))) (K1 (Sp.folE st l (i + 1) n (Sp.eTo st (Sp.xS l i) (Sp.xB l i))))) := by
 rw [Xcc.1, Xcc.2] at h;have nb : (Sp.xB l i = false \/ Sp.sBo st (Sp.xS l i).toNat = true) -> ¬ (Sp.xB l i && !Sp.sBo st (Sp.xS l i).toNat) = true := fun e => by rcases e with e | e <;> simp [e]
 refine ⟨fun e => ?_, fun e e2 e3 => ?_, fun e e2 e3 => ?_, fun e e2 e3 => ?_⟩
 ·rw [if_neg (by simp [e]), if_neg (by simp [e])] at h;exact h.2 rfl
 ·rw [if_pos e, if_pos (by simp [e2, e3]), if_pos e, if_pos (by simp [e2, e3])] at h;exact h.2 rfl
 ·rw [if_pos e, if_neg (nb e2), if_neg e3, if_pos e, if_neg (nb e2), if_neg e3] at h;exact h.2 rfl
 ·rw [if_pos e, if_neg (nb e2), if_pos e3, if_pos e, if_neg (nb e2), if_pos e3] at h;exact h
def Xdn [InW] (e : List Ed) (K : Nat -> List Ed -> Prop) : Prop := match e with
 | [.ro _ l, .i p, .i i, .ro _ pl, .ro _ sh, .ro _ ti, .ro _ st] => Pre (0 <= i /\ i <= l.xs.length) (Vif (decide (Sp.folE st.xs l.xs i.toNat (l.xs.length - i.toNat) p = 0)) (K 0 [.i (Sp.folT st.xs l.xs i.toNat (l.xs.length - i.toNat) p)]) (K 1 [.i (Sp.folE st.xs l.xs i.toNat (l.xs.length - i.toNat) p)]))
 | _ => False
noncomputable def Xd8 : LC where
 len := 65
 T := [(2, .rs Xe), (3, (.ptr 1 0)), (8, .int .i64), (9, .int .i64)]
 H := [(1, .blk 25 [.rs Jb, .rs Jb, .rs Jb, .rs Jd])]
 W := ([6, 7, 10, 11] ++ rg 16 48)
 outs := [⟨.exit 0, [(8, .int .i64)], [], ([2, 3, 6, 7, 9, 10, 11] ++ rg 16 48)⟩, ⟨.ret, [(6, (.lit (.int .i64 0))), (7, .int .i64)], [], ([2, 3] ++ rg 8 4 ++ rg 16 48)⟩]
 spec := Xdn
def Zn [W : InW] (l : Ro Xe) (i : Int) := decide (0 <= i) && decide (i < (↑(l.xs.length) : Int))
def Zo [W : InW] (l : Ro Xe) (i : Int) := cel l.xs i.toNat (0 : Nat)
def Zm [W : InW] (l : Ro Xe) (p i : Int) (pl sh ti : Ro Jb) (st : Ro Jd) (A : List Ed -> Prop) (K : Nat -> List Ed -> Prop) := Need (Zn l i) (Need (decide (i.toNat < l.xs.length)) (Pre (Zg <= (Zo l i).int /\ (Zo l i).int < (↑(st.xs.length) : Int)) (Vif (!decide (Sp.eFr st.xs (Zo l i).int (cel l.xs i.toNat (0+1)).bool = p)) (K (0+1) [.i (9 : Int)]) (Ar .i64 (i + 1) fun z => A [.ro _ l, .i (Sp.eTo st.xs (Zo l i).int (cel l.xs i.toNat (0+1)).bool), .i z, .ro _ pl, .ro _ sh, .ro _ ti, .ro Zb st]))))
def Xe5 [W : InW] (l : Ro Xe) (p i : Int) (pl sh ti : Ro Jb) (st : Ro Jd) (A : List Ed -> Prop) (K : Nat -> List Ed -> Prop) : Prop :=
 Vif (decide (i < (↑(l.xs.length) : Int))) (Need (Zn l i) (Need (decide (i.toNat < l.xs.length)) (Ar .i64 ((↑(st.xs.length) : Int) - 1) fun z => Pre True (Vif (!Sp.inr (Zo l i).int Zg z) (K (0+1) [.i (4 : Int)]) (Need (Zn l i) (Need (decide (i.toNat < l.xs.length)) (Vif (cel l.xs i.toNat (0+1)).bool (Need (Zn l i) (Need (decide (i.toNat < l.xs.length)) (Need (decide (Zg <= (Zo l i).int) && decide ((Zo l i).int < (↑(st.xs.length) : Int))) (Need (decide ((Zo l i).int.toNat < st.xs.length)) (Vif (!(cel st.xs (Zo l i).int.toNat (4+1)).bool) (K (0+1) [.i (2 : Int)]) (Zm l p i pl sh ti st A K)))))) (Zm l p i pl sh ti st A K)))))))) (K 0 [.i p])
theorem Xl4 (W : InW) (l p i pl sh ti st A K) : Ye9 { cxT Try.prog TT T22 1000 50 with fn := 69 } 1000 (Ynd Try.prog 69 6) (Yd0 65 [(2, .rs _ l), (3, .ptr 1 0), (8, .si .i64 p), (9, .si .i64 i)] ([6, 7, 10, 11] ++ rg 16 48)) [(1, .blk 25 [.rs _ pl, .rs _ sh, .rs _ ti, .rs _ st])] (Yte Xd8 A K) = Xe5 l p i pl sh ti st A K := by kernel_rfl
def Xf0 : Prop := ∀ (W : InW) (body a : Code), (Try.prog.funcs[69]?).bind (·.body) = some body -> a ∈ Yu body -> Yfs a = 6 -> @Yl2 W Try.prog a (@Ysl W Xd8)
theorem Xni (meas : [InW] -> List Ed -> Nat) (hyp_ : ∀ (W : InW) l p i pl sh ti st K, Xdn [.ro _ l, .i p, .i i, .ro _ pl, .ro _ sh, .ro _ ti, .ro _ st] K -> ∀ A : List Ed -> Prop, (∀ e, meas e < meas [.ro _ l, .i p, .i i, .ro _ pl, .ro _ sh, .ro _ ti, .ro _ st] -> Xdn e K -> A e) -> Xe5 l p i pl sh ti st A K) : Xf0 :=
 LE.okOf' (fun W => @TT W) (fun W => @Xb W) Xa T22 1000 50 (by kernel_rfl) Xd8 (fun W => @meas W) fun W l p i pl sh ti st K hs =>
  (Xl4 W l p i pl sh ti st (fun e => meas e < meas [.ro _ l, .i p, .i i, .ro _ pl, .ro _ sh, .ro _ ti, .ro _ st] /\ Xdn e K) K).mpr (hyp_ W l p i pl sh ti st K hs _ fun e h1 h2 => ⟨h1, h2⟩)
theorem Xq2 : Xf0 := Xni (fun e => match e with | .ro _ l :: _ :: .i i :: _ => ((l.xs.length : Int) - i).toNat | _ => 0) fun W l p i pl sh ti st K hs A hA => by
 obtain ⟨⟨h0, h1⟩, hk⟩ := hs;unfold Xe5;delta Zm Zb Zo Zg Zn;have hm := l.len;have hm2 := st.len;simp only [maxLen] at hm hm2;refine vifd (fun e => ?_) fun e => ?_
 ·rw [show l.xs.length - i.toNat = (l.xs.length - (i.toNat + 1)) + 1 by omega] at hk;obtain ⟨f1, f2, f3, f4⟩ := Xi4 (K0 := fun q => K 0 [.i q]) (K1 := fun q => K 1 [.i q]) hk;have ez : (i + 1).toNat = i.toNat + 1 := by omega
  have hA' : ∀ q, Vif (decide (Sp.folE st.xs l.xs (i.toNat + 1) (l.xs.length - (i.toNat + 1)) q = 0)) (K 0 [.i (Sp.folT st.xs l.xs (i.toNat + 1) (l.xs.length - (i.toNat + 1)) q)]) (K 1 [.i (Sp.folE st.xs l.xs (i.toNat + 1) (l.xs.length - (i.toNat + 1)) q)]) -> A [.ro _ l, .i q, .i (i + 1), .ro _ pl, .ro _ sh, .ro _ ti, .ro _ st] := fun q f => hA _ (by show ((l.xs.length : Int) - (i + 1)).toNat < ((l.xs.length : Int) - i).toNat; omega) ⟨⟨by omega, by omega⟩, by rw [ez]; exact f⟩;clear hA hk;simp only [Nat.zero_add, Nat.reduceAdd, <- show Sp.xS l.xs i.toNat = (cel l.xs i.toNat 0).int from rfl, <- show Sp.xB l.xs i.toNat = (cel l.xs i.toNat 1).bool from rfl];have hst : Sp.sBo st.xs (Sp.xS l.xs i.toNat).toNat = (cel st.xs (Sp.xS l.xs i.toNat).toNat 5).bool := rfl;rw [<- hst];refine ned (by simp; omega) (nedd (by omega) (ar64 (by omega) ⟨trivial, vifb (fun e1 => f1 e1) fun e1 => ?_⟩));have e2 := Sp.inr_iff.1 e1
  repeat' (first | omega | with_reducible refine vifd (fun _ => ?_) fun _ => ?_ | with_reducible refine vifn (fun _ => ?_) fun _ => ?_ | with_reducible refine vifq (fun _ => ?_) fun _ => ?_ | with_reducible refine vifq0 (fun _ => ?_) fun _ => ?_ | with_reducible refine vifq1 (fun _ => ?_) fun _ => ?_ | with_reducible refine vifb (fun _ => ?_) fun _ => ?_ | with_reducible refine vif (fun _ => ?_) fun _ => ?_ | (with_reducible refine nedd ?_ ?_; omega) | (with_reducible refine ned ?_ ?_; simp only [Bool.and_eq_true, decide_eq_true_eq]; omega) | (with_reducible refine ar64 ?_ ?_; omega) | (with_reducible refine Xd ?_ ?_; (first | trivial | omega | assumption | (refine ⟨?_, ?_⟩ <;> first | trivial | omega | assumption) | (refine ⟨?_, ?_, ?_⟩ <;> first | trivial | omega | assumption) | (refine ⟨?_, ?_, ?_, ?_⟩ <;> first | trivial | omega | assumption))))
  all_goals first | exact f2 e1 (by assumption) (by assumption) | exact f3 e1 (.inl (by assumption)) (by assumption) | exact f3 e1 (.inr (by assumption)) (by assumption) | exact hA' _ (f4 e1 (.inl (by assumption)) (by assumption)) | exact hA' _ (f4 e1 (.inr (by assumption)) (by assumption))
 ·rw [show l.xs.length - i.toNat = 0 by omega] at hk;exact hk.1 rfl
noncomputable def Xrj : LE Try.prog := ⟨69, 6, fun W => @Ysl W Xd8, Xq2⟩
def Xdq [InW] (e : List Ed) (K : Nat -> List Ed -> Prop) : Prop := match e with
 | [.i p, .ro _ l, .i n, .i i, .ro _ pl, .ro _ sh, .ro _ ti, .ro _ st] => Pre (n = l.xs.length /\ 0 <= i /\ i <= l.xs.length) (Vif (decide (Sp.folE st.xs l.xs i.toNat (l.xs.length - i.toNat) p = 0)) (K 0 [.i (Sp.folT st.xs l.xs i.toNat (l.xs.length - i.toNat) p)]) (K 1 [.i (Sp.folE st.xs l.xs i.toNat (l.xs.length - i.toNat) p)]))
 | _ => False
noncomputable def Xeb : LC where
 len := 55
 T := [(1, .int .i64), (3, (.ptr 1 0)), (15, .rs Xe), (16, .int .i64), (17, .int .i64)]
 H := [(1, .blk 137 [.rs Jb, .rs Jb, .rs Jb, .rs Jd])]
 W := ([6, 7, 9, 10, 11] ++ rg 18 36)
 outs := [⟨.exit 0, [(1, .int .i64)], [], ([3, 6, 7, 9, 10, 11] ++ rg 15 39)⟩, ⟨.ret, [(6, (.lit (.int .i64 0))), (7, .int .i64)], [], ([1, 3, 9, 10, 11] ++ rg 15 39)⟩]
 spec := Xdq
def Zp [W : InW] (l : Ro Xe) (i : Int) := cel l.xs i.toNat (0 : Nat)
def Zq [W : InW] (p : Int) (l : Ro Xe) (n i : Int) (pl sh ti : Ro Jb) (st : Ro Jd) (A : List Ed -> Prop) (K : Nat -> List Ed -> Prop) := Pre (Zg <= (Zp l i).int /\ (Zp l i).int < (↑(st.xs.length) : Int)) (Vif (!decide (Sp.eFr st.xs (Zp l i).int (cel l.xs i.toNat (0+1)).bool = p)) (K (0+1) [.i (9 : Int)]) (Ar .i64 (i + 1) fun z => A [.i (Sp.eTo st.xs (Zp l i).int (cel l.xs i.toNat (0+1)).bool), .ro _ l, .i n, .i z, .ro _ pl, .ro _ sh, .ro _ ti, .ro Zb st]))
def Xe8 [W : InW] (p : Int) (l : Ro Xe) (n i : Int) (pl sh ti : Ro Jb) (st : Ro Jd) (A : List Ed -> Prop) (K : Nat -> List Ed -> Prop) : Prop :=
 Vif (decide (i < n)) (Need (decide (0 <= i) && decide (i < (↑(l.xs.length) : Int))) (Need (decide (i.toNat < l.xs.length)) (Ar .i64 ((↑(st.xs.length) : Int) - 1) fun z => Pre True (Vif (Sp.out Zg z [[Cl.i (Zp l i).int]]) (K (0+1) [.i (4 : Int)]) (Vif (cel l.xs i.toNat (0+1)).bool (Need (decide (Zg <= (Zp l i).int) && decide ((Zp l i).int < (↑(st.xs.length) : Int))) (Need (decide ((Zp l i).int.toNat < st.xs.length)) (Vif (!(cel st.xs (Zp l i).int.toNat (4+1)).bool) (K (0+1) [.i (2 : Int)]) (Zq p l n i pl sh ti st A K)))) (Zq p l n i pl sh ti st A K)))))) (K 0 [.i p])
theorem Xl7 (W : InW) (p l n i pl sh ti st A K) : Ye9 { cxT Try.prog TT T22 1000 50 with fn := 78 } 1000 (Ynd Try.prog 78 5) (Yd0 55 [(1, .si .i64 p), (3, .ptr 1 0), (15, .rs _ l), (16, .si .i64 n), (17, .si .i64 i)] ([6, 7, 9, 10, 11] ++ rg 18 36)) [(1, .blk 137 [.rs _ pl, .rs _ sh, .rs _ ti, .rs _ st])] (Yte Xeb A K) = Xe8 p l n i pl sh ti st A K := by kernel_rfl
def Xf3 : Prop := ∀ (W : InW) (body a : Code), (Try.prog.funcs[78]?).bind (·.body) = some body -> a ∈ Yu body -> Yfs a = 5 -> @Yl2 W Try.prog a (@Ysl W Xeb)
theorem Xnl (meas : [InW] -> List Ed -> Nat) (hyp_ : ∀ (W : InW) p l n i pl sh ti st K, Xdq [.i p, .ro _ l, .i n, .i i, .ro _ pl, .ro _ sh, .ro _ ti, .ro _ st] K -> ∀ A : List Ed -> Prop, (∀ e, meas e < meas [.i p, .ro _ l, .i n, .i i, .ro _ pl, .ro _ sh, .ro _ ti, .ro _ st] -> Xdq e K -> A e) -> Xe8 p l n i pl sh ti st A K) : Xf3 :=
 LE.okOf' (fun W => @TT W) (fun W => @Xb W) Xa T22 1000 50 (by kernel_rfl) Xeb (fun W => @meas W) fun W p l n i pl sh ti st K hs =>
  (Xl7 W p l n i pl sh ti st (fun e => meas e < meas [.i p, .ro _ l, .i n, .i i, .ro _ pl, .ro _ sh, .ro _ ti, .ro _ st] /\ Xdq e K) K).mpr (hyp_ W p l n i pl sh ti st K hs _ fun e h1 h2 => ⟨h1, h2⟩)
theorem Xq5 : Xf3 := Xnl (fun e => match e with | _ :: .ro _ l :: _ :: .i i :: _ => ((l.xs.length : Int) - i).toNat | _ => 0) fun W p l n i pl sh ti st K hs A hA => by
 obtain ⟨⟨rfl, h0, h1⟩, hk⟩ := hs;unfold Xe8;delta Zq Zb Zp Zg;have hm := l.len;have hm2 := st.len;simp only [maxLen] at hm hm2;refine vifd (fun e => ?_) fun e => ?_
 ·rw [show l.xs.length - i.toNat = (l.xs.length - (i.toNat + 1)) + 1 by omega] at hk;obtain ⟨f1, f2, f3, f4⟩ := Xi4 (K0 := fun q => K 0 [.i q]) (K1 := fun q => K 1 [.i q]) hk;have ez : (i + 1).toNat = i.toNat + 1 := by omega
  have hA' : ∀ q, Vif (decide (Sp.folE st.xs l.xs (i.toNat + 1) (l.xs.length - (i.toNat + 1)) q = 0)) (K 0 [.i (Sp.folT st.xs l.xs (i.toNat + 1) (l.xs.length - (i.toNat + 1)) q)]) (K 1 [.i (Sp.folE st.xs l.xs (i.toNat + 1) (l.xs.length - (i.toNat + 1)) q)]) -> A [.i q, .ro _ l, .i l.xs.length, .i (i + 1), .ro _ pl, .ro _ sh, .ro _ ti, .ro _ st] := fun q f => hA _ (by show ((l.xs.length : Int) - (i + 1)).toNat < ((l.xs.length : Int) - i).toNat; omega) ⟨⟨rfl, by omega, by omega⟩, by rw [ez]; exact f⟩;clear hA hk;simp only [Nat.zero_add, Nat.reduceAdd, out1, <- show Sp.xS l.xs i.toNat = (cel l.xs i.toNat 0).int from rfl, <- show Sp.xB l.xs i.toNat = (cel l.xs i.toNat 1).bool from rfl];have hst : Sp.sBo st.xs (Sp.xS l.xs i.toNat).toNat = (cel st.xs (Sp.xS l.xs i.toNat).toNat 5).bool := rfl;rw [<- hst];refine ned (by simp; omega) (nedd (by omega) (ar64 (by omega) ⟨trivial, vifb (fun e1 => f1 e1) fun e1 => ?_⟩));have e2 := Sp.inr_iff.1 e1
  repeat' (first | omega | with_reducible refine vifd (fun _ => ?_) fun _ => ?_ | with_reducible refine vifn (fun _ => ?_) fun _ => ?_ | with_reducible refine vifq (fun _ => ?_) fun _ => ?_ | with_reducible refine vifq0 (fun _ => ?_) fun _ => ?_ | with_reducible refine vifq1 (fun _ => ?_) fun _ => ?_ | with_reducible refine vifb (fun _ => ?_) fun _ => ?_ | with_reducible refine vif (fun _ => ?_) fun _ => ?_ | (with_reducible refine nedd ?_ ?_; omega) | (with_reducible refine ned ?_ ?_; simp only [Bool.and_eq_true, decide_eq_true_eq]; omega) | (with_reducible refine ar64 ?_ ?_; omega) | (with_reducible refine Xd ?_ ?_; (first | trivial | omega | assumption | (refine ⟨?_, ?_⟩ <;> first | trivial | omega | assumption) | (refine ⟨?_, ?_, ?_⟩ <;> first | trivial | omega | assumption) | (refine ⟨?_, ?_, ?_, ?_⟩ <;> first | trivial | omega | assumption))))
  all_goals first | exact f2 e1 (by assumption) (by assumption) | exact f3 e1 (.inl (by assumption)) (by assumption) | exact f3 e1 (.inr (by assumption)) (by assumption) | exact hA' _ (f4 e1 (.inl (by assumption)) (by assumption)) | exact hA' _ (f4 e1 (.inr (by assumption)) (by assumption))
 ·rw [show l.xs.length - i.toNat = 0 by omega] at hk;exact hk.1 rfl
noncomputable def Xrl : LE Try.prog := ⟨78, 5, fun W => @Ysl W Xeb, Xq5⟩
noncomputable def T23 : Tab Try.prog := ⟨[], [Xrj, Xrl], []⟩
def Xc0 [W : InW] (t_Pl t_Sh t_Ti : Ro Jb) (t_St : Ro Jd) (p : Int) (l : Ro Xe) (Q : DS -> Prop) : Prop :=
 Vif (decide ((1100 : Int) < (↑(l.xs.length) : Int))) (Q [[Cl.i 0], [Cl.i 3]]) (Pre (Zg <= 0 /\ Zg <= (↑(l.xs.length) : Int)) (Vif (decide (Sp.folE t_St.xs l.xs Zf (l.xs.length - Int.toNat Zg) p = 0)) (Q [[Cl.i (Sp.folT t_St.xs l.xs Zf (l.xs.length - Int.toNat Zg) p)], [Cl.i 0]]) (Q [[Cl.i 0], [Cl.i (Sp.folE t_St.xs l.xs Zf (l.xs.length - Int.toNat Zg) p)]])))
theorem Xjv (W : InW) (t_Pl t_Sh t_Ti t_St p l Q) : Yvi (cxT Try.prog TT T23 1000 50) 1000 69 [.agg [.rs _ t_Pl, .rs _ t_Sh, .rs _ t_Ti, .rs _ t_St], .si .i64 p, .rs _ l] [] 0 (Yzk [(false, [.int .i64]), (false, [.int .i64])] Q) (fun _ _ _ _ => Stuck 421) = Xc0 t_Pl t_Sh t_Ti t_St p l Q := by kernel_rfl
abbrev Xbj : List AT := [.agg [.sl Jb, .sl Jb, .sl Jb, .sl Jd], .one (.int .i64), .one (.sl Xe)]
theorem Xk6 {pre : DS -> Prop} {res : DS -> DS} (hyp_ : ∀ (W : InW) (t_Pl t_Sh t_Ti : Ro Jb) (t_St : Ro Jd) (p : Int) (l : Ro Xe), pre [[.l t_Pl.xs, .l t_Sh.xs, .l t_Ti.xs, .l t_St.xs], [.i p], [.l l.xs]] -> ∀ Q : DS -> Prop, Q (res [[.l t_Pl.xs, .l t_Sh.xs, .l t_Ti.xs, .l t_St.xs], [.i p], [.l l.xs]]) -> Xc0 t_Pl t_Sh t_Ti t_St p l Q) : PureOk Try.prog 69 Xbj [(false, [.int .i64]), (false, [.int .i64])] pre res :=
 PureOk.of' (fun W => @TT W) (fun W => @Xb W) Xa T23 1000 50 fun W t_Pl t_Sh t_Ti t_St p l hp =>
  (Xjv W t_Pl t_Sh t_Ti t_St p l (fun o => o = res [[.l t_Pl.xs, .l t_Sh.xs, .l t_Ti.xs, .l t_St.xs], [.i p], [.l l.xs]])).mpr (hyp_ W t_Pl t_Sh t_Ti t_St p l hp _ rfl)
def Xc3 [W : InW] (t_Pl t_Sh t_Ti : Ro Jb) (t_St : Ro Jd) (p : Int) (l : Ro Xe) (Q : DS -> Prop) : Prop :=
 Vif (decide ((1100 : Int) < (↑(l.xs.length) : Int))) (Q [[Cl.i 0], [Cl.i 3]]) (Pre ((↑(l.xs.length) : Int) = (↑(l.xs.length) : Int) /\ Zg <= 0 /\ Zg <= (↑(l.xs.length) : Int)) (Vif (decide (Sp.folE t_St.xs l.xs Zf (l.xs.length - Int.toNat Zg) p = 0)) (Q [[Cl.i (Sp.folT t_St.xs l.xs Zf (l.xs.length - Int.toNat Zg) p)], [Cl.i 0]]) (Q [[Cl.i 0], [Cl.i (Sp.folE t_St.xs l.xs Zf (l.xs.length - Int.toNat Zg) p)]])))
theorem Xjy (W : InW) (t_Pl t_Sh t_Ti t_St p l Q) : Yvi (cxT Try.prog TT T23 1000 50) 1000 78 [.agg [.rs _ t_Pl, .rs _ t_Sh, .rs _ t_Ti, .rs _ t_St], .si .i64 p, .rs _ l] [] 0 (Yzk [(false, [.int .i64]), (false, [.int .i64])] Q) (fun _ _ _ _ => Stuck 421) = Xc3 t_Pl t_Sh t_Ti t_St p l Q := by kernel_rfl
abbrev Xbm : List AT := [.agg [.sl Jb, .sl Jb, .sl Jb, .sl Jd], .one (.int .i64), .one (.sl Xe)]
theorem Xk9 {pre : DS -> Prop} {res : DS -> DS} (hyp_ : ∀ (W : InW) (t_Pl t_Sh t_Ti : Ro Jb) (t_St : Ro Jd) (p : Int) (l : Ro Xe), pre [[.l t_Pl.xs, .l t_Sh.xs, .l t_Ti.xs, .l t_St.xs], [.i p], [.l l.xs]] -> ∀ Q : DS -> Prop, Q (res [[.l t_Pl.xs, .l t_Sh.xs, .l t_Ti.xs, .l t_St.xs], [.i p], [.l l.xs]]) -> Xc3 t_Pl t_Sh t_Ti t_St p l Q) : PureOk Try.prog 78 Xbm [(false, [.int .i64]), (false, [.int .i64])] pre res :=
 PureOk.of' (fun W => @TT W) (fun W => @Xb W) Xa T23 1000 50 fun W t_Pl t_Sh t_Ti t_St p l hp =>
  (Xjy W t_Pl t_Sh t_Ti t_St p l (fun o => o = res [[.l t_Pl.xs, .l t_Sh.xs, .l t_Ti.xs, .l t_St.xs], [.i p], [.l l.xs]])).mpr (hyp_ W t_Pl t_Sh t_Ti t_St p l hp _ rfl)
abbrev Xl (ds : DS) : DS := match ds with | [[.l _, .l _, .l _, .l st], [.i p], [.l l]] => [[.i (Sp.stepsT st l p)], [.i (Sp.stepsE st l p)]] | _ => []
theorem Xem {st l : Dt} : ∀ {n i : Nat} {p : Int}, ¬ Sp.folE st l i n p = 0 -> Sp.folT st l i n p = 0
 | 0, _, _, h => absurd rfl h
 | n + 1, i, p, h => by
  rw [Xcc.1] at h;rw [Xcc.2]
  split
  ·rename_i h1;rw [if_pos h1] at h
   split
   ·rfl
   ·rename_i h2;rw [if_neg h2] at h
    split
    ·rename_i h3;rw [if_pos h3] at h;exact Xem h
    ·rfl
  ·rfl
theorem Xm8 : PureOk Try.prog 69 Xbj [(false, [.int .i64]), (false, [.int .i64])] (fun _ => True) Xl :=
 Xk6 fun W pl sh ti st p l hp Q h => by
  unfold Xc0;delta Zf Zg;have hm := l.len; simp only [maxLen] at hm; simp only [Xl, Sp.stepsT, Sp.stepsE] at h; simp only [show Int.toNat 0 = 0 from rfl, Nat.sub_zero]; refine vifd (fun e => ?_) fun e => ⟨by first | omega | (refine ⟨?_, ?_, ?_⟩ <;> first | trivial | rfl | omega), vifd (fun e2 => ?_) fun e2 => ?_⟩
  ·rw [if_pos e, if_pos e] at h; exact h
  ·rw [if_neg e, if_neg e, e2] at h; exact h
  ·rw [if_neg e, if_neg e, Xem e2] at h; exact h
theorem Xnb : PureOk Try.prog 78 Xbm [(false, [.int .i64]), (false, [.int .i64])] (fun _ => True) Xl :=
 Xk9 fun W pl sh ti st p l hp Q h => by
  unfold Xc3;delta Zf Zg;have hm := l.len; simp only [maxLen] at hm; simp only [Xl, Sp.stepsT, Sp.stepsE] at h; simp only [show Int.toNat 0 = 0 from rfl, Nat.sub_zero]; refine vifd (fun e => ?_) fun e => ⟨by first | omega | (refine ⟨?_, ?_, ?_⟩ <;> first | trivial | rfl | omega), vifd (fun e2 => ?_) fun e2 => ?_⟩
  ·rw [if_pos e, if_pos e] at h; exact h
  ·rw [if_neg e, if_neg e, e2] at h; exact h
  ·rw [if_neg e, if_neg e, Xem e2] at h; exact h
noncomputable def Xkl : PC Try.prog := ⟨69, Xbj, [(false, [.int .i64]), (false, [.int .i64])], fun _ => True, Xl, Xm8⟩
noncomputable def Xko : PC Try.prog := ⟨78, Xbm, [(false, [.int .i64]), (false, [.int .i64])], fun _ => True, Xl, Xnb⟩
namespace Sp
structure TourOk (pl sh ti st l : Dt) (time : Int) : Prop where
 tw : TwOk pl sh ti st
 ti0 : 0 <= time
 ti1 : time < ti.length
 ln : l.length <= 1100
 xs : ∀ k, k < l.length -> 0 <= xS l k /\ xS l k < st.length
structure TourAt (l : Dt) (i me lo hi sw : Int) : Prop where
 i0 : 0 <= i
 i1 : i <= l.length
 me : 0 <= me /\ me <= 10000 * i
 lo : 0 <= lo /\ lo <= 10000 * i
 hi : 0 <= hi /\ hi <= 10000 * i
 sw : 0 <= sw /\ sw < 64
def gMe (st l : Dt) (k : Nat) : Int := sMe st (xS l k).toNat
def gLo (st l : Dt) (k : Nat) : Int := sLo st (xS l k).toNat
def gHi (st l : Dt) (k : Nat) : Int := sHi st (xS l k).toNat
end Sp
theorem Xj6 {pl sh ti st l : Dt} {time : Int} (h : Sp.TourOk pl sh ti st l time) {k : Nat} (hk : k < l.length) : Sp.StOk pl.length sh.length ti.length st (Sp.xS l k).toNat /\ (0 <= Sp.xS l k /\ Sp.xS l k < st.length) /\ 0 <= Sp.shT st l time.toNat k /\ Sp.shT st l time.toNat k < 64 := by
 have h1 := h.xs k hk;have h2 := h.tw.each (Sp.xS l k).toNat (by omega);have h3 := h2.sh time.toNat (by have := h.ti0; have := h.ti1; omega);have h4 := Sp.sets_le h.tw.shL;refine ⟨h2, h1, ?_⟩;unfold Sp.shT;omega
def Xb4 [InW] (e : List Ed) (K : Nat -> List Ed -> Prop) : Prop := match e with
 | [.i time, .ro _ l, .i n, .i i, .ro _ pl, .ro _ sh, .ro _ ti, .ro _ st, .i me, .i lo, .i hi, .i sw, .l cs] => Pre (n = l.xs.length /\ Sp.TourOk pl.xs sh.xs ti.xs st.xs l.xs time /\ Sp.TourAt l.xs i me lo hi sw)
   (K 0 [.i (Sp.sumF (Sp.gMe st.xs l.xs) i.toNat (l.xs.length - i.toNat) me), .i (Sp.sumF (Sp.gLo st.xs l.xs) i.toNat (l.xs.length - i.toNat) lo), .i (Sp.sumF (Sp.gHi st.xs l.xs) i.toNat (l.xs.length - i.toNat) hi), .i (Sp.orF (Sp.shT st.xs l.xs time.toNat) i.toNat (l.xs.length - i.toNat) sw), .l cs])
 | _ => False
noncomputable def Xca : LC where
 len := 62
 T := [(1, .int .i64), (3, (.ptr 1 0)), (6, (.ptr 7 0)), (7, (.ptr 4 0)), (14, .rs Xe), (15, .int .i64), (16, .int .i64)]
 H := [(1, .blk 137 [.rs Jb, .rs Jb, .rs Jb, .rs Jd]), (4, .blk 93 [(.row 13), .int .i64, .int .i64, .int .i64, .int .i64]), (13, .arr 91 Xe), (7, .blk 93 [(.lit (.slice none 0 0)), (.lit (.int .i64 0)), (.lit (.int .i64 0)), (.lit (.int .i64 0)), (.lit (.int .i64 0))])]
 W := ([9, 10] ++ rg 17 44)
 outs := [⟨.exit 0, [(6, (.ptr 7 0)), (7, (.ptr 4 0))], [(4, .blk 93 [(.row 13), .int .i64, .int .i64, .int .i64, .int .i64]), (13, .arr 91 Xe), (7, .blk 93 [(.lit (.slice none 0 0)), (.lit (.int .i64 0)), (.lit (.int .i64 0)), (.lit (.int .i64 0)), (.lit (.int .i64 0))])], ([1, 3, 9, 10] ++ rg 14 47)⟩]
 spec := Xb4
def Zr [W : InW] (l : Ro Xe) (i : Int) := cel l.xs i.toNat (0 : Nat)
def Zs := (0 : Nat) + 1 + 1 + 1 + 1 + 1 + 1
def Xdb [W : InW] (time : Int) (l : Ro Xe) (n i : Int) (pl sh ti : Ro Jb) (st : Ro Jd) (me lo hi sw : Int) (cs : Dt) (A : List Ed -> Prop) (K : Nat -> List Ed -> Prop) : Prop :=
 Vif (decide (i < n)) (Need (decide (0 <= i) && decide (i < (↑(l.xs.length) : Int))) (Need (decide (i.toNat < l.xs.length)) (Need (decide ((0 : Int) <= (Zr l i).int) && decide ((Zr l i).int < (↑(st.xs.length) : Int))) (Need (decide ((Zr l i).int.toNat < st.xs.length)) (Ar .i64 (me + (cel st.xs (Zr l i).int.toNat ((0 : Nat) + 1 + 1)).int) fun z => Ar .i64 (lo + (cel st.xs (Zr l i).int.toNat ((0 : Nat) + 1 + 1 + 1)).int) fun z_1 => Ar .i64 (hi + (cel st.xs (Zr l i).int.toNat ((0 : Nat) + 1 + 1 + 1 + 1)).int) fun z_2 => Need (decide (0 <= time) && decide (time < (↑(List.length (cel st.xs (Zr l i).int.toNat Zs).lst) : Int))) (Need (decide (time.toNat < List.length (cel st.xs (Zr l i).int.toNat Zs).lst)) (Ar .i64 (i + 1) fun z_3 => A [.i time, .ro _ l, .i n, .i z_3, .ro _ pl, .ro _ sh, .ro _ ti, .ro Zb st, .i z, .i z_1, .i z_2, .i (orI IntKind.i64 sw (cel (cel st.xs (Zr l i).int.toNat Zs).lst time.toNat (0 : Nat)).int), .l cs]))))))) (K 0 [.i me, .i lo, .i hi, .i sw, .l cs])
theorem Xjq (W : InW) (time l n i pl sh ti st me lo hi sw cs A K) : Ye9 { cxT Try.prog TT T22 1000 50 with fn := 79 } 1000 (Ynd Try.prog 79 4) (Yd0 62 [(1, .si .i64 time), (3, .ptr 1 0), (6, .ptr 7 0), (7, .ptr 4 0), (14, .rs _ l), (15, .si .i64 n), (16, .si .i64 i)] ([9, 10] ++ rg 17 44)) [(1, .blk 137 [.rs _ pl, .rs _ sh, .rs _ ti, .rs _ st]), (4, .blk 93 [.rw 13, .si .i64 me, .si .i64 lo, .si .i64 hi, .si .i64 sw]), (13, .arr 91 Xe cs), (7, .blk 93 [.v (.slice none 0 0), .v (.int .i64 0), .v (.int .i64 0), .v (.int .i64 0), .v (.int .i64 0)])] (Yte Xca A K) = Xdb time l n i pl sh ti st me lo hi sw cs A K := by kernel_rfl
def Xdi : Prop := ∀ (W : InW) (body a : Code), (Try.prog.funcs[79]?).bind (·.body) = some body -> a ∈ Yu body -> Yfs a = 4 -> @Yl2 W Try.prog a (@Ysl W Xca)
theorem Xk0 (meas : [InW] -> List Ed -> Nat) (hyp_ : ∀ (W : InW) time l n i pl sh ti st me lo hi sw cs K, Xb4 [.i time, .ro _ l, .i n, .i i, .ro _ pl, .ro _ sh, .ro _ ti, .ro _ st, .i me, .i lo, .i hi, .i sw, .l cs] K -> ∀ A : List Ed -> Prop, (∀ e, meas e < meas [.i time, .ro _ l, .i n, .i i, .ro _ pl, .ro _ sh, .ro _ ti, .ro _ st, .i me, .i lo, .i hi, .i sw, .l cs] -> Xb4 e K -> A e) -> Xdb time l n i pl sh ti st me lo hi sw cs A K) : Xdi :=
 LE.okOf' (fun W => @TT W) (fun W => @Xb W) Xa T22 1000 50 (by kernel_rfl) Xca (fun W => @meas W) fun W time l n i pl sh ti st me lo hi sw cs K hs =>
  (Xjq W time l n i pl sh ti st me lo hi sw cs (fun e => meas e < meas [.i time, .ro _ l, .i n, .i i, .ro _ pl, .ro _ sh, .ro _ ti, .ro _ st, .i me, .i lo, .i hi, .i sw, .l cs] /\ Xb4 e K) K).mpr (hyp_ W time l n i pl sh ti st me lo hi sw cs K hs _ fun e h1 h2 => ⟨h1, h2⟩)
theorem Xn9 : Xdi := Xk0 (fun e => match e with | _ :: .ro _ l :: _ :: .i i :: _ => ((l.xs.length : Int) - i).toNat | _ => 0) fun W time l n i pl sh ti st me lo hi sw cs K hs A hA => by
 obtain ⟨⟨rfl, hT, hI⟩, hk⟩ := hs;unfold Xdb;delta Zs Zr Zb;have h0 := hI.i0;have h1 := hI.i1;have hln := hT.ln;have t0 := hT.ti0;have t1 := hT.ti1;refine vifd (fun e => ?_) fun e => ?_
 ·rw [show l.xs.length - i.toNat = (l.xs.length - (i.toNat + 1)) + 1 by omega] at hk;simp only [Sp.sumF, Sp.orF] at hk;obtain ⟨g1, g2, g3⟩ := Xj6 hT (k := i.toNat) (by omega);have u := Sp.un_or hI.sw.1 hI.sw.2 g3.1 g3.2;rw [u.1] at hk;have ez : (i + 1).toNat = i.toNat + 1 := by omega
  have hme := hI.me;have hlo := hI.lo;have hhi := hI.hi;have gme := g1.me;have glo := g1.lo;have ghi := g1.hi;have glen := g1.len;have hA' : ∀ a b c d, a = me + Sp.gMe st.xs l.xs i.toNat -> b = lo + Sp.gLo st.xs l.xs i.toNat -> c = hi + Sp.gHi st.xs l.xs i.toNat -> d = orI .i64 sw (Sp.shT st.xs l.xs time.toNat i.toNat) -> A [.i time, .ro _ l, .i l.xs.length, .i (i + 1), .ro _ pl, .ro _ sh, .ro _ ti, .ro _ st, .i a, .i b, .i c, .i d, .l cs] := fun a b c d ha hb hc hd => hA _ (by show ((l.xs.length : Int) - (i + 1)).toNat < ((l.xs.length : Int) - i).toNat; omega) ⟨⟨rfl, hT, ⟨by omega, by omega, by simp only [Sp.gMe] at ha; omega, by simp only [Sp.gLo] at hb; omega, by simp only [Sp.gHi] at hc; omega, by rw [hd, <- u.1]; exact u.2.1⟩⟩, by rw [ez, ha, hb, hc, hd]; exact hk⟩;clear hA hk;simp only [Sp.gMe, Sp.gLo, Sp.gHi, Sp.sMe, Sp.sLo, Sp.sHi, Sp.sSh, Sp.shT, Sp.xS] at *;simp only [Nat.zero_add, Nat.reduceAdd]
  repeat' (first | omega | with_reducible refine vifd (fun _ => ?_) fun _ => ?_ | with_reducible refine vifn (fun _ => ?_) fun _ => ?_ | with_reducible refine vifq (fun _ => ?_) fun _ => ?_ | with_reducible refine vifq0 (fun _ => ?_) fun _ => ?_ | with_reducible refine vifq1 (fun _ => ?_) fun _ => ?_ | with_reducible refine vifb (fun _ => ?_) fun _ => ?_ | with_reducible refine vif (fun _ => ?_) fun _ => ?_ | (with_reducible refine nedd ?_ ?_; omega) | (with_reducible refine ned ?_ ?_; simp only [Bool.and_eq_true, decide_eq_true_eq]; omega) | (with_reducible refine ar64 ?_ ?_; omega) | (with_reducible refine Xd ?_ ?_; (first | trivial | omega | assumption | (refine ⟨?_, ?_⟩ <;> first | trivial | omega | assumption) | (refine ⟨?_, ?_, ?_⟩ <;> first | trivial | omega | assumption) | (refine ⟨?_, ?_, ?_, ?_⟩ <;> first | trivial | omega | assumption))))
  all_goals first | exact hA' _ _ _ _ rfl rfl rfl rfl | skip
  all_goals trace_state
 ·rw [show l.xs.length - i.toNat = 0 by omega] at hk;exact hk
noncomputable def Xoc : LE Try.prog := ⟨79, 4, fun W => @Ysl W Xca, Xn9⟩
noncomputable def T24 : Tab Try.prog := ⟨[], [Xoc], []⟩
def Zu := Int.toNat Zg
def Zt [W : InW] (l : Ro Xe) := l.xs.length - Int.toNat Zg
def Xex [W : InW] (t_Pl t_Sh t_Ti : Ro Jb) (t_St : Ro Jd) (time : Int) (l : Ro Xe) (Q : DS -> Prop) : Prop :=
 Vif (match l.v with | Value.slice none len cap => true | x => false) (Pre ((↑(l.xs.length) : Int) = (↑(l.xs.length) : Int) /\ Sp.TourOk t_Pl.xs t_Sh.xs t_Ti.xs t_St.xs l.xs time /\ Sp.TourAt l.xs Zg Zg Zg Zg Zg) (Q [[Cl.l [], Cl.i (Sp.sumF (Sp.gMe t_St.xs l.xs) Zu (Zt l) Zg), Cl.i (Sp.sumF (Sp.gLo t_St.xs l.xs) Zu (Zt l) Zg), Cl.i (Sp.sumF (Sp.gHi t_St.xs l.xs) Zu (Zt l) Zg), Cl.i (Sp.orF (Sp.shT t_St.xs l.xs time.toNat) Zu (Zt l) Zg)]])) (Need (decide (((0 : Nat) + l.xs.length) * 16 <= 140737488355328)) (Pre ((↑(l.xs.length) : Int) = (↑(l.xs.length) : Int) /\ Sp.TourOk t_Pl.xs t_Sh.xs t_Ti.xs t_St.xs l.xs time /\ Sp.TourAt l.xs Zg Zg Zg Zg Zg) (Q [[Cl.l l.xs, Cl.i (Sp.sumF (Sp.gMe t_St.xs l.xs) Zu (Zt l) Zg), Cl.i (Sp.sumF (Sp.gLo t_St.xs l.xs) Zu (Zt l) Zg), Cl.i (Sp.sumF (Sp.gHi t_St.xs l.xs) Zu (Zt l) Zg), Cl.i (Sp.orF (Sp.shT t_St.xs l.xs time.toNat) Zu (Zt l) Zg)]])))
theorem Xml (W : InW) (t_Pl t_Sh t_Ti t_St time l Q) : Yvi (cxT Try.prog TT T24 1000 50) 1000 79 [.agg [.rs _ t_Pl, .rs _ t_Sh, .rs _ t_Ti, .rs _ t_St], .si .i64 time, .rs _ l] [] 0 (Yzk [(true, [.row 91 Xe, .int .i64, .int .i64, .int .i64, .int .i64])] Q) (fun _ _ _ _ => Stuck 421) = Xex t_Pl t_Sh t_Ti t_St time l Q := by kernel_rfl
abbrev Xcs : List AT := [.agg [.sl Jb, .sl Jb, .sl Jb, .sl Jd], .one (.int .i64), .one (.sl Xe)]
theorem Xn2 {pre : DS -> Prop} {res : DS -> DS} (hyp_ : ∀ (W : InW) (t_Pl t_Sh t_Ti : Ro Jb) (t_St : Ro Jd) (time : Int) (l : Ro Xe), pre [[.l t_Pl.xs, .l t_Sh.xs, .l t_Ti.xs, .l t_St.xs], [.i time], [.l l.xs]] -> ∀ Q : DS -> Prop, Q (res [[.l t_Pl.xs, .l t_Sh.xs, .l t_Ti.xs, .l t_St.xs], [.i time], [.l l.xs]]) -> Xex t_Pl t_Sh t_Ti t_St time l Q) : PureOk Try.prog 79 Xcs [(true, [.row 91 Xe, .int .i64, .int .i64, .int .i64, .int .i64])] pre res :=
 PureOk.of' (fun W => @TT W) (fun W => @Xb W) Xa T24 1000 50 fun W t_Pl t_Sh t_Ti t_St time l hp =>
  (Xml W t_Pl t_Sh t_Ti t_St time l (fun o => o = res [[.l t_Pl.xs, .l t_Sh.xs, .l t_Ti.xs, .l t_St.xs], [.i time], [.l l.xs]])).mpr (hyp_ W t_Pl t_Sh t_Ti t_St time l hp _ rfl)
abbrev Xd1 (ds : DS) : DS := match ds with | [[.l _, .l _, .l _, .l st], [.i time], [.l l]] => [[.l l, .i (Sp.sumF (Sp.gMe st l) 0 l.length 0), .i (Sp.sumF (Sp.gLo st l) 0 l.length 0), .i (Sp.sumF (Sp.gHi st l) 0 l.length 0), .i (Sp.orF (Sp.shT st l time.toNat) 0 l.length 0)]] | _ => []
abbrev Xh3 (ds : DS) : Prop := match ds with | [[.l pl, .l sh, .l ti, .l st], [.i time], [.l l]] => Sp.TourOk pl sh ti st l time | _ => False
theorem Xp5 : PureOk Try.prog 79 Xcs [(true, [.row 91 Xe, .int .i64, .int .i64, .int .i64, .int .i64])] Xh3 Xd1 :=
 Xn2 fun W pl sh ti st time l hp Q h => by
  unfold Xex;delta Zt Zu Zg;have hT : Sp.TourOk pl.xs sh.xs ti.xs st.xs l.xs time := hp;have hln := hT.ln;have hm := l.len;simp only [Xd1] at h;simp only [maxLen] at hm;have hA : Sp.TourAt l.xs 0 0 0 0 0 := ⟨by omega, by omega, by omega, by omega, by omega, by omega⟩;simp only [show Int.toNat 0 = 0 from rfl, Nat.sub_zero];refine vif (fun e => ⟨⟨trivial, hT, hA⟩, ?_⟩) fun e => nedd (by omega) ⟨⟨trivial, hT, hA⟩, ?_⟩
  ·rw [Y2k (r := l) e] at h ⊢;exact h
  ·exact h
noncomputable def Xm1 : PC Try.prog := ⟨79, Xcs, [(true, [.row 91 Xe, .int .i64, .int .i64, .int .i64, .int .i64])], Xh3, Xd1, Xp5⟩
namespace Sp
def dvL (pl sh ti st : Dt) (p time : Int) (l : Dt) : Dt := if drvE pl sh ti st p time l = 0 then l else []
def dvMe (pl sh ti st : Dt) (p time : Int) (l : Dt) : Int := if drvE pl sh ti st p time l = 0 then sumF (gMe st l) 0 l.length 0 else 0
def dvLo (pl sh ti st : Dt) (p time : Int) (l : Dt) : Int := if drvE pl sh ti st p time l = 0 then sumF (gLo st l) 0 l.length 0 else 0
def dvHi (pl sh ti st : Dt) (p time : Int) (l : Dt) : Int := if drvE pl sh ti st p time l = 0 then sumF (gHi st l) 0 l.length 0 else 0
def dvSh (pl sh ti st : Dt) (p time : Int) (l : Dt) : Int := if drvE pl sh ti st p time l = 0 then orF (shT st l time.toNat) 0 l.length 0 else 0
def dvT (pl sh ti st : Dt) (p time : Int) (l : Dt) : Int := if drvE pl sh ti st p time l = 0 then stepsT st l p else 0
end Sp
abbrev Xb6 : RTs := [(true, [.row 91 Xe, .int .i64, .int .i64, .int .i64, .int .i64]), (false, [.int .i64]), (false, [.int .i64])]
abbrev Xfn (ds : DS) : DS := match ds with | [[.l pl, .l sh, .l ti, .l st], [.i p], [.i time], [.l l]] => [[.l (Sp.dvL pl sh ti st p time l), .i (Sp.dvMe pl sh ti st p time l), .i (Sp.dvLo pl sh ti st p time l), .i (Sp.dvHi pl sh ti st p time l), .i (Sp.dvSh pl sh ti st p time l)], [.i (Sp.dvT pl sh ti st p time l)], [.i (Sp.drvE pl sh ti st p time l)]] | _ => []
abbrev Xfs (ds : DS) : Prop := match ds with | [[.l pl, .l sh, .l ti, .l _], _, _, _] => Sp.NamesOk pl /\ Sp.NamesOk sh /\ Sp.NamesOk ti | _ => False
theorem Xlo {pl sh ti st l : Dt} {p time : Int} {Q : Dt -> Int -> Int -> Int -> Int -> Int -> Int -> Prop} (h : Q (Sp.dvL pl sh ti st p time l) (Sp.dvMe pl sh ti st p time l) (Sp.dvLo pl sh ti st p time l) (Sp.dvHi pl sh ti st p time l) (Sp.dvSh pl sh ti st p time l) (Sp.dvT pl sh ti st p time l) (Sp.drvE pl sh ti st p time l)) :
  (¬ Sp.tchkE pl sh ti st = 0 -> Q [] 0 0 0 0 0 (Sp.tchkE pl sh ti st)) /\
  (Sp.tchkE pl sh ti st = 0 -> (Sp.inr p 0 ((pl.length : Int) - 1) = false \/ Sp.inr time 0 ((ti.length : Int) - 1) = false) -> Q [] 0 0 0 0 0 4) /\
  (Sp.tchkE pl sh ti st = 0 -> Sp.inr p 0 ((pl.length : Int) - 1) = true -> Sp.inr time 0 ((ti.length : Int) - 1) = true -> ¬ Sp.stepsE st l p = 0 -> Q [] 0 0 0 0 0 (Sp.stepsE st l p)) /\
  (Sp.tchkE pl sh ti st = 0 -> Sp.inr p 0 ((pl.length : Int) - 1) = true -> Sp.inr time 0 ((ti.length : Int) - 1) = true -> Sp.stepsE st l p = 0 -> Sp.TourOk pl sh ti st l time /\ Q l (Sp.sumF (Sp.gMe st l) 0 l.length 0) (Sp.sumF (Sp.gLo st l) 0 l.length 0) (Sp.sumF (Sp.gHi st l) 0 l.length 0) (Sp.orF (Sp.shT st l time.toNat) 0 l.length 0) (Sp.stepsT st l p) 0) := by
 have bad : ∀ e, Sp.drvE pl sh ti st p time l = e -> ¬ e = 0 -> Q [] 0 0 0 0 0 e := fun e he hn => by
  unfold Sp.dvL Sp.dvMe Sp.dvLo Sp.dvHi Sp.dvSh Sp.dvT at h;rw [he] at h;rw [if_neg hn, if_neg hn, if_neg hn, if_neg hn, if_neg hn, if_neg hn] at h;exact h
 refine ⟨fun e => bad _ (by unfold Sp.drvE; rw [if_neg e]) e, fun e e2 => bad _ (by unfold Sp.drvE; rw [if_pos e, if_neg]; rcases e2 with e2 | e2 <;> simp [e2]) (by decide), fun e e2 e3 e4 => bad _ (by unfold Sp.drvE; rw [if_pos e, if_pos (by simp [e2, e3])]) e4, fun e e2 e3 e4 => ⟨?_, ?_⟩⟩
 ·have := Sp.inr_iff.1 e3;have := Sp.steps_street e4;exact ⟨Sp.tchk_ok e, by omega, by omega, this.1, this.2⟩
 ·have he : Sp.drvE pl sh ti st p time l = 0 := by unfold Sp.drvE; rw [if_pos e, if_pos (by simp [e2, e3]), e4]
  unfold Sp.dvL Sp.dvMe Sp.dvLo Sp.dvHi Sp.dvSh Sp.dvT at h;rw [if_pos he, if_pos he, if_pos he, if_pos he, if_pos he, if_pos he, he] at h;exact h
noncomputable def T25 : Tab Try.prog := ⟨[Xfu, Xcj, Xko, Xm1], [], []⟩
def Zw := [Cl.l [], Cl.i 0, Cl.i 0, Cl.i 0, Cl.i 0]
def Zv [W : InW] (t_Pl t_Sh t_Ti : Ro Jb) (t_St : Ro Jd) (p time : Int) (l : Ro Xe) (Q : DS -> Prop) := Ar .i64 ((↑(t_Ti.xs.length) : Int) - 1) fun z => Pre True (Vif (Sp.out Zg z [[Cl.i time]]) (Q [Zw, [Cl.i 0], [Cl.i 4]]) (Pre True (Vif (!decide (Sp.stepsE t_St.xs l.xs p = 0)) (Q [Zw, [Cl.i 0], [Cl.i (Sp.stepsE t_St.xs l.xs p)]]) (Pre (Sp.TourOk t_Pl.xs t_Sh.xs t_Ti.xs t_St.xs l.xs time) (Q [[Cl.l l.xs, Cl.i (Sp.sumF (Sp.gMe t_St.xs l.xs) (0 : Nat) (l.xs.length) Zg), Cl.i (Sp.sumF (Sp.gLo t_St.xs l.xs) (0 : Nat) (l.xs.length) Zg), Cl.i (Sp.sumF (Sp.gHi t_St.xs l.xs) (0 : Nat) (l.xs.length) Zg), Cl.i (Sp.orF (Sp.shT t_St.xs l.xs time.toNat) (0 : Nat) (l.xs.length) Zg)], [Cl.i (Sp.stepsT t_St.xs l.xs p)], [Cl.i 0]])))))
def Xc4 [W : InW] (t_Pl t_Sh t_Ti : Ro Jb) (t_St : Ro Jd) (p time : Int) (l : Ro Xe) (Q : DS -> Prop) : Prop :=
 Pre (Sp.NamesOk t_Pl.xs /\ Sp.NamesOk t_Sh.xs /\ Sp.NamesOk t_Ti.xs) (Vif (!decide (Sp.tchkE t_Pl.xs t_Sh.xs t_Ti.xs t_St.xs = 0)) (Vif (!decide (Sp.tchkE t_Pl.xs t_Sh.xs t_Ti.xs t_St.xs = 0)) (Q [Zw, [Cl.i 0], [Cl.i (Sp.tchkE t_Pl.xs t_Sh.xs t_Ti.xs t_St.xs)]]) (Zv t_Pl t_Sh t_Ti t_St p time l Q)) (Ar .i64 ((↑(t_Pl.xs.length) : Int) - 1) fun z => Pre True (Vif (Sp.out Zg z [[Cl.i p]]) (Q [Zw, [Cl.i 0], [Cl.i 4]]) (Zv t_Pl t_Sh t_Ti t_St p time l Q))))
theorem Xjz (W : InW) (t_Pl t_Sh t_Ti t_St p time l Q) : Yvi (cxT Try.prog TT T25 1000 50) 1000 53 [.agg [.rs _ t_Pl, .rs _ t_Sh, .rs _ t_Ti, .rs _ t_St], .si .i64 p, .si .i64 time, .rs _ l] [] 0 (Yzk Xb6 Q) (fun _ _ _ _ => Stuck 421) = Xc4 t_Pl t_Sh t_Ti t_St p time l Q := by kernel_rfl
abbrev Xbn : List AT := [.agg [.sl Jb, .sl Jb, .sl Jb, .sl Jd], .one (.int .i64), .one (.int .i64), .one (.sl Xe)]
theorem Xla {pre : DS -> Prop} {res : DS -> DS} (hyp_ : ∀ (W : InW) (t_Pl t_Sh t_Ti : Ro Jb) (t_St : Ro Jd) (p time : Int) (l : Ro Xe), pre [[.l t_Pl.xs, .l t_Sh.xs, .l t_Ti.xs, .l t_St.xs], [.i p], [.i time], [.l l.xs]] -> ∀ Q : DS -> Prop, Q (res [[.l t_Pl.xs, .l t_Sh.xs, .l t_Ti.xs, .l t_St.xs], [.i p], [.i time], [.l l.xs]]) -> Xc4 t_Pl t_Sh t_Ti t_St p time l Q) : PureOk Try.prog 53 Xbn Xb6 pre res :=
 PureOk.of' (fun W => @TT W) (fun W => @Xb W) Xa T25 1000 50 fun W t_Pl t_Sh t_Ti t_St p time l hp =>
  (Xjz W t_Pl t_Sh t_Ti t_St p time l (fun o => o = res [[.l t_Pl.xs, .l t_Sh.xs, .l t_Ti.xs, .l t_St.xs], [.i p], [.i time], [.l l.xs]])).mpr (hyp_ W t_Pl t_Sh t_Ti t_St p time l hp _ rfl)
theorem Xnc : PureOk Try.prog 53 Xbn Xb6 Xfs Xfn :=
 Xla fun W pl sh ti st p time l hp Q h => by
  unfold Xc4;delta Zv Zg Zw;have hpl := pl.len;have hti := ti.len;simp only [maxLen] at hpl hti;have hp : Sp.NamesOk pl.xs /\ Sp.NamesOk sh.xs /\ Sp.NamesOk ti.xs := hp;obtain ⟨q0, q1, q2, q3⟩ := Xlo (Q := fun a b c d e f g => Q [[.l a, .i b, .i c, .i d, .i e], [.i f], [.i g]]) h;clear h;simp only [out1];have hA0 : Sp.TourAt l.xs 0 0 0 0 0 := ⟨by omega, by omega, by omega, by omega, by omega, by omega⟩
  try simp only [show Int.toNat 0 = 0 from rfl, Nat.sub_zero]
  repeat' (first | omega | with_reducible refine vifd (fun _ => ?_) fun _ => ?_ | with_reducible refine vifn (fun _ => ?_) fun _ => ?_ | with_reducible refine vifq (fun _ => ?_) fun _ => ?_ | with_reducible refine vifq0 (fun _ => ?_) fun _ => ?_ | with_reducible refine vifq1 (fun _ => ?_) fun _ => ?_ | with_reducible refine vifb (fun _ => ?_) fun _ => ?_ | with_reducible refine vif (fun _ => ?_) fun _ => ?_ | (with_reducible refine nedd ?_ ?_; omega) | (with_reducible refine ned ?_ ?_; simp only [Bool.and_eq_true, decide_eq_true_eq]; omega) | (with_reducible refine ar64 ?_ ?_; omega) | (with_reducible refine Xd ?_ ?_; (first | trivial | omega | assumption | (refine ⟨?_, ?_⟩ <;> first | trivial | omega | assumption) | (refine ⟨?_, ?_, ?_⟩ <;> first | trivial | omega | assumption) | (refine ⟨?_, ?_, ?_, ?_⟩ <;> first | trivial | omega | assumption))))
  all_goals first | contradiction | exact q0 (by assumption) | exact q1 (by assumption) (.inl (by assumption)) | exact q1 (by assumption) (.inr (by assumption)) | exact q2 (by assumption) (by assumption) (by assumption) (by assumption) | (have g := q3 (by assumption) (by assumption) (by assumption) (by assumption); exact ⟨g.1, g.2⟩) | (have g := q3 (by assumption) (by assumption) (by assumption) (by assumption); have gl := g.1.ln; exact nedd (by omega) ⟨⟨g.1, hA0⟩, g.2⟩) | skip
noncomputable def Xft : PC Try.prog := ⟨53, Xbn, Xb6, Xfs, Xfn, Xnc⟩
abbrev Xn : List Ty := [.int .i64, .int .i64, .int .i64, .int .i64]
abbrev tyRt : List Ty := [.sl Jf]
namespace Sp
def hrdE (ba pe lo hi : Int) : Int := if inr ba 0 1000 && (inr pe 0 100 && (inr lo 0 100 && inr hi 0 100)) then (if hi < lo then 2 else 0) else 7
def routeE (st l : Dt) (ce : Int) : Int := if inr l.length 1 60 then (if stepsE st l ce = 0 then (if stepsT st l ce = ce then 0 else 9) else stepsE st l ce) else 3
end Sp
noncomputable def T31 : Tab Try.prog := ⟨[Xkr, Xk, Xkl], [], []⟩
def Xg1 [W : InW] (h_Ba h_Pe h_Lo h_Hi : Int) (Q : DS -> Prop) : Prop :=
 Pre True (Vif (!Sp.inr h_Ba Zg (1000 : Int)) (Q [[Cl.i 7]]) (Pre True (Vif (!Sp.inr h_Pe Zg (100 : Int)) (Q [[Cl.i 7]]) (Pre True (Vif (!Sp.inr h_Lo Zg (100 : Int)) (Q [[Cl.i 7]]) (Pre True (Vif (!Sp.inr h_Hi Zg (100 : Int)) (Q [[Cl.i 7]]) (Vif (decide (h_Hi < h_Lo)) (Q [[Cl.i 2]]) (Q [[Cl.i 0]])))))))))
theorem Xps (W : InW) (h_Ba h_Pe h_Lo h_Hi Q) : Yvi (cxT Try.prog TT T31 1000 50) 1000 72 [.agg [.si .i64 h_Ba, .si .i64 h_Pe, .si .i64 h_Lo, .si .i64 h_Hi]] [] 0 (Yzk [(false, [.int .i64])] Q) (fun _ _ _ _ => Stuck 421) = Xg1 h_Ba h_Pe h_Lo h_Hi Q := by kernel_rfl
abbrev Xet : List AT := [.agg [.int .i64, .int .i64, .int .i64, .int .i64]]
theorem Xqy {pre : DS -> Prop} {res : DS -> DS} (hyp_ : ∀ (W : InW) (h_Ba h_Pe h_Lo h_Hi : Int), pre [[.i h_Ba, .i h_Pe, .i h_Lo, .i h_Hi]] -> ∀ Q : DS -> Prop, Q (res [[.i h_Ba, .i h_Pe, .i h_Lo, .i h_Hi]]) -> Xg1 h_Ba h_Pe h_Lo h_Hi Q) : PureOk Try.prog 72 Xet [(false, [.int .i64])] pre res :=
 PureOk.of' (fun W => @TT W) (fun W => @Xb W) Xa T31 1000 50 fun W h_Ba h_Pe h_Lo h_Hi hp =>
  (Xps W h_Ba h_Pe h_Lo h_Hi (fun o => o = res [[.i h_Ba, .i h_Pe, .i h_Lo, .i h_Hi]])).mpr (hyp_ W h_Ba h_Pe h_Lo h_Hi hp _ rfl)
def Xcy [W : InW] (h_Ba h_Pe h_Lo h_Hi : Int) (Q : DS -> Prop) : Prop :=
 Pre True (Vif (Sp.out Zg (1000 : Int) [[Cl.i h_Ba]]) (Q [[Cl.i 7]]) (Pre True (Vif (Sp.out Zg (100 : Int) [[Cl.i h_Pe]]) (Q [[Cl.i 7]]) (Pre True (Vif (Sp.out Zg (100 : Int) [[Cl.i h_Lo], [Cl.i h_Hi]]) (Q [[Cl.i 7]]) (Vif (decide (h_Hi < h_Lo)) (Q [[Cl.i 2]]) (Q [[Cl.i 0]])))))))
theorem Xjt (W : InW) (h_Ba h_Pe h_Lo h_Hi Q) : Yvi (cxT Try.prog TT T31 1000 50) 1000 88 [.agg [.si .i64 h_Ba, .si .i64 h_Pe, .si .i64 h_Lo, .si .i64 h_Hi]] [] 0 (Yzk [(false, [.int .i64])] Q) (fun _ _ _ _ => Stuck 421) = Xcy h_Ba h_Pe h_Lo h_Hi Q := by kernel_rfl
abbrev Xbh : List AT := [.agg [.int .i64, .int .i64, .int .i64, .int .i64]]
theorem Xk4 {pre : DS -> Prop} {res : DS -> DS} (hyp_ : ∀ (W : InW) (h_Ba h_Pe h_Lo h_Hi : Int), pre [[.i h_Ba, .i h_Pe, .i h_Lo, .i h_Hi]] -> ∀ Q : DS -> Prop, Q (res [[.i h_Ba, .i h_Pe, .i h_Lo, .i h_Hi]]) -> Xcy h_Ba h_Pe h_Lo h_Hi Q) : PureOk Try.prog 88 Xbh [(false, [.int .i64])] pre res :=
 PureOk.of' (fun W => @TT W) (fun W => @Xb W) Xa T31 1000 50 fun W h_Ba h_Pe h_Lo h_Hi hp =>
  (Xjt W h_Ba h_Pe h_Lo h_Hi (fun o => o = res [[.i h_Ba, .i h_Pe, .i h_Lo, .i h_Hi]])).mpr (hyp_ W h_Ba h_Pe h_Lo h_Hi hp _ rfl)
abbrev Xs (ds : DS) : DS := match ds with | [[.i ba, .i pe, .i lo, .i hi]] => [[.i (Sp.hrdE ba pe lo hi)]] | _ => []
theorem Xsk : PureOk Try.prog 72 Xet [(false, [.int .i64])] (fun _ => True) Xs :=
 Xqy fun W ba pe lo hi hp Q h => by
  unfold Xg1;delta Zg;simp only [Xs, Sp.hrdE] at h
  repeat' (first | omega | with_reducible refine vifd (fun _ => ?_) fun _ => ?_ | with_reducible refine vifn (fun _ => ?_) fun _ => ?_ | with_reducible refine vifq (fun _ => ?_) fun _ => ?_ | with_reducible refine vifq0 (fun _ => ?_) fun _ => ?_ | with_reducible refine vifq1 (fun _ => ?_) fun _ => ?_ | with_reducible refine vifb (fun _ => ?_) fun _ => ?_ | with_reducible refine vif (fun _ => ?_) fun _ => ?_ | (with_reducible refine nedd ?_ ?_; omega) | (with_reducible refine ned ?_ ?_; simp only [Bool.and_eq_true, decide_eq_true_eq]; omega) | (with_reducible refine ar64 ?_ ?_; omega) | (with_reducible refine Xd ?_ ?_; (first | trivial | omega | assumption | (refine ⟨?_, ?_⟩ <;> first | trivial | omega | assumption) | (refine ⟨?_, ?_, ?_⟩ <;> first | trivial | omega | assumption) | (refine ⟨?_, ?_, ?_, ?_⟩ <;> first | trivial | omega | assumption))))
  all_goals ((repeat' split at h) <;> first | exact h | omega | (simp_all; done) | (simp_all; omega))
theorem Xm6 : PureOk Try.prog 88 Xbh [(false, [.int .i64])] (fun _ => True) Xs :=
 Xk4 fun W ba pe lo hi hp Q h => by
  unfold Xcy;delta Zg;simp only [Xs, Sp.hrdE] at h;simp only [out1, out2]
  repeat' (first | omega | with_reducible refine vifd (fun _ => ?_) fun _ => ?_ | with_reducible refine vifn (fun _ => ?_) fun _ => ?_ | with_reducible refine vifq (fun _ => ?_) fun _ => ?_ | with_reducible refine vifq0 (fun _ => ?_) fun _ => ?_ | with_reducible refine vifq1 (fun _ => ?_) fun _ => ?_ | with_reducible refine vifb (fun _ => ?_) fun _ => ?_ | with_reducible refine vif (fun _ => ?_) fun _ => ?_ | (with_reducible refine nedd ?_ ?_; omega) | (with_reducible refine ned ?_ ?_; simp only [Bool.and_eq_true, decide_eq_true_eq]; omega) | (with_reducible refine ar64 ?_ ?_; omega) | (with_reducible refine Xd ?_ ?_; (first | trivial | omega | assumption | (refine ⟨?_, ?_⟩ <;> first | trivial | omega | assumption) | (refine ⟨?_, ?_, ?_⟩ <;> first | trivial | omega | assumption) | (refine ⟨?_, ?_, ?_, ?_⟩ <;> first | trivial | omega | assumption))))
  all_goals ((repeat' split at h) <;> first | exact h | omega | (simp_all; done) | (simp_all; omega))
noncomputable def Xp0 : PC Try.prog := ⟨72, Xet, [(false, [.int .i64])], fun _ => True, Xs, Xsk⟩
noncomputable def Xki : PC Try.prog := ⟨88, Xbh, [(false, [.int .i64])], fun _ => True, Xs, Xm6⟩
def Xev [W : InW] (c_Pl c_Sh c_Ti : Ro Jb) (c_St : Ro Jd) (c_Ce : Int) (c_Hd : Ro Xn) (c_Rt : Ro tyRt) (l : Ro Jf) (Q : DS -> Prop) : Prop :=
 Pre True (Vif (!Sp.inr (↑(l.xs.length) : Int) (1 : Int) (60 : Int)) (Q [[Cl.i 3]]) (Pre True (Vif (decide (Sp.stepsE c_St.xs l.xs c_Ce = 0)) (Vif (!decide (Sp.stepsT c_St.xs l.xs c_Ce = c_Ce)) (Q [[Cl.i 9]]) (Q [[Cl.i (Sp.stepsE c_St.xs l.xs c_Ce)]])) (Q [[Cl.i (Sp.stepsE c_St.xs l.xs c_Ce)]]))))
theorem Xmj (W : InW) (c_Pl c_Sh c_Ti c_St c_Ce c_Hd c_Rt l Q) : Yvi (cxT Try.prog TT T31 1000 50) 1000 73 [.agg [.rs _ c_Pl, .rs _ c_Sh, .rs _ c_Ti, .rs _ c_St, .si .i64 c_Ce, .rs _ c_Hd, .rs _ c_Rt], .rs _ l] [] 0 (Yzk [(false, [.int .i64])] Q) (fun _ _ _ _ => Stuck 421) = Xev c_Pl c_Sh c_Ti c_St c_Ce c_Hd c_Rt l Q := by kernel_rfl
abbrev Xcq : List AT := [.agg [.sl Jb, .sl Jb, .sl Jb, .sl Jd, .int .i64, .sl Xn, .sl tyRt], .one (.sl Jf)]
theorem Xn0 {pre : DS -> Prop} {res : DS -> DS} (hyp_ : ∀ (W : InW) (c_Pl c_Sh c_Ti : Ro Jb) (c_St : Ro Jd) (c_Ce : Int) (c_Hd : Ro Xn) (c_Rt : Ro tyRt) (l : Ro Jf), pre [[.l c_Pl.xs, .l c_Sh.xs, .l c_Ti.xs, .l c_St.xs, .i c_Ce, .l c_Hd.xs, .l c_Rt.xs], [.l l.xs]] -> ∀ Q : DS -> Prop, Q (res [[.l c_Pl.xs, .l c_Sh.xs, .l c_Ti.xs, .l c_St.xs, .i c_Ce, .l c_Hd.xs, .l c_Rt.xs], [.l l.xs]]) -> Xev c_Pl c_Sh c_Ti c_St c_Ce c_Hd c_Rt l Q) : PureOk Try.prog 73 Xcq [(false, [.int .i64])] pre res :=
 PureOk.of' (fun W => @TT W) (fun W => @Xb W) Xa T31 1000 50 fun W c_Pl c_Sh c_Ti c_St c_Ce c_Hd c_Rt l hp =>
  (Xmj W c_Pl c_Sh c_Ti c_St c_Ce c_Hd c_Rt l (fun o => o = res [[.l c_Pl.xs, .l c_Sh.xs, .l c_Ti.xs, .l c_St.xs, .i c_Ce, .l c_Hd.xs, .l c_Rt.xs], [.l l.xs]])).mpr (hyp_ W c_Pl c_Sh c_Ti c_St c_Ce c_Hd c_Rt l hp _ rfl)
abbrev Xcg (ds : DS) : DS := match ds with | [[.l _, .l _, .l _, .l st, .i ce, .l _, .l _], [.l l]] => [[.i (Sp.routeE st l ce)]] | _ => []
theorem Xp2 : PureOk Try.prog 73 Xcq [(false, [.int .i64])] (fun _ => True) Xcg :=
 Xn0 fun W pl sh ti st ce hd rt l hp Q h => by
  unfold Xev;simp only [Xcg, Sp.routeE] at h
  repeat' (first | omega | with_reducible refine vifd (fun _ => ?_) fun _ => ?_ | with_reducible refine vifn (fun _ => ?_) fun _ => ?_ | with_reducible refine vifq (fun _ => ?_) fun _ => ?_ | with_reducible refine vifq0 (fun _ => ?_) fun _ => ?_ | with_reducible refine vifq1 (fun _ => ?_) fun _ => ?_ | with_reducible refine vifb (fun _ => ?_) fun _ => ?_ | with_reducible refine vif (fun _ => ?_) fun _ => ?_ | (with_reducible refine nedd ?_ ?_; omega) | (with_reducible refine ned ?_ ?_; simp only [Bool.and_eq_true, decide_eq_true_eq]; omega) | (with_reducible refine ar64 ?_ ?_; omega) | (with_reducible refine Xd ?_ ?_; (first | trivial | omega | assumption | (refine ⟨?_, ?_⟩ <;> first | trivial | omega | assumption) | (refine ⟨?_, ?_, ?_⟩ <;> first | trivial | omega | assumption) | (refine ⟨?_, ?_, ?_, ?_⟩ <;> first | trivial | omega | assumption))))
  all_goals ((repeat' split at h) <;> first | exact h | omega | (simp_all; done) | (simp_all; omega))
noncomputable def Xmz : PC Try.prog := ⟨73, Xcq, [(false, [.int .i64])], fun _ => True, Xcg, Xp2⟩
noncomputable def T32 : Tab Try.prog := ⟨[Xp0, Xmz], [], []⟩
def Xhp [InW] (e : List Ed) (K : Nat -> List Ed -> Prop) : Prop := match e with
 | [.i i, .ro _ pl, .ro _ sh, .ro _ ti, .ro _ st, .i ce, .ro _ hd, .ro _ rt] => Pre (0 <= i /\ i <= hd.xs.length) (Vif (Sp.hasE (Sp.hdErr hd.xs) i.toNat (hd.xs.length - i.toNat))
   (K 1 [.i (Sp.idxE (Sp.hdErr hd.xs) i.toNat (hd.xs.length - i.toNat)), .i (Sp.hdErr hd.xs (Sp.idxE (Sp.hdErr hd.xs) i.toNat (hd.xs.length - i.toNat)))]) (K 0 [.ro _ pl, .ro _ sh, .ro _ ti, .ro _ st, .i ce, .ro _ hd, .ro _ rt]))
 | _ => False
noncomputable def Xiv : LC where
 len := 86
 T := [(1, (.ptr 1 0)), (8, .int .i64)]
 H := [(1, .blk 29 [.rs Jb, .rs Jb, .rs Jb, .rs Jd, .int .i64, .rs Xn, .rs tyRt])]
 W := ([2, 3, 4, 7] ++ rg 51 17)
 outs := [⟨.exit 0, [(1, (.ptr 1 0))], [(1, .blk 29 [.rs Jb, .rs Jb, .rs Jb, .rs Jd, .int .i64, .rs Xn, .rs tyRt])], ([2, 3, 4, 7, 8] ++ rg 51 17)⟩, ⟨.ret, [(2, (.lit (.int .i64 2))), (3, .int .i64), (4, .int .i64)], [], ([1, 7, 8] ++ rg 51 17)⟩]
 spec := Xhp
def Xg7 [W : InW] (i : Int) (pl sh ti : Ro Jb) (st : Ro Jd) (ce : Int) (hd : Ro Xn) (rt : Ro tyRt) (A : List Ed -> Prop) (K : Nat -> List Ed -> Prop) : Prop :=
 Vif (decide (i < (↑(hd.xs.length) : Int))) (Need (decide (0 <= i) && decide (i < (↑(hd.xs.length) : Int))) (Need (decide (i.toNat < hd.xs.length)) (Pre True (Vif (!decide (Sp.hrdE (cel hd.xs i.toNat (0 : Nat)).int (cel hd.xs i.toNat (0+1)).int (cel hd.xs i.toNat ((0 : Nat) + 1 + 1)).int (cel hd.xs i.toNat ((0 : Nat) + 1 + 1 + 1)).int = 0)) (K (0+1) [.i i, .i (Sp.hrdE (cel hd.xs i.toNat (0 : Nat)).int (cel hd.xs i.toNat (0+1)).int (cel hd.xs i.toNat ((0 : Nat) + 1 + 1)).int (cel hd.xs i.toNat ((0 : Nat) + 1 + 1 + 1)).int)]) (Ar .i64 (i + 1) fun z => A [.i z, .ro _ pl, .ro _ sh, .ro _ ti, .ro Zb st, .i ce, .ro _ hd, .ro [Ty.sl [Ty.int IntKind.i64, Ty.bool]] rt]))))) (K 0 [.ro _ pl, .ro _ sh, .ro _ ti, .ro Zb st, .i ce, .ro _ hd, .ro [Ty.sl [Ty.int IntKind.i64, Ty.bool]] rt])
theorem Xpa (W : InW) (i pl sh ti st ce hd rt A K) : Ye9 { cxT Try.prog TT T32 1000 50 with fn := 43 } 1000 (Ynd Try.prog 43 10) (Yd0 86 [(1, .ptr 1 0), (8, .si .i64 i)] ([2, 3, 4, 7] ++ rg 51 17)) [(1, .blk 29 [.rs _ pl, .rs _ sh, .rs _ ti, .rs _ st, .si .i64 ce, .rs _ hd, .rs _ rt])] (Yte Xiv A K) = Xg7 i pl sh ti st ce hd rt A K := by kernel_rfl
def Xig : Prop := ∀ (W : InW) (body a : Code), (Try.prog.funcs[43]?).bind (·.body) = some body -> a ∈ Yu body -> Yfs a = 10 -> @Yl2 W Try.prog a (@Ysl W Xiv)
theorem Xqf (meas : [InW] -> List Ed -> Nat) (hyp_ : ∀ (W : InW) i pl sh ti st ce hd rt K, Xhp [.i i, .ro _ pl, .ro _ sh, .ro _ ti, .ro _ st, .i ce, .ro _ hd, .ro _ rt] K -> ∀ A : List Ed -> Prop, (∀ e, meas e < meas [.i i, .ro _ pl, .ro _ sh, .ro _ ti, .ro _ st, .i ce, .ro _ hd, .ro _ rt] -> Xhp e K -> A e) -> Xg7 i pl sh ti st ce hd rt A K) : Xig :=
 LE.okOf' (fun W => @TT W) (fun W => @Xb W) Xa T32 1000 50 (by kernel_rfl) Xiv (fun W => @meas W) fun W i pl sh ti st ce hd rt K hs =>
  (Xpa W i pl sh ti st ce hd rt (fun e => meas e < meas [.i i, .ro _ pl, .ro _ sh, .ro _ ti, .ro _ st, .i ce, .ro _ hd, .ro _ rt] /\ Xhp e K) K).mpr (hyp_ W i pl sh ti st ce hd rt K hs _ fun e h1 h2 => ⟨h1, h2⟩)
def Xhn [InW] (e : List Ed) (K : Nat -> List Ed -> Prop) : Prop := match e with
 | [.i i, .ro _ pl, .ro _ sh, .ro _ ti, .ro _ st, .i ce, .ro _ hd, .ro _ rt] => Pre (0 <= i /\ i <= rt.xs.length) (Vif (Sp.hasE (Sp.rtErr st.xs rt.xs ce) i.toNat (rt.xs.length - i.toNat))
   (K 1 [.i (Sp.idxE (Sp.rtErr st.xs rt.xs ce) i.toNat (rt.xs.length - i.toNat)), .i (Sp.rtErr st.xs rt.xs ce (Sp.idxE (Sp.rtErr st.xs rt.xs ce) i.toNat (rt.xs.length - i.toNat)))]) (K 0 []))
 | _ => False
noncomputable def Xit : LC where
 len := 86
 T := [(1, (.ptr 1 0)), (9, .int .i64)]
 H := [(1, .blk 29 [.rs Jb, .rs Jb, .rs Jb, .rs Jd, .int .i64, .rs Xn, .rs tyRt])]
 W := ([2, 3, 4, 7] ++ rg 68 18)
 outs := [⟨.exit 2, [], [], (rg 1 4 ++ [7, 9] ++ rg 68 18)⟩, ⟨.ret, [(2, (.lit (.int .i64 3))), (3, .int .i64), (4, .int .i64)], [], ([1, 7, 9] ++ rg 68 18)⟩]
 spec := Xhn
def Xg5 [W : InW] (i : Int) (pl sh ti : Ro Jb) (st : Ro Jd) (ce : Int) (hd : Ro Xn) (rt : Ro tyRt) (A : List Ed -> Prop) (K : Nat -> List Ed -> Prop) : Prop :=
 Vif (decide (i < (↑(rt.xs.length) : Int))) (Need (decide (0 <= i) && decide (i < (↑(rt.xs.length) : Int))) (Need (decide (i.toNat < rt.xs.length)) (Pre True (Vif (!decide (Sp.routeE st.xs (cel rt.xs i.toNat (0 : Nat)).lst ce = 0)) (K (0+1) [.i i, .i (Sp.routeE st.xs (cel rt.xs i.toNat (0 : Nat)).lst ce)]) (Ar .i64 (i + 1) fun z => A [.i z, .ro _ pl, .ro _ sh, .ro _ ti, .ro Zb st, .i ce, .ro _ hd, .ro [Ty.sl [Ty.int IntKind.i64, Ty.bool]] rt]))))) (K 0 [])
theorem Xo8 (W : InW) (i pl sh ti st ce hd rt A K) : Ye9 { cxT Try.prog TT T32 1000 50 with fn := 43 } 1000 (Ynd Try.prog 43 16) (Yd0 86 [(1, .ptr 1 0), (9, .si .i64 i)] ([2, 3, 4, 7] ++ rg 68 18)) [(1, .blk 29 [.rs _ pl, .rs _ sh, .rs _ ti, .rs _ st, .si .i64 ce, .rs _ hd, .rs _ rt])] (Yte Xit A K) = Xg5 i pl sh ti st ce hd rt A K := by kernel_rfl
def Xie : Prop := ∀ (W : InW) (body a : Code), (Try.prog.funcs[43]?).bind (·.body) = some body -> a ∈ Yu body -> Yfs a = 16 -> @Yl2 W Try.prog a (@Ysl W Xit)
theorem Xqd (meas : [InW] -> List Ed -> Nat) (hyp_ : ∀ (W : InW) i pl sh ti st ce hd rt K, Xhn [.i i, .ro _ pl, .ro _ sh, .ro _ ti, .ro _ st, .i ce, .ro _ hd, .ro _ rt] K -> ∀ A : List Ed -> Prop, (∀ e, meas e < meas [.i i, .ro _ pl, .ro _ sh, .ro _ ti, .ro _ st, .i ce, .ro _ hd, .ro _ rt] -> Xhn e K -> A e) -> Xg5 i pl sh ti st ce hd rt A K) : Xie :=
 LE.okOf' (fun W => @TT W) (fun W => @Xb W) Xa T32 1000 50 (by kernel_rfl) Xit (fun W => @meas W) fun W i pl sh ti st ce hd rt K hs =>
  (Xo8 W i pl sh ti st ce hd rt (fun e => meas e < meas [.i i, .ro _ pl, .ro _ sh, .ro _ ti, .ro _ st, .i ce, .ro _ hd, .ro _ rt] /\ Xhn e K) K).mpr (hyp_ W i pl sh ti st ce hd rt K hs _ fun e h1 h2 => ⟨h1, h2⟩)
theorem Xsv : Xig := Xqf (fun e => match e with | [.i i, _, _, _, _, _, .ro _ hd, _] => ((hd.xs.length : Int) - i).toNat | _ => 0) fun W i pl sh ti st ce hd rt K hs A hA => by
 obtain ⟨⟨h0, h1⟩, hk⟩ := hs;unfold Xg7;delta Zb;have hm := hd.len;simp only [maxLen] at hm;refine vifd (fun e => ?_) fun e => ?_
 ·rw [show hd.xs.length - i.toNat = (hd.xs.length - (i.toNat + 1)) + 1 by omega] at hk;obtain ⟨g1, g2⟩ := Xfj (K1 := fun j e => K 1 [.i j, .i e]) hk;rw [Int.toNat_of_nonneg h0] at g1;have ez : (i + 1).toNat = i.toNat + 1 := by omega
  have hA' : Sp.hdErr hd.xs i.toNat = 0 -> A [.i (i + 1), .ro _ pl, .ro _ sh, .ro _ ti, .ro _ st, .i ce, .ro _ hd, .ro _ rt] := fun f => hA _ (by show ((hd.xs.length : Int) - (i + 1)).toNat < ((hd.xs.length : Int) - i).toNat; omega) ⟨⟨by omega, by omega⟩, by rw [ez]; exact g2 f⟩;clear g2 hk hA;simp only [Nat.zero_add, Nat.reduceAdd];rw [show Sp.hrdE (cel hd.xs i.toNat 0).int (cel hd.xs i.toNat 1).int (cel hd.xs i.toNat 2).int (cel hd.xs i.toNat 3).int = Sp.hdErr hd.xs i.toNat from rfl];refine ned (by simp; omega) (nedd (by omega) ⟨trivial, vifn (fun e2 => g1 e2) fun e2 => ar64 (by omega) (hA' e2)⟩)
 ·rw [show hd.xs.length - i.toNat = 0 by omega] at hk;exact hk.2 rfl
theorem Xst : Xie := Xqd (fun e => match e with | [.i i, _, _, _, _, _, _, .ro _ rt] => ((rt.xs.length : Int) - i).toNat | _ => 0) fun W i pl sh ti st ce hd rt K hs A hA => by
 obtain ⟨⟨h0, h1⟩, hk⟩ := hs;unfold Xg5;delta Zb;have hm := rt.len;simp only [maxLen] at hm;refine vifd (fun e => ?_) fun e => ?_
 ·rw [show rt.xs.length - i.toNat = (rt.xs.length - (i.toNat + 1)) + 1 by omega] at hk;obtain ⟨g1, g2⟩ := Xfj (K1 := fun j e => K 1 [.i j, .i e]) hk;rw [Int.toNat_of_nonneg h0] at g1;have ez : (i + 1).toNat = i.toNat + 1 := by omega
  have hA' : Sp.rtErr st.xs rt.xs ce i.toNat = 0 -> A [.i (i + 1), .ro _ pl, .ro _ sh, .ro _ ti, .ro _ st, .i ce, .ro _ hd, .ro _ rt] := fun f => hA _ (by show ((rt.xs.length : Int) - (i + 1)).toNat < ((rt.xs.length : Int) - i).toNat; omega) ⟨⟨by omega, by omega⟩, by rw [ez]; exact g2 f⟩;clear g2 hk hA;simp only [Nat.zero_add, Nat.reduceAdd];rw [show Sp.routeE st.xs (cel rt.xs i.toNat 0).lst ce = Sp.rtErr st.xs rt.xs ce i.toNat from rfl];refine ned (by simp; omega) (nedd (by omega) ⟨trivial, vifn (fun e2 => g1 e2) fun e2 => ar64 (by omega) (hA' e2)⟩)
 ·rw [show rt.xs.length - i.toNat = 0 by omega] at hk;exact hk.2 rfl
noncomputable def Xtf : LE Try.prog := ⟨43, 10, fun W => @Ysl W Xiv, Xsv⟩
noncomputable def Xtd : LE Try.prog := ⟨43, 16, fun W => @Ysl W Xit, Xst⟩
noncomputable def T33 : Tab Try.prog := ⟨[Xkn, Xkr], [Xtf, Xtd], []⟩
def Zx [W : InW] (c_Pl c_Sh c_Ti : Ro Jb) (c_St : Ro Jd) (c_Ce : Int) (c_Hd : Ro Xn) (c_Rt : Ro tyRt) (Q : DS -> Prop) := Vif (!decide (Sp.tchkE c_Pl.xs c_Sh.xs c_Ti.xs c_St.xs = 0)) (Q [[Cl.i 1], [Cl.i 0], [Cl.i (Sp.tchkE c_Pl.xs c_Sh.xs c_Ti.xs c_St.xs)]]) (Pre (Zg <= 0 /\ Zg <= (↑(c_Hd.xs.length) : Int)) (Vif (Sp.hasE (Sp.hdErr c_Hd.xs) Zu (c_Hd.xs.length - Int.toNat Zg)) (Q [[Cl.i 2], [Cl.i (↑(Sp.idxE (Sp.hdErr c_Hd.xs) Zu (c_Hd.xs.length - Int.toNat Zg)) : Int)], [Cl.i (Sp.hdErr c_Hd.xs (Sp.idxE (Sp.hdErr c_Hd.xs) Zu (c_Hd.xs.length - Int.toNat Zg)))]]) (Pre (Zg <= 0 /\ Zg <= (↑(c_Rt.xs.length) : Int)) (Vif (Sp.hasE (Sp.rtErr c_St.xs c_Rt.xs c_Ce) Zu (c_Rt.xs.length - Int.toNat Zg)) (Q [[Cl.i 3], [Cl.i (↑(Sp.idxE (Sp.rtErr c_St.xs c_Rt.xs c_Ce) Zu (c_Rt.xs.length - Int.toNat Zg)) : Int)], [Cl.i (Sp.rtErr c_St.xs c_Rt.xs c_Ce (Sp.idxE (Sp.rtErr c_St.xs c_Rt.xs c_Ce) Zu (c_Rt.xs.length - Int.toNat Zg)))]]) (Q [[Cl.i 0], [Cl.i 0], [Cl.i 0]])))))
def Xc9 [W : InW] (c_Pl c_Sh c_Ti : Ro Jb) (c_St : Ro Jd) (c_Ce : Int) (c_Hd : Ro Xn) (c_Rt : Ro tyRt) (Q : DS -> Prop) : Prop :=
 Pre (Sp.NamesOk c_Pl.xs /\ Sp.NamesOk c_Sh.xs /\ Sp.NamesOk c_Ti.xs) (Vif (decide (Sp.tchkE c_Pl.xs c_Sh.xs c_Ti.xs c_St.xs = 0)) (Ar .i64 ((↑(c_Pl.xs.length) : Int) - 1) fun z => Pre True (Vif (!Sp.inr c_Ce Zg z) (Q [[Cl.i 1], [Cl.i 0], [Cl.i 4]]) (Vif (decide (Sp.tchkE c_Pl.xs c_Sh.xs c_Ti.xs c_St.xs = 0)) (Vif (!decide ((↑(c_Hd.xs.length) : Int) = (↑(c_St.xs.length) : Int))) (Q Zl) (Vif (decide ((10 : Int) < (↑(c_Rt.xs.length) : Int))) (Q Zl) (Zx c_Pl c_Sh c_Ti c_St c_Ce c_Hd c_Rt Q))) (Zx c_Pl c_Sh c_Ti c_St c_Ce c_Hd c_Rt Q)))) (Vif (decide (Sp.tchkE c_Pl.xs c_Sh.xs c_Ti.xs c_St.xs = 0)) (Vif (!decide ((↑(c_Hd.xs.length) : Int) = (↑(c_St.xs.length) : Int))) (Q Zl) (Vif (decide ((10 : Int) < (↑(c_Rt.xs.length) : Int))) (Q Zl) (Zx c_Pl c_Sh c_Ti c_St c_Ce c_Hd c_Rt Q))) (Zx c_Pl c_Sh c_Ti c_St c_Ce c_Hd c_Rt Q)))
theorem Xj4 (W : InW) (c_Pl c_Sh c_Ti c_St c_Ce c_Hd c_Rt Q) : Yvi (cxT Try.prog TT T33 1000 50) 1000 43 [.agg [.rs _ c_Pl, .rs _ c_Sh, .rs _ c_Ti, .rs _ c_St, .si .i64 c_Ce, .rs _ c_Hd, .rs _ c_Rt]] [] 0 (Yzk [(false, [.int .i64]), (false, [.int .i64]), (false, [.int .i64])] Q) (fun _ _ _ _ => Stuck 421) = Xc9 c_Pl c_Sh c_Ti c_St c_Ce c_Hd c_Rt Q := by kernel_rfl
abbrev Xbs : List AT := [.agg [.sl Jb, .sl Jb, .sl Jb, .sl Jd, .int .i64, .sl Xn, .sl tyRt]]
theorem Xlf {pre : DS -> Prop} {res : DS -> DS} (hyp_ : ∀ (W : InW) (c_Pl c_Sh c_Ti : Ro Jb) (c_St : Ro Jd) (c_Ce : Int) (c_Hd : Ro Xn) (c_Rt : Ro tyRt), pre [[.l c_Pl.xs, .l c_Sh.xs, .l c_Ti.xs, .l c_St.xs, .i c_Ce, .l c_Hd.xs, .l c_Rt.xs]] -> ∀ Q : DS -> Prop, Q (res [[.l c_Pl.xs, .l c_Sh.xs, .l c_Ti.xs, .l c_St.xs, .i c_Ce, .l c_Hd.xs, .l c_Rt.xs]]) -> Xc9 c_Pl c_Sh c_Ti c_St c_Ce c_Hd c_Rt Q) : PureOk Try.prog 43 Xbs [(false, [.int .i64]), (false, [.int .i64]), (false, [.int .i64])] pre res :=
 PureOk.of' (fun W => @TT W) (fun W => @Xb W) Xa T33 1000 50 fun W c_Pl c_Sh c_Ti c_St c_Ce c_Hd c_Rt hp =>
  (Xj4 W c_Pl c_Sh c_Ti c_St c_Ce c_Hd c_Rt (fun o => o = res [[.l c_Pl.xs, .l c_Sh.xs, .l c_Ti.xs, .l c_St.xs, .i c_Ce, .l c_Hd.xs, .l c_Rt.xs]])).mpr (hyp_ W c_Pl c_Sh c_Ti c_St c_Ce c_Hd c_Rt hp _ rfl)
abbrev Xdf (ds : DS) : DS := match ds with | [[.l pl, .l sh, .l ti, .l st, .i ce, .l hd, .l rt]] => [[.i (Sp.cP pl sh ti st ce hd rt)], [.i (Sp.cI pl sh ti st ce hd rt)], [.i (Sp.cE pl sh ti st ce hd rt)]] | _ => []
abbrev Xv (ds : DS) : Prop := match ds with | [.l pl :: .l sh :: .l ti :: _] => Sp.NamesOk pl /\ Sp.NamesOk sh /\ Sp.NamesOk ti | _ => False
theorem Xi7 {pl sh ti st : Dt} {ce : Int} {hd rt : Dt} {Q : Int × Int × Int -> Prop} (h : Q (Sp.cchk pl sh ti st ce hd rt)) :
  (¬ Sp.tchkE pl sh ti st = 0 -> Q (1, 0, Sp.tchkE pl sh ti st)) /\
  (Sp.tchkE pl sh ti st = 0 -> Sp.inr ce 0 ((pl.length : Int) - 1) = false -> Q (1, 0, 4)) /\
  (Sp.tchkE pl sh ti st = 0 -> Sp.inr ce 0 ((pl.length : Int) - 1) = true -> (¬ (hd.length : Int) = st.length \/ 10 < (rt.length : Int)) -> Q (1, 0, 3)) /\
  (Sp.tchkE pl sh ti st = 0 -> Sp.inr ce 0 ((pl.length : Int) - 1) = true -> (hd.length : Int) = st.length -> ¬ 10 < (rt.length : Int) -> Sp.hasE (Sp.hdErr hd) 0 hd.length = true -> Q (2, Sp.idxE (Sp.hdErr hd) 0 hd.length, Sp.hdErr hd (Sp.idxE (Sp.hdErr hd) 0 hd.length))) /\
  (Sp.tchkE pl sh ti st = 0 -> Sp.inr ce 0 ((pl.length : Int) - 1) = true -> (hd.length : Int) = st.length -> ¬ 10 < (rt.length : Int) -> Sp.hasE (Sp.hdErr hd) 0 hd.length = false -> Sp.hasE (Sp.rtErr st rt ce) 0 rt.length = true -> Q (3, Sp.idxE (Sp.rtErr st rt ce) 0 rt.length, Sp.rtErr st rt ce (Sp.idxE (Sp.rtErr st rt ce) 0 rt.length))) /\
  (Sp.tchkE pl sh ti st = 0 -> Sp.inr ce 0 ((pl.length : Int) - 1) = true -> (hd.length : Int) = st.length -> ¬ 10 < (rt.length : Int) -> Sp.hasE (Sp.hdErr hd) 0 hd.length = false -> Sp.hasE (Sp.rtErr st rt ce) 0 rt.length = false -> Q (0, 0, 0)) := by
 unfold Sp.cchk at h;refine ⟨fun e => ?_, fun e e1 => ?_, fun e e1 e2 => ?_, fun e e1 e2 e3 e4 => ?_, fun e e1 e2 e3 e4 e5 => ?_, fun e e1 e2 e3 e4 e5 => ?_⟩
 ·rw [if_neg e] at h; exact h
 ·rw [if_pos e, if_neg (by simp [e1])] at h; exact h
 ·rw [if_pos e, if_pos e1, if_neg (by rcases e2 with e2 | e2 <;> omega)] at h; exact h
 ·rw [if_pos e, if_pos e1, if_pos ⟨e2, e3⟩, if_pos e4] at h; exact h
 ·rw [if_pos e, if_pos e1, if_pos ⟨e2, e3⟩, if_neg (by simp [e4]), if_pos e5] at h; exact h
 ·rw [if_pos e, if_pos e1, if_pos ⟨e2, e3⟩, if_neg (by simp [e4]), if_neg (by simp [e5])] at h; exact h
theorem Xnx : PureOk Try.prog 43 Xbs [(false, [.int .i64]), (false, [.int .i64]), (false, [.int .i64])] Xv Xdf :=
 Xlf fun W pl sh ti st ce hd rt hp Q h => by
  have hp : Sp.NamesOk pl.xs /\ Sp.NamesOk sh.xs /\ Sp.NamesOk ti.xs := hp;have hpl := pl.len;simp only [maxLen] at hpl;unfold Xc9;delta Zx Zu Zg Zl;obtain ⟨q0, q1, q2, q3, q4, q5⟩ := Xi7 (Q := fun r => Q [[.i r.1], [.i r.2.1], [.i r.2.2]]) h;clear h;simp only [show Int.toNat 0 = 0 from rfl, Nat.sub_zero]
  repeat' (first | omega | with_reducible refine vifd (fun _ => ?_) fun _ => ?_ | with_reducible refine vifn (fun _ => ?_) fun _ => ?_ | with_reducible refine vifq (fun _ => ?_) fun _ => ?_ | with_reducible refine vifq0 (fun _ => ?_) fun _ => ?_ | with_reducible refine vifq1 (fun _ => ?_) fun _ => ?_ | with_reducible refine vifb (fun _ => ?_) fun _ => ?_ | with_reducible refine vif (fun _ => ?_) fun _ => ?_ | (with_reducible refine nedd ?_ ?_; omega) | (with_reducible refine ned ?_ ?_; simp only [Bool.and_eq_true, decide_eq_true_eq]; omega) | (with_reducible refine ar64 ?_ ?_; omega) | (with_reducible refine Xd ?_ ?_; (first | trivial | omega | assumption | (refine ⟨?_, ?_⟩ <;> first | trivial | omega | assumption) | (refine ⟨?_, ?_, ?_⟩ <;> first | trivial | omega | assumption) | (refine ⟨?_, ?_, ?_, ?_⟩ <;> first | trivial | omega | assumption))))
  all_goals first | contradiction | exact q0 (by assumption) | exact q1 (by assumption) (by assumption) | exact q2 (by assumption) (by assumption) (.inl (by assumption)) | exact q2 (by assumption) (by assumption) (.inr (by assumption)) | exact q3 (by assumption) (by assumption) (by assumption) (by assumption) (by assumption) | exact q4 (by assumption) (by assumption) (by assumption) (by assumption) (by assumption) (by assumption) | exact q5 (by assumption) (by assumption) (by assumption) (by assumption) (by assumption) (by assumption) | skip
  all_goals trace_state
noncomputable def Xkt : PC Try.prog := ⟨43, Xbs, [(false, [.int .i64]), (false, [.int .i64]), (false, [.int .i64])], Xv, Xdf, Xnx⟩
def Xhl [InW] (e : List Ed) (K : Nat -> List Ed -> Prop) : Prop := match e with
 | [.i a, .i s, .i n, .i i, .ro _ pl, .ro _ sh, .ro _ ti, .ro _ st, .i ce, .ro _ hd, .ro _ rt] => Pre ((0 <= a /\ a < rt.xs.length) /\ 0 <= s /\ (Sp.rtL rt.xs a.toNat).length <= 60 /\ (0 <= i /\ i <= (Sp.rtL rt.xs a.toNat).length) /\ 0 <= n /\ n <= i)
   (K 0 [.i (Sp.cnt (Sp.rtL rt.xs a.toNat) s.toNat i.toNat ((Sp.rtL rt.xs a.toNat).length - i.toNat) n)])
 | _ => False
noncomputable def Xir : LC where
 len := 33
 T := [(1, .int .i64), (2, .int .i64), (3, (.ptr 1 0)), (7, .int .i64), (8, .int .i64)]
 H := [(1, .blk 29 [.rs Jb, .rs Jb, .rs Jb, .rs Jd, .int .i64, .rs Iv4, .rs Je])]
 W := (rg 9 23)
 outs := [⟨.exit 0, [(7, .int .i64)], [], ([1, 2, 3] ++ rg 8 24)⟩]
 spec := Xhl
def Xg3 [W : InW] (a s n i : Int) (pl sh ti : Ro Jb) (st : Ro Jd) (ce : Int) (hd : Ro Iv4) (rt : Ro Je) (A : List Ed -> Prop) (K : Nat -> List Ed -> Prop) : Prop :=
 Need (decide (0 <= a) && decide (a < (↑(rt.xs.length) : Int))) (Need (decide (a.toNat < rt.xs.length)) (Vif (decide (i < (↑(List.length (cel rt.xs a.toNat (0 : Nat)).lst) : Int))) (Need (decide (0 <= a) && decide (a < (↑(rt.xs.length) : Int))) (Need (decide (a.toNat < rt.xs.length)) (Need (decide (0 <= i) && decide (i < (↑(List.length (cel rt.xs a.toNat (0 : Nat)).lst) : Int))) (Need (decide (i.toNat < List.length (cel rt.xs a.toNat (0 : Nat)).lst)) (Vif (decide ((cel (cel rt.xs a.toNat (0 : Nat)).lst i.toNat (0 : Nat)).int = s)) (Ar .i64 (n + 1) fun z => Ar .i64 (i + 1) fun z_1 => A [.i a, .i s, .i z, .i z_1, .ro _ pl, .ro _ sh, .ro _ ti, .ro Zb st, .i ce, .ro _ hd, .ro [Ty.sl [Ty.int IntKind.i64, Ty.bool]] rt]) (Ar .i64 (i + 1) fun z => A [.i a, .i s, .i n, .i z, .ro _ pl, .ro _ sh, .ro _ ti, .ro Zb st, .i ce, .ro _ hd, .ro [Ty.sl [Ty.int IntKind.i64, Ty.bool]] rt])))))) (K 0 [.i n])))
theorem Xo6 (W : InW) (a s n i pl sh ti st ce hd rt A K) : Ye9 { cxT Try.prog TT T21 1000 50 with fn := 40 } 1000 (Ynd Try.prog 40 4) (Yd0 33 [(1, .si .i64 a), (2, .si .i64 s), (3, .ptr 1 0), (7, .si .i64 n), (8, .si .i64 i)] (rg 9 23)) [(1, .blk 29 [.rs _ pl, .rs _ sh, .rs _ ti, .rs _ st, .si .i64 ce, .rs _ hd, .rs _ rt])] (Yte Xir A K) = Xg3 a s n i pl sh ti st ce hd rt A K := by kernel_rfl
def Xic : Prop := ∀ (W : InW) (body a : Code), (Try.prog.funcs[40]?).bind (·.body) = some body -> a ∈ Yu body -> Yfs a = 4 -> @Yl2 W Try.prog a (@Ysl W Xir)
theorem Xqb (meas : [InW] -> List Ed -> Nat) (hyp_ : ∀ (W : InW) a s n i pl sh ti st ce hd rt K, Xhl [.i a, .i s, .i n, .i i, .ro _ pl, .ro _ sh, .ro _ ti, .ro _ st, .i ce, .ro _ hd, .ro _ rt] K -> ∀ A : List Ed -> Prop, (∀ e, meas e < meas [.i a, .i s, .i n, .i i, .ro _ pl, .ro _ sh, .ro _ ti, .ro _ st, .i ce, .ro _ hd, .ro _ rt] -> Xhl e K -> A e) -> Xg3 a s n i pl sh ti st ce hd rt A K) : Xic :=
 LE.okOf' (fun W => @TT W) (fun W => @Xb W) Xa T21 1000 50 (by kernel_rfl) Xir (fun W => @meas W) fun W a s n i pl sh ti st ce hd rt K hs =>
  (Xo6 W a s n i pl sh ti st ce hd rt (fun e => meas e < meas [.i a, .i s, .i n, .i i, .ro _ pl, .ro _ sh, .ro _ ti, .ro _ st, .i ce, .ro _ hd, .ro _ rt] /\ Xhl e K) K).mpr (hyp_ W a s n i pl sh ti st ce hd rt K hs _ fun e h1 h2 => ⟨h1, h2⟩)
theorem Xsr : Xic := Xqb (fun e => match e with | [.i a, _, _, .i i, _, _, _, _, _, _, .ro _ rt] => (((Sp.rtL rt.xs a.toNat).length : Int) - i).toNat | _ => 0) fun W a s n i pl sh ti st ce hd rt K hs A hA => by
 obtain ⟨⟨h1, h2, h3, h4, h5, h6⟩, hk⟩ := hs;unfold Xg3;delta Zb;simp only [show (cel rt.xs a.toNat 0).lst = Sp.rtL rt.xs a.toNat from rfl];refine ned (by simp; omega) (nedd (by omega) (vifd (fun e => ?_) fun e => ?_))
 ·rw [show (Sp.rtL rt.xs a.toNat).length - i.toNat = ((Sp.rtL rt.xs a.toNat).length - (i.toNat + 1)) + 1 by omega] at hk;simp only [Sp.cnt] at hk;have ez : (i + 1).toNat = i.toNat + 1 := by omega
  have hA' : ∀ m, m = (if Sp.xS (Sp.rtL rt.xs a.toNat) i.toNat = s.toNat then n + 1 else n) -> A [.i a, .i s, .i m, .i (i + 1), .ro _ pl, .ro _ sh, .ro _ ti, .ro _ st, .i ce, .ro _ hd, .ro _ rt] := fun m hm => hA _ (by show (((Sp.rtL rt.xs a.toNat).length : Int) - (i + 1)).toNat < (((Sp.rtL rt.xs a.toNat).length : Int) - i).toNat; omega) ⟨⟨h1, h2, h3, by omega, by split at hm <;> omega, by split at hm <;> omega⟩, by rw [ez, hm]; exact hk⟩;clear hA hk;simp only [Nat.zero_add, Nat.reduceAdd, <- show Sp.xS (Sp.rtL rt.xs a.toNat) i.toNat = (cel (Sp.rtL rt.xs a.toNat) i.toNat 0).int from rfl] at *
  repeat' (first | omega | with_reducible refine vifd (fun _ => ?_) fun _ => ?_ | with_reducible refine vifn (fun _ => ?_) fun _ => ?_ | with_reducible refine vifq (fun _ => ?_) fun _ => ?_ | with_reducible refine vifq0 (fun _ => ?_) fun _ => ?_ | with_reducible refine vifq1 (fun _ => ?_) fun _ => ?_ | with_reducible refine vifb (fun _ => ?_) fun _ => ?_ | with_reducible refine vif (fun _ => ?_) fun _ => ?_ | (with_reducible refine nedd ?_ ?_; omega) | (with_reducible refine ned ?_ ?_; simp only [Bool.and_eq_true, decide_eq_true_eq]; omega) | (with_reducible refine ar64 ?_ ?_; omega) | (with_reducible refine Xd ?_ ?_; (first | trivial | omega | assumption | (refine ⟨?_, ?_⟩ <;> first | trivial | omega | assumption) | (refine ⟨?_, ?_, ?_⟩ <;> first | trivial | omega | assumption) | (refine ⟨?_, ?_, ?_, ?_⟩ <;> first | trivial | omega | assumption))))
  all_goals first | exact hA' _ (by rw [if_pos (by omega)]) | exact hA' _ (by rw [if_neg (by omega)]) | skip
  all_goals trace_state
 ·rw [show (Sp.rtL rt.xs a.toNat).length - i.toNat = 0 by omega] at hk;exact hk
noncomputable def Xtb : LE Try.prog := ⟨40, 4, fun W => @Ysl W Xir, Xsr⟩
noncomputable def T34 : Tab Try.prog := ⟨[], [Xtb], []⟩
def Xe2 [W : InW] (c_Pl c_Sh c_Ti : Ro Jb) (c_St : Ro Jd) (c_Ce : Int) (c_Hd : Ro Iv4) (c_Rt : Ro Je) (a s : Int) (Q : DS -> Prop) : Prop :=
 Pre ((0 <= a /\ a < (↑(c_Rt.xs.length) : Int)) /\ 0 <= s /\ List.length (Sp.rtL c_Rt.xs a.toNat) <= 60 /\ (Zg <= 0 /\ Zg <= (↑(List.length (Sp.rtL c_Rt.xs a.toNat)) : Int)) /\ Zg <= 0 /\ Zg <= 0) (Q [[Cl.i (Sp.cnt (Sp.rtL c_Rt.xs a.toNat) s.toNat (Int.toNat Zg) (List.length (Sp.rtL c_Rt.xs a.toNat) - Int.toNat Zg) Zg)]])
theorem Xmr (W : InW) (c_Pl c_Sh c_Ti c_St c_Ce c_Hd c_Rt a s Q) : Yvi (cxT Try.prog TT T34 1000 50) 1000 40 [.agg [.rs _ c_Pl, .rs _ c_Sh, .rs _ c_Ti, .rs _ c_St, .si .i64 c_Ce, .rs _ c_Hd, .rs _ c_Rt], .si .i64 a, .si .i64 s] [] 0 (Yzk [(false, [.int .i64])] Q) (fun _ _ _ _ => Stuck 421) = Xe2 c_Pl c_Sh c_Ti c_St c_Ce c_Hd c_Rt a s Q := by kernel_rfl
abbrev Xcx : List AT := [.agg [.sl Jb, .sl Jb, .sl Jb, .sl Jd, .int .i64, .sl Iv4, .sl Je], .one (.int .i64), .one (.int .i64)]
theorem Xn8 {pre : DS -> Prop} {res : DS -> DS} (hyp_ : ∀ (W : InW) (c_Pl c_Sh c_Ti : Ro Jb) (c_St : Ro Jd) (c_Ce : Int) (c_Hd : Ro Iv4) (c_Rt : Ro Je) (a s : Int), pre [[.l c_Pl.xs, .l c_Sh.xs, .l c_Ti.xs, .l c_St.xs, .i c_Ce, .l c_Hd.xs, .l c_Rt.xs], [.i a], [.i s]] -> ∀ Q : DS -> Prop, Q (res [[.l c_Pl.xs, .l c_Sh.xs, .l c_Ti.xs, .l c_St.xs, .i c_Ce, .l c_Hd.xs, .l c_Rt.xs], [.i a], [.i s]]) -> Xe2 c_Pl c_Sh c_Ti c_St c_Ce c_Hd c_Rt a s Q) : PureOk Try.prog 40 Xcx [(false, [.int .i64])] pre res :=
 PureOk.of' (fun W => @TT W) (fun W => @Xb W) Xa T34 1000 50 fun W c_Pl c_Sh c_Ti c_St c_Ce c_Hd c_Rt a s hp =>
  (Xmr W c_Pl c_Sh c_Ti c_St c_Ce c_Hd c_Rt a s (fun o => o = res [[.l c_Pl.xs, .l c_Sh.xs, .l c_Ti.xs, .l c_St.xs, .i c_Ce, .l c_Hd.xs, .l c_Rt.xs], [.i a], [.i s]])).mpr (hyp_ W c_Pl c_Sh c_Ti c_St c_Ce c_Hd c_Rt a s hp _ rfl)
abbrev Xfm (ds : DS) : DS := match ds with | [[_, _, _, _, _, _, .l rt], [.i a], [.i s]] => [[.i (Sp.tms rt a.toNat s.toNat)]] | _ => []
abbrev Xfr (ds : DS) : Prop := match ds with | [[_, _, _, _, _, _, .l rt], [.i a], [.i s]] => (0 <= a /\ a < rt.length) /\ 0 <= s /\ (Sp.rtL rt a.toNat).length <= 60 | _ => False
theorem Xqz : PureOk Try.prog 40 Xcx [(false, [.int .i64])] Xfr Xfm :=
 Xn8 fun W pl sh ti st ce hd rt a s hp Q h => by
  obtain ⟨h1, h2, h3⟩ : (0 <= a /\ a < rt.xs.length) /\ 0 <= s /\ (Sp.rtL rt.xs a.toNat).length <= 60 := hp;unfold Xe2;delta Zg;exact ⟨⟨h1, h2, h3, by omega, by omega, by omega⟩, h⟩
noncomputable def Xm4 : PC Try.prog := ⟨40, Xcx, [(false, [.int .i64])], Xfr, Xfm, Xqz⟩
namespace Sp
def rtsE (pl sh ti st : Dt) (ce : Int) (hd rt l : Dt) : Int := if cE pl sh ti st ce hd rt = 0 then (if out 0 ((rt.length : Int) - 1) l then 4 else 0) else cE pl sh ti st ce hd rt
end Sp
abbrev Xf (ds : DS) : Prop := match ds with | (.l pl :: .l sh :: .l ti :: _) :: _ => Sp.NamesOk pl /\ Sp.NamesOk sh /\ Sp.NamesOk ti | _ => False
namespace Sp
def dAt (l : Dt) (i : Nat) : List Int := (List.range 40).map fun s => cnt l s 0 i 0
structure DOk (l : Dt) (i : Int) (ds : List Int) : Prop where
 i0 : 0 <= i
 i1 : i <= l.length
 ln : l.length <= 60
 xs : ∀ k, k < l.length -> 0 <= xS l k /\ xS l k < 40
 ds : ds = dAt l i.toNat
end Sp
def edI [InW] : List Ed -> List Int
 | .i n :: es => n :: edI es
 | _ => []
def Xmv [InW] (e : List Ed) (K : Nat -> List Ed -> Prop) : Prop := match e with
 | .ro _ l :: .i n :: .i i :: ds => Pre (n = l.xs.length /\ Sp.DOk l.xs i (edI ds)) (K 0 ((Sp.dAt l.xs l.xs.length).map Ed.i))
 | _ => False
noncomputable def Xof : LC where
 len := 59
 T := [(8, (.ptr 1 0)), (36, .rs Jf), (37, .int .i64), (38, .int .i64)]
 H := [(1, .blk 125 [.int .i64, .int .i64, .int .i64, .int .i64, .int .i64, .int .i64, .int .i64, .int .i64, .int .i64, .int .i64, .int .i64, .int .i64, .int .i64, .int .i64, .int .i64, .int .i64, .int .i64, .int .i64, .int .i64, .int .i64, .int .i64, .int .i64, .int .i64, .int .i64, .int .i64, .int .i64, .int .i64, .int .i64, .int .i64, .int .i64, .int .i64, .int .i64, .int .i64, .int .i64, .int .i64, .int .i64, .int .i64, .int .i64, .int .i64, .int .i64])]
 W := ([10] ++ rg 39 10)
 outs := [⟨.exit 0, [(8, (.ptr 1 0))], [(1, .blk 125 [.int .i64, .int .i64, .int .i64, .int .i64, .int .i64, .int .i64, .int .i64, .int .i64, .int .i64, .int .i64, .int .i64, .int .i64, .int .i64, .int .i64, .int .i64, .int .i64, .int .i64, .int .i64, .int .i64, .int .i64, .int .i64, .int .i64, .int .i64, .int .i64, .int .i64, .int .i64, .int .i64, .int .i64, .int .i64, .int .i64, .int .i64, .int .i64, .int .i64, .int .i64, .int .i64, .int .i64, .int .i64, .int .i64, .int .i64, .int .i64])], ([10] ++ rg 36 13)⟩]
 spec := Xmv
def Zy [W : InW] (l : Ro Jf) (i : Int) := cel l.xs i.toNat (0 : Nat)
def Xl1 [W : InW] (l : Ro Jf) (n i d0 d1 d2 d3 d4 d5 d6 d7 d8 d9 d10 d11 d12 d13 d14 d15 d16 d17 d18 d19 d20 d21 d22 d23 d24 d25 d26 d27 d28 d29 d30 d31 d32 d33 d34 d35 d36 d37 d38 d39 : Int) (A : List Ed -> Prop) (K : Nat -> List Ed -> Prop) : Prop :=
 Vif (decide (i < n)) (Need (decide (0 <= i) && decide (i < (↑(l.xs.length) : Int))) (Need (decide (i.toNat < l.xs.length)) (Need (decide (Zg <= (Zy l i).int) && decide ((Zy l i).int < (↑(40 : Nat) : Int))) (Need (decide ((Zy l i).int.toNat < [d0, d1, d2, d3, d4, d5, d6, d7, d8, d9, d10, d11, d12, d13, d14, d15, d16, d17, d18, d19, d20, d21, d22, d23, d24, d25, d26, d27, d28, d29, d30, d31, d32, d33, d34, d35, d36, d37, d38, d39].length)) (Ar .i64 ([d0, d1, d2, d3, d4, d5, d6, d7, d8, d9, d10, d11, d12, d13, d14, d15, d16, d17, d18, d19, d20, d21, d22, d23, d24, d25, d26, d27, d28, d29, d30, d31, d32, d33, d34, d35, d36, d37, d38, d39].getD (Zy l i).int.toNat Zg + 1) fun z => Need (decide (Zg <= (Zy l i).int) && decide ((Zy l i).int < (↑(40 : Nat) : Int))) (Need (decide ((Zy l i).int.toNat < [d0, d1, d2, d3, d4, d5, d6, d7, d8, d9, d10, d11, d12, d13, d14, d15, d16, d17, d18, d19, d20, d21, d22, d23, d24, d25, d26, d27, d28, d29, d30, d31, d32, d33, d34, d35, d36, d37, d38, d39].length)) (Ar .i64 (i + 1) fun z_1 => A [.ro _ l, .i n, .i z_1, .i (Decidable.rec (fun h => (fun x => d0) h) (fun h => (fun x => z) h) (instDecidableEqNat (Zy l i).int.toNat (0 : Nat))), .i (Decidable.rec (fun h => (fun x => d1) h) (fun h => (fun x => z) h) (instDecidableEqNat (Zy l i).int.toNat (0+1))), .i (Decidable.rec (fun h => (fun x => d2) h) (fun h => (fun x => z) h) (instDecidableEqNat (Zy l i).int.toNat (1+1))), .i (Decidable.rec (fun h => (fun x => d3) h) (fun h => (fun x => z) h) (instDecidableEqNat (Zy l i).int.toNat (2+1))), .i (Decidable.rec (fun h => (fun x => d4) h) (fun h => (fun x => z) h) (instDecidableEqNat (Zy l i).int.toNat (3+1))), .i (Decidable.rec (fun h => (fun x => d5) h) (fun h => (fun x => z) h) (instDecidableEqNat (Zy l i).int.toNat (4+1))), .i (Decidable.rec (fun h => (fun x => d6) h) (fun h => (fun x => z) h) (instDecidableEqNat (Zy l i).int.toNat (5+1))), .i (Decidable.rec (fun h => (fun x => d7) h) (fun h => (fun x => z) h) (instDecidableEqNat (Zy l i).int.toNat (6+1))), .i (Decidable.rec (fun h => (fun x => d8) h) (fun h => (fun x => z) h) (instDecidableEqNat (Zy l i).int.toNat (7+1))), .i (Decidable.rec (fun h => (fun x => d9) h) (fun h => (fun x => z) h) (instDecidableEqNat (Zy l i).int.toNat (8+1))), .i (Decidable.rec (fun h => (fun x => d10) h) (fun h => (fun x => z) h) (instDecidableEqNat (Zy l i).int.toNat (9+1))), .i (Decidable.rec (fun h => (fun x => d11) h) (fun h => (fun x => z) h) (instDecidableEqNat (Zy l i).int.toNat (10+1))), .i (Decidable.rec (fun h => (fun x => d12) h) (fun h => (fun x => z) h) (instDecidableEqNat (Zy l i).int.toNat (11+1))), .i (Decidable.rec (fun h => (fun x => d13) h) (fun h => (fun x => z) h) (instDecidableEqNat (Zy l i).int.toNat (12+1))), .i (Decidable.rec (fun h => (fun x => d14) h) (fun h => (fun x => z) h) (instDecidableEqNat (Zy l i).int.toNat (13+1))), .i (Decidable.rec (fun h => (fun x => d15) h) (fun h => (fun x => z) h) (instDecidableEqNat (Zy l i).int.toNat (14+1))), .i (Decidable.rec (fun h => (fun x => d16) h) (fun h => (fun x => z) h) (instDecidableEqNat (Zy l i).int.toNat (15+1))), .i (Decidable.rec (fun h => (fun x => d17) h) (fun h => (fun x => z) h) (instDecidableEqNat (Zy l i).int.toNat (16+1))), .i (Decidable.rec (fun h => (fun x => d18) h) (fun h => (fun x => z) h) (instDecidableEqNat (Zy l i).int.toNat (17+1))), .i (Decidable.rec (fun h => (fun x => d19) h) (fun h => (fun x => z) h) (instDecidableEqNat (Zy l i).int.toNat (18+1))), .i (Decidable.rec (fun h => (fun x => d20) h) (fun h => (fun x => z) h) (instDecidableEqNat (Zy l i).int.toNat (19+1))), .i (Decidable.rec (fun h => (fun x => d21) h) (fun h => (fun x => z) h) (instDecidableEqNat (Zy l i).int.toNat (20+1))), .i (Decidable.rec (fun h => (fun x => d22) h) (fun h => (fun x => z) h) (instDecidableEqNat (Zy l i).int.toNat (21+1))), .i (Decidable.rec (fun h => (fun x => d23) h) (fun h => (fun x => z) h) (instDecidableEqNat (Zy l i).int.toNat (22+1))), .i (Decidable.rec (fun h => (fun x => d24) h) (fun h => (fun x => z) h) (instDecidableEqNat (Zy l i).int.toNat (23+1))), .i (Decidable.rec (fun h => (fun x => d25) h) (fun h => (fun x => z) h) (instDecidableEqNat (Zy l i).int.toNat (24+1))), .i (Decidable.rec (fun h => (fun x => d26) h) (fun h => (fun x => z) h) (instDecidableEqNat (Zy l i).int.toNat (25+1))), .i (Decidable.rec (fun h => (fun x => d27) h) (fun h => (fun x => z) h) (instDecidableEqNat (Zy l i).int.toNat (26+1))), .i (Decidable.rec (fun h => (fun x => d28) h) (fun h => (fun x => z) h) (instDecidableEqNat (Zy l i).int.toNat (27+1))), .i (Decidable.rec (fun h => (fun x => d29) h) (fun h => (fun x => z) h) (instDecidableEqNat (Zy l i).int.toNat (28+1))), .i (Decidable.rec (fun h => (fun x => d30) h) (fun h => (fun x => z) h) (instDecidableEqNat (Zy l i).int.toNat (29+1))), .i (Decidable.rec (fun h => (fun x => d31) h) (fun h => (fun x => z) h) (instDecidableEqNat (Zy l i).int.toNat (30+1))), .i (Decidable.rec (fun h => (fun x => d32) h) (fun h => (fun x => z) h) (instDecidableEqNat (Zy l i).int.toNat (31+1))), .i (Decidable.rec (fun h => (fun x => d33) h) (fun h => (fun x => z) h) (instDecidableEqNat (Zy l i).int.toNat (32+1))), .i (Decidable.rec (fun h => (fun x => d34) h) (fun h => (fun x => z) h) (instDecidableEqNat (Zy l i).int.toNat (33+1))), .i (Decidable.rec (fun h => (fun x => d35) h) (fun h => (fun x => z) h) (instDecidableEqNat (Zy l i).int.toNat (34+1))), .i (Decidable.rec (fun h => (fun x => d36) h) (fun h => (fun x => z) h) (instDecidableEqNat (Zy l i).int.toNat (35+1))), .i (Decidable.rec (fun h => (fun x => d37) h) (fun h => (fun x => z) h) (instDecidableEqNat (Zy l i).int.toNat (36+1))), .i (Decidable.rec (fun h => (fun x => d38) h) (fun h => (fun x => z) h) (instDecidableEqNat (Zy l i).int.toNat (37+1))), .i (Decidable.rec (fun h => (fun x => d39) h) (fun h => (fun x => z) h) (instDecidableEqNat (Zy l i).int.toNat (38+1)))]))))))) (K 0 [.i d0, .i d1, .i d2, .i d3, .i d4, .i d5, .i d6, .i d7, .i d8, .i d9, .i d10, .i d11, .i d12, .i d13, .i d14, .i d15, .i d16, .i d17, .i d18, .i d19, .i d20, .i d21, .i d22, .i d23, .i d24, .i d25, .i d26, .i d27, .i d28, .i d29, .i d30, .i d31, .i d32, .i d33, .i d34, .i d35, .i d36, .i d37, .i d38, .i d39])
theorem Xry (W : InW) (l n i d0 d1 d2 d3 d4 d5 d6 d7 d8 d9 d10 d11 d12 d13 d14 d15 d16 d17 d18 d19 d20 d21 d22 d23 d24 d25 d26 d27 d28 d29 d30 d31 d32 d33 d34 d35 d36 d37 d38 d39 A K) : Ye9 { cxT Try.prog TT T21 1000 50 with fn := 90 } 1000 (Ynd Try.prog 90 11) (Yd0 59 [(8, .ptr 1 0), (36, .rs _ l), (37, .si .i64 n), (38, .si .i64 i)] ([10] ++ rg 39 10)) [(1, .blk 125 [.si .i64 d0, .si .i64 d1, .si .i64 d2, .si .i64 d3, .si .i64 d4, .si .i64 d5, .si .i64 d6, .si .i64 d7, .si .i64 d8, .si .i64 d9, .si .i64 d10, .si .i64 d11, .si .i64 d12, .si .i64 d13, .si .i64 d14, .si .i64 d15, .si .i64 d16, .si .i64 d17, .si .i64 d18, .si .i64 d19, .si .i64 d20, .si .i64 d21, .si .i64 d22, .si .i64 d23, .si .i64 d24, .si .i64 d25, .si .i64 d26, .si .i64 d27, .si .i64 d28, .si .i64 d29, .si .i64 d30, .si .i64 d31, .si .i64 d32, .si .i64 d33, .si .i64 d34, .si .i64 d35, .si .i64 d36, .si .i64 d37, .si .i64 d38, .si .i64 d39])] (Yte Xof A K) = Xl1 l n i d0 d1 d2 d3 d4 d5 d6 d7 d8 d9 d10 d11 d12 d13 d14 d15 d16 d17 d18 d19 d20 d21 d22 d23 d24 d25 d26 d27 d28 d29 d30 d31 d32 d33 d34 d35 d36 d37 d38 d39 A K := by kernel_rfl
def Xlh : Prop := ∀ (W : InW) (body a : Code), (Try.prog.funcs[90]?).bind (·.body) = some body -> a ∈ Yu body -> Yfs a = 11 -> @Yl2 W Try.prog a (@Ysl W Xof)
theorem Xsi (meas : [InW] -> List Ed -> Nat) (hyp_ : ∀ (W : InW) l n i d0 d1 d2 d3 d4 d5 d6 d7 d8 d9 d10 d11 d12 d13 d14 d15 d16 d17 d18 d19 d20 d21 d22 d23 d24 d25 d26 d27 d28 d29 d30 d31 d32 d33 d34 d35 d36 d37 d38 d39 K, Xmv [.ro _ l, .i n, .i i, .i d0, .i d1, .i d2, .i d3, .i d4, .i d5, .i d6, .i d7, .i d8, .i d9, .i d10, .i d11, .i d12, .i d13, .i d14, .i d15, .i d16, .i d17, .i d18, .i d19, .i d20, .i d21, .i d22, .i d23, .i d24, .i d25, .i d26, .i d27, .i d28, .i d29, .i d30, .i d31, .i d32, .i d33, .i d34, .i d35, .i d36, .i d37, .i d38, .i d39] K -> ∀ A : List Ed -> Prop, (∀ e, meas e < meas [.ro _ l, .i n, .i i, .i d0, .i d1, .i d2, .i d3, .i d4, .i d5, .i d6, .i d7, .i d8, .i d9, .i d10, .i d11, .i d12, .i d13, .i d14, .i d15, .i d16, .i d17, .i d18, .i d19, .i d20, .i d21, .i d22, .i d23, .i d24, .i d25, .i d26, .i d27, .i d28, .i d29, .i d30, .i d31, .i d32, .i d33, .i d34, .i d35, .i d36, .i d37, .i d38, .i d39] -> Xmv e K -> A e) -> Xl1 l n i d0 d1 d2 d3 d4 d5 d6 d7 d8 d9 d10 d11 d12 d13 d14 d15 d16 d17 d18 d19 d20 d21 d22 d23 d24 d25 d26 d27 d28 d29 d30 d31 d32 d33 d34 d35 d36 d37 d38 d39 A K) : Xlh :=
 LE.okOf' (fun W => @TT W) (fun W => @Xb W) Xa T21 1000 50 (by kernel_rfl) Xof (fun W => @meas W) fun W l n i d0 d1 d2 d3 d4 d5 d6 d7 d8 d9 d10 d11 d12 d13 d14 d15 d16 d17 d18 d19 d20 d21 d22 d23 d24 d25 d26 d27 d28 d29 d30 d31 d32 d33 d34 d35 d36 d37 d38 d39 K hs =>
  (Xry W l n i d0 d1 d2 d3 d4 d5 d6 d7 d8 d9 d10 d11 d12 d13 d14 d15 d16 d17 d18 d19 d20 d21 d22 d23 d24 d25 d26 d27 d28 d29 d30 d31 d32 d33 d34 d35 d36 d37 d38 d39 (fun e => meas e < meas [.ro _ l, .i n, .i i, .i d0, .i d1, .i d2, .i d3, .i d4, .i d5, .i d6, .i d7, .i d8, .i d9, .i d10, .i d11, .i d12, .i d13, .i d14, .i d15, .i d16, .i d17, .i d18, .i d19, .i d20, .i d21, .i d22, .i d23, .i d24, .i d25, .i d26, .i d27, .i d28, .i d29, .i d30, .i d31, .i d32, .i d33, .i d34, .i d35, .i d36, .i d37, .i d38, .i d39] /\ Xmv e K) K).mpr (hyp_ W l n i d0 d1 d2 d3 d4 d5 d6 d7 d8 d9 d10 d11 d12 d13 d14 d15 d16 d17 d18 d19 d20 d21 d22 d23 d24 d25 d26 d27 d28 d29 d30 d31 d32 d33 d34 d35 d36 d37 d38 d39 K hs _ fun e h1 h2 => ⟨h1, h2⟩)
theorem Xi6 (l : Dt) (s : Nat) : ∀ (n i : Nat) (a : Int), Sp.cnt l s i (n + 1) a = if Sp.xS l (i + n) = s then Sp.cnt l s i n a + 1 else Sp.cnt l s i n a
 | 0, i, a => rfl
 | n + 1, i, a => by
  rw [show Sp.cnt l s i (n + 1 + 1) a = Sp.cnt l s (i + 1) (n + 1) (if Sp.xS l i = s then a + 1 else a) from rfl, Xi6 l s n (i + 1), show i + 1 + n = i + (n + 1) by omega];rfl
theorem okLdl : Xlh := Xsi (fun e => match e with | .ro _ l :: _ :: .i i :: _ => ((l.xs.length : Int) - i).toNat | _ => 0) fun W l n i d0 d1 d2 d3 d4 d5 d6 d7 d8 d9 d10 d11 d12 d13 d14 d15 d16 d17 d18 d19 d20 d21 d22 d23 d24 d25 d26 d27 d28 d29 d30 d31 d32 d33 d34 d35 d36 d37 d38 d39 K hs A hA => by
 obtain ⟨⟨rfl, hD⟩, hk⟩ := hs;unfold Xl1;delta Zy Zg;have hns : [d0, d1, d2, d3, d4, d5, d6, d7, d8, d9, d10, d11, d12, d13, d14, d15, d16, d17, d18, d19, d20, d21, d22, d23, d24, d25, d26, d27, d28, d29, d30, d31, d32, d33, d34, d35, d36, d37, d38, d39] = Sp.dAt l.xs i.toNat := hD.ds;have h0 := hD.i0;have h1 := hD.i1;have h2 := hD.ln;have hget : ∀ s, s < 40 -> ([d0, d1, d2, d3, d4, d5, d6, d7, d8, d9, d10, d11, d12, d13, d14, d15, d16, d17, d18, d19, d20, d21, d22, d23, d24, d25, d26, d27, d28, d29, d30, d31, d32, d33, d34, d35, d36, d37, d38, d39] : List Int).getD s 0 = Sp.cnt l.xs s 0 i.toNat 0 := fun s hs => by
  rw [hns, List.getD_eq_getElem?_getD];unfold Sp.dAt;rw [List.getElem?_map, List.getElem?_range hs];rfl
 refine vifd (fun e => ?_) fun e => ?_
 ·have hx := hD.xs i.toNat (by omega);have hx' : 0 <= (cel l.xs i.toNat 0).int /\ (cel l.xs i.toNat 0).int < 40 := hx;have hp : (cel l.xs i.toNat 0).int.toNat < 40 := by omega
  have hv := hget _ hp;have hc := Sp.cnt_in l.xs (cel l.xs i.toNat 0).int.toNat i.toNat 0 0;have ez : (i + 1).toNat = i.toNat + 1 := by omega
  refine ned (by simp; omega) (nedd (by omega) (ned (by simp; omega) (nedd hp (ar64 (by rw [hv]; omega) (ned (by simp; omega) (nedd hp (ar64 (by omega) (hA _ ?_ ?_))))))))
  ·show ((l.xs.length : Int) - (i + 1)).toNat < ((l.xs.length : Int) - i).toNat
   omega
  ·refine ⟨⟨rfl, ⟨by omega, by omega, h2, hD.xs, ?_⟩⟩, hk⟩;refine Eq.trans (b := (List.range 40).map fun s => selU (cel l.xs i.toNat 0).int.toNat s (([d0, d1, d2, d3, d4, d5, d6, d7, d8, d9, d10, d11, d12, d13, d14, d15, d16, d17, d18, d19, d20, d21, d22, d23, d24, d25, d26, d27, d28, d29, d30, d31, d32, d33, d34, d35, d36, d37, d38, d39] : List Int).getD (cel l.xs i.toNat 0).int.toNat 0 + 1) (([d0, d1, d2, d3, d4, d5, d6, d7, d8, d9, d10, d11, d12, d13, d14, d15, d16, d17, d18, d19, d20, d21, d22, d23, d24, d25, d26, d27, d28, d29, d30, d31, d32, d33, d34, d35, d36, d37, d38, d39] : List Int).getD s 0)) rfl ?_;unfold Sp.dAt;refine List.map_congr_left fun s hs => ?_;rw [List.mem_range] at hs;rw [hget s hs, hv, ez, Xi6, Nat.zero_add];unfold selU;have hxs : Sp.xS l.xs i.toNat = (cel l.xs i.toNat 0).int := rfl
   by_cases hps : (cel l.xs i.toNat 0).int.toNat = s
   ·rw [if_pos hps, if_pos (by omega), hps]
   ·rw [if_neg hps, if_neg (by omega)]
 ·have hl : i.toNat = l.xs.length := by omega
  rw [hl] at hns;rw [<- hns] at hk;exact hk
noncomputable def le_dl : LE Try.prog := ⟨90, 11, fun W => @Ysl W Xof, okLdl⟩
noncomputable def T41 : Tab Try.prog := ⟨[Xki], [], []⟩
def Xhs [InW] (e : List Ed) (K : Nat -> List Ed -> Prop) : Prop := match e with
 | [.ro _ hd, .i n, .i i] => Pre (n = hd.xs.length /\ 0 <= i /\ i <= n) (Vif (Sp.hasE (Sp.hdErr hd.xs) i.toNat (hd.xs.length - i.toNat))
   (K 1 [.i (Sp.idxE (Sp.hdErr hd.xs) i.toNat (hd.xs.length - i.toNat)), .i (Sp.hdErr hd.xs (Sp.idxE (Sp.hdErr hd.xs) i.toNat (hd.xs.length - i.toNat)))]) (K 0 []))
 | _ => False
noncomputable def Xiy : LC where
 len := 23
 T := [(1, (.fn (.func 87) [] [])), (8, .rs Iv4), (9, .int .i64), (10, .int .i64)]
 H := []
 W := (rg 4 4 ++ rg 11 12)
 outs := [⟨.exit 0, [], [], ([1] ++ rg 4 19)⟩, ⟨.ret, [(4, .int .i64), (5, .int .i64)], [], ([1] ++ rg 6 17)⟩]
 spec := Xhs
def Xha [W : InW] (hd : Ro Iv4) (n i : Int) (A : List Ed -> Prop) (K : Nat -> List Ed -> Prop) : Prop :=
 Vif (decide (i < n)) (Need (decide (0 <= i) && decide (i < (↑(hd.xs.length) : Int))) (Need (decide (i.toNat < hd.xs.length)) (Pre True (Vif (!decide (Sp.hrdE (cel hd.xs i.toNat (0 : Nat)).int (cel hd.xs i.toNat (0+1)).int (cel hd.xs i.toNat ((0 : Nat) + 1 + 1)).int (cel hd.xs i.toNat ((0 : Nat) + 1 + 1 + 1)).int = 0)) (K (0+1) [.i i, .i (Sp.hrdE (cel hd.xs i.toNat (0 : Nat)).int (cel hd.xs i.toNat (0+1)).int (cel hd.xs i.toNat ((0 : Nat) + 1 + 1)).int (cel hd.xs i.toNat ((0 : Nat) + 1 + 1 + 1)).int)]) (Ar .i64 (i + 1) fun z => A [.ro _ hd, .i n, .i z]))))) (K 0 [])
theorem Xpd (W : InW) (hd n i A K) : Ye9 { cxT Try.prog TT T41 1000 50 with fn := 86 } 1000 (Ynd Try.prog 86 3) (Yd0 23 [(1, .fn (.func 87) [] []), (8, .rs _ hd), (9, .si .i64 n), (10, .si .i64 i)] (rg 4 4 ++ rg 11 12)) [] (Yte Xiy A K) = Xha hd n i A K := by kernel_rfl
def Xij : Prop := ∀ (W : InW) (body a : Code), (Try.prog.funcs[86]?).bind (·.body) = some body -> a ∈ Yu body -> Yfs a = 3 -> @Yl2 W Try.prog a (@Ysl W Xiy)
theorem Xqi (meas : [InW] -> List Ed -> Nat) (hyp_ : ∀ (W : InW) hd n i K, Xhs [.ro _ hd, .i n, .i i] K -> ∀ A : List Ed -> Prop, (∀ e, meas e < meas [.ro _ hd, .i n, .i i] -> Xhs e K -> A e) -> Xha hd n i A K) : Xij :=
 LE.okOf' (fun W => @TT W) (fun W => @Xb W) Xa T41 1000 50 (by kernel_rfl) Xiy (fun W => @meas W) fun W hd n i K hs =>
  (Xpd W hd n i (fun e => meas e < meas [.ro _ hd, .i n, .i i] /\ Xhs e K) K).mpr (hyp_ W hd n i K hs _ fun e h1 h2 => ⟨h1, h2⟩)
theorem Xsy : Xij := Xqi (fun e => match e with | [.ro _ hd, _, .i i] => ((hd.xs.length : Int) - i).toNat | _ => 0) fun W hd n i K hs A hA => by
 obtain ⟨⟨rfl, h0, h1⟩, hk⟩ := hs;unfold Xha;have hm := hd.len;simp only [maxLen] at hm;refine vifd (fun e => ?_) fun e => ?_
 ·rw [show hd.xs.length - i.toNat = (hd.xs.length - (i.toNat + 1)) + 1 by omega] at hk;obtain ⟨g1, g2⟩ := Xfj (K1 := fun j e => K 1 [.i j, .i e]) hk;rw [Int.toNat_of_nonneg h0] at g1;have ez : (i + 1).toNat = i.toNat + 1 := by omega
  have hA' : Sp.hdErr hd.xs i.toNat = 0 -> A [.ro _ hd, .i hd.xs.length, .i (i + 1)] := fun f => hA _ (by show ((hd.xs.length : Int) - (i + 1)).toNat < ((hd.xs.length : Int) - i).toNat; omega) ⟨⟨rfl, by omega, by omega⟩, by rw [ez]; exact g2 f⟩;clear g2 hk hA;simp only [Nat.zero_add, Nat.reduceAdd];rw [show Sp.hrdE (cel hd.xs i.toNat 0).int (cel hd.xs i.toNat 1).int (cel hd.xs i.toNat 2).int (cel hd.xs i.toNat 3).int = Sp.hdErr hd.xs i.toNat from rfl];refine ned (by simp; omega) (nedd (by omega) ⟨trivial, vifn (fun e2 => g1 e2) fun e2 => ar64 (by omega) (hA' e2)⟩)
 ·rw [show hd.xs.length - i.toNat = 0 by omega] at hk;exact hk.2 rfl
noncomputable def Xti : LE Try.prog := ⟨86, 3, fun W => @Ysl W Xiy, Xsy⟩
namespace Sp
def drvN (rt : Dt) (n : Nat) : Dt := (List.range n).map fun a => (List.range 40).map fun s => Cl.i (tms rt a s)
structure OpOk (pl sh ti st : Dt) (ce : Int) (rt : Dt) (i : Int) (dr : Dt) : Prop where
 i0 : 0 <= i
 i1 : i <= rt.length
 rl : rt.length <= 10
 nm : NamesOk pl /\ NamesOk sh /\ NamesOk ti
 te : tchkE pl sh ti st = 0
 ce : inr ce 0 ((pl.length : Int) - 1) = true
 dr : dr = drvN rt i.toNat
end Sp
noncomputable def T42 : Tab Try.prog := ⟨[Xk, Xft], [le_dl], []⟩
def Xhq [InW] (e : List Ed) (K : Nat -> List Ed -> Prop) : Prop := match e with
 | [.ro _ rt, .i n, .i i, .ro _ pl, .ro _ sh, .ro _ ti, .ro _ st, .i ce, .l dr] => Pre (n = rt.xs.length /\ Sp.OpOk pl.xs sh.xs ti.xs st.xs ce rt.xs i dr) (Vif (Sp.hasE (Sp.rtErr st.xs rt.xs ce) i.toNat (rt.xs.length - i.toNat))
   (K 1 [.i (Sp.idxE (Sp.rtErr st.xs rt.xs ce) i.toNat (rt.xs.length - i.toNat)), .i (Sp.rtErr st.xs rt.xs ce (Sp.idxE (Sp.rtErr st.xs rt.xs ce) i.toNat (rt.xs.length - i.toNat))), .ro _ pl, .ro _ sh, .ro _ ti, .ro _ st, .i ce, .l (Sp.drvN rt.xs (Sp.idxE (Sp.rtErr st.xs rt.xs ce) i.toNat (rt.xs.length - i.toNat)))])
   (K 0 [.ro _ pl, .ro _ sh, .ro _ ti, .ro _ st, .i ce, .l (Sp.drvN rt.xs rt.xs.length)]))
 | _ => False
noncomputable def Xiw : LC where
 len := 23
 T := [(1, (.fn (.func 90) [] [(.ptr 1 0), (.ptr 4 0)])), (8, .rs Je), (9, .int .i64), (10, .int .i64)]
 H := [(1, .blk 29 [.rs Jb, .rs Jb, .rs Jb, .rs Jd, .int .i64, (.opq 1051), (.opq 1054)]), (4, .blk 100 [(.ptr 7 0)]), (7, .blk 111 [(.opq 1021), (.opq 1024), (.opq 1027), (.opq 1030), (.opq 1033), (.opq 1036), (.opq 1039), (.row 6)]), (6, .arr 125 Jc)]
 W := (rg 4 4 ++ rg 11 12)
 outs := [⟨.exit 0, [(1, (.fn (.func 90) [] [(.ptr 1 0), (.ptr 4 0)]))], [(1, .blk 29 [.rs Jb, .rs Jb, .rs Jb, .rs Jd, .int .i64, (.opq 1051), (.opq 1054)]), (4, .blk 100 [(.ptr 7 0)]), (7, .blk 111 [(.opq 1021), (.opq 1024), (.opq 1027), (.opq 1030), (.opq 1033), (.opq 1036), (.opq 1039), (.row 9)]), (9, .arr 125 Jc)], (rg 4 19)⟩, ⟨.ret, [(1, (.fn (.func 90) [] [(.ptr 1 0), (.ptr 4 0)])), (4, .int .i64), (5, .int .i64)], [(1, .blk 29 [.rs Jb, .rs Jb, .rs Jb, .rs Jd, .int .i64, (.opq 1051), (.opq 1054)]), (4, .blk 100 [(.ptr 7 0)]), (7, .blk 111 [(.opq 1021), (.opq 1024), (.opq 1027), (.opq 1030), (.opq 1033), (.opq 1036), (.opq 1039), (.row 9)]), (9, .arr 125 Jc)], (rg 6 17)⟩]
 spec := Xhq
def Zbd := (0 : Nat)
def Zba [W : InW] (rt : Ro Je) (i : Int) := cel rt.xs i.toNat Zbd
def Zbc [W : InW] (rt : Ro Je) (i : Int) := List.length (Zba rt i).lst
def Zz [W : InW] (rt : Ro Je) (i : Int) := [[Cl.i (Sp.cnt (Zba rt i).lst (Zbd) Zbd (Zbc rt i) Zg), Cl.i (Sp.cnt (Zba rt i).lst ((1 : Nat)) Zbd (Zbc rt i) Zg), Cl.i (Sp.cnt (Zba rt i).lst ((2 : Nat)) Zbd (Zbc rt i) Zg), Cl.i (Sp.cnt (Zba rt i).lst ((3 : Nat)) Zbd (Zbc rt i) Zg), Cl.i (Sp.cnt (Zba rt i).lst ((4 : Nat)) Zbd (Zbc rt i) Zg), Cl.i (Sp.cnt (Zba rt i).lst ((5 : Nat)) Zbd (Zbc rt i) Zg), Cl.i (Sp.cnt (Zba rt i).lst ((6 : Nat)) Zbd (Zbc rt i) Zg), Cl.i (Sp.cnt (Zba rt i).lst ((7 : Nat)) Zbd (Zbc rt i) Zg), Cl.i (Sp.cnt (Zba rt i).lst ((8 : Nat)) Zbd (Zbc rt i) Zg), Cl.i (Sp.cnt (Zba rt i).lst ((9 : Nat)) Zbd (Zbc rt i) Zg), Cl.i (Sp.cnt (Zba rt i).lst ((10 : Nat)) Zbd (Zbc rt i) Zg), Cl.i (Sp.cnt (Zba rt i).lst ((11 : Nat)) Zbd (Zbc rt i) Zg), Cl.i (Sp.cnt (Zba rt i).lst ((12 : Nat)) Zbd (Zbc rt i) Zg), Cl.i (Sp.cnt (Zba rt i).lst ((13 : Nat)) Zbd (Zbc rt i) Zg), Cl.i (Sp.cnt (Zba rt i).lst ((14 : Nat)) Zbd (Zbc rt i) Zg), Cl.i (Sp.cnt (Zba rt i).lst ((15 : Nat)) Zbd (Zbc rt i) Zg), Cl.i (Sp.cnt (Zba rt i).lst ((16 : Nat)) Zbd (Zbc rt i) Zg), Cl.i (Sp.cnt (Zba rt i).lst ((17 : Nat)) Zbd (Zbc rt i) Zg), Cl.i (Sp.cnt (Zba rt i).lst ((18 : Nat)) Zbd (Zbc rt i) Zg), Cl.i (Sp.cnt (Zba rt i).lst ((19 : Nat)) Zbd (Zbc rt i) Zg), Cl.i (Sp.cnt (Zba rt i).lst ((20 : Nat)) Zbd (Zbc rt i) Zg), Cl.i (Sp.cnt (Zba rt i).lst ((21 : Nat)) Zbd (Zbc rt i) Zg), Cl.i (Sp.cnt (Zba rt i).lst ((22 : Nat)) Zbd (Zbc rt i) Zg), Cl.i (Sp.cnt (Zba rt i).lst ((23 : Nat)) Zbd (Zbc rt i) Zg), Cl.i (Sp.cnt (Zba rt i).lst ((24 : Nat)) Zbd (Zbc rt i) Zg), Cl.i (Sp.cnt (Zba rt i).lst ((25 : Nat)) Zbd (Zbc rt i) Zg), Cl.i (Sp.cnt (Zba rt i).lst ((26 : Nat)) Zbd (Zbc rt i) Zg), Cl.i (Sp.cnt (Zba rt i).lst ((27 : Nat)) Zbd (Zbc rt i) Zg), Cl.i (Sp.cnt (Zba rt i).lst ((28 : Nat)) Zbd (Zbc rt i) Zg), Cl.i (Sp.cnt (Zba rt i).lst ((29 : Nat)) Zbd (Zbc rt i) Zg), Cl.i (Sp.cnt (Zba rt i).lst ((30 : Nat)) Zbd (Zbc rt i) Zg), Cl.i (Sp.cnt (Zba rt i).lst ((31 : Nat)) Zbd (Zbc rt i) Zg), Cl.i (Sp.cnt (Zba rt i).lst ((32 : Nat)) Zbd (Zbc rt i) Zg), Cl.i (Sp.cnt (Zba rt i).lst ((33 : Nat)) Zbd (Zbc rt i) Zg), Cl.i (Sp.cnt (Zba rt i).lst ((34 : Nat)) Zbd (Zbc rt i) Zg), Cl.i (Sp.cnt (Zba rt i).lst ((35 : Nat)) Zbd (Zbc rt i) Zg), Cl.i (Sp.cnt (Zba rt i).lst ((36 : Nat)) Zbd (Zbc rt i) Zg), Cl.i (Sp.cnt (Zba rt i).lst ((37 : Nat)) Zbd (Zbc rt i) Zg), Cl.i (Sp.cnt (Zba rt i).lst ((38 : Nat)) Zbd (Zbc rt i) Zg), Cl.i (Sp.cnt (Zba rt i).lst ((39 : Nat)) Zbd (Zbc rt i) Zg)]]
def Zbb [W : InW] (rt : Ro Je) (n i : Int) (pl sh ti : Ro Jb) (st : Ro Jd) (ce : Int) (dr : Dt) (A : List Ed -> Prop) (K : Nat -> List Ed -> Prop) := Vif (!decide (Sp.drvE pl.xs sh.xs ti.xs st.xs ce Zg (Zba rt i).lst = 0)) (Vif (!decide (Sp.drvE pl.xs sh.xs ti.xs st.xs ce Zg (Zba rt i).lst = 0)) (K (0+1) [.i i, .i (Sp.drvE pl.xs sh.xs ti.xs st.xs ce Zg (Zba rt i).lst), .ro _ pl, .ro _ sh, .ro _ ti, .ro Zb st, .i ce, .l dr]) (Ar .i64 (i + 1) fun z => A [.ro [Ty.sl [Ty.int IntKind.i64, Ty.bool]] rt, .i n, .i z, .ro _ pl, .ro _ sh, .ro _ ti, .ro Zb st, .i ce, .l dr])) (Pre ((↑(Zbc rt i) : Int) = (↑(Zbc rt i) : Int) /\ Sp.DOk (Zba rt i).lst Zg [Zg, Zg, Zg, Zg, Zg, Zg, Zg, Zg, Zg, Zg, Zg, Zg, Zg, Zg, Zg, Zg, Zg, Zg, Zg, Zg, Zg, Zg, Zg, Zg, Zg, Zg, Zg, Zg, Zg, Zg, Zg, Zg, Zg, Zg, Zg, Zg, Zg, Zg, Zg, Zg]) (Need (decide ((dr.length + (Zz rt i).length) * 320 <= 140737488355328)) (Ar .i64 (i + 1) fun z => A [.ro [Ty.sl [Ty.int IntKind.i64, Ty.bool]] rt, .i n, .i z, .ro _ pl, .ro _ sh, .ro _ ti, .ro Zb st, .i ce, .l (dr ++ (Zz rt i))])))
def Xg8 [W : InW] (rt : Ro Je) (n i : Int) (pl sh ti : Ro Jb) (st : Ro Jd) (ce : Int) (dr : Dt) (A : List Ed -> Prop) (K : Nat -> List Ed -> Prop) : Prop :=
 Vif (decide (i < n)) (Need (decide (0 <= i) && decide (i < (↑(rt.xs.length) : Int))) (Need (decide (i.toNat < rt.xs.length)) (Pre True (Vif (Sp.out (1 : Int) (60 : Int) [[Cl.i (↑(Zbc rt i) : Int)]]) (K (0+1) [.i i, .i (3 : Int), .ro _ pl, .ro _ sh, .ro _ ti, .ro Zb st, .i ce, .l dr]) (Pre (Sp.NamesOk pl.xs /\ Sp.NamesOk sh.xs /\ Sp.NamesOk ti.xs) (Vif (decide (Sp.drvE pl.xs sh.xs ti.xs st.xs ce Zg (Zba rt i).lst = 0)) (Vif (!decide (Sp.dvT pl.xs sh.xs ti.xs st.xs ce Zg (Zba rt i).lst = ce)) (K (0+1) [.i i, .i (9 : Int), .ro _ pl, .ro _ sh, .ro _ ti, .ro Zb st, .i ce, .l dr]) (Zbb rt n i pl sh ti st ce dr A K)) (Zbb rt n i pl sh ti st ce dr A K))))))) (K 0 [.ro _ pl, .ro _ sh, .ro _ ti, .ro Zb st, .i ce, .l dr])
theorem Xpb (W : InW) (rt n i pl sh ti st ce dr A K) : Ye9 { cxT Try.prog TT T42 1000 50 with fn := 89 } 1000 (Ynd Try.prog 89 3) (Yd0 23 [(1, .fn (.func 90) [] [.ptr 1 0, .ptr 4 0]), (8, .rs _ rt), (9, .si .i64 n), (10, .si .i64 i)] (rg 4 4 ++ rg 11 12)) [(1, .blk 29 [.rs _ pl, .rs _ sh, .rs _ ti, .rs _ st, .si .i64 ce, .opq 1051, .opq 1054]), (4, .blk 100 [.ptr 7 0]), (7, .blk 111 [.opq 1021, .opq 1024, .opq 1027, .opq 1030, .opq 1033, .opq 1036, .opq 1039, .rw 6]), (6, .arr 125 Jc dr)] (Yte Xiw A K) = Xg8 rt n i pl sh ti st ce dr A K := by kernel_rfl
def Xih : Prop := ∀ (W : InW) (body a : Code), (Try.prog.funcs[89]?).bind (·.body) = some body -> a ∈ Yu body -> Yfs a = 3 -> @Yl2 W Try.prog a (@Ysl W Xiw)
theorem Xqg (meas : [InW] -> List Ed -> Nat) (hyp_ : ∀ (W : InW) rt n i pl sh ti st ce dr K, Xhq [.ro _ rt, .i n, .i i, .ro _ pl, .ro _ sh, .ro _ ti, .ro _ st, .i ce, .l dr] K -> ∀ A : List Ed -> Prop, (∀ e, meas e < meas [.ro _ rt, .i n, .i i, .ro _ pl, .ro _ sh, .ro _ ti, .ro _ st, .i ce, .l dr] -> Xhq e K -> A e) -> Xg8 rt n i pl sh ti st ce dr A K) : Xih :=
 LE.okOf' (fun W => @TT W) (fun W => @Xb W) Xa T42 1000 50 (by kernel_rfl) Xiw (fun W => @meas W) fun W rt n i pl sh ti st ce dr K hs =>
  (Xpb W rt n i pl sh ti st ce dr (fun e => meas e < meas [.ro _ rt, .i n, .i i, .ro _ pl, .ro _ sh, .ro _ ti, .ro _ st, .i ce, .l dr] /\ Xhq e K) K).mpr (hyp_ W rt n i pl sh ti st ce dr K hs _ fun e h1 h2 => ⟨h1, h2⟩)
theorem Xln (rt : Dt) (n : Nat) : Sp.drvN rt (n + 1) = Sp.drvN rt n ++ [(List.range 40).map fun s => Cl.i (Sp.tms rt n s)] := by
 unfold Sp.drvN;rw [show List.range (n + 1) = List.range n ++ [n] from List.range_succ, List.map_append];rfl
theorem Xsw : Xih := Xqg (fun e => match e with | .ro _ rt :: _ :: .i i :: _ => ((rt.xs.length : Int) - i).toNat | _ => 0) fun W rt n i pl sh ti st ce dr K hs A hA => by
 obtain ⟨⟨rfl, hO⟩, hk⟩ := hs;unfold Xg8;delta Zbb Zz Zbc Zba Zb Zg Zbd;have hm := rt.len;simp only [maxLen] at hm;have h0 := hO.i0;have h1 := hO.i1;have hrl := hO.rl;have htw := Sp.tchk_ok hO.te;refine vifd (fun e => ?_) fun e => ?_
 ·rw [show rt.xs.length - i.toNat = (rt.xs.length - (i.toNat + 1)) + 1 by omega] at hk;obtain ⟨g1, g2⟩ := Xfj (K1 := fun j e => K 1 [.i j, .i e, .ro _ pl, .ro _ sh, .ro _ ti, .ro _ st, .i ce, .l (Sp.drvN rt.xs j)]) hk;rw [Int.toNat_of_nonneg h0] at g1;have ez : (i + 1).toNat = i.toNat + 1 := by omega
  have hA' : Sp.rtErr st.xs rt.xs ce i.toNat = 0 -> A [.ro _ rt, .i rt.xs.length, .i (i + 1), .ro _ pl, .ro _ sh, .ro _ ti, .ro _ st, .i ce, .l (Sp.drvN rt.xs (i.toNat + 1))] := fun f => hA _ (by show ((rt.xs.length : Int) - (i + 1)).toNat < ((rt.xs.length : Int) - i).toNat; omega) ⟨⟨rfl, ⟨by omega, by omega, hrl, hO.nm, hO.te, hO.ce, by rw [ez]⟩⟩, by rw [ez]; exact g2 f⟩;clear g2 hk hA;have hdr := hO.dr;rw [Xln, <- hdr] at hA';rw [<- hdr] at g1;have eT : ∀ s, Sp.tms rt.xs i.toNat s = Sp.cnt (cel rt.xs i.toNat 0).lst s 0 (cel rt.xs i.toNat 0).lst.length 0 := fun s => rfl;have hE : Sp.rtErr st.xs rt.xs ce i.toNat = Sp.routeE st.xs (cel rt.xs i.toNat 0).lst ce := rfl;have hti := htw.tiL;have hsl := htw.stL;have hD : Sp.drvE pl.xs sh.xs ti.xs st.xs ce 0 (cel rt.xs i.toNat 0).lst = Sp.stepsE st.xs (cel rt.xs i.toNat 0).lst ce := by
   unfold Sp.drvE;rw [if_pos hO.te, hO.ce, if_pos (by simp only [Bool.true_and]; exact Sp.inr_iff.2 ⟨by omega, by omega⟩)]
  have hT : Sp.stepsE st.xs (cel rt.xs i.toNat 0).lst ce = 0 -> Sp.dvT pl.xs sh.xs ti.xs st.xs ce 0 (cel rt.xs i.toNat 0).lst = Sp.stepsT st.xs (cel rt.xs i.toNat 0).lst ce := fun e => by
   unfold Sp.dvT;rw [if_pos (by rw [hD]; exact e)]
  have hdl : dr.length = i.toNat := by rw [hdr]; unfold Sp.drvN; simp
  simp only [Nat.zero_add, Nat.reduceAdd, out1, hD];unfold Sp.routeE at hE;refine ned (by simp; omega) (nedd (by omega) ⟨trivial, vifb (fun e1 => ?_) fun e1 => ⟨hO.nm, vifd (fun e2 => vifn (fun e3 => ?_) fun e3 => vifn (fun e4 => absurd e2 e4) fun e4 => ⟨⟨trivial, ?_⟩, nedd ?_ ?_⟩) fun e2 => vifn (fun e4 => vifn (fun _ => ?_) fun e5 => absurd e5 e2) fun e4 => absurd e4 e2⟩⟩)
  ·rw [if_neg (by simp [e1])] at hE;rw [hE] at g1;exact g1 (by decide)
  ·rw [if_pos e1, if_pos e2, if_neg (by rw [<- hT e2]; exact e3)] at hE;rw [hE] at g1;exact g1 (by decide)
  ·have e1' := Sp.inr_iff.1 e1;have hs := (Sp.steps_street e2).2;exact ⟨by omega, by omega, by omega, fun k hk => by have := hs k hk; omega, rfl⟩
  ·simp only [List.length_cons, List.length_nil];omega
  ·rw [if_pos e1, if_pos e2, if_pos (by rw [<- hT e2]; exact e3)] at hE;have := hA' hE;refine ar64 (by omega) ?_;exact this
  ·rw [if_pos e1, if_neg e2] at hE;rw [hE] at g1;exact g1 e2
 ·rw [show rt.xs.length - i.toNat = 0 by omega] at hk;have hl : i.toNat = rt.xs.length := by omega
  have := hk.2 rfl;rw [<- hl, <- hO.dr] at this;exact this
noncomputable def Xtg : LE Try.prog := ⟨89, 3, fun W => @Ysl W Xiw, Xsw⟩
noncomputable def T43 : Tab Try.prog := ⟨[Xk, Xfu], [Xti, Xtg], []⟩
def Xj7 [InW] (e : List Ed) (K : Nat -> List Ed -> Prop) : Prop := match e with
 | [.ro _ pl, .ro _ sh, .ro _ ti, .ro _ st, .i ce, .ro _ hd, .ro _ rt] => Pre (Sp.NamesOk pl.xs /\ Sp.NamesOk sh.xs /\ Sp.NamesOk ti.xs) (Vif (decide (Sp.cE pl.xs sh.xs ti.xs st.xs ce hd.xs rt.xs = 0))
   (K 1 [.ro _ pl, .ro _ sh, .ro _ ti, .ro _ st, .i ce, .ro _ hd, .ro _ rt, .l (Sp.drvN rt.xs rt.xs.length)])
   (K 0 [.i (Sp.cP pl.xs sh.xs ti.xs st.xs ce hd.xs rt.xs), .i (Sp.cI pl.xs sh.xs ti.xs st.xs ce hd.xs rt.xs), .i (Sp.cE pl.xs sh.xs ti.xs st.xs ce hd.xs rt.xs)]))
 | _ => False
noncomputable def Xp : CC where
 g := 71
 args := [.agg [.rs Jb, .rs Jb, .rs Jb, .rs Jd, .int .i64, .rs Iv4, .rs Je]]
 H := []
 outs := [⟨false, .tup [(.lit (.pointer none)), .int .i64, .int .i64, .int .i64], [], false⟩, ⟨false, .tup [(.ptr 6 0), (.lit (.int .i64 0)), (.lit (.int .i64 0)), (.lit (.int .i64 0))], [(6, .blk 111 [.rs Jb, .rs Jb, .rs Jb, .rs Jd, .int .i64, .rs Iv4, .rs Je, (.row 12)]), (12, .arr 125 Jc)], false⟩]
 spec := Xj7
def Zbf [W : InW] (hd : Ro Iv4) := Sp.idxE (Sp.hdErr hd.xs) Zu (hd.xs.length - Int.toNat Zg)
def Zbe [W : InW] (pl sh ti : Ro Jb) (st : Ro Jd) (ce : Int) (hd : Ro Iv4) (rt : Ro Je) (K : Nat -> List Ed -> Prop) := Pre ((↑(rt.xs.length) : Int) = (↑(rt.xs.length) : Int) /\ Sp.OpOk pl.xs sh.xs ti.xs st.xs ce rt.xs Zg []) (Vif (Sp.hasE (Sp.rtErr st.xs rt.xs ce) Zu (rt.xs.length - Int.toNat Zg)) (Vif (!decide (Sp.rtErr st.xs rt.xs ce (Sp.idxE (Sp.rtErr st.xs rt.xs ce) Zu (rt.xs.length - Int.toNat Zg)) = 0)) (K 0 [.i (3 : Int), .i (↑(Sp.idxE (Sp.rtErr st.xs rt.xs ce) Zu (rt.xs.length - Int.toNat Zg)) : Int), .i (Sp.rtErr st.xs rt.xs ce (Sp.idxE (Sp.rtErr st.xs rt.xs ce) Zu (rt.xs.length - Int.toNat Zg)))]) (K (0+1) [.ro _ pl, .ro _ sh, .ro _ ti, .ro Zb st, .i ce, .ro _ hd, .ro [Ty.sl [Ty.int IntKind.i64, Ty.bool]] rt, .l (Sp.drvN rt.xs (Sp.idxE (Sp.rtErr st.xs rt.xs ce) Zu (rt.xs.length - Int.toNat Zg)))])) (K (0+1) [.ro _ pl, .ro _ sh, .ro _ ti, .ro Zb st, .i ce, .ro _ hd, .ro [Ty.sl [Ty.int IntKind.i64, Ty.bool]] rt, .l (Sp.drvN rt.xs (rt.xs.length))]))
def Xfh [W : InW] (pl sh ti : Ro Jb) (st : Ro Jd) (ce : Int) (hd : Ro Iv4) (rt : Ro Je) (K : Nat -> List Ed -> Prop) : Prop :=
 Pre (Sp.NamesOk pl.xs /\ Sp.NamesOk sh.xs /\ Sp.NamesOk ti.xs) (Vif (!decide (Sp.tchkE pl.xs sh.xs ti.xs st.xs = 0)) (K 0 [.i (1 : Int), .i Zg, .i (Sp.tchkE pl.xs sh.xs ti.xs st.xs)]) (Ar .i64 ((↑(pl.xs.length) : Int) - 1) fun z => Pre True (Vif (Sp.out Zg z [[Cl.i ce]]) (K 0 [.i (1 : Int), .i Zg, .i (4 : Int)]) (Vif (!decide ((↑(hd.xs.length) : Int) = (↑(st.xs.length) : Int))) (K 0 [.i (1 : Int), .i Zg, .i (3 : Int)]) (Vif (decide ((10 : Int) < (↑(rt.xs.length) : Int))) (K 0 [.i (1 : Int), .i Zg, .i (3 : Int)]) (Pre ((↑(hd.xs.length) : Int) = (↑(hd.xs.length) : Int) /\ Zg <= 0 /\ Zg <= (↑(hd.xs.length) : Int)) (Vif (Sp.hasE (Sp.hdErr hd.xs) Zu (hd.xs.length - Int.toNat Zg)) (Vif (!decide (Sp.hdErr hd.xs (Zbf hd) = 0)) (K 0 [.i (2 : Int), .i (↑(Zbf hd) : Int), .i (Sp.hdErr hd.xs (Zbf hd))]) (Zbe pl sh ti st ce hd rt K)) (Zbe pl sh ti st ce hd rt K))))))))
theorem Xmg (W : InW) (pl sh ti st ce hd rt K) : Yvf (cxT Try.prog TT T43 1000 50) 1000 71 [.agg [.rs _ pl, .rs _ sh, .rs _ ti, .rs _ st, .si .i64 ce, .rs _ hd, .rs _ rt]] [] (fun v h => outC Xp.H [] Xp.outs 0 false v h K) (fun v h => outC Xp.H [] Xp.outs 0 true v h K) = Xfh pl sh ti st ce hd rt K := by kernel_rfl
theorem Xnv (hyp_ : ∀ (W : InW) pl sh ti st ce hd rt K, Xj7 [.ro _ pl, .ro _ sh, .ro _ ti, .ro _ st, .i ce, .ro _ hd, .ro _ rt] K -> Xfh pl sh ti st ce hd rt K) : ∀ W : InW, @CallC W Try.prog Xp :=
 CC.okOf (fun W => @TT W) (fun W => @Xb W) Xa T43 1000 50 Xp fun W pl sh ti st ce hd rt K hs => (Xmg W pl sh ti st ce hd rt K).mpr (hyp_ W pl sh ti st ce hd rt K hs)
theorem Xre : ∀ W : InW, @CallC W Try.prog Xp := Xnv fun W pl sh ti st ce hd rt K hs => by
 obtain ⟨hp, hk⟩ := hs;unfold Xfh;delta Zbe Zbf Zu Zb Zg;have hpl := pl.len;simp only [maxLen] at hpl;have i1 := fun e => (Sp.hasE_ix (f := Sp.hdErr hd.xs) (n := hd.xs.length) (i := 0) e).2.2;have i2 := fun e => (Sp.hasE_ix (f := Sp.rtErr st.xs rt.xs ce) (n := rt.xs.length) (i := 0) e).2.2;have hop : Sp.tchkE pl.xs sh.xs ti.xs st.xs = 0 -> Sp.inr ce 0 ((pl.xs.length : Int) - 1) = true -> ¬ 10 < (rt.xs.length : Int) -> Sp.OpOk pl.xs sh.xs ti.xs st.xs ce rt.xs 0 [] := fun e1 e2 e3 => ⟨by omega, by omega, by omega, hp, e1, e2, rfl⟩;obtain ⟨q0, q1, q2, q3, q4, q5⟩ := Xi7 (pl := pl.xs) (sh := sh.xs) (ti := ti.xs) (st := st.xs) (ce := ce) (hd := hd.xs) (rt := rt.xs) (Q := fun r => Vif (decide (r.2.2 = 0)) (K 1 [.ro _ pl, .ro _ sh, .ro _ ti, .ro _ st, .i ce, .ro _ hd, .ro _ rt, .l (Sp.drvN rt.xs rt.xs.length)]) (K 0 [.i r.1, .i r.2.1, .i r.2.2])) hk;clear hk;simp only [show Int.toNat 0 = 0 from rfl, Nat.sub_zero, out1]
 repeat' (first | (refine ⟨⟨trivial, hop (by assumption) (by assumption) (by assumption)⟩, ?_⟩) | (refine ⟨⟨rfl, hop (by assumption) (by assumption) (by assumption)⟩, ?_⟩) | omega | with_reducible refine vifd (fun _ => ?_) fun _ => ?_ | with_reducible refine vifn (fun _ => ?_) fun _ => ?_ | with_reducible refine vifq (fun _ => ?_) fun _ => ?_ | with_reducible refine vifq0 (fun _ => ?_) fun _ => ?_ | with_reducible refine vifq1 (fun _ => ?_) fun _ => ?_ | with_reducible refine vifb (fun _ => ?_) fun _ => ?_ | with_reducible refine vif (fun _ => ?_) fun _ => ?_ | (with_reducible refine nedd ?_ ?_; omega) | (with_reducible refine ned ?_ ?_; simp only [Bool.and_eq_true, decide_eq_true_eq]; omega) | (with_reducible refine ar64 ?_ ?_; omega) | (with_reducible refine Xd ?_ ?_; (first | trivial | omega | assumption | (refine ⟨?_, ?_⟩ <;> first | trivial | omega | assumption) | (refine ⟨?_, ?_, ?_⟩ <;> first | trivial | omega | assumption) | (refine ⟨?_, ?_, ?_, ?_⟩ <;> first | trivial | omega | assumption))))
 all_goals first | contradiction | exact absurd (by assumption) (i1 (by assumption)) | exact absurd (by assumption) (i2 (by assumption)) | exact (q0 (by assumption)).2 (decide_eq_false (by assumption)) | exact (q1 (by assumption) (by assumption)).2 rfl | exact (q2 (by assumption) (by assumption) (.inl (by assumption))).2 rfl | exact (q2 (by assumption) (by assumption) (.inr (by assumption))).2 rfl | exact (q3 (by assumption) (by assumption) (by assumption) (by assumption) (by assumption)).2 (decide_eq_false (i1 (by assumption))) | exact (q4 (by assumption) (by assumption) (by assumption) (by assumption) (by assumption) (by assumption)).2 (decide_eq_false (i2 (by assumption))) | exact (q5 (by assumption) (by assumption) (by assumption) (by assumption) (by assumption) (by assumption)).1 rfl | skip
noncomputable def Xbf := ceOf Xp Xre
namespace Sp
def sumT (hd rt : Dt) (a : Nat) (tr : Dt) : Int := sumF (fun s => tms rt a s * atH hd s (cel tr s 0).int) 0 hd.length 0
structure TrOk (hd tr : Dt) : Prop where
 len : tr.length = hd.length
 each : ∀ s, s < hd.length -> hLo hd s <= (cel tr s 0).int /\ (cel tr s 0).int <= hHi hd s
def trB (hd tr : Dt) (s : Nat) : Int := if inr (cel tr s 0).int (hLo hd s) (hHi hd s) then 0 else 7
def trErr (hd tr : Dt) : Int := if (tr.length : Int) = hd.length then (if hasE (trB hd tr) 0 tr.length then 7 else 0) else 3
theorem sum_dif (hd rt : Dt) (a b : Nat) (tr : Dt) : sumT hd rt a tr - sumT hd rt b tr = sumF (fun s => dif rt a b s * atH hd s (cel tr s 0).int) 0 hd.length 0 := by
 unfold sumT;rw [sumF_sub];refine sumF_congr fun k _ _ => ?_;unfold dif;rw [Int.sub_mul]
theorem cel_gen {f : Nat -> Int} {n s : Nat} (h : s < n) : cel ((List.range n).map fun s => [Cl.i (f s)]) s 0 = Cl.i (f s) := by
 unfold cel;rw [List.getD_eq_getElem?_getD, List.getD_eq_getElem?_getD, List.getElem?_map, List.getElem?_range h];rfl
theorem sum_le (hd rt : Dt) (a b : Nat) : sumT hd rt a (apLe hd rt a b hd.length) - sumT hd rt b (apLe hd rt a b hd.length) = apLo hd rt a b := by
 rw [sum_dif];unfold apLo apLe;exact sumF_congr fun k _ hk => by rw [cel_gen (by omega)]; rfl
theorem sum_gr (hd rt : Dt) (a b : Nat) : sumT hd rt a (apGr hd rt a b hd.length) - sumT hd rt b (apGr hd rt a b hd.length) = apHi hd rt a b := by
 rw [sum_dif];unfold apHi apGr;exact sumF_congr fun k _ hk => by rw [cel_gen (by omega)]; rfl
theorem leT_in {hd : Dt} {n : Int} {s : Nat} (h : HdOk hd s) : hLo hd s <= leT hd n s /\ leT hd n s <= hHi hd s := by
 have := h.le;unfold leT
 repeat' split
 all_goals omega
theorem grT_in {hd : Dt} {n : Int} {s : Nat} (h : HdOk hd s) : hLo hd s <= grT hd n s /\ grT hd n s <= hHi hd s := by
 have := h.le;unfold grT
 repeat' split
 all_goals omega
theorem le_tr {hd rt : Dt} {a b : Nat} (h : ∀ i, i < hd.length -> HdOk hd i) : TrOk hd (apLe hd rt a b hd.length) := ⟨by unfold apLe; simp, fun s hs => by unfold apLe; rw [cel_gen hs]; exact leT_in (h s hs)⟩
theorem gr_tr {hd rt : Dt} {a b : Nat} (h : ∀ i, i < hd.length -> HdOk hd i) : TrOk hd (apGr hd rt a b hd.length) := ⟨by unfold apGr; simp, fun s hs => by unfold apGr; rw [cel_gen hs]; exact grT_in (h s hs)⟩
theorem far_in {hd rt tr : Dt} {a b : Nat} (h : ∀ i, i < hd.length -> HdOk hd i) (ht : TrOk hd tr) : apLo hd rt a b <= sumT hd rt a tr - sumT hd rt b tr /\ sumT hd rt a tr - sumT hd rt b tr <= apHi hd rt a b := by
 rw [sum_dif];unfold apLo apHi;refine ⟨sumF_le (fun k _ hk => ?_) (Int.le_refl _), sumF_le (fun k _ hk => ?_) (Int.le_refl _)⟩
 ·exact (ap_in (h k (by omega)).pe.1 (ht.each k (by omega)).1 (ht.each k (by omega)).2).1
 ·exact (ap_in (h k (by omega)).pe.1 (ht.each k (by omega)).1 (ht.each k (by omega)).2).2
def far (hd rt : Dt) (a b : Nat) (tr : Dt) : Int := max (sumT hd rt a tr - sumT hd rt b tr) (-(sumT hd rt a tr - sumT hd rt b tr))
def haLo (hd rt : Dt) (a : Nat) : Int := sumF (fun s => tms rt a s * atH hd s (hLo hd s)) 0 hd.length 0
def haHi (hd rt : Dt) (a : Nat) : Int := sumF (fun s => tms rt a s * atH hd s (hHi hd s)) 0 hd.length 0
end Sp
namespace Sp
def bound (hd rt l : Dt) : Int := bdF hd rt l 0 l.length 0
def pickR (p : Nat -> Bool) (hd rt : Dt) (dm many : Int) : Dt × Int := refF p hd rt dm many 1 (2 ^ rt.length - 1) ([], 0)
theorem meets_len {p : Nat -> Bool} {rt : Dt} {ns : Nat} {dm many : Int} {l : Dt} (h : meets p rt ns dm many l = true) : (l.length : Int) = many := by
 unfold meets at h;rw [Bool.and_eq_true, decide_eq_true_eq] at h;exact h.1
theorem pick_facts (p : Nat -> Bool) (hd rt : Dt) (dm many : Int) (hm : 1 <= many) :
  (pickR p hd rt dm many = ([], 0) /\ ∀ l, Asc rt.length l -> meets p rt hd.length dm many l = false) \/
  ((pickR p hd rt dm many).1 ≠ [] /\ Asc rt.length (pickR p hd rt dm many).1 /\ meets p rt hd.length dm many (pickR p hd rt dm many).1 = true /\ (pickR p hd rt dm many).2 = bound hd rt (pickR p hd rt dm many).1 /\
   ∀ l, Asc rt.length l -> meets p rt hd.length dm many l = true -> (pickR p hd rt dm many).2 <= bound hd rt l) := by
 have hne : ∀ y ∈ lsts p hd rt dm many 1 (2 ^ rt.length - 1), y.1 ≠ [] /\ ((y.1.length : Int) = many /\ Asc rt.length y.1) := fun y hy => by
  obtain ⟨t, _, _, h3, rfl⟩ := mem_lsts.1 hy;have h4 := meets_len h3;exact ⟨fun g => by dsimp only at g; rw [g] at h4; simp at h4; omega, h4, ⟨lsF_sub _ _ _⟩⟩
 have hmem : ∀ l, Asc rt.length l -> meets p rt hd.length dm many l = true -> (l, bound hd rt l) ∈ lsts p hd rt dm many 1 (2 ^ rt.length - 1) := fun l ha hl => by
  have hn : l ≠ [] := fun g => by
   have h4 := meets_len hl;rw [g] at h4; simp at h4; omega
  obtain ⟨t, t1, t2, rfl⟩ := (lsF_mem hn).1 ha.sub;exact mem_lsts.2 ⟨t, t1, by omega, hl, rfl⟩
 have hall := Pk.foldR_all (key := keyR) (lxB := bfB) (Q := fun e => (e.length : Int) = many /\ Asc rt.length e) (fun x y hx hy => by
  have hl : x.length = y.length := by have := hx.1; have := hy.1; omega
  have := bf_lx (x := x) (y := y) x.length 0 (by omega) hl;simpa [bfB] using this) (fun x y hx hy => key_inj hx.2 hy.2 (by have := hx.1; have := hy.1; omega)) 0 hne
 rw [<- refF_eq] at hall
 change (_ /\ pickR p hd rt dm many = _) \/ Pk.Least keyR _ (pickR p hd rt dm many) at hall
 rcases hall with ⟨h1, h2⟩ | ⟨h1, h2⟩
 ·refine .inl ⟨h2, fun l ha => ?_⟩;cases hl : meets p rt hd.length dm many l with
  | false => rfl
  | true =>
   have := hmem l ha hl;rw [h1] at this;cases this
 ·refine .inr ⟨(hne _ h1).1, (hne _ h1).2.2, ?_, ?_, fun l ha hl => ?_⟩
  ·obtain ⟨t, _, _, h3, h4⟩ := mem_lsts.1 h1;rw [h4]; exact h3
  ·obtain ⟨t, _, _, h3, h4⟩ := mem_lsts.1 h1;rw [h4]; rfl
  ·have := h2 _ (hmem l ha hl);dsimp only at this;omega
theorem bk_le {hd rt l : Dt} {i : Nat} : ∀ (n k : Nat) (b : Int), b <= bkF hd rt l i k n b /\ ∀ j, k <= j -> j < k + n -> most hd rt (rI l j) (rI l i) <= bkF hd rt l i k n b
 | 0, k, b => ⟨Int.le_refl _, fun j h1 h2 => by omega⟩
 | n + 1, k, b => by
  obtain ⟨h1, h2⟩ := @bk_le hd rt l i n (k + 1) (max b (most hd rt (rI l k) (rI l i)));simp only [bkF];refine ⟨by omega, fun j h3 h4 => ?_⟩;rcases Nat.eq_or_lt_of_le h3 with e | e
  ·rw [<- e]; omega
  ·exact h2 j e (by omega)
theorem bd_le {hd rt l : Dt} : ∀ (n i : Nat) (b : Int), b <= bdF hd rt l i n b /\ ∀ j, i <= j -> j < i + n -> ∀ k, k < j -> most hd rt (rI l k) (rI l j) <= bdF hd rt l i n b
 | 0, i, b => ⟨Int.le_refl _, fun j h1 h2 => by omega⟩
 | n + 1, i, b => by
  obtain ⟨h1, h2⟩ := @bd_le hd rt l n (i + 1) (bkF hd rt l i 0 i b);obtain ⟨h3, h4⟩ := @bk_le hd rt l i i 0 b;simp only [bdF];refine ⟨by omega, fun j h5 h6 k hk => ?_⟩;rcases Nat.eq_or_lt_of_le h5 with e | e
  ·subst e;have := h4 k (by omega) (by omega);omega
  ·exact h2 j e (by omega) k hk
theorem bd_mono {hd hd' rt rt' l l' : Dt} : ∀ (n i : Nat) (b b' : Int), b <= b' -> (∀ j, i <= j -> j < i + n -> ∀ k, k < j -> most hd rt (rI l k) (rI l j) <= most hd' rt' (rI l' k) (rI l' j)) -> bdF hd rt l i n b <= bdF hd' rt' l' i n b'
 | 0, _, _, _, h, _ => h
 | n + 1, i, b, b', h, hm => by
  simp only [bdF];refine bd_mono n (i + 1) _ _ ?_ fun j h1 h2 k hk => hm j (by omega) (by omega) k hk;have gen : ∀ (n k : Nat) (b b' : Int), k + n = i -> b <= b' -> bkF hd rt l i k n b <= bkF hd' rt' l' i k n b' := fun n => by
   induction n with
   | zero => intro k b b' _ h; exact h
   | succ n ih =>
    intro k b b' hk h;simp only [bkF];refine ih (k + 1) _ _ (by omega) ?_;have := hm i (by omega) (by omega) k (by omega);omega
  exact gen i 0 b b' (by omega) h
end Sp
namespace Sp
theorem asc_of : ∀ {n i : Nat} {l : Dt}, (∀ r ∈ l, ∃ k : Nat, r = [Cl.i k] /\ i <= k /\ k < i + n) -> l.Pairwise (fun a b => keyR a < keyR b) -> l.Sublist (rwF i n)
 | 0, i, l, h, _ => by
  cases l with
  | nil => exact List.Sublist.slnil
  | cons a l => obtain ⟨k, _, h1, h2⟩ := h a (by simp); omega
 | n + 1, i, l, h, hp => by
  cases l with
  | nil => exact List.nil_sublist _
  | cons a l =>
   obtain ⟨k, rfl, h1, h2⟩ := h a (by simp);obtain ⟨p1, p2⟩ := List.pairwise_cons.1 hp;have hl : ∀ r ∈ l, ∃ j : Nat, r = [Cl.i j] /\ k < j /\ j < i + (n + 1) := fun r hr => by
    obtain ⟨j, rfl, h3, h4⟩ := h r (by simp [hr]);have : (k : Int) < j := p1 _ hr;exact ⟨j, rfl, by omega, h4⟩
   simp only [rwF];rcases Nat.eq_or_lt_of_le h1 with e | e
   ·subst e;exact (asc_of (fun r hr => by obtain ⟨j, g1, g2, g3⟩ := hl r hr; exact ⟨j, g1, by omega, by omega⟩) p2).cons_cons _
   ·refine (asc_of (fun r hr => ?_) hp).cons _;rcases List.mem_cons.1 hr with rfl | hr
    ·exact ⟨k, rfl, by omega, by omega⟩
    ·obtain ⟨j, g1, g2, g3⟩ := hl r hr;exact ⟨j, g1, by omega, by omega⟩
theorem mk_congr {rt rt' : Dt} {ns ns' : Nat} {dm : Int} {l l' : Dt} {i : Nat} : ∀ (n k : Nat), (∀ j, k <= j -> j < k + n -> (dfF rt' (rI l' j) (rI l' i) 0 ns').length = (dfF rt (rI l j) (rI l i) 0 ns).length /\ ((cel l' j 0).int = (cel l' i 0).int ↔ (cel l j 0).int = (cel l i 0).int)) -> mkF rt' ns' dm l' i k n = mkF rt ns dm l i k n
 | 0, _, _ => rfl
 | n + 1, k, h => by
  have h0 := h k (by omega) (by omega);simp only [mkF];rw [mk_congr n (k + 1) fun j h1 h2 => h j (by omega) (by omega), h0.1, show decide ((cel l' k 0).int = (cel l' i 0).int) = decide ((cel l k 0).int = (cel l i 0).int) from decide_eq_decide.2 h0.2]
theorem mt_congr {p p' : Nat -> Bool} {rt rt' : Dt} {ns ns' : Nat} {dm : Int} {l l' : Dt} : ∀ (n i : Nat), (∀ j, i <= j -> j < i + n -> p' (rI l' j) = p (rI l j) /\ ∀ k, k < j -> (dfF rt' (rI l' k) (rI l' j) 0 ns').length = (dfF rt (rI l k) (rI l j) 0 ns).length /\ ((cel l' k 0).int = (cel l' j 0).int ↔ (cel l k 0).int = (cel l j 0).int)) -> mtF p' rt' ns' dm l' i n = mtF p rt ns dm l i n
 | 0, _, _ => rfl
 | n + 1, i, h => by
  have h0 := h i (by omega) (by omega);simp only [mtF];rw [mt_congr n (i + 1) fun j h1 h2 => h j (by omega) (by omega), h0.1, mk_congr i 0 fun j _ hj => h0.2 j (by omega)]
theorem tms_same {rt rt' : Dt} {a a' : Nat} (h : rtL rt' a' = rtL rt a) (s : Nat) : tms rt' a' s = tms rt a s := by unfold tms; rw [h]
theorem df_same {rt rt' : Dt} {a a' b b' : Nat} (h : rtL rt' a' = rtL rt a) (h2 : rtL rt' b' = rtL rt b) : ∀ (n s : Nat), dfF rt' a' b' s n = dfF rt a b s n
 | 0, _ => rfl
 | n + 1, s => by
  simp only [dfF];rw [df_same h h2 n (s + 1), tms_same h, tms_same h2]
theorem ap_same {hd rt rt' : Dt} {a a' b b' : Nat} (h : rtL rt' a' = rtL rt a) (h2 : rtL rt' b' = rtL rt b) : apLo hd rt' a' b' = apLo hd rt a b /\ apHi hd rt' a' b' = apHi hd rt a b := by
 have e : ∀ s, dif rt' a' b' s = dif rt a b s := fun s => by unfold dif; rw [tms_same h, tms_same h2]
 unfold apLo apHi;exact ⟨sumF_congr fun k _ _ => by rw [e], sumF_congr fun k _ _ => by rw [e]⟩
theorem most_same {hd rt rt' : Dt} {a a' b b' : Nat} (h : rtL rt' a' = rtL rt a) (h2 : rtL rt' b' = rtL rt b) : most hd rt' a' b' = most hd rt a b := by
 unfold most;rw [(ap_same h h2).1, (ap_same h h2).2]
structure Wider (hd hd' : Dt) : Prop where
 len : hd'.length = hd.length
 ba : ∀ s, s < hd.length -> hBa hd' s = hBa hd s
 pe : ∀ s, s < hd.length -> hPe hd' s = hPe hd s
 lo : ∀ s, s < hd.length -> hLo hd' s <= hLo hd s
 hi : ∀ s, s < hd.length -> hHi hd s <= hHi hd' s
theorem Wider.tr {hd hd' tr : Dt} (h : Wider hd hd') (ht : TrOk hd tr) : TrOk hd' tr := ⟨by rw [ht.len, h.len], fun s hs => by
 rw [h.len] at hs;have := ht.each s hs;have := h.lo s hs;have := h.hi s hs;omega⟩
theorem Wider.sum {hd hd' : Dt} (h : Wider hd hd') (rt : Dt) (a : Nat) (tr : Dt) : sumT hd' rt a tr = sumT hd rt a tr := by
 unfold sumT;rw [h.len];refine sumF_congr fun k _ hk => ?_;unfold atH;rw [h.ba k (by omega), h.pe k (by omega)]
theorem Wider.ap {hd hd' : Dt} (h : Wider hd hd') (h1 : ∀ i, i < hd.length -> HdOk hd i) (h2 : ∀ i, i < hd'.length -> HdOk hd' i) (rt : Dt) (a b : Nat) : apLo hd' rt a b <= apLo hd rt a b /\ apHi hd rt a b <= apHi hd' rt a b := by
 have g1 := far_in (rt := rt) (a := a) (b := b) h2 (h.tr (le_tr (rt := rt) (a := a) (b := b) h1));have g2 := far_in (rt := rt) (a := a) (b := b) h2 (h.tr (gr_tr (rt := rt) (a := a) (b := b) h1));rw [h.sum, h.sum] at g1 g2;rw [sum_le] at g1;rw [sum_gr] at g2;omega
theorem Wider.most {hd hd' : Dt} (h : Wider hd hd') (h1 : ∀ i, i < hd.length -> HdOk hd i) (h2 : ∀ i, i < hd'.length -> HdOk hd' i) (rt : Dt) (a b : Nat) : most hd rt a b <= most hd' rt a b := by
 have := h.ap h1 h2 rt a b;unfold Sp.most; omega
theorem Wider.ha {hd hd' : Dt} (h : Wider hd hd') (h1 : ∀ i, i < hd.length -> HdOk hd i) (rt : Dt) (a : Nat) : haLo hd' rt a <= haLo hd rt a /\ haHi hd rt a <= haHi hd' rt a := by
 unfold haLo haHi;rw [h.len];refine ⟨sumF_le (fun k _ hk => ?_) (Int.le_refl _), sumF_le (fun k _ hk => ?_) (Int.le_refl _)⟩
 ·unfold atH;rw [h.ba k (by omega), h.pe k (by omega)];exact mul_up (tms_in rt a k).1 (h1 k (by omega)).pe.1 (h.lo k (by omega))
 ·unfold atH;rw [h.ba k (by omega), h.pe k (by omega)];exact mul_up (tms_in rt a k).1 (h1 k (by omega)).pe.1 (h.hi k (by omega))
theorem Wider.pick {hd hd' : Dt} (h : Wider hd hd') (h1 : ∀ i, i < hd.length -> HdOk hd i) (h2 : ∀ i, i < hd'.length -> HdOk hd' i) {p : Nat -> Bool} {rt : Dt} {dm many : Int} (hm : 1 <= many) (hp : (pickR p hd rt dm many).1 ≠ []) :
  (pickR p hd' rt dm many).1 ≠ [] /\ (pickR p hd rt dm many).2 <= (pickR p hd' rt dm many).2 := by
 rcases pick_facts p hd rt dm many hm with ⟨f, _⟩ | ⟨_, f2, f3, f4, f5⟩
 ·rw [f] at hp; exact absurd rfl hp
 rcases pick_facts p hd' rt dm many hm with ⟨g1, g2⟩ | ⟨g1, g2, g3, g4, g5⟩
 ·have := g2 _ f2;rw [h.len, f3] at this;cases this
 ·refine ⟨g1, ?_⟩;rw [h.len] at g3;have := f5 _ g2 g3;have h3 : bound hd rt (pickR p hd' rt dm many).1 <= bound hd' rt (pickR p hd' rt dm many).1 := bd_mono _ _ _ _ (Int.le_refl _) fun j _ _ k _ => h.most h1 h2 rt _ _;omega
theorem pick_fewer {hd rt : Dt} {p : Nat -> Bool} {dm many : Int} (hm : 2 <= many) (hp : (pickR p hd rt dm many).1 ≠ []) :
  (pickR p hd rt dm (many - 1)).1 ≠ [] /\ (pickR p hd rt dm (many - 1)).2 <= (pickR p hd rt dm many).2 := by
 rcases pick_facts p hd rt dm many (by omega) with ⟨f, _⟩ | ⟨_, f2, f3, f4, f5⟩
 ·rw [f] at hp; exact absurd rfl hp
 have hl := meets_len f3;revert f2 f3 f4 hl;generalize (pickR p hd rt dm many).1 = l;intro f2 f3 f4 hl;have hr : ∀ k, k < l.length - 1 -> cel (l.take (l.length - 1)) k 0 = cel l k 0 := fun k hk => by
  unfold cel;rw [show (l.take (l.length - 1)).getD k [] = l.getD k [] by rw [List.getD_eq_getElem?_getD, List.getD_eq_getElem?_getD, List.getElem?_take, if_pos hk]]
 have hrI : ∀ k, k < l.length - 1 -> rI (l.take (l.length - 1)) k = rI l k := fun k hk => by unfold rI; rw [hr k hk]
 have ha : Asc rt.length (l.take (l.length - 1)) := ⟨(List.take_sublist _ _).trans f2.sub⟩;have hlen : (l.take (l.length - 1)).length = l.length - 1 := by simp
 have hmt : ∀ n i, i + n <= l.length -> mtF p rt hd.length dm l i n = true -> ∀ m, m <= n -> mtF p rt hd.length dm l i m = true := fun n => by
  induction n with
  | zero => intro i _ h m hm; rw [show m = 0 by omega]; rfl
  | succ n ih =>
   intro i h0 h m hm;cases m with
   | zero => rfl
   | succ m =>
    simp only [mtF, Bool.and_eq_true] at h ⊢;exact ⟨h.1, h.2.1, ih (i + 1) (by omega) h.2.2 m (by omega)⟩
 have hmeet : meets p rt hd.length dm (many - 1) (l.take (l.length - 1)) = true := by
  unfold meets at f3 ⊢;rw [Bool.and_eq_true, decide_eq_true_eq] at f3 ⊢;rw [hlen];refine ⟨by omega, ?_⟩;rw [mt_congr (p := p) (rt := rt) (ns := hd.length) (l := l) (l.length - 1) 0 fun j _ hj => ⟨by rw [hrI j (by omega)], fun k hk => by rw [hrI j (by omega), hrI k (by omega), hr j (by omega), hr k (by omega)]; exact ⟨rfl, Iff.rfl⟩⟩];exact hmt l.length 0 (by omega) f3.2 _ (by omega)
 rcases pick_facts p hd rt dm (many - 1) (by omega) with ⟨g1, g2⟩ | ⟨g1, g2, g3, g4, g5⟩
 ·rw [g2 _ ha] at hmeet; cases hmeet
 ·refine ⟨g1, ?_⟩;have h1 := g5 _ ha hmeet;have h2 : bound hd rt (l.take (l.length - 1)) <= bound hd rt l := by
   unfold bound;rw [hlen];have hcut : ∀ n i b m, m <= n -> bdF hd rt l i m b <= bdF hd rt l i n b := fun n => by
    induction n with
    | zero => intro i b m hm; rw [show m = 0 by omega]; exact Int.le_refl _
    | succ n ih =>
     intro i b m hm;cases m with
     | zero => exact (bd_le (n + 1) i b).1
     | succ m => simp only [bdF]; exact ih (i + 1) _ m (by omega)
   refine Int.le_trans (bd_mono _ _ _ _ (Int.le_refl _) fun j _ hj k hk => ?_) (hcut l.length 0 0 (l.length - 1) (by omega));rw [hrI j (by omega), hrI k (by omega)];exact Int.le_refl _
  rw [f4];omega
theorem pick_one {hd rt : Dt} {p : Nat -> Bool} {dm : Int} : (pickR p hd rt dm 1).2 = 0 := by
 rcases pick_facts p hd rt dm 1 (by omega) with ⟨f, _⟩ | ⟨_, f2, f3, f4, f5⟩
 ·rw [f]
 ·have := meets_len f3;rw [f4];unfold bound;rw [show (pickR p hd rt dm 1).1.length = 1 by omega];rfl
def cut (rt : Dt) (r : Nat) : Dt := rt.take r ++ rt.drop (r + 1)
def shK (r k : Nat) : Nat := if k < r then k else k + 1
theorem cut_len {rt : Dt} {r : Nat} (h : r < rt.length) : (cut rt r).length = rt.length - 1 := by unfold cut; simp; omega
theorem cut_row {rt : Dt} {r k : Nat} (h : r < rt.length) : rtL (cut rt r) k = rtL rt (shK r k) := by
 unfold rtL cel cut shK;rw [show (rt.take r ++ rt.drop (r + 1)).getD k [] = rt.getD (if k < r then k else k + 1) [] from ?_];rw [List.getD_eq_getElem?_getD, List.getD_eq_getElem?_getD]
 split
 ·rename_i hk;rw [List.getElem?_append_left (by simp; omega), List.getElem?_take, if_pos hk]
 ·rename_i hk;rw [List.getElem?_append_right (by simp; omega), List.getElem?_drop]
  congr 2
  simp;omega
def unc (r : Nat) (l : Dt) : Dt := l.map fun x => [Cl.i (shK r (keyR x).toNat : Nat)]
theorem unc_rI {r : Nat} {l : Dt} {k : Nat} (h : k < l.length) : rI (unc r l) k = shK r (rI l k) := by
 unfold rI;rw [cel_at (by unfold unc; simpa using h), cel_at h];unfold unc;rw [List.getElem_map];simp [keyR]
theorem unc_asc {n r : Nat} {l : Dt} (hr : r < n) (h : Asc (n - 1) l) : Asc n (unc r l) := by
 refine ⟨asc_of (fun x hx => ?_) ?_⟩
 ·obtain ⟨y, hy, rfl⟩ := List.mem_map.1 hx;obtain ⟨k, rfl, hk⟩ := h.row hy;refine ⟨_, rfl, by omega, ?_⟩;simp only [keyR, List.getD_cons_zero, Cl.int_i, Int.toNat_natCast, shK]
  split <;> omega
 ·unfold unc;rw [List.pairwise_map];refine h.up.imp_of_mem fun {a b} ha hb hab => ?_;obtain ⟨j, rfl, _⟩ := h.row ha;obtain ⟨k, rfl, _⟩ := h.row hb;simp only [keyR, List.getD_cons_zero, Cl.int_i, Int.toNat_natCast, shK] at hab ⊢
  split <;> split <;> omega
theorem pick_less {hd rt : Dt} {p p' : Nat -> Bool} {dm many : Int} {r : Nat} (hr : r < rt.length) (hpp : ∀ k, p' k = p (shK r k)) (hm : 1 <= many) (hq : (pickR p' hd (cut rt r) dm many).1 ≠ []) :
  (pickR p hd rt dm many).1 ≠ [] /\ (pickR p hd rt dm many).2 <= (pickR p' hd (cut rt r) dm many).2 := by
 rcases pick_facts p' hd (cut rt r) dm many hm with ⟨f, _⟩ | ⟨_, f2, f3, f4, f5⟩
 ·rw [f] at hq; exact absurd rfl hq
 revert f2 f3 f4;generalize (pickR p' hd (cut rt r) dm many).1 = l;intro f2 f3 f4;rw [cut_len hr] at f2;have ha := unc_asc hr f2;have hl : (unc r l).length = l.length := by unfold unc; simp
 have hc : ∀ k, k < l.length -> (cel l k 0).int = rI l k := fun k hk => by
  obtain ⟨j, e, _⟩ := f2.row (List.getElem_mem hk);unfold rI;rw [cel_at hk, e]; simp
 have hc2 : ∀ k, k < l.length -> (cel (unc r l) k 0).int = rI (unc r l) k := fun k hk => by
  obtain ⟨j, e, _⟩ := ha.row (List.getElem_mem (show k < (unc r l).length by omega));unfold rI;rw [cel_at (by omega), e]; simp
 have hmeet : meets p rt hd.length dm many (unc r l) = true := by
  unfold meets at f3 ⊢;rw [hl];rw [Bool.and_eq_true] at f3 ⊢;refine ⟨f3.1, ?_⟩;rw [<- f3.2];refine mt_congr l.length 0 fun j _ hj => ⟨by rw [unc_rI (by omega), hpp], fun k hk => ?_⟩;rw [unc_rI (by omega), unc_rI (by omega)];refine ⟨by rw [df_same (cut_row hr).symm (cut_row hr).symm], ?_⟩;rw [hc k (by omega), hc j (by omega), hc2 k (by omega), hc2 j (by omega), unc_rI (by omega), unc_rI (by omega)];unfold shK
  split <;> split <;> omega
 rcases pick_facts p hd rt dm many hm with ⟨g1, g2⟩ | ⟨g1, g2, g3, g4, g5⟩
 ·rw [g2 _ ha] at hmeet; cases hmeet
 ·refine ⟨g1, ?_⟩;have h1 := g5 _ ha hmeet;have h2 : bound hd rt (unc r l) <= bound hd (cut rt r) l := by
   unfold bound;rw [hl];refine bd_mono _ _ _ _ (Int.le_refl _) fun j _ hj k hk => ?_;rw [unc_rI (by omega), unc_rI (by omega), most_same (cut_row hr) (cut_row hr)];exact Int.le_refl _
  omega
end Sp
namespace Sp
def hasK (hd rt l : Dt) (bd : Int) (i : Nat) : Nat -> Nat -> Bool
 | _, 0 => false
 | k, n + 1 => !decide (most hd rt (rI l i) (rI l k) <= bd) || hasK hd rt l bd i (k + 1) n
def ixK (hd rt l : Dt) (bd : Int) (i : Nat) : Nat -> Nat -> Nat
 | k, 0 => k
 | k, n + 1 => if most hd rt (rI l i) (rI l k) <= bd then ixK hd rt l bd i (k + 1) n else k
def hasD (hd rt l : Dt) (bd : Int) : Nat -> Nat -> Bool
 | _, 0 => false
 | i, n + 1 => hasK hd rt l bd i (i + 1) n || hasD hd rt l bd (i + 1) n
def ixD (hd rt l : Dt) (bd : Int) : Nat -> Nat -> Nat × Nat
 | i, 0 => (i, i)
 | i, n + 1 => if hasK hd rt l bd i (i + 1) n then (i, ixK hd rt l bd i (i + 1) n) else ixD hd rt l bd (i + 1) n
def worst (hd rt : Dt) (a b : Nat) : Dt := if apHi hd rt a b <= -apLo hd rt a b then apLe hd rt a b hd.length else apGr hd rt a b hd.length
def dbA (hd rt l : Dt) (bd : Int) : Int := if hasD hd rt l bd 0 l.length then (cel l (ixD hd rt l bd 0 l.length).1 0).int else -1
def dbB (hd rt l : Dt) (bd : Int) : Int := if hasD hd rt l bd 0 l.length then (cel l (ixD hd rt l bd 0 l.length).2 0).int else -1
def dbT (hd rt l : Dt) (bd : Int) : Dt := if hasD hd rt l bd 0 l.length then worst hd rt (rI l (ixD hd rt l bd 0 l.length).1) (rI l (ixD hd rt l bd 0 l.length).2) else []
def rcK (hd rt l : Dt) (bd : Int) (i : Nat) : Nat -> Nat -> Bool -> Bool
 | _, 0, f => f
 | k, n + 1, f => rcK hd rt l bd i (k + 1) n (f || (decide (far hd rt (rI l i) (rI l k) (apLe hd rt (rI l i) (rI l k) hd.length) = bd) || decide (far hd rt (rI l i) (rI l k) (apGr hd rt (rI l i) (rI l k) hd.length) = bd)))
end Sp
namespace Sp
def tD (dr : Dt) (a s : Nat) : Int := (cel dr a s).int
def atV (ba pe t : Int) : Int := ba + pe * t
structure DrOk (hd dr : Dt) : Prop where
 hl : hd.length <= 40
 hdO : ∀ i, i < hd.length -> HdOk hd i
 drO : ∀ a s, 0 <= tD dr a s /\ tD dr a s <= 60
structure Acc (n : Nat) (i lo : Int) : Prop where
 i0 : 0 <= i
 i1 : i <= n
 lo : -660000 * i <= lo /\ lo <= 660000 * i
def haL (hd dr : Dt) (a s : Nat) : Int := tD dr a s * atH hd s (hLo hd s)
def haH (hd dr : Dt) (a s : Nat) : Int := tD dr a s * atH hd s (hHi hd s)
def haT (hd dr tr : Dt) (a s : Nat) : Int := tD dr a s * atH hd s (cel tr s 0).int
end Sp
theorem Xgf {pl sh ti st : Dt} {ce : Int} {hd rt : Dt} (h : Sp.CrOk pl sh ti st ce hd rt) : Sp.DrOk hd (Sp.drvN rt rt.length) := by
 refine ⟨by have := h.tw.stL; have := h.hl; omega, h.hdO, fun a s => ?_⟩;unfold Sp.tD cel
 by_cases ha : a < rt.length
 ·rw [show (Sp.drvN rt rt.length).getD a [] = (List.range 40).map fun s => Cl.i (Sp.tms rt a s) by
   unfold Sp.drvN;rw [List.getD_eq_getElem?_getD, List.getElem?_map, List.getElem?_range ha];rfl]
  by_cases hs : s < 40
  ·rw [List.getD_eq_getElem?_getD, List.getElem?_map, List.getElem?_range hs];have := Sp.tms_in rt a s;have := (h.rtO a ha).len
   show 0 <= Sp.tms rt a s /\ Sp.tms rt a s <= 60
   omega
  ·rw [List.getD_eq_getElem?_getD, List.getElem?_eq_none (by simp; omega)]
   show (0 : Int) <= 0 /\ (0 : Int) <= 60
   omega
 ·rw [show (Sp.drvN rt rt.length).getD a [] = [] by
   unfold Sp.drvN;rw [List.getD_eq_getElem?_getD, List.getElem?_eq_none (by simp; omega)];rfl]
  show (0 : Int) <= 0 /\ (0 : Int) <= 60
  omega
theorem Xcm {rt : Dt} {a s : Nat} (ha : a < rt.length) (hs : s < 40) : Sp.tD (Sp.drvN rt rt.length) a s = Sp.tms rt a s := by
 unfold Sp.tD cel;rw [show (Sp.drvN rt rt.length).getD a [] = (List.range 40).map fun s => Cl.i (Sp.tms rt a s) by
  unfold Sp.drvN;rw [List.getD_eq_getElem?_getD, List.getElem?_map, List.getElem?_range ha];rfl]
 rw [List.getD_eq_getElem?_getD, List.getElem?_map, List.getElem?_range hs];rfl
def Xlz [W : InW] (h_Ba h_Pe h_Lo h_Hi t : Int) (Q : DS -> Prop) : Prop :=
 Ar .i64 (h_Pe * t) fun z => Ar .i64 (h_Ba + z) fun z => Q [[Cl.i z]]
theorem Xr0 (W : InW) (h_Ba h_Pe h_Lo h_Hi t Q) : Yvi (cxT Try.prog TT T21 1000 50) 1000 62 [.agg [.si .i64 h_Ba, .si .i64 h_Pe, .si .i64 h_Lo, .si .i64 h_Hi], .si .i64 t] [] 0 (Yzk [(false, [.int .i64])] Q) (fun _ _ _ _ => Stuck 421) = Xlz h_Ba h_Pe h_Lo h_Hi t Q := by kernel_rfl
abbrev Xgs : List AT := [.agg [.int .i64, .int .i64, .int .i64, .int .i64], .one (.int .i64)]
theorem Xsm {pre : DS -> Prop} {res : DS -> DS} (hyp_ : ∀ (W : InW) (h_Ba h_Pe h_Lo h_Hi t : Int), pre [[.i h_Ba, .i h_Pe, .i h_Lo, .i h_Hi], [.i t]] -> ∀ Q : DS -> Prop, Q (res [[.i h_Ba, .i h_Pe, .i h_Lo, .i h_Hi], [.i t]]) -> Xlz h_Ba h_Pe h_Lo h_Hi t Q) : PureOk Try.prog 62 Xgs [(false, [.int .i64])] pre res :=
 PureOk.of' (fun W => @TT W) (fun W => @Xb W) Xa T21 1000 50 fun W h_Ba h_Pe h_Lo h_Hi t hp =>
  (Xr0 W h_Ba h_Pe h_Lo h_Hi t (fun o => o = res [[.i h_Ba, .i h_Pe, .i h_Lo, .i h_Hi], [.i t]])).mpr (hyp_ W h_Ba h_Pe h_Lo h_Hi t hp _ rfl)
def Xly [W : InW] (h_Ba h_Pe h_Lo h_Hi t : Int) (Q : DS -> Prop) : Prop :=
 Ar .i64 (h_Pe * t) fun z => Ar .i64 (h_Ba + z) fun z => Q [[Cl.i z]]
theorem Xrz (W : InW) (h_Ba h_Pe h_Lo h_Hi t Q) : Yvi (cxT Try.prog TT T21 1000 50) 1000 66 [.agg [.si .i64 h_Ba, .si .i64 h_Pe, .si .i64 h_Lo, .si .i64 h_Hi], .si .i64 t] [] 0 (Yzk [(false, [.int .i64])] Q) (fun _ _ _ _ => Stuck 421) = Xly h_Ba h_Pe h_Lo h_Hi t Q := by kernel_rfl
abbrev Xgr : List AT := [.agg [.int .i64, .int .i64, .int .i64, .int .i64], .one (.int .i64)]
theorem Xsl {pre : DS -> Prop} {res : DS -> DS} (hyp_ : ∀ (W : InW) (h_Ba h_Pe h_Lo h_Hi t : Int), pre [[.i h_Ba, .i h_Pe, .i h_Lo, .i h_Hi], [.i t]] -> ∀ Q : DS -> Prop, Q (res [[.i h_Ba, .i h_Pe, .i h_Lo, .i h_Hi], [.i t]]) -> Xly h_Ba h_Pe h_Lo h_Hi t Q) : PureOk Try.prog 66 Xgr [(false, [.int .i64])] pre res :=
 PureOk.of' (fun W => @TT W) (fun W => @Xb W) Xa T21 1000 50 fun W h_Ba h_Pe h_Lo h_Hi t hp =>
  (Xrz W h_Ba h_Pe h_Lo h_Hi t (fun o => o = res [[.i h_Ba, .i h_Pe, .i h_Lo, .i h_Hi], [.i t]])).mpr (hyp_ W h_Ba h_Pe h_Lo h_Hi t hp _ rfl)
abbrev Xh1 (ds : DS) : DS := match ds with | [[.i ba, .i pe, .i _, .i _], [.i t]] => [[.i (Sp.atV ba pe t)]] | _ => []
abbrev Xh5 (ds : DS) : Prop := match ds with | [[.i ba, .i pe, .i _, .i _], [.i t]] => (0 <= ba /\ ba <= 1000) /\ (0 <= pe /\ pe <= 100) /\ 0 <= t /\ t <= 100 | _ => False
theorem Xo0 {pe t : Int} (h1 : 0 <= pe /\ pe <= 100) (h2 : 0 <= t /\ t <= 100) : 0 <= pe * t /\ pe * t <= 10000 := ⟨Int.mul_nonneg h1.1 h2.1, by have := Int.mul_le_mul h1.2 h2.2 h2.1 (by omega); omega⟩
theorem okpat : PureOk Try.prog 62 Xgs [(false, [.int .i64])] Xh5 Xh1 :=
 Xsm fun W ba pe lo hi t hp Q h => by
  unfold Xlz;obtain ⟨h1, h2, h3⟩ : (0 <= ba /\ ba <= 1000) /\ (0 <= pe /\ pe <= 100) /\ 0 <= t /\ t <= 100 := hp;have := Xo0 h2 h3;exact ar64 (by omega) (ar64 (by omega) h)
theorem okrat : PureOk Try.prog 66 Xgr [(false, [.int .i64])] Xh5 Xh1 :=
 Xsl fun W ba pe lo hi t hp Q h => by
  unfold Xly;obtain ⟨h1, h2, h3⟩ : (0 <= ba /\ ba <= 1000) /\ (0 <= pe /\ pe <= 100) /\ 0 <= t /\ t <= 100 := hp;have := Xo0 h2 h3;exact ar64 (by omega) (ar64 (by omega) h)
noncomputable def Xr9 : PC Try.prog := ⟨62, Xgs, [(false, [.int .i64])], Xh5, Xh1, okpat⟩
noncomputable def Xr8 : PC Try.prog := ⟨66, Xgr, [(false, [.int .i64])], Xh5, Xh1, okrat⟩
noncomputable def T51 : Tab Try.prog := ⟨[Xr9, Xr8, Xk, Xkr, Xm4], [], []⟩
def Xb5 [InW] (e : List Ed) (K : Nat -> List Ed -> Prop) : Prop := match e with
 | [.i a, .ro _ hd, .i n, .i i, .l dr, .i lo, .i hi] => Pre (n = hd.xs.length /\ Sp.DrOk hd.xs dr /\ (0 <= a /\ a < dr.length) /\ Sp.Acc hd.xs.length i lo /\ Sp.Acc hd.xs.length i hi)
   (K 0 [.i (Sp.sumF (Sp.haL hd.xs dr a.toNat) i.toNat (hd.xs.length - i.toNat) lo), .i (Sp.sumF (Sp.haH hd.xs dr a.toNat) i.toNat (hd.xs.length - i.toNat) hi)])
 | _ => False
noncomputable def Xcb : LC where
 len := 70
 T := [(1, .int .i64), (4, (.ptr 4 0)), (6, (.ptr 1 0)), (7, (.fn (.func 62) [] [])), (26, .rs Iv4), (27, .int .i64), (28, .int .i64)]
 H := [(1, .blk 111 [(.opq 1021), (.opq 1024), (.opq 1027), (.opq 1030), (.opq 1033), (.opq 1036), (.opq 1039), (.row 13)]), (13, .arr 125 Jc), (4, .blk 32 [.int .i64, .int .i64])]
 W := ([8, 9, 10] ++ rg 29 40)
 outs := [⟨.exit 0, [(4, (.ptr 4 0))], [(4, .blk 32 [.int .i64, .int .i64])], ([1] ++ rg 6 5 ++ rg 26 43)⟩]
 spec := Xb5
def Xdc [W : InW] (a : Int) (hd : Ro Iv4) (n i : Int) (dr : Dt) (lo hi : Int) (A : List Ed -> Prop) (K : Nat -> List Ed -> Prop) : Prop :=
 Vif (decide (i < n)) (Need (decide (0 <= i) && decide (i < (↑(hd.xs.length) : Int))) (Need (decide (i.toNat < hd.xs.length)) (Need (decide (0 <= a) && decide (a < (↑(dr.length) : Int))) (Need (decide (0 <= i) && decide (i < (↑(40 : Nat) : Int))) (Need (decide (i.toNat < [Ty.int IntKind.i64, Ty.int IntKind.i64, Ty.int IntKind.i64, Ty.int IntKind.i64, Ty.int IntKind.i64, Ty.int IntKind.i64, Ty.int IntKind.i64, Ty.int IntKind.i64, Ty.int IntKind.i64, Ty.int IntKind.i64, Ty.int IntKind.i64, Ty.int IntKind.i64, Ty.int IntKind.i64, Ty.int IntKind.i64, Ty.int IntKind.i64, Ty.int IntKind.i64, Ty.int IntKind.i64, Ty.int IntKind.i64, Ty.int IntKind.i64, Ty.int IntKind.i64, Ty.int IntKind.i64, Ty.int IntKind.i64, Ty.int IntKind.i64, Ty.int IntKind.i64, Ty.int IntKind.i64, Ty.int IntKind.i64, Ty.int IntKind.i64, Ty.int IntKind.i64, Ty.int IntKind.i64, Ty.int IntKind.i64, Ty.int IntKind.i64, Ty.int IntKind.i64, Ty.int IntKind.i64, Ty.int IntKind.i64, Ty.int IntKind.i64, Ty.int IntKind.i64, Ty.int IntKind.i64, Ty.int IntKind.i64, Ty.int IntKind.i64, Ty.int IntKind.i64].length) && decide (a.toNat < dr.length)) (Pre ((Zg <= (cel hd.xs i.toNat Zbd).int /\ (cel hd.xs i.toNat Zbd).int <= 1000) /\ (Zg <= (cel hd.xs i.toNat (0+1)).int /\ (cel hd.xs i.toNat (0+1)).int <= 100) /\ Zg <= (cel hd.xs i.toNat (Zbd + 1 + 1)).int /\ (cel hd.xs i.toNat (Zbd + 1 + 1)).int <= 100) (Ar .i64 ((cel dr a.toNat i.toNat).int * Sp.atV (cel hd.xs i.toNat Zbd).int (cel hd.xs i.toNat (0+1)).int (cel hd.xs i.toNat (Zbd + 1 + 1)).int) fun z => Ar .i64 (lo + z) fun z => Pre ((Zg <= (cel hd.xs i.toNat Zbd).int /\ (cel hd.xs i.toNat Zbd).int <= 1000) /\ (Zg <= (cel hd.xs i.toNat (0+1)).int /\ (cel hd.xs i.toNat (0+1)).int <= 100) /\ Zg <= (cel hd.xs i.toNat (Zbd + 1 + 1 + 1)).int /\ (cel hd.xs i.toNat (Zbd + 1 + 1 + 1)).int <= 100) (Ar .i64 ((cel dr a.toNat i.toNat).int * Sp.atV (cel hd.xs i.toNat Zbd).int (cel hd.xs i.toNat (0+1)).int (cel hd.xs i.toNat (Zbd + 1 + 1 + 1)).int) fun z_1 => Ar .i64 (hi + z_1) fun z_2 => Ar .i64 (i + 1) fun z_3 => A [.i a, .ro _ hd, .i n, .i z_3, .l dr, .i z, .i z_2])))))))) (K 0 [.i lo, .i hi])
theorem Xjr (W : InW) (a hd n i dr lo hi A K) : Ye9 { cxT Try.prog TT T51 1000 50 with fn := 27 } 1000 (Ynd Try.prog 27 7) (Yd0 70 [(1, .si .i64 a), (4, .ptr 4 0), (6, .ptr 1 0), (7, .fn (.func 62) [] []), (26, .rs _ hd), (27, .si .i64 n), (28, .si .i64 i)] ([8, 9, 10] ++ rg 29 40)) [(1, .blk 111 [.opq 1021, .opq 1024, .opq 1027, .opq 1030, .opq 1033, .opq 1036, .opq 1039, .rw 13]), (13, .arr 125 Jc dr), (4, .blk 32 [.si .i64 lo, .si .i64 hi])] (Yte Xcb A K) = Xdc a hd n i dr lo hi A K := by kernel_rfl
def Xdj : Prop := ∀ (W : InW) (body a : Code), (Try.prog.funcs[27]?).bind (·.body) = some body -> a ∈ Yu body -> Yfs a = 7 -> @Yl2 W Try.prog a (@Ysl W Xcb)
theorem Xk1 (meas : [InW] -> List Ed -> Nat) (hyp_ : ∀ (W : InW) a hd n i dr lo hi K, Xb5 [.i a, .ro _ hd, .i n, .i i, .l dr, .i lo, .i hi] K -> ∀ A : List Ed -> Prop, (∀ e, meas e < meas [.i a, .ro _ hd, .i n, .i i, .l dr, .i lo, .i hi] -> Xb5 e K -> A e) -> Xdc a hd n i dr lo hi A K) : Xdj :=
 LE.okOf' (fun W => @TT W) (fun W => @Xb W) Xa T51 1000 50 (by kernel_rfl) Xcb (fun W => @meas W) fun W a hd n i dr lo hi K hs =>
  (Xjr W a hd n i dr lo hi (fun e => meas e < meas [.i a, .ro _ hd, .i n, .i i, .l dr, .i lo, .i hi] /\ Xb5 e K) K).mpr (hyp_ W a hd n i dr lo hi K hs _ fun e h1 h2 => ⟨h1, h2⟩)
theorem Xoa : Xdj := Xk1 (fun e => match e with | _ :: .ro _ hd :: _ :: .i i :: _ => ((hd.xs.length : Int) - i).toNat | _ => 0) fun W a hd n i dr lo hi K hs A hA => by
 obtain ⟨⟨rfl, hD, ha, hl, hh⟩, hk⟩ := hs;unfold Xdc;delta Zbd Zg;have h0 := hl.i0;have h1 := hl.i1;have hhl := hD.hl;refine vifd (fun e => ?_) fun e => ?_
 ·rw [show hd.xs.length - i.toNat = (hd.xs.length - (i.toNat + 1)) + 1 by omega] at hk;simp only [Sp.sumF] at hk;have ez : (i + 1).toNat = i.toNat + 1 := by omega
  have hO := hD.hdO i.toNat (by omega);have hT := hD.drO a.toNat i.toNat;have a1 := Sp.at_in hO (t := Sp.hLo hd.xs i.toNat) hO.lo (by have := hO.le; have := hO.hi; omega);have a2 := Sp.at_in hO (t := Sp.hHi hd.xs i.toNat) (by have := hO.le; have := hO.lo; omega) hO.hi;have m1 := Sp.mul_in (show -60 <= Sp.tD dr a.toNat i.toNat by omega) hT.2 a1.1 a1.2;have m2 := Sp.mul_in (show -60 <= Sp.tD dr a.toNat i.toNat by omega) hT.2 a2.1 a2.2;have hA' : ∀ x y, x = lo + Sp.haL hd.xs dr a.toNat i.toNat -> y = hi + Sp.haH hd.xs dr a.toNat i.toNat -> A [.i a, .ro _ hd, .i hd.xs.length, .i (i + 1), .l dr, .i x, .i y] := fun x y hx hy => hA _ (by show ((hd.xs.length : Int) - (i + 1)).toNat < ((hd.xs.length : Int) - i).toNat; omega) ⟨⟨rfl, hD, ha, ⟨by omega, by omega, by have := hl.lo; unfold Sp.haL at hx; omega⟩, ⟨by omega, by omega, by have := hh.lo; unfold Sp.haH at hy; omega⟩⟩, by rw [ez, hx, hy]; exact hk⟩;have l1 := hl.lo;have l2 := hh.lo;have b1 := hO.ba;have b2 := hO.pe;have b3 := hO.lo;have b4 := hO.hi;have b5 := hO.le;clear hA hk;simp only [Nat.zero_add, List.length_cons, List.length_nil, Nat.reduceAdd];simp only [Sp.tD, Sp.atH, Sp.hBa, Sp.hPe, Sp.hLo, Sp.hHi, Sp.atV, Sp.haL, Sp.haH] at *
  repeat' (first | omega | with_reducible refine vifd (fun _ => ?_) fun _ => ?_ | with_reducible refine vifn (fun _ => ?_) fun _ => ?_ | with_reducible refine vifq (fun _ => ?_) fun _ => ?_ | with_reducible refine vifq0 (fun _ => ?_) fun _ => ?_ | with_reducible refine vifq1 (fun _ => ?_) fun _ => ?_ | with_reducible refine vifb (fun _ => ?_) fun _ => ?_ | with_reducible refine vif (fun _ => ?_) fun _ => ?_ | (with_reducible refine nedd ?_ ?_; omega) | (with_reducible refine ned ?_ ?_; simp only [Bool.and_eq_true, decide_eq_true_eq]; omega) | (with_reducible refine ar64 ?_ ?_; omega) | (with_reducible refine Xd ?_ ?_; (first | trivial | omega | assumption | (refine ⟨?_, ?_⟩ <;> first | trivial | omega | assumption) | (refine ⟨?_, ?_, ?_⟩ <;> first | trivial | omega | assumption) | (refine ⟨?_, ?_, ?_, ?_⟩ <;> first | trivial | omega | assumption))))
  all_goals first | exact hA' _ _ rfl rfl | skip
  all_goals trace_state
 ·rw [show hd.xs.length - i.toNat = 0 by omega] at hk;exact hk
noncomputable def Xod : LE Try.prog := ⟨27, 7, fun W => @Ysl W Xcb, Xoa⟩
namespace Sp
def haE (pl sh ti st : Dt) (ce : Int) (hd rt : Dt) (a : Int) : Int := rtsE pl sh ti st ce hd rt [[.i a]]
def hvLo (pl sh ti st : Dt) (ce : Int) (hd rt : Dt) (a : Int) : Int := if haE pl sh ti st ce hd rt a = 0 then haLo hd rt a.toNat else 0
def hvHi (pl sh ti st : Dt) (ce : Int) (hd rt : Dt) (a : Int) : Int := if haE pl sh ti st ce hd rt a = 0 then haHi hd rt a.toNat else 0
structure RfOk (hd rt : Dt) (a : Int) : Prop where
 hl : hd.length <= 40
 hdO : ∀ i, i < hd.length -> HdOk hd i
 a0 : 0 <= a
 a1 : a < rt.length
 ln : (rtL rt a.toNat).length <= 60
end Sp
theorem Xmx {pl sh ti st : Dt} {ce : Int} {hd rt : Dt} (h : Sp.CrOk pl sh ti st ce hd rt) {a : Int} (h0 : 0 <= a) (h1 : a < rt.length) : Sp.RfOk hd rt a := ⟨by have := h.tw.stL; have := h.hl; omega, h.hdO, h0, h1, (h.rtO a.toNat (by omega)).len.2⟩
theorem Xoq {hd rt : Dt} {a : Int} (h : Sp.RfOk hd rt a) (s : Nat) : 0 <= Sp.tms rt a.toNat s /\ Sp.tms rt a.toNat s <= 60 := by
 have := Sp.tms_in rt a.toNat s;have := h.ln;omega
theorem Xpu {hd rt : Dt} {a : Nat} (ha : a < rt.length) (hl : hd.length <= 40) : Sp.sumF (Sp.haL hd (Sp.drvN rt rt.length) a) 0 hd.length 0 = Sp.haLo hd rt a /\ Sp.sumF (Sp.haH hd (Sp.drvN rt rt.length) a) 0 hd.length 0 = Sp.haHi hd rt a := by
 unfold Sp.haLo Sp.haHi;exact ⟨Sp.sumF_congr fun k _ hk => by unfold Sp.haL; rw [Xcm ha (by omega)], Sp.sumF_congr fun k _ hk => by unfold Sp.haH; rw [Xcm ha (by omega)]⟩
theorem Xgk {pl sh ti st : Dt} {ce : Int} {hd rt : Dt} {a : Int} : (Sp.haE pl sh ti st ce hd rt a = if Sp.cE pl sh ti st ce hd rt = 0 then (if Sp.inr a 0 ((rt.length : Int) - 1) then 0 else 4) else Sp.cE pl sh ti st ce hd rt) := by
 unfold Sp.haE Sp.rtsE;rw [out1];cases Sp.inr a 0 ((rt.length : Int) - 1) <;> rfl
theorem Xrt {pl sh ti st : Dt} {ce : Int} {hd rt : Dt} {a : Int} (h : Sp.haE pl sh ti st ce hd rt a = 0) : Sp.CrOk pl sh ti st ce hd rt /\ 0 <= a /\ a < rt.length := by
 rw [Xgk] at h
 split at h
 ·rename_i e
  split at h
  ·rename_i e2;have := Sp.inr_iff.1 e2;exact ⟨Sp.cchk_ok e, by omega, by omega⟩
  ·omega
 ·contradiction
theorem acc0 (n : Nat) : Sp.Acc n 0 0 := ⟨by omega, by omega, by omega⟩
theorem Xh (rt : Dt) : (Sp.drvN rt rt.length).length = rt.length := by unfold Sp.drvN; simp
theorem Xtm {pl sh ti st : Dt} {ce : Int} {hd rt : Dt} {a : Int} {Q : Int -> Int -> Int -> Prop} (h : Q (Sp.hvLo pl sh ti st ce hd rt a) (Sp.hvHi pl sh ti st ce hd rt a) (Sp.haE pl sh ti st ce hd rt a)) :
  (¬ Sp.cE pl sh ti st ce hd rt = 0 -> Q 0 0 (Sp.cE pl sh ti st ce hd rt)) /\ (Sp.cE pl sh ti st ce hd rt = 0 -> Sp.inr a 0 ((rt.length : Int) - 1) = false -> Q 0 0 4) /\
  (Sp.cE pl sh ti st ce hd rt = 0 -> Sp.inr a 0 ((rt.length : Int) - 1) = true -> Sp.CrOk pl sh ti st ce hd rt /\ (0 <= a /\ a < rt.length) /\ Q (Sp.haLo hd rt a.toNat) (Sp.haHi hd rt a.toNat) 0) := by
 unfold Sp.hvLo Sp.hvHi at h;rw [Xgk] at h;refine ⟨fun e => ?_, fun e e2 => ?_, fun e e2 => ⟨Sp.cchk_ok e, by have := Sp.inr_iff.1 e2; omega, ?_⟩⟩
 ·rw [if_neg e, if_neg e, if_neg e] at h; exact h
 ·rw [if_pos e, e2, if_neg (by decide), if_neg (by decide), if_neg (by decide)] at h; exact h
 ·rw [if_pos e, e2, if_pos rfl, if_pos rfl, if_pos rfl] at h; exact h
noncomputable def T52 : Tab Try.prog := ⟨[Xk], [Xod], [Xbf]⟩
abbrev Xdz : RTs := [(true, [.int .i64, .int .i64]), (false, [.int .i64])]
def Xe1 [W : InW] (c_Pl c_Sh c_Ti : Ro Jb) (c_St : Ro Jd) (c_Ce : Int) (c_Hd : Ro Iv4) (c_Rt : Ro Je) (a : Int) (Q : DS -> Prop) : Prop :=
 Pre (Sp.NamesOk c_Pl.xs /\ Sp.NamesOk c_Sh.xs /\ Sp.NamesOk c_Ti.xs) (Vif (decide (Sp.cE c_Pl.xs c_Sh.xs c_Ti.xs c_St.xs c_Ce c_Hd.xs c_Rt.xs = 0)) (Ar .i64 ((↑(c_Rt.xs.length) : Int) - 1) fun z => Pre True (Vif (Sp.out Zg z [[Cl.i a]]) (Q [[Cl.i 0, Cl.i 0], [Cl.i 4]]) (Pre ((↑(c_Hd.xs.length) : Int) = (↑(c_Hd.xs.length) : Int) /\ Sp.DrOk c_Hd.xs (Sp.drvN c_Rt.xs (c_Rt.xs.length)) /\ (0 <= a /\ a < (↑(List.length (Sp.drvN c_Rt.xs (c_Rt.xs.length))) : Int)) /\ Sp.Acc (c_Hd.xs.length) Zg Zg /\ Sp.Acc (c_Hd.xs.length) Zg Zg) (Q [[Cl.i (Sp.sumF (Sp.haL c_Hd.xs (Sp.drvN c_Rt.xs (c_Rt.xs.length)) a.toNat) Zu (c_Hd.xs.length - Int.toNat Zg) Zg), Cl.i (Sp.sumF (Sp.haH c_Hd.xs (Sp.drvN c_Rt.xs (c_Rt.xs.length)) a.toNat) Zu (c_Hd.xs.length - Int.toNat Zg) Zg)], [Cl.i 0]])))) (Vif (decide (Sp.cE c_Pl.xs c_Sh.xs c_Ti.xs c_St.xs c_Ce c_Hd.xs c_Rt.xs = 0)) ((16 : Nat) = 16 + 1) (Vif (!decide (Sp.cE c_Pl.xs c_Sh.xs c_Ti.xs c_St.xs c_Ce c_Hd.xs c_Rt.xs = 0)) (Q [[Cl.i 0, Cl.i 0], [Cl.i (Sp.cE c_Pl.xs c_Sh.xs c_Ti.xs c_St.xs c_Ce c_Hd.xs c_Rt.xs)]]) ((16 : Nat) = 16 + 1))))
theorem Xmp (W : InW) (c_Pl c_Sh c_Ti c_St c_Ce c_Hd c_Rt a Q) : Yvi (cxT Try.prog TT T52 1000 50) 1000 27 [.agg [.rs _ c_Pl, .rs _ c_Sh, .rs _ c_Ti, .rs _ c_St, .si .i64 c_Ce, .rs _ c_Hd, .rs _ c_Rt], .si .i64 a] [] 0 (Yzk Xdz Q) (fun _ _ _ _ => Stuck 421) = Xe1 c_Pl c_Sh c_Ti c_St c_Ce c_Hd c_Rt a Q := by kernel_rfl
abbrev Xcw : List AT := [.agg [.sl Jb, .sl Jb, .sl Jb, .sl Jd, .int .i64, .sl Iv4, .sl Je], .one (.int .i64)]
theorem Xn6 {pre : DS -> Prop} {res : DS -> DS} (hyp_ : ∀ (W : InW) (c_Pl c_Sh c_Ti : Ro Jb) (c_St : Ro Jd) (c_Ce : Int) (c_Hd : Ro Iv4) (c_Rt : Ro Je) (a : Int), pre [[.l c_Pl.xs, .l c_Sh.xs, .l c_Ti.xs, .l c_St.xs, .i c_Ce, .l c_Hd.xs, .l c_Rt.xs], [.i a]] -> ∀ Q : DS -> Prop, Q (res [[.l c_Pl.xs, .l c_Sh.xs, .l c_Ti.xs, .l c_St.xs, .i c_Ce, .l c_Hd.xs, .l c_Rt.xs], [.i a]]) -> Xe1 c_Pl c_Sh c_Ti c_St c_Ce c_Hd c_Rt a Q) : PureOk Try.prog 27 Xcw Xdz pre res :=
 PureOk.of' (fun W => @TT W) (fun W => @Xb W) Xa T52 1000 50 fun W c_Pl c_Sh c_Ti c_St c_Ce c_Hd c_Rt a hp =>
  (Xmp W c_Pl c_Sh c_Ti c_St c_Ce c_Hd c_Rt a (fun o => o = res [[.l c_Pl.xs, .l c_Sh.xs, .l c_Ti.xs, .l c_St.xs, .i c_Ce, .l c_Hd.xs, .l c_Rt.xs], [.i a]])).mpr (hyp_ W c_Pl c_Sh c_Ti c_St c_Ce c_Hd c_Rt a hp _ rfl)
abbrev Xor (ds : DS) : DS := match ds with | [[.l pl, .l sh, .l ti, .l st, .i ce, .l hd, .l rt], [.i a]] => [[.i (Sp.hvLo pl sh ti st ce hd rt a), .i (Sp.hvHi pl sh ti st ce hd rt a)], [.i (Sp.haE pl sh ti st ce hd rt a)]] | _ => []
theorem Xp9 : PureOk Try.prog 27 Xcw Xdz Xf Xor :=
 Xn6 fun W pl sh ti st ce hd rt a hp Q h => by
  have hp : Sp.NamesOk pl.xs /\ Sp.NamesOk sh.xs /\ Sp.NamesOk ti.xs := hp;unfold Xe1;delta Zu Zg;have hrt := rt.len;simp only [maxLen] at hrt;obtain ⟨q0, q1, q2⟩ := Xtm (Q := fun x y z => Q [[.i x, .i y], [.i z]]) h;clear h;simp only [out1, show Int.toNat 0 = 0 from rfl, Nat.sub_zero];refine ⟨hp, vifd (fun e => ar64 (by omega) ⟨trivial, vifb (fun e2 => q1 e e2) fun e2 => ?_⟩) fun e => vifd (fun e3 => absurd e3 e) fun _ => vifn (fun _ => q0 e) fun e3 => absurd e3 e⟩;obtain ⟨hC, ha, hq⟩ := q2 e e2;have hl : hd.xs.length <= 40 := by have := hC.tw.stL; have := hC.hl; omega
  have hs := Xpu (hd := hd.xs) (rt := rt.xs) (a := a.toNat) (by omega) hl;refine ⟨⟨trivial, Xgf hC, by rw [Xh]; exact ha, acc0 _, acc0 _⟩, ?_⟩;rw [hs.1, hs.2];exact hq
noncomputable def Xh9 : PC Try.prog := ⟨27, Xcw, Xdz, Xf, Xor, Xp9⟩
def Xdt [InW] (e : List Ed) (K : Nat -> List Ed -> Prop) : Prop := match e with
 | [.i a, .ro _ tr, .i x, .ro _ hd, .i n, .i i, .l dr] => Pre (n = hd.xs.length /\ Sp.DrOk hd.xs dr /\ (0 <= a /\ a < dr.length) /\ tr.xs.length = hd.xs.length /\ Sp.Acc hd.xs.length i x)
   (Vif (Sp.hasE (Sp.trB hd.xs tr.xs) i.toNat (hd.xs.length - i.toNat)) (K 1 []) (K 0 [.i (Sp.sumF (Sp.haT hd.xs dr tr.xs a.toNat) i.toNat (hd.xs.length - i.toNat) x)]))
 | _ => False
noncomputable def Xee : LC where
 len := 76
 T := [(1, .int .i64), (2, .rs Ja), (6, .int .i64), (8, (.ptr 1 0)), (36, .rs Iv4), (37, .int .i64), (38, .int .i64)]
 H := [(1, .blk 111 [(.opq 1021), (.opq 1024), (.opq 1027), (.opq 1030), (.opq 1033), (.opq 1036), (.opq 1039), (.row 13)]), (13, .arr 125 Jc)]
 W := ([7, 9, 10] ++ rg 39 36)
 outs := [⟨.exit 1, [(6, .int .i64)], [], ([1, 2] ++ rg 7 4 ++ rg 36 39)⟩, ⟨.ret, [(6, (.lit (.int .i64 0))), (7, (.lit (.int .i64 7)))], [], ([1, 2, 8, 9, 10] ++ rg 36 39)⟩]
 spec := Xdt
def Xfb [W : InW] (a : Int) (tr : Ro Ja) (x : Int) (hd : Ro Iv4) (n i : Int) (dr : Dt) (A : List Ed -> Prop) (K : Nat -> List Ed -> Prop) : Prop :=
 Vif (decide (i < n)) (Need (decide (0 <= i) && decide (i < (↑(hd.xs.length) : Int))) (Need (decide (i.toNat < hd.xs.length)) (Need (decide (0 <= i) && decide (i < (↑(tr.xs.length) : Int))) (Need (decide (i.toNat < tr.xs.length)) (Pre True (Vif (Sp.out (cel hd.xs i.toNat (Zbd + 1 + 1)).int (cel hd.xs i.toNat (Zbd + 1 + 1 + 1)).int [[Cl.i (cel tr.xs i.toNat Zbd).int]]) (K (0+1) []) (Need (decide (0 <= a) && decide (a < (↑(dr.length) : Int))) (Need (decide (0 <= i) && decide (i < (↑(40 : Nat) : Int))) (Need (decide (i.toNat < [Ty.int IntKind.i64, Ty.int IntKind.i64, Ty.int IntKind.i64, Ty.int IntKind.i64, Ty.int IntKind.i64, Ty.int IntKind.i64, Ty.int IntKind.i64, Ty.int IntKind.i64, Ty.int IntKind.i64, Ty.int IntKind.i64, Ty.int IntKind.i64, Ty.int IntKind.i64, Ty.int IntKind.i64, Ty.int IntKind.i64, Ty.int IntKind.i64, Ty.int IntKind.i64, Ty.int IntKind.i64, Ty.int IntKind.i64, Ty.int IntKind.i64, Ty.int IntKind.i64, Ty.int IntKind.i64, Ty.int IntKind.i64, Ty.int IntKind.i64, Ty.int IntKind.i64, Ty.int IntKind.i64, Ty.int IntKind.i64, Ty.int IntKind.i64, Ty.int IntKind.i64, Ty.int IntKind.i64, Ty.int IntKind.i64, Ty.int IntKind.i64, Ty.int IntKind.i64, Ty.int IntKind.i64, Ty.int IntKind.i64, Ty.int IntKind.i64, Ty.int IntKind.i64, Ty.int IntKind.i64, Ty.int IntKind.i64, Ty.int IntKind.i64, Ty.int IntKind.i64].length) && decide (a.toNat < dr.length)) (Need (decide (0 <= i) && decide (i < (↑(tr.xs.length) : Int))) (Need (decide (i.toNat < tr.xs.length)) (Pre ((Zg <= (cel hd.xs i.toNat Zbd).int /\ (cel hd.xs i.toNat Zbd).int <= 1000) /\ (Zg <= (cel hd.xs i.toNat (0+1)).int /\ (cel hd.xs i.toNat (0+1)).int <= 100) /\ Zg <= (cel tr.xs i.toNat Zbd).int /\ (cel tr.xs i.toNat Zbd).int <= 100) (Ar .i64 ((cel dr a.toNat i.toNat).int * Sp.atV (cel hd.xs i.toNat Zbd).int (cel hd.xs i.toNat (0+1)).int (cel tr.xs i.toNat Zbd).int) fun z => Ar .i64 (x + z) fun z => Ar .i64 (i + 1) fun z_1 => A [.i a, .ro _ tr, .i z, .ro _ hd, .i n, .i z_1, .l dr]))))))))))))) (K 0 [.i x])
theorem Xma (W : InW) (a tr x hd n i dr A K) : Ye9 { cxT Try.prog TT T51 1000 50 with fn := 38 } 1000 (Ynd Try.prog 38 8) (Yd0 76 [(1, .si .i64 a), (2, .rs _ tr), (6, .si .i64 x), (8, .ptr 1 0), (36, .rs _ hd), (37, .si .i64 n), (38, .si .i64 i)] ([7, 9, 10] ++ rg 39 36)) [(1, .blk 111 [.opq 1021, .opq 1024, .opq 1027, .opq 1030, .opq 1033, .opq 1036, .opq 1039, .rw 13]), (13, .arr 125 Jc dr)] (Yte Xee A K) = Xfb a tr x hd n i dr A K := by kernel_rfl
def Xf6 : Prop := ∀ (W : InW) (body a : Code), (Try.prog.funcs[38]?).bind (·.body) = some body -> a ∈ Yu body -> Yfs a = 8 -> @Yl2 W Try.prog a (@Ysl W Xee)
theorem Xno (meas : [InW] -> List Ed -> Nat) (hyp_ : ∀ (W : InW) a tr x hd n i dr K, Xdt [.i a, .ro _ tr, .i x, .ro _ hd, .i n, .i i, .l dr] K -> ∀ A : List Ed -> Prop, (∀ e, meas e < meas [.i a, .ro _ tr, .i x, .ro _ hd, .i n, .i i, .l dr] -> Xdt e K -> A e) -> Xfb a tr x hd n i dr A K) : Xf6 :=
 LE.okOf' (fun W => @TT W) (fun W => @Xb W) Xa T51 1000 50 (by kernel_rfl) Xee (fun W => @meas W) fun W a tr x hd n i dr K hs =>
  (Xma W a tr x hd n i dr (fun e => meas e < meas [.i a, .ro _ tr, .i x, .ro _ hd, .i n, .i i, .l dr] /\ Xdt e K) K).mpr (hyp_ W a tr x hd n i dr K hs _ fun e h1 h2 => ⟨h1, h2⟩)
theorem Xq8 : Xf6 := Xno (fun e => match e with | [_, _, _, .ro _ hd, _, .i i, _] => ((hd.xs.length : Int) - i).toNat | _ => 0) fun W a tr x hd n i dr K hs A hA => by
 obtain ⟨⟨rfl, hD, ha, htl, hl⟩, hk⟩ := hs;unfold Xfb;delta Zbd Zg;have h0 := hl.i0;have h1 := hl.i1;have hhl := hD.hl;refine vifd (fun e => ?_) fun e => ?_
 ·rw [show hd.xs.length - i.toNat = (hd.xs.length - (i.toNat + 1)) + 1 by omega] at hk;simp only [Sp.sumF, Sp.hasE] at hk;have ez : (i + 1).toNat = i.toNat + 1 := by omega
  have hO := hD.hdO i.toNat (by omega);have hT := hD.drO a.toNat i.toNat;have bad : Sp.inr (cel tr.xs i.toNat 0).int (cel hd.xs i.toNat 2).int (cel hd.xs i.toNat 3).int = false -> K 1 [] := fun f => by
   have e7 : Sp.trB hd.xs tr.xs i.toNat = 7 := if_neg (show ¬ Sp.inr (cel tr.xs i.toNat 0).int (cel hd.xs i.toNat 2).int (cel hd.xs i.toNat 3).int = true by simp [f]);rw [decide_eq_false (show ¬ Sp.trB hd.xs tr.xs i.toNat = 0 by rw [e7]; decide)] at hk;exact hk.1 rfl
  have hin : Sp.inr (cel tr.xs i.toNat 0).int (cel hd.xs i.toNat 2).int (cel hd.xs i.toNat 3).int = true -> (0 <= (cel tr.xs i.toNat 0).int /\ (cel tr.xs i.toNat 0).int <= 100) /\ -660000 <= Sp.haT hd.xs dr tr.xs a.toNat i.toNat /\ Sp.haT hd.xs dr tr.xs a.toNat i.toNat <= 660000 := fun f => by
   have f' := Sp.inr_iff.1 f;have b3 := hO.lo;have b4 := hO.hi;simp only [Sp.hLo, Sp.hHi] at b3 b4;have a1 := Sp.at_in hO (t := (cel tr.xs i.toNat 0).int) (by omega) (by omega);exact ⟨by omega, Sp.mul_in (by omega) hT.2 a1.1 a1.2⟩
  have hA' : Sp.inr (cel tr.xs i.toNat 0).int (cel hd.xs i.toNat 2).int (cel hd.xs i.toNat 3).int = true -> ∀ y, y = x + Sp.haT hd.xs dr tr.xs a.toNat i.toNat -> A [.i a, .ro _ tr, .i y, .ro _ hd, .i hd.xs.length, .i (i + 1), .l dr] := fun f y hy => hA _ (by show ((hd.xs.length : Int) - (i + 1)).toNat < ((hd.xs.length : Int) - i).toNat; omega) ⟨⟨rfl, hD, ha, htl, ⟨by omega, by omega, by have := hl.lo; have := (hin f).2; omega⟩⟩, by
   rw [ez, hy];rw [decide_eq_true (show Sp.trB hd.xs tr.xs i.toNat = 0 from if_pos f)] at hk;exact hk⟩
  have l1 := hl.lo;have b1 := hO.ba;have b2 := hO.pe;clear hA hk;simp only [Nat.zero_add, List.length_cons, List.length_nil, Nat.reduceAdd, out1];simp only [Sp.tD, Sp.atH, Sp.hBa, Sp.hPe, Sp.atV, Sp.haT] at *;refine ned (by simp; omega) (nedd (by omega) ?_);refine ned (by simp; omega) (nedd (by omega) ⟨trivial, vifb (fun e1 => bad e1) fun e1 => ?_⟩);have g := hin e1
  repeat' (first | omega | with_reducible refine vifd (fun _ => ?_) fun _ => ?_ | with_reducible refine vifn (fun _ => ?_) fun _ => ?_ | with_reducible refine vifq (fun _ => ?_) fun _ => ?_ | with_reducible refine vifq0 (fun _ => ?_) fun _ => ?_ | with_reducible refine vifq1 (fun _ => ?_) fun _ => ?_ | with_reducible refine vifb (fun _ => ?_) fun _ => ?_ | with_reducible refine vif (fun _ => ?_) fun _ => ?_ | (with_reducible refine nedd ?_ ?_; omega) | (with_reducible refine ned ?_ ?_; simp only [Bool.and_eq_true, decide_eq_true_eq]; omega) | (with_reducible refine ar64 ?_ ?_; omega) | (with_reducible refine Xd ?_ ?_; (first | trivial | omega | assumption | (refine ⟨?_, ?_⟩ <;> first | trivial | omega | assumption) | (refine ⟨?_, ?_, ?_⟩ <;> first | trivial | omega | assumption) | (refine ⟨?_, ?_, ?_, ?_⟩ <;> first | trivial | omega | assumption))))
  all_goals first | exact hA' e1 _ rfl | skip
  all_goals trace_state
 ·rw [show hd.xs.length - i.toNat = 0 by omega] at hk;exact hk.2 rfl
noncomputable def Xrn : LE Try.prog := ⟨38, 8, fun W => @Ysl W Xee, Xq8⟩
namespace Sp
def aeE (pl sh ti st : Dt) (ce : Int) (hd rt : Dt) (a : Int) (tr : Dt) : Int := if haE pl sh ti st ce hd rt a = 0 then trErr hd tr else haE pl sh ti st ce hd rt a
def avN (pl sh ti st : Dt) (ce : Int) (hd rt : Dt) (a : Int) (tr : Dt) : Int := if aeE pl sh ti st ce hd rt a tr = 0 then sumT hd rt a.toNat tr else 0
end Sp
noncomputable def T56 : Tab Try.prog := ⟨[Xk], [Xrn], [Xbf]⟩
def Xl0 [W : InW] (c_Pl c_Sh c_Ti : Ro Jb) (c_St : Ro Jd) (c_Ce : Int) (c_Hd : Ro Iv4) (c_Rt : Ro Je) (a : Int) (tr : Ro Ja) (Q : DS -> Prop) : Prop :=
 Pre (Sp.NamesOk c_Pl.xs /\ Sp.NamesOk c_Sh.xs /\ Sp.NamesOk c_Ti.xs) (Vif (decide (Sp.cE c_Pl.xs c_Sh.xs c_Ti.xs c_St.xs c_Ce c_Hd.xs c_Rt.xs = 0)) (Ar .i64 ((↑(c_Rt.xs.length) : Int) - 1) fun z => Pre True (Vif (Sp.out Zg z [[Cl.i a]]) (Q [[Cl.i 0], [Cl.i 4]]) (Vif (!decide ((↑(tr.xs.length) : Int) = (↑(c_Hd.xs.length) : Int))) (Q [[Cl.i 0], [Cl.i 3]]) (Pre ((↑(c_Hd.xs.length) : Int) = (↑(c_Hd.xs.length) : Int) /\ Sp.DrOk c_Hd.xs (Sp.drvN c_Rt.xs (c_Rt.xs.length)) /\ (0 <= a /\ a < (↑(List.length (Sp.drvN c_Rt.xs (c_Rt.xs.length))) : Int)) /\ tr.xs.length = c_Hd.xs.length /\ Sp.Acc (c_Hd.xs.length) Zg Zg) (Vif (Sp.hasE (Sp.trB c_Hd.xs tr.xs) Zu (c_Hd.xs.length - Int.toNat Zg)) (Q [[Cl.i 0], [Cl.i 7]]) (Q [[Cl.i (Sp.sumF (Sp.haT c_Hd.xs (Sp.drvN c_Rt.xs (c_Rt.xs.length)) tr.xs a.toNat) Zu (c_Hd.xs.length - Int.toNat Zg) Zg)], [Cl.i 0]])))))) (Vif (decide (Sp.cE c_Pl.xs c_Sh.xs c_Ti.xs c_St.xs c_Ce c_Hd.xs c_Rt.xs = 0)) ((16 : Nat) = 16 + 1) (Vif (!decide (Sp.cE c_Pl.xs c_Sh.xs c_Ti.xs c_St.xs c_Ce c_Hd.xs c_Rt.xs = 0)) (Q [[Cl.i 0], [Cl.i (Sp.cE c_Pl.xs c_Sh.xs c_Ti.xs c_St.xs c_Ce c_Hd.xs c_Rt.xs)]]) ((16 : Nat) = 16 + 1))))
theorem Xr1 (W : InW) (c_Pl c_Sh c_Ti c_St c_Ce c_Hd c_Rt a tr Q) : Yvi (cxT Try.prog TT T56 1000 50) 1000 38 [.agg [.rs _ c_Pl, .rs _ c_Sh, .rs _ c_Ti, .rs _ c_St, .si .i64 c_Ce, .rs _ c_Hd, .rs _ c_Rt], .si .i64 a, .rs _ tr] [] 0 (Yzk [(false, [.int .i64]), (false, [.int .i64])] Q) (fun _ _ _ _ => Stuck 421) = Xl0 c_Pl c_Sh c_Ti c_St c_Ce c_Hd c_Rt a tr Q := by kernel_rfl
abbrev Xgt : List AT := [.agg [.sl Jb, .sl Jb, .sl Jb, .sl Jd, .int .i64, .sl Iv4, .sl Je], .one (.int .i64), .one (.sl Ja)]
theorem Xsn {pre : DS -> Prop} {res : DS -> DS} (hyp_ : ∀ (W : InW) (c_Pl c_Sh c_Ti : Ro Jb) (c_St : Ro Jd) (c_Ce : Int) (c_Hd : Ro Iv4) (c_Rt : Ro Je) (a : Int) (tr : Ro Ja), pre [[.l c_Pl.xs, .l c_Sh.xs, .l c_Ti.xs, .l c_St.xs, .i c_Ce, .l c_Hd.xs, .l c_Rt.xs], [.i a], [.l tr.xs]] -> ∀ Q : DS -> Prop, Q (res [[.l c_Pl.xs, .l c_Sh.xs, .l c_Ti.xs, .l c_St.xs, .i c_Ce, .l c_Hd.xs, .l c_Rt.xs], [.i a], [.l tr.xs]]) -> Xl0 c_Pl c_Sh c_Ti c_St c_Ce c_Hd c_Rt a tr Q) : PureOk Try.prog 38 Xgt [(false, [.int .i64]), (false, [.int .i64])] pre res :=
 PureOk.of' (fun W => @TT W) (fun W => @Xb W) Xa T56 1000 50 fun W c_Pl c_Sh c_Ti c_St c_Ce c_Hd c_Rt a tr hp =>
  (Xr1 W c_Pl c_Sh c_Ti c_St c_Ce c_Hd c_Rt a tr (fun o => o = res [[.l c_Pl.xs, .l c_Sh.xs, .l c_Ti.xs, .l c_St.xs, .i c_Ce, .l c_Hd.xs, .l c_Rt.xs], [.i a], [.l tr.xs]])).mpr (hyp_ W c_Pl c_Sh c_Ti c_St c_Ce c_Hd c_Rt a tr hp _ rfl)
abbrev Xos (ds : DS) : DS := match ds with | [[.l pl, .l sh, .l ti, .l st, .i ce, .l hd, .l rt], [.i a], [.l tr]] => [[.i (Sp.avN pl sh ti st ce hd rt a tr)], [.i (Sp.aeE pl sh ti st ce hd rt a tr)]] | _ => []
theorem Xmu {hd rt tr : Dt} {a : Nat} (ha : a < rt.length) (hl : hd.length <= 40) : Sp.sumF (Sp.haT hd (Sp.drvN rt rt.length) tr a) 0 hd.length 0 = Sp.sumT hd rt a tr := by
 unfold Sp.sumT;exact Sp.sumF_congr fun k _ hk => by unfold Sp.haT; rw [Xcm ha (by omega)]
theorem Xtq {pl sh ti st : Dt} {ce : Int} {hd rt tr : Dt} {a : Int} {Q : Int -> Int -> Prop} (h : Q (Sp.avN pl sh ti st ce hd rt a tr) (Sp.aeE pl sh ti st ce hd rt a tr)) :
  (¬ Sp.haE pl sh ti st ce hd rt a = 0 -> Q 0 (Sp.haE pl sh ti st ce hd rt a)) /\ (Sp.haE pl sh ti st ce hd rt a = 0 -> ¬ Sp.trErr hd tr = 0 -> Q 0 (Sp.trErr hd tr)) /\
  (Sp.haE pl sh ti st ce hd rt a = 0 -> Sp.trErr hd tr = 0 -> Q (Sp.sumT hd rt a.toNat tr) 0) := by
 unfold Sp.avN at h;refine ⟨fun e => ?_, fun e e2 => ?_, fun e e2 => ?_⟩
 ·have g : Sp.aeE pl sh ti st ce hd rt a tr = Sp.haE pl sh ti st ce hd rt a := by unfold Sp.aeE; rw [if_neg e]
  rw [g, if_neg e] at h; exact h
 ·have g : Sp.aeE pl sh ti st ce hd rt a tr = Sp.trErr hd tr := by unfold Sp.aeE; rw [if_pos e]
  rw [g, if_neg e2] at h; exact h
 ·have g : Sp.aeE pl sh ti st ce hd rt a tr = 0 := by unfold Sp.aeE; rw [if_pos e, e2]
  rw [g, if_pos rfl] at h; exact h
theorem Xol {hd tr : Dt} {Q : Int -> Prop} (h : Q (Sp.trErr hd tr)) : (¬ (tr.length : Int) = hd.length -> Q 3) /\ ((tr.length : Int) = hd.length -> Sp.hasE (Sp.trB hd tr) 0 hd.length = true -> Q 7) := by
 unfold Sp.trErr at h;refine ⟨fun e => ?_, fun e e2 => ?_⟩
 ·rw [if_neg e] at h; exact h
 ·rw [if_pos e, show tr.length = hd.length by omega, if_pos e2] at h; exact h
theorem Xpt {hd tr : Dt} (e : (tr.length : Int) = hd.length) (e2 : Sp.hasE (Sp.trB hd tr) 0 hd.length = false) : Sp.trErr hd tr = 0 := by
 unfold Sp.trErr;rw [if_pos e, show tr.length = hd.length by omega, if_neg (by simp [e2])]
theorem okpAt : PureOk Try.prog 38 Xgt [(false, [.int .i64]), (false, [.int .i64])] Xf Xos :=
 Xsn fun W pl sh ti st ce hd rt a tr hp Q h => by
  have hp : Sp.NamesOk pl.xs /\ Sp.NamesOk sh.xs /\ Sp.NamesOk ti.xs := hp;unfold Xl0;delta Zu Zg;have hrt := rt.len;simp only [maxLen] at hrt;obtain ⟨q0, q1, q2⟩ := Xtq (Q := fun x y => Q [[.i x], [.i y]]) h;clear h;have hx := Xgk (pl := pl.xs) (sh := sh.xs) (ti := ti.xs) (st := st.xs) (ce := ce) (hd := hd.xs) (rt := rt.xs) (a := a);simp only [out1, show Int.toNat 0 = 0 from rfl, Nat.sub_zero];refine ⟨hp, vifd (fun e => ar64 (by omega) ⟨trivial, vifb (fun e2 => ?_) fun e2 => ?_⟩) fun e => vifd (fun e3 => absurd e3 e) fun _ => vifn (fun _ => ?_) fun e3 => absurd e3 e⟩
  ·rw [if_pos e, e2, if_neg (by decide)] at hx;rw [hx] at q0;exact q0 (by decide)
  ·rw [if_pos e, e2, if_pos rfl] at hx;obtain ⟨hC, g0, g1⟩ := Xrt hx;have hl : hd.xs.length <= 40 := by have := hC.tw.stL; have := hC.hl; omega
   refine vifn (fun e3 => ?_) fun e3 => ⟨⟨trivial, Xgf hC, by rw [Xh]; omega, by omega, acc0 _⟩, vif (fun e4 => ?_) fun e4 => ?_⟩
   ·have g := (Xol (hd := hd.xs) (tr := tr.xs) (Q := fun z => Sp.trErr hd.xs tr.xs = z) rfl).1 e3;have := q1 hx (by rw [g]; decide);rw [g] at this;exact this
   ·have g := (Xol (hd := hd.xs) (tr := tr.xs) (Q := fun z => Sp.trErr hd.xs tr.xs = z) rfl).2 e3 e4;have := q1 hx (by rw [g]; decide);rw [g] at this;exact this
   ·rw [Xmu (by omega) hl];exact q2 hx (Xpt e3 e4)
  ·rw [if_neg e] at hx;rw [hx] at q0;exact q0 e
noncomputable def Xsa : PC Try.prog := ⟨38, Xgt, [(false, [.int .i64]), (false, [.int .i64])], Xf, Xos, okpAt⟩
namespace Sp
def difD (dr : Dt) (a b s : Nat) : Int := tD dr a s - tD dr b s
def leD (hd dr : Dt) (a b n : Nat) : Dt := (List.range n).map fun s => [Cl.i (leT hd (difD dr a b s) s)]
def grD (hd dr : Dt) (a b n : Nat) : Dt := (List.range n).map fun s => [Cl.i (grT hd (difD dr a b s) s)]
def adL (hd dr : Dt) (a b s : Nat) : Int := difD dr a b s * atH hd s (leT hd (difD dr a b s) s)
def adH (hd dr : Dt) (a b s : Nat) : Int := difD dr a b s * atH hd s (grT hd (difD dr a b s) s)
structure ApOk (hd dr : Dt) (a b i lo hi : Int) (le gr : Dt) : Prop where
 drK : DrOk hd dr
 a0 : 0 <= a
 a1 : a < dr.length
 b0 : 0 <= b
 b1 : b < dr.length
 loA : Acc hd.length i lo
 hiA : Acc hd.length i hi
 leE : le = leD hd dr a.toNat b.toNat i.toNat
 grE : gr = grD hd dr a.toNat b.toNat i.toNat
end Sp
def Xdu [InW] (e : List Ed) (K : Nat -> List Ed -> Prop) : Prop := match e with
 | [.i a, .i b, .ro _ hd, .i n, .i i, .l dr, .i lo, .i hi, .l le, .l gr] => Pre (n = hd.xs.length /\ Sp.ApOk hd.xs dr a b i lo hi le gr)
   (K 0 [.l dr, .i (Sp.sumF (Sp.adL hd.xs dr a.toNat b.toNat) i.toNat (hd.xs.length - i.toNat) lo), .i (Sp.sumF (Sp.adH hd.xs dr a.toNat b.toNat) i.toNat (hd.xs.length - i.toNat) hi), .l (Sp.leD hd.xs dr a.toNat b.toNat hd.xs.length), .l (Sp.grD hd.xs dr a.toNat b.toNat hd.xs.length)])
 | _ => False
noncomputable def Xef : LC where
 len := 102
 T := [(0, (.ptr 1 0)), (1, .int .i64), (2, .int .i64), (6, (.ptr 4 0)), (16, .rs Iv4), (17, .int .i64), (18, .int .i64)]
 H := [(1, .blk 111 [(.opq 1021), (.opq 1024), (.opq 1027), (.opq 1030), (.opq 1033), (.opq 1036), (.opq 1039), (.row 13)]), (13, .arr 125 Jc), (4, .blk 35 [.int .i64, .int .i64, (.row 6), (.row 9)]), (6, .arr 3 Ja), (9, .arr 3 Ja)]
 W := (rg 7 5 ++ rg 19 82)
 outs := [⟨.exit 0, [(0, (.ptr 1 0)), (6, (.ptr 4 0))], [(1, .blk 111 [(.opq 1021), (.opq 1024), (.opq 1027), (.opq 1030), (.opq 1033), (.opq 1036), (.opq 1039), (.row 13)]), (13, .arr 125 Jc), (4, .blk 35 [.int .i64, .int .i64, (.row 12), (.row 15)]), (12, .arr 3 Ja), (15, .arr 3 Ja)], ([1, 2] ++ rg 7 5 ++ rg 16 85)⟩]
 spec := Xdu
def Zbh := [Ty.int IntKind.i64, Ty.int IntKind.i64, Ty.int IntKind.i64, Ty.int IntKind.i64, Ty.int IntKind.i64, Ty.int IntKind.i64, Ty.int IntKind.i64, Ty.int IntKind.i64, Ty.int IntKind.i64, Ty.int IntKind.i64, Ty.int IntKind.i64, Ty.int IntKind.i64, Ty.int IntKind.i64, Ty.int IntKind.i64, Ty.int IntKind.i64, Ty.int IntKind.i64, Ty.int IntKind.i64, Ty.int IntKind.i64, Ty.int IntKind.i64, Ty.int IntKind.i64, Ty.int IntKind.i64, Ty.int IntKind.i64, Ty.int IntKind.i64, Ty.int IntKind.i64, Ty.int IntKind.i64, Ty.int IntKind.i64, Ty.int IntKind.i64, Ty.int IntKind.i64, Ty.int IntKind.i64, Ty.int IntKind.i64, Ty.int IntKind.i64, Ty.int IntKind.i64, Ty.int IntKind.i64, Ty.int IntKind.i64, Ty.int IntKind.i64, Ty.int IntKind.i64, Ty.int IntKind.i64, Ty.int IntKind.i64, Ty.int IntKind.i64, Ty.int IntKind.i64]
def Zbm [W : InW] (hd : Ro Iv4) (i : Int) := cel hd.xs i.toNat (0+1)
def Zbl [W : InW] (hd : Ro Iv4) (i : Int) := cel hd.xs i.toNat Zbd
def Zbi [W : InW] (hd : Ro Iv4) (i : Int) := cel hd.xs i.toNat (Zbd + 1 + 1)
def Zbg [W : InW] (hd : Ro Iv4) (i : Int) := (Zg <= (Zbl hd i).int /\ (Zbl hd i).int <= 1000) /\ (Zg <= (Zbm hd i).int /\ (Zbm hd i).int <= 100) /\ Zg <= (Zbi hd i).int /\ (Zbi hd i).int <= 100
def Zbn [W : InW] (hd : Ro Iv4) (i : Int) := [[Cl.i (Zbi hd i).int]]
def Zbo [W : InW] (hd : Ro Iv4) (i : Int) (le : Dt) := decide ((le.length + (Zbn hd i).length) * 8 <= 140737488355328)
def Zbp [W : InW] (hd : Ro Iv4) (i : Int) (gr : Dt) := decide ((gr.length + (Zbn hd i).length) * 8 <= 140737488355328)
def Zbk [W : InW] (hd : Ro Iv4) (i : Int) := cel hd.xs i.toNat (Zbd + 1 + 1 + 1)
def Zbj [W : InW] (hd : Ro Iv4) (i : Int) := (Zg <= (Zbl hd i).int /\ (Zbl hd i).int <= 1000) /\ (Zg <= (Zbm hd i).int /\ (Zbm hd i).int <= 100) /\ Zg <= (Zbk hd i).int /\ (Zbk hd i).int <= 100
def Xfc [W : InW] (a b : Int) (hd : Ro Iv4) (n i : Int) (dr : Dt) (lo hi : Int) (le gr : Dt) (A : List Ed -> Prop) (K : Nat -> List Ed -> Prop) : Prop :=
 Vif (decide (i < n)) (Need (decide (0 <= i) && decide (i < (↑(hd.xs.length) : Int))) (Need (decide (i.toNat < hd.xs.length)) (Need (decide (0 <= a) && decide (a < (↑(dr.length) : Int))) (Need (decide (0 <= i) && decide (i < (↑(40 : Nat) : Int))) (Need (decide (i.toNat < Zbh.length) && decide (a.toNat < dr.length)) (Need (decide (0 <= b) && decide (b < (↑(dr.length) : Int))) (Need (decide (0 <= i) && decide (i < (↑(40 : Nat) : Int))) (Need (decide (i.toNat < Zbh.length) && decide (b.toNat < dr.length)) (Ar .i64 ((cel dr a.toNat i.toNat).int - (cel dr b.toNat i.toNat).int) fun z => Vif (decide ((Zbm hd i).int = 0)) (Pre (Zbg hd i) (Ar .i64 (z * Sp.atV (Zbl hd i).int (Zbm hd i).int (Zbi hd i).int) fun z_1 => Ar .i64 (lo + z_1) fun z_2 => Pre (Zbg hd i) (Ar .i64 (z * Sp.atV (Zbl hd i).int (Zbm hd i).int (Zbi hd i).int) fun z => Ar .i64 (hi + z) fun z => Need (Zbo hd i le) (Need (Zbp hd i gr) (Ar .i64 (i + 1) fun z_3 => A [.i a, .i b, .ro _ hd, .i n, .i z_3, .l dr, .i z_2, .i z, .l (le ++ (Zbn hd i)), .l (gr ++ (Zbn hd i))]))))) (Vif (decide (0 < z)) (Pre (Zbg hd i) (Ar .i64 (z * Sp.atV (Zbl hd i).int (Zbm hd i).int (Zbi hd i).int) fun z_1 => Ar .i64 (lo + z_1) fun z_2 => Pre (Zbj hd i) (Ar .i64 (z * Sp.atV (Zbl hd i).int (Zbm hd i).int (Zbk hd i).int) fun z => Ar .i64 (hi + z) fun z => Need (Zbo hd i le) (Need (decide ((gr.length + [[Cl.i (Zbk hd i).int]].length) * 8 <= 140737488355328)) (Ar .i64 (i + 1) fun z_3 => A [.i a, .i b, .ro _ hd, .i n, .i z_3, .l dr, .i z_2, .i z, .l (le ++ (Zbn hd i)), .l (gr ++ [[Cl.i (Zbk hd i).int]])]))))) (Vif (decide (z < 0)) (Pre (Zbj hd i) (Ar .i64 (z * Sp.atV (Zbl hd i).int (Zbm hd i).int (Zbk hd i).int) fun z_1 => Ar .i64 (lo + z_1) fun z_2 => Pre (Zbg hd i) (Ar .i64 (z * Sp.atV (Zbl hd i).int (Zbm hd i).int (Zbi hd i).int) fun z => Ar .i64 (hi + z) fun z => Need (decide ((le.length + [[Cl.i (Zbk hd i).int]].length) * 8 <= 140737488355328)) (Need (Zbp hd i gr) (Ar .i64 (i + 1) fun z_3 => A [.i a, .i b, .ro _ hd, .i n, .i z_3, .l dr, .i z_2, .i z, .l (le ++ [[Cl.i (Zbk hd i).int]]), .l (gr ++ (Zbn hd i))]))))) (Pre (Zbg hd i) (Ar .i64 (z * Sp.atV (Zbl hd i).int (Zbm hd i).int (Zbi hd i).int) fun z_1 => Ar .i64 (lo + z_1) fun z_2 => Pre (Zbg hd i) (Ar .i64 (z * Sp.atV (Zbl hd i).int (Zbm hd i).int (Zbi hd i).int) fun z => Ar .i64 (hi + z) fun z => Need (Zbo hd i le) (Need (Zbp hd i gr) (Ar .i64 (i + 1) fun z_3 => A [.i a, .i b, .ro _ hd, .i n, .i z_3, .l dr, .i z_2, .i z, .l (le ++ (Zbn hd i)), .l (gr ++ (Zbn hd i))])))))))))))))))) (K 0 [.l dr, .i lo, .i hi, .l le, .l gr])
theorem Xmb (W : InW) (a b hd n i dr lo hi le gr A K) : Ye9 { cxT Try.prog TT T51 1000 50 with fn := 47 } 1000 (Ynd Try.prog 47 3) (Yd0 102 [(0, .ptr 1 0), (1, .si .i64 a), (2, .si .i64 b), (6, .ptr 4 0), (16, .rs _ hd), (17, .si .i64 n), (18, .si .i64 i)] (rg 7 5 ++ rg 19 82)) [(1, .blk 111 [.opq 1021, .opq 1024, .opq 1027, .opq 1030, .opq 1033, .opq 1036, .opq 1039, .rw 13]), (13, .arr 125 Jc dr), (4, .blk 35 [.si .i64 lo, .si .i64 hi, .rw 6, .rw 9]), (6, .arr 3 Ja le), (9, .arr 3 Ja gr)] (Yte Xef A K) = Xfc a b hd n i dr lo hi le gr A K := by kernel_rfl
def Xf7 : Prop := ∀ (W : InW) (body a : Code), (Try.prog.funcs[47]?).bind (·.body) = some body -> a ∈ Yu body -> Yfs a = 3 -> @Yl2 W Try.prog a (@Ysl W Xef)
theorem Xnp (meas : [InW] -> List Ed -> Nat) (hyp_ : ∀ (W : InW) a b hd n i dr lo hi le gr K, Xdu [.i a, .i b, .ro _ hd, .i n, .i i, .l dr, .i lo, .i hi, .l le, .l gr] K -> ∀ A : List Ed -> Prop, (∀ e, meas e < meas [.i a, .i b, .ro _ hd, .i n, .i i, .l dr, .i lo, .i hi, .l le, .l gr] -> Xdu e K -> A e) -> Xfc a b hd n i dr lo hi le gr A K) : Xf7 :=
 LE.okOf' (fun W => @TT W) (fun W => @Xb W) Xa T51 1000 50 (by kernel_rfl) Xef (fun W => @meas W) fun W a b hd n i dr lo hi le gr K hs =>
  (Xmb W a b hd n i dr lo hi le gr (fun e => meas e < meas [.i a, .i b, .ro _ hd, .i n, .i i, .l dr, .i lo, .i hi, .l le, .l gr] /\ Xdu e K) K).mpr (hyp_ W a b hd n i dr lo hi le gr K hs _ fun e h1 h2 => ⟨h1, h2⟩)
theorem Xoe (hd dr : Dt) (a b n : Nat) : Sp.leD hd dr a b (n + 1) = Sp.leD hd dr a b n ++ [[Cl.i (Sp.leT hd (Sp.difD dr a b n) n)]] := by
 unfold Sp.leD;rw [show List.range (n + 1) = List.range n ++ [n] from List.range_succ, List.map_append];rfl
theorem Xoh (hd dr : Dt) (a b n : Nat) : Sp.grD hd dr a b (n + 1) = Sp.grD hd dr a b n ++ [[Cl.i (Sp.grT hd (Sp.difD dr a b n) n)]] := by
 unfold Sp.grD;rw [show List.range (n + 1) = List.range n ++ [n] from List.range_succ, List.map_append];rfl
theorem Xq9 : Xf7 := Xnp (fun e => match e with | [_, _, .ro _ hd, _, .i i, _, _, _, _, _] => ((hd.xs.length : Int) - i).toNat | _ => 0) fun W a b hd n i dr lo hi le gr K hs A hA => by
 obtain ⟨⟨rfl, hO⟩, hk⟩ := hs;unfold Xfc;delta Zbp Zbo Zbn Zbg Zbj Zbi Zbl Zbk Zbd Zbm Zg Zbh;have hD := hO.drK;have h0 := hO.loA.i0;have h1 := hO.loA.i1;have hhl := hD.hl;have ha0 := hO.a0;have ha1 := hO.a1;have hb0 := hO.b0;have hb1 := hO.b1;refine vifd (fun e => ?_) fun e => ?_
 ·rw [show hd.xs.length - i.toNat = (hd.xs.length - (i.toNat + 1)) + 1 by omega] at hk;simp only [Sp.sumF] at hk;have ez : (i + 1).toNat = i.toNat + 1 := by omega
  have hH := hD.hdO i.toNat (by omega);have ta := hD.drO a.toNat i.toNat;have tb := hD.drO b.toNat i.toNat;have gl := Sp.leT_in (n := Sp.difD dr a.toNat b.toNat i.toNat) hH;have gg := Sp.grT_in (n := Sp.difD dr a.toNat b.toNat i.toNat) hH;have b3 := hH.lo;have b4 := hH.hi;have a1 := Sp.at_in hH (t := Sp.leT hd.xs (Sp.difD dr a.toNat b.toNat i.toNat) i.toNat) (by omega) (by omega);have a2 := Sp.at_in hH (t := Sp.grT hd.xs (Sp.difD dr a.toNat b.toNat i.toNat) i.toNat) (by omega) (by omega);have m1 := Sp.mul_in (n := Sp.difD dr a.toNat b.toNat i.toNat) (by unfold Sp.difD; omega) (by unfold Sp.difD; omega) a1.1 a1.2;have m2 := Sp.mul_in (n := Sp.difD dr a.toNat b.toNat i.toNat) (by unfold Sp.difD; omega) (by unfold Sp.difD; omega) a2.1 a2.2;have hle : le.length = i.toNat := by rw [hO.leE]; unfold Sp.leD; simp
  have hgr : gr.length = i.toNat := by rw [hO.grE]; unfold Sp.grD; simp
  have hA' : ∀ u v x y, u = Sp.leT hd.xs (Sp.difD dr a.toNat b.toNat i.toNat) i.toNat -> v = Sp.grT hd.xs (Sp.difD dr a.toNat b.toNat i.toNat) i.toNat -> x = lo + Sp.difD dr a.toNat b.toNat i.toNat * Sp.atH hd.xs i.toNat u -> y = hi + Sp.difD dr a.toNat b.toNat i.toNat * Sp.atH hd.xs i.toNat v -> A [.i a, .i b, .ro _ hd, .i hd.xs.length, .i (i + 1), .l dr, .i x, .i y, .l (le ++ [[.i u]]), .l (gr ++ [[.i v]])] := fun u v x y hu hv hx hy => hA _ (by show ((hd.xs.length : Int) - (i + 1)).toNat < ((hd.xs.length : Int) - i).toNat; omega) ⟨⟨rfl, ⟨hD, ha0, ha1, hb0, hb1, ⟨by omega, by omega, by have := hO.loA.lo; rw [hu] at hx; omega⟩, ⟨by omega, by omega, by have := hO.hiA.lo; rw [hv] at hy; omega⟩, by rw [ez, Xoe, hO.leE, hu], by rw [ez, Xoh, hO.grE, hv]⟩⟩, by rw [ez, hx, hy, hu, hv]; exact hk⟩;have l1 := hO.loA.lo;have l2 := hO.hiA.lo;have b1 := hH.ba;have b2 := hH.pe;have b5 := hH.le;clear hA hk;simp only [Nat.zero_add, List.length_cons, List.length_nil, Nat.reduceAdd];simp only [show (cel hd.xs i.toNat 0).int = Sp.hBa hd.xs i.toNat from rfl, show (cel hd.xs i.toNat 1).int = Sp.hPe hd.xs i.toNat from rfl, show (cel hd.xs i.toNat 2).int = Sp.hLo hd.xs i.toNat from rfl, show (cel hd.xs i.toNat 3).int = Sp.hHi hd.xs i.toNat from rfl];simp only [show ∀ t, Sp.atV (Sp.hBa hd.xs i.toNat) (Sp.hPe hd.xs i.toNat) t = Sp.atH hd.xs i.toNat t from fun _ => rfl, show (cel dr a.toNat i.toNat).int - (cel dr b.toNat i.toNat).int = Sp.difD dr a.toNat b.toNat i.toNat from rfl];have hn : -60 <= Sp.difD dr a.toNat b.toNat i.toNat /\ Sp.difD dr a.toNat b.toNat i.toNat <= 60 := by unfold Sp.difD; omega
  generalize hN : Sp.difD dr a.toNat b.toNat i.toNat = N at *
  repeat (first | (with_reducible refine nedd ?_ ?_; omega) | (with_reducible refine ned ?_ ?_; simp only [Bool.and_eq_true, decide_eq_true_eq]; omega))
  refine ar64 (by omega) (vifd (fun c1 => ?_) fun c1 => vifd (fun c2 => ?_) fun c2 => vifd (fun c3 => ?_) fun c3 => ?_)
  ·have e1 : Sp.leT hd.xs N i.toNat = Sp.hLo hd.xs i.toNat := by unfold Sp.leT; rw [if_pos c1]
   have e2 : Sp.grT hd.xs N i.toNat = Sp.hLo hd.xs i.toNat := by unfold Sp.grT; rw [if_pos c1]
   rw [e1] at m1;rw [e2] at m2
   repeat' (first | omega | with_reducible refine vifd (fun _ => ?_) fun _ => ?_ | with_reducible refine vifn (fun _ => ?_) fun _ => ?_ | with_reducible refine vifq (fun _ => ?_) fun _ => ?_ | with_reducible refine vifq0 (fun _ => ?_) fun _ => ?_ | with_reducible refine vifq1 (fun _ => ?_) fun _ => ?_ | with_reducible refine vifb (fun _ => ?_) fun _ => ?_ | with_reducible refine vif (fun _ => ?_) fun _ => ?_ | (with_reducible refine nedd ?_ ?_; omega) | (with_reducible refine ned ?_ ?_; simp only [Bool.and_eq_true, decide_eq_true_eq]; omega) | (with_reducible refine ar64 ?_ ?_; omega) | (with_reducible refine Xd ?_ ?_; (first | trivial | omega | assumption | (refine ⟨?_, ?_⟩ <;> first | trivial | omega | assumption) | (refine ⟨?_, ?_, ?_⟩ <;> first | trivial | omega | assumption) | (refine ⟨?_, ?_, ?_, ?_⟩ <;> first | trivial | omega | assumption))))
   all_goals exact hA' _ _ _ _ e1.symm e2.symm rfl rfl
  ·have e1 : Sp.leT hd.xs N i.toNat = Sp.hLo hd.xs i.toNat := by unfold Sp.leT; rw [if_neg c1, if_neg (by omega)]
   have e2 : Sp.grT hd.xs N i.toNat = Sp.hHi hd.xs i.toNat := by unfold Sp.grT; rw [if_neg c1, if_pos c2]
   rw [e1] at m1;rw [e2] at m2
   repeat' (first | omega | with_reducible refine vifd (fun _ => ?_) fun _ => ?_ | with_reducible refine vifn (fun _ => ?_) fun _ => ?_ | with_reducible refine vifq (fun _ => ?_) fun _ => ?_ | with_reducible refine vifq0 (fun _ => ?_) fun _ => ?_ | with_reducible refine vifq1 (fun _ => ?_) fun _ => ?_ | with_reducible refine vifb (fun _ => ?_) fun _ => ?_ | with_reducible refine vif (fun _ => ?_) fun _ => ?_ | (with_reducible refine nedd ?_ ?_; omega) | (with_reducible refine ned ?_ ?_; simp only [Bool.and_eq_true, decide_eq_true_eq]; omega) | (with_reducible refine ar64 ?_ ?_; omega) | (with_reducible refine Xd ?_ ?_; (first | trivial | omega | assumption | (refine ⟨?_, ?_⟩ <;> first | trivial | omega | assumption) | (refine ⟨?_, ?_, ?_⟩ <;> first | trivial | omega | assumption) | (refine ⟨?_, ?_, ?_, ?_⟩ <;> first | trivial | omega | assumption))))
   all_goals exact hA' _ _ _ _ e1.symm e2.symm rfl rfl
  ·have e1 : Sp.leT hd.xs N i.toNat = Sp.hHi hd.xs i.toNat := by unfold Sp.leT; rw [if_neg c1, if_pos c3]
   have e2 : Sp.grT hd.xs N i.toNat = Sp.hLo hd.xs i.toNat := by unfold Sp.grT; rw [if_neg c1, if_neg c2]
   rw [e1] at m1;rw [e2] at m2
   repeat' (first | omega | with_reducible refine vifd (fun _ => ?_) fun _ => ?_ | with_reducible refine vifn (fun _ => ?_) fun _ => ?_ | with_reducible refine vifq (fun _ => ?_) fun _ => ?_ | with_reducible refine vifq0 (fun _ => ?_) fun _ => ?_ | with_reducible refine vifq1 (fun _ => ?_) fun _ => ?_ | with_reducible refine vifb (fun _ => ?_) fun _ => ?_ | with_reducible refine vif (fun _ => ?_) fun _ => ?_ | (with_reducible refine nedd ?_ ?_; omega) | (with_reducible refine ned ?_ ?_; simp only [Bool.and_eq_true, decide_eq_true_eq]; omega) | (with_reducible refine ar64 ?_ ?_; omega) | (with_reducible refine Xd ?_ ?_; (first | trivial | omega | assumption | (refine ⟨?_, ?_⟩ <;> first | trivial | omega | assumption) | (refine ⟨?_, ?_, ?_⟩ <;> first | trivial | omega | assumption) | (refine ⟨?_, ?_, ?_, ?_⟩ <;> first | trivial | omega | assumption))))
   all_goals exact hA' _ _ _ _ e1.symm e2.symm rfl rfl
  ·have e1 : Sp.leT hd.xs N i.toNat = Sp.hLo hd.xs i.toNat := by unfold Sp.leT; rw [if_neg c1, if_neg c3]
   have e2 : Sp.grT hd.xs N i.toNat = Sp.hLo hd.xs i.toNat := by unfold Sp.grT; rw [if_neg c1, if_neg c2]
   rw [e1] at m1;rw [e2] at m2
   repeat' (first | omega | with_reducible refine vifd (fun _ => ?_) fun _ => ?_ | with_reducible refine vifn (fun _ => ?_) fun _ => ?_ | with_reducible refine vifq (fun _ => ?_) fun _ => ?_ | with_reducible refine vifq0 (fun _ => ?_) fun _ => ?_ | with_reducible refine vifq1 (fun _ => ?_) fun _ => ?_ | with_reducible refine vifb (fun _ => ?_) fun _ => ?_ | with_reducible refine vif (fun _ => ?_) fun _ => ?_ | (with_reducible refine nedd ?_ ?_; omega) | (with_reducible refine ned ?_ ?_; simp only [Bool.and_eq_true, decide_eq_true_eq]; omega) | (with_reducible refine ar64 ?_ ?_; omega) | (with_reducible refine Xd ?_ ?_; (first | trivial | omega | assumption | (refine ⟨?_, ?_⟩ <;> first | trivial | omega | assumption) | (refine ⟨?_, ?_, ?_⟩ <;> first | trivial | omega | assumption) | (refine ⟨?_, ?_, ?_, ?_⟩ <;> first | trivial | omega | assumption))))
   all_goals exact hA' _ _ _ _ e1.symm e2.symm rfl rfl
 ·have hl : i.toNat = hd.xs.length := by omega
  rw [show hd.xs.length - i.toNat = 0 by omega] at hk;rw [<- hl, <- hO.leE, <- hO.grE] at hk;exact hk
noncomputable def Xro : LE Try.prog := ⟨47, 3, fun W => @Ysl W Xef, Xq9⟩
noncomputable def T61 : Tab Try.prog := ⟨[], [Xro], []⟩
def Xhy [InW] (e : List Ed) (K : Nat -> List Ed -> Prop) : Prop := match e with
 | [.i a, .i b, .ro _ pl, .ro _ sh, .ro _ ti, .ro _ st, .i ce, .ro _ hd, .ro _ rt, .l dr] => Pre (Sp.DrOk hd.xs dr /\ (0 <= a /\ a < dr.length) /\ 0 <= b /\ b < dr.length)
   (K 0 [.i (Sp.sumF (Sp.adL hd.xs dr a.toNat b.toNat) 0 hd.xs.length 0), .i (Sp.sumF (Sp.adH hd.xs dr a.toNat b.toNat) 0 hd.xs.length 0), .ro _ pl, .ro _ sh, .ro _ ti, .ro _ st, .i ce, .ro _ hd, .ro _ rt, .l dr, .l (Sp.leD hd.xs dr a.toNat b.toNat hd.xs.length), .l (Sp.grD hd.xs dr a.toNat b.toNat hd.xs.length)])
 | _ => False
noncomputable def Xj : CC where
 g := 47
 args := [(.ptr 1 0), .int .i64, .int .i64]
 H := [(1, .blk 111 [.rs Jb, .rs Jb, .rs Jb, .rs Jd, .int .i64, .rs Iv4, .rs Je, (.row 4)]), (4, .arr 125 Jc)]
 outs := [⟨false, .agg [.int .i64, .int .i64, (.row 9), (.row 12)], [(1, .blk 111 [.rs Jb, .rs Jb, .rs Jb, .rs Jd, .int .i64, .rs Iv4, .rs Je, (.row 4)]), (4, .arr 125 Jc), (9, .arr 3 Ja), (12, .arr 3 Ja)], false⟩]
 spec := Xhy
def Xdd [W : InW] (a b : Int) (pl sh ti : Ro Jb) (st : Ro Jd) (ce : Int) (hd : Ro Iv4) (rt : Ro Je) (dr : Dt) (K : Nat -> List Ed -> Prop) : Prop :=
 Pre ((↑(hd.xs.length) : Int) = (↑(hd.xs.length) : Int) /\ Sp.ApOk hd.xs dr a b Zg Zg Zg [] []) (K 0 [.i (Sp.sumF (Sp.adL hd.xs dr a.toNat b.toNat) Zu (hd.xs.length - Int.toNat Zg) Zg), .i (Sp.sumF (Sp.adH hd.xs dr a.toNat b.toNat) Zu (hd.xs.length - Int.toNat Zg) Zg), .ro _ pl, .ro _ sh, .ro _ ti, .ro Zb st, .i ce, .ro _ hd, .ro [Ty.sl [Ty.int IntKind.i64, Ty.bool]] rt, .l dr, .l (Sp.leD hd.xs dr a.toNat b.toNat (hd.xs.length)), .l (Sp.grD hd.xs dr a.toNat b.toNat (hd.xs.length))])
theorem Xjs (W : InW) (a b pl sh ti st ce hd rt dr K) : Yvf (cxT Try.prog TT T61 1000 50) 1000 47 [.ptr 1 0, .si .i64 a, .si .i64 b] [(1, .blk 111 [.rs _ pl, .rs _ sh, .rs _ ti, .rs _ st, .si .i64 ce, .rs _ hd, .rs _ rt, .rw 4]), (4, .arr 125 Jc dr)] (fun v h => outC Xj.H [.ro _ pl, .ro _ sh, .ro _ ti, .ro _ st, .i ce, .ro _ hd, .ro _ rt, .l dr] Xj.outs 0 false v h K) (fun v h => outC Xj.H [.ro _ pl, .ro _ sh, .ro _ ti, .ro _ st, .i ce, .ro _ hd, .ro _ rt, .l dr] Xj.outs 0 true v h K) = Xdd a b pl sh ti st ce hd rt dr K := by kernel_rfl
theorem Xk3 (hyp_ : ∀ (W : InW) a b pl sh ti st ce hd rt dr K, Xhy [.i a, .i b, .ro _ pl, .ro _ sh, .ro _ ti, .ro _ st, .i ce, .ro _ hd, .ro _ rt, .l dr] K -> Xdd a b pl sh ti st ce hd rt dr K) : ∀ W : InW, @CallC W Try.prog Xj :=
 CC.okOf (fun W => @TT W) (fun W => @Xb W) Xa T61 1000 50 Xj fun W a b pl sh ti st ce hd rt dr K hs => (Xjs W a b pl sh ti st ce hd rt dr K).mpr (hyp_ W a b pl sh ti st ce hd rt dr K hs)
theorem Xob : ∀ W : InW, @CallC W Try.prog Xj := Xk3 fun W a b pl sh ti st ce hd rt dr K hs => by
 obtain ⟨⟨h1, h2, h3, h4⟩, hk⟩ := hs;unfold Xdd;delta Zu Zb Zg;refine ⟨⟨rfl, ⟨h1, h2.1, h2.2, h3, h4, acc0 _, acc0 _, rfl, rfl⟩⟩, ?_⟩;exact hk
noncomputable def Xen := ceOf Xj Xob
namespace Sp
def pairE (pl sh ti st : Dt) (ce : Int) (hd rt : Dt) (a b : Int) : Int := rtsE pl sh ti st ce hd rt [[.i a], [.i b]]
def paLo (pl sh ti st : Dt) (ce : Int) (hd rt : Dt) (a b : Int) : Int := if pairE pl sh ti st ce hd rt a b = 0 then apLo hd rt a.toNat b.toNat else 0
def paHi (pl sh ti st : Dt) (ce : Int) (hd rt : Dt) (a b : Int) : Int := if pairE pl sh ti st ce hd rt a b = 0 then apHi hd rt a.toNat b.toNat else 0
def paLe (pl sh ti st : Dt) (ce : Int) (hd rt : Dt) (a b : Int) : Dt := if pairE pl sh ti st ce hd rt a b = 0 then apLe hd rt a.toNat b.toNat hd.length else []
def paGr (pl sh ti st : Dt) (ce : Int) (hd rt : Dt) (a b : Int) : Dt := if pairE pl sh ti st ce hd rt a b = 0 then apGr hd rt a.toNat b.toNat hd.length else []
end Sp
theorem Xgj {pl sh ti st : Dt} {ce : Int} {hd rt : Dt} {a b : Int} : (Sp.pairE pl sh ti st ce hd rt a b = if Sp.cE pl sh ti st ce hd rt = 0 then (if Sp.inr a 0 ((rt.length : Int) - 1) && Sp.inr b 0 ((rt.length : Int) - 1) then 0 else 4) else Sp.cE pl sh ti st ce hd rt) := by
 unfold Sp.pairE Sp.rtsE;rw [out2];cases Sp.inr a 0 ((rt.length : Int) - 1) <;> cases Sp.inr b 0 ((rt.length : Int) - 1) <;> rfl
theorem Xfx {pl sh ti st : Dt} {ce : Int} {hd rt : Dt} {a b : Int} (h : Sp.pairE pl sh ti st ce hd rt a b = 0) : Sp.CrOk pl sh ti st ce hd rt /\ (0 <= a /\ a < rt.length) /\ 0 <= b /\ b < rt.length := by
 rw [Xgj] at h
 split at h
 ·rename_i e
  split at h
  ·rename_i e2;simp only [Bool.and_eq_true, Sp.inr_iff] at e2;exact ⟨Sp.cchk_ok e, by omega, by omega⟩
  ·omega
 ·contradiction
theorem Xgp {rt : Dt} {a b s : Nat} (ha : a < rt.length) (hb : b < rt.length) (hs : s < 40) : Sp.difD (Sp.drvN rt rt.length) a b s = Sp.dif rt a b s := by
 unfold Sp.difD Sp.dif;rw [Xcm ha hs, Xcm hb hs]
theorem Xlw {hd rt : Dt} {a b : Nat} (ha : a < rt.length) (hb : b < rt.length) (hl : hd.length <= 40) :
  Sp.sumF (Sp.adL hd (Sp.drvN rt rt.length) a b) 0 hd.length 0 = Sp.apLo hd rt a b /\ Sp.sumF (Sp.adH hd (Sp.drvN rt rt.length) a b) 0 hd.length 0 = Sp.apHi hd rt a b /\
  Sp.leD hd (Sp.drvN rt rt.length) a b hd.length = Sp.apLe hd rt a b hd.length /\ Sp.grD hd (Sp.drvN rt rt.length) a b hd.length = Sp.apGr hd rt a b hd.length := by
 unfold Sp.apLo Sp.apHi Sp.leD Sp.grD Sp.apLe Sp.apGr;refine ⟨Sp.sumF_congr fun k _ hk => by unfold Sp.adL; rw [Xgp ha hb (by omega)], Sp.sumF_congr fun k _ hk => by unfold Sp.adH; rw [Xgp ha hb (by omega)], List.map_congr_left fun k hk => ?_, List.map_congr_left fun k hk => ?_⟩ <;>
 ·rw [List.mem_range] at hk;rw [Xgp ha hb (by omega)]
theorem Xsb {pl sh ti st : Dt} {ce : Int} {hd rt : Dt} {a b : Int} {Q : Int -> Int -> Dt -> Dt -> Int -> Prop} (h : Q (Sp.paLo pl sh ti st ce hd rt a b) (Sp.paHi pl sh ti st ce hd rt a b) (Sp.paLe pl sh ti st ce hd rt a b) (Sp.paGr pl sh ti st ce hd rt a b) (Sp.pairE pl sh ti st ce hd rt a b)) :
  (¬ Sp.pairE pl sh ti st ce hd rt a b = 0 -> Q 0 0 [] [] (Sp.pairE pl sh ti st ce hd rt a b)) /\
  (Sp.pairE pl sh ti st ce hd rt a b = 0 -> Q (Sp.apLo hd rt a.toNat b.toNat) (Sp.apHi hd rt a.toNat b.toNat) (Sp.apLe hd rt a.toNat b.toNat hd.length) (Sp.apGr hd rt a.toNat b.toNat hd.length) 0) := by
 unfold Sp.paLo Sp.paHi Sp.paLe Sp.paGr at h;refine ⟨fun e => ?_, fun e => ?_⟩
 ·rw [if_neg e, if_neg e, if_neg e, if_neg e] at h; exact h
 ·rw [if_pos e, if_pos e, if_pos e, if_pos e, e] at h; exact h
abbrev Xb8 : RTs := [(true, [.int .i64, .int .i64, .row 3 Ja, .row 3 Ja]), (false, [.int .i64])]
abbrev Xfp (ds : DS) : DS := match ds with | [[.l pl, .l sh, .l ti, .l st, .i ce, .l hd, .l rt], [.i a], [.i b]] => [[.i (Sp.paLo pl sh ti st ce hd rt a b), .i (Sp.paHi pl sh ti st ce hd rt a b), .l (Sp.paLe pl sh ti st ce hd rt a b), .l (Sp.paGr pl sh ti st ce hd rt a b)], [.i (Sp.pairE pl sh ti st ce hd rt a b)]] | _ => []
noncomputable def T62 : Tab Try.prog := ⟨[Xk], [], [Xbf, Xen]⟩
def Zbq [W : InW] (c_Rt : Ro Je) := Sp.drvN c_Rt.xs (c_Rt.xs.length)
def Xc7 [W : InW] (c_Pl c_Sh c_Ti : Ro Jb) (c_St : Ro Jd) (c_Ce : Int) (c_Hd : Ro Iv4) (c_Rt : Ro Je) (a b : Int) (Q : DS -> Prop) : Prop :=
 Pre (Sp.NamesOk c_Pl.xs /\ Sp.NamesOk c_Sh.xs /\ Sp.NamesOk c_Ti.xs) (Vif (decide (Sp.cE c_Pl.xs c_Sh.xs c_Ti.xs c_St.xs c_Ce c_Hd.xs c_Rt.xs = 0)) (Ar .i64 ((↑(c_Rt.xs.length) : Int) - 1) fun z => Pre True (Vif (Sp.out Zg z [[Cl.i a], [Cl.i b]]) (Q [[Cl.i 0, Cl.i 0, Cl.l [], Cl.l []], [Cl.i 4]]) (Pre (Sp.DrOk c_Hd.xs (Zbq c_Rt) /\ (0 <= a /\ a < (↑(List.length (Zbq c_Rt)) : Int)) /\ 0 <= b /\ b < (↑(List.length (Zbq c_Rt)) : Int)) (Q [[Cl.i (Sp.sumF (Sp.adL c_Hd.xs (Zbq c_Rt) a.toNat b.toNat) (0 : Nat) (c_Hd.xs.length) Zg), Cl.i (Sp.sumF (Sp.adH c_Hd.xs (Zbq c_Rt) a.toNat b.toNat) (0 : Nat) (c_Hd.xs.length) Zg), Cl.l (Sp.leD c_Hd.xs (Zbq c_Rt) a.toNat b.toNat (c_Hd.xs.length)), Cl.l (Sp.grD c_Hd.xs (Zbq c_Rt) a.toNat b.toNat (c_Hd.xs.length))], [Cl.i 0]])))) (Vif (decide (Sp.cE c_Pl.xs c_Sh.xs c_Ti.xs c_St.xs c_Ce c_Hd.xs c_Rt.xs = 0)) ((16 : Nat) = 16 + 1) (Vif (!decide (Sp.cE c_Pl.xs c_Sh.xs c_Ti.xs c_St.xs c_Ce c_Hd.xs c_Rt.xs = 0)) (Q [[Cl.i 0, Cl.i 0, Cl.l [], Cl.l []], [Cl.i (Sp.cE c_Pl.xs c_Sh.xs c_Ti.xs c_St.xs c_Ce c_Hd.xs c_Rt.xs)]]) ((16 : Nat) = 16 + 1))))
theorem Xj2 (W : InW) (c_Pl c_Sh c_Ti c_St c_Ce c_Hd c_Rt a b Q) : Yvi (cxT Try.prog TT T62 1000 50) 1000 14 [.agg [.rs _ c_Pl, .rs _ c_Sh, .rs _ c_Ti, .rs _ c_St, .si .i64 c_Ce, .rs _ c_Hd, .rs _ c_Rt], .si .i64 a, .si .i64 b] [] 0 (Yzk Xb8 Q) (fun _ _ _ _ => Stuck 421) = Xc7 c_Pl c_Sh c_Ti c_St c_Ce c_Hd c_Rt a b Q := by kernel_rfl
abbrev Xbq : List AT := [.agg [.sl Jb, .sl Jb, .sl Jb, .sl Jd, .int .i64, .sl Iv4, .sl Je], .one (.int .i64), .one (.int .i64)]
theorem Xld {pre : DS -> Prop} {res : DS -> DS} (hyp_ : ∀ (W : InW) (c_Pl c_Sh c_Ti : Ro Jb) (c_St : Ro Jd) (c_Ce : Int) (c_Hd : Ro Iv4) (c_Rt : Ro Je) (a b : Int), pre [[.l c_Pl.xs, .l c_Sh.xs, .l c_Ti.xs, .l c_St.xs, .i c_Ce, .l c_Hd.xs, .l c_Rt.xs], [.i a], [.i b]] -> ∀ Q : DS -> Prop, Q (res [[.l c_Pl.xs, .l c_Sh.xs, .l c_Ti.xs, .l c_St.xs, .i c_Ce, .l c_Hd.xs, .l c_Rt.xs], [.i a], [.i b]]) -> Xc7 c_Pl c_Sh c_Ti c_St c_Ce c_Hd c_Rt a b Q) : PureOk Try.prog 14 Xbq Xb8 pre res :=
 PureOk.of' (fun W => @TT W) (fun W => @Xb W) Xa T62 1000 50 fun W c_Pl c_Sh c_Ti c_St c_Ce c_Hd c_Rt a b hp =>
  (Xj2 W c_Pl c_Sh c_Ti c_St c_Ce c_Hd c_Rt a b (fun o => o = res [[.l c_Pl.xs, .l c_Sh.xs, .l c_Ti.xs, .l c_St.xs, .i c_Ce, .l c_Hd.xs, .l c_Rt.xs], [.i a], [.i b]])).mpr (hyp_ W c_Pl c_Sh c_Ti c_St c_Ce c_Hd c_Rt a b hp _ rfl)
theorem Xnf : PureOk Try.prog 14 Xbq Xb8 Xf Xfp :=
 Xld fun W pl sh ti st ce hd rt a b hp Q h => by
  have hp : Sp.NamesOk pl.xs /\ Sp.NamesOk sh.xs /\ Sp.NamesOk ti.xs := hp;unfold Xc7;delta Zbq Zg;have hrt := rt.len;simp only [maxLen] at hrt;obtain ⟨q0, q1⟩ := Xsb (Q := fun u v x y z => Q [[.i u, .i v, .l x, .l y], [.i z]]) h;clear h;have hx := Xgj (pl := pl.xs) (sh := sh.xs) (ti := ti.xs) (st := st.xs) (ce := ce) (hd := hd.xs) (rt := rt.xs) (a := a) (b := b);simp only [out2];refine ⟨hp, vifd (fun e => ar64 (by omega) ⟨trivial, ?_⟩) fun e => vifd (fun e3 => absurd e3 e) fun _ => vifn (fun _ => ?_) fun e3 => absurd e3 e⟩
  ·rw [if_pos e] at hx;generalize hg : (!Sp.inr a 0 ((rt.xs.length : Int) - 1) || !Sp.inr b 0 ((rt.xs.length : Int) - 1)) = g at *;refine vif (fun e2 => ?_) fun e2 => ?_
   ·rw [if_neg (by rw [e2] at hg; intro hc; simp only [Bool.and_eq_true] at hc; simp [hc.1, hc.2] at hg)] at hx;rw [hx] at q0;exact q0 (by decide)
   ·rw [if_pos (by rw [e2] at hg; simpa using hg)] at hx;obtain ⟨hC, ha, hb⟩ := Xfx hx;have hl : hd.xs.length <= 40 := by have := hC.tw.stL; have := hC.hl; omega
    have hs := Xlw (hd := hd.xs) (rt := rt.xs) (a := a.toNat) (b := b.toNat) (by omega) (by omega) hl;refine ⟨⟨Xgf hC, by rw [Xh]; exact ha, by rw [Xh]; exact hb⟩, ?_⟩;rw [hs.1, hs.2.1, hs.2.2.1, hs.2.2.2];exact q1 hx
  ·rw [if_neg e] at hx;rw [hx] at q0;exact q0 e
noncomputable def Xfv : PC Try.prog := ⟨14, Xbq, Xb8, Xf, Xfp, Xnf⟩
theorem Xi8 {hd rt : Dt} {a b : Int} (ha : Sp.RfOk hd rt a) (hb : Sp.RfOk hd rt b) : (-26400000 <= Sp.apLo hd rt a.toNat b.toNat /\ Sp.apLo hd rt a.toNat b.toNat <= 26400000) /\ -26400000 <= Sp.apHi hd rt a.toNat b.toNat /\ Sp.apHi hd rt a.toNat b.toNat <= 26400000 := by
 have hl := ha.hl;have key : ∀ f : Nat -> Int, (∀ k, k < hd.length -> -660000 <= f k /\ f k <= 660000) -> -26400000 <= Sp.sumF f 0 hd.length 0 /\ Sp.sumF f 0 hd.length 0 <= 26400000 := fun f hf => by
  have := Sp.sumF_in (f := f) (c := 660000) (n := hd.length) (i := 0) (a := 0) fun k _ hk => hf k (by omega);omega
 have hd2 : ∀ k, -60 <= Sp.dif rt a.toNat b.toNat k /\ Sp.dif rt a.toNat b.toNat k <= 60 := fun k => by
  have ta := Xoq ha k;have tb := Xoq hb k;unfold Sp.dif; omega
 refine ⟨key _ fun k hk => ?_, key _ fun k hk => ?_⟩
 ·have hH := ha.hdO k hk;have g := Sp.leT_in (n := Sp.dif rt a.toNat b.toNat k) hH;have a1 := Sp.at_in hH (t := Sp.leT hd (Sp.dif rt a.toNat b.toNat k) k) (by have := hH.lo; omega) (by have := hH.hi; omega);exact Sp.mul_in (hd2 k).1 (hd2 k).2 a1.1 a1.2
 ·have hH := ha.hdO k hk;have g := Sp.grT_in (n := Sp.dif rt a.toNat b.toNat k) hH;have a1 := Sp.at_in hH (t := Sp.grT hd (Sp.dif rt a.toNat b.toNat k) k) (by have := hH.lo; omega) (by have := hH.hi; omega);exact Sp.mul_in (hd2 k).1 (hd2 k).2 a1.1 a1.2
noncomputable def T71 : Tab Try.prog := ⟨[Xkq], [], []⟩
def Xda [W : InW] (x_Lo x_Hi : Int) (x_Le x_Gr : Ro Ja) (y_Lo y_Hi : Int) (y_Le y_Gr : Ro Ja) (Q : DS -> Prop) : Prop :=
 Vif (decide (x_Lo = y_Lo) && (decide (x_Hi = y_Hi) && true)) (Pre True (Vif (Sp.ints x_Le.xs y_Le.xs) (Pre True (Q [[Cl.b (Sp.ints x_Gr.xs y_Gr.xs)]])) (Q [[Cl.b false]]))) (Q [[Cl.b false]])
theorem Xj5 (W : InW) (x_Lo x_Hi x_Le x_Gr y_Lo y_Hi y_Le y_Gr Q) : Yvi (cxT Try.prog TT T71 1000 50) 1000 16 [.agg [.si .i64 x_Lo, .si .i64 x_Hi, .rs _ x_Le, .rs _ x_Gr], .agg [.si .i64 y_Lo, .si .i64 y_Hi, .rs _ y_Le, .rs _ y_Gr]] [] 0 (Yzk [(false, [.bool])] Q) (fun _ _ _ _ => Stuck 421) = Xda x_Lo x_Hi x_Le x_Gr y_Lo y_Hi y_Le y_Gr Q := by kernel_rfl
abbrev Xbt : List AT := [.agg [.int .i64, .int .i64, .sl Ja, .sl Ja], .agg [.int .i64, .int .i64, .sl Ja, .sl Ja]]
theorem Xlg {pre : DS -> Prop} {res : DS -> DS} (hyp_ : ∀ (W : InW) (x_Lo x_Hi : Int) (x_Le x_Gr : Ro Ja) (y_Lo y_Hi : Int) (y_Le y_Gr : Ro Ja), pre [[.i x_Lo, .i x_Hi, .l x_Le.xs, .l x_Gr.xs], [.i y_Lo, .i y_Hi, .l y_Le.xs, .l y_Gr.xs]] -> ∀ Q : DS -> Prop, Q (res [[.i x_Lo, .i x_Hi, .l x_Le.xs, .l x_Gr.xs], [.i y_Lo, .i y_Hi, .l y_Le.xs, .l y_Gr.xs]]) -> Xda x_Lo x_Hi x_Le x_Gr y_Lo y_Hi y_Le y_Gr Q) : PureOk Try.prog 16 Xbt [(false, [.bool])] pre res :=
 PureOk.of' (fun W => @TT W) (fun W => @Xb W) Xa T71 1000 50 fun W x_Lo x_Hi x_Le x_Gr y_Lo y_Hi y_Le y_Gr hp =>
  (Xj5 W x_Lo x_Hi x_Le x_Gr y_Lo y_Hi y_Le y_Gr (fun o => o = res [[.i x_Lo, .i x_Hi, .l x_Le.xs, .l x_Gr.xs], [.i y_Lo, .i y_Hi, .l y_Le.xs, .l y_Gr.xs]])).mpr (hyp_ W x_Lo x_Hi x_Le x_Gr y_Lo y_Hi y_Le y_Gr hp _ rfl)
def Xby [W : InW] (x_Ro : Ro Ja) (x_Bo : Int) (y_Ro : Ro Ja) (y_Bo : Int) (Q : DS -> Prop) : Prop :=
 Vif (decide (x_Bo = y_Bo)) (Pre True (Q [[Cl.b (Sp.ints x_Ro.xs y_Ro.xs)]])) (Q [[Cl.b false]])
theorem Xjd (W : InW) (x_Ro x_Bo y_Ro y_Bo Q) : Yvi (cxT Try.prog TT T71 1000 50) 1000 23 [.agg [.rs _ x_Ro, .si .i64 x_Bo], .agg [.rs _ y_Ro, .si .i64 y_Bo]] [] 0 (Yzk [(false, [.bool])] Q) (fun _ _ _ _ => Stuck 421) = Xby x_Ro x_Bo y_Ro y_Bo Q := by kernel_rfl
abbrev X5 : List AT := [.agg [.sl Ja, .int .i64], .agg [.sl Ja, .int .i64]]
theorem Xjn {pre : DS -> Prop} {res : DS -> DS} (hyp_ : ∀ (W : InW) (x_Ro : Ro Ja) (x_Bo : Int) (y_Ro : Ro Ja) (y_Bo : Int), pre [[.l x_Ro.xs, .i x_Bo], [.l y_Ro.xs, .i y_Bo]] -> ∀ Q : DS -> Prop, Q (res [[.l x_Ro.xs, .i x_Bo], [.l y_Ro.xs, .i y_Bo]]) -> Xby x_Ro x_Bo y_Ro y_Bo Q) : PureOk Try.prog 23 X5 [(false, [.bool])] pre res :=
 PureOk.of' (fun W => @TT W) (fun W => @Xb W) Xa T71 1000 50 fun W x_Ro x_Bo y_Ro y_Bo hp =>
  (Xjd W x_Ro x_Bo y_Ro y_Bo (fun o => o = res [[.l x_Ro.xs, .i x_Bo], [.l y_Ro.xs, .i y_Bo]])).mpr (hyp_ W x_Ro x_Bo y_Ro y_Bo hp _ rfl)
def Xc8 [W : InW] (x_A x_B : Int) (x_Tr : Ro Ja) (y_A y_B : Int) (y_Tr : Ro Ja) (Q : DS -> Prop) : Prop :=
 Vif (decide (x_A = y_A)) (Vif (decide (x_B = y_B)) (Pre True (Q [[Cl.b (Sp.ints x_Tr.xs y_Tr.xs)]])) (Q [[Cl.b false]])) (Q [[Cl.b false]])
theorem Xj3 (W : InW) (x_A x_B x_Tr y_A y_B y_Tr Q) : Yvi (cxT Try.prog TT T71 1000 50) 1000 26 [.agg [.si .i64 x_A, .si .i64 x_B, .rs _ x_Tr], .agg [.si .i64 y_A, .si .i64 y_B, .rs _ y_Tr]] [] 0 (Yzk [(false, [.bool])] Q) (fun _ _ _ _ => Stuck 421) = Xc8 x_A x_B x_Tr y_A y_B y_Tr Q := by kernel_rfl
abbrev Xbr : List AT := [.agg [.int .i64, .int .i64, .sl Ja], .agg [.int .i64, .int .i64, .sl Ja]]
theorem Xle {pre : DS -> Prop} {res : DS -> DS} (hyp_ : ∀ (W : InW) (x_A x_B : Int) (x_Tr : Ro Ja) (y_A y_B : Int) (y_Tr : Ro Ja), pre [[.i x_A, .i x_B, .l x_Tr.xs], [.i y_A, .i y_B, .l y_Tr.xs]] -> ∀ Q : DS -> Prop, Q (res [[.i x_A, .i x_B, .l x_Tr.xs], [.i y_A, .i y_B, .l y_Tr.xs]]) -> Xc8 x_A x_B x_Tr y_A y_B y_Tr Q) : PureOk Try.prog 26 Xbr [(false, [.bool])] pre res :=
 PureOk.of' (fun W => @TT W) (fun W => @Xb W) Xa T71 1000 50 fun W x_A x_B x_Tr y_A y_B y_Tr hp =>
  (Xj3 W x_A x_B x_Tr y_A y_B y_Tr (fun o => o = res [[.i x_A, .i x_B, .l x_Tr.xs], [.i y_A, .i y_B, .l y_Tr.xs]])).mpr (hyp_ W x_A x_B x_Tr y_A y_B y_Tr hp _ rfl)
abbrev Xbd (ds : DS) : DS := match ds with | [[.i a, .i b, .l c, .l d], [.i a', .i b', .l c', .l d']] => [[.b ((decide (a = a') && decide (b = b')) && (Sp.ints c c' && Sp.ints d d'))]] | _ => []
abbrev Xz (ds : DS) : DS := match ds with | [[.l c, .i b], [.l c', .i b']] => [[.b (decide (b = b') && Sp.ints c c')]] | _ => []
abbrev Xbc (ds : DS) : DS := match ds with | [[.i a, .i b, .l c], [.i a', .i b', .l c']] => [[.b (decide (a = a') && (decide (b = b') && Sp.ints c c'))]] | _ => []
theorem Xny : PureOk Try.prog 16 Xbt [(false, [.bool])] (fun _ => True) Xbd :=
 Xlg fun W a b c d a' b' c' d' hp Q h => by
  unfold Xda;simp only [Xbd] at h;simp only [Vif_iff, Pre_iff];generalize Sp.ints c.xs c'.xs = p at *;generalize Sp.ints d.xs d'.xs = q at *;generalize decide (a = a') = u at *;generalize decide (b = b') = v at *;cases p <;> cases q <;> cases u <;> cases v <;> simp_all
theorem Xk2 : PureOk Try.prog 23 X5 [(false, [.bool])] (fun _ => True) Xz :=
 Xjn fun W c b c' b' hp Q h => by
  unfold Xby;simp only [Xz] at h;simp only [Vif_iff, Pre_iff];generalize Sp.ints c.xs c'.xs = p at *;generalize decide (b = b') = v at *;cases p <;> cases v <;> simp_all
theorem Xnu : PureOk Try.prog 26 Xbr [(false, [.bool])] (fun _ => True) Xbc :=
 Xle fun W a b c a' b' c' hp Q h => by
  unfold Xc8;simp only [Xbc] at h;simp only [Vif_iff, Pre_iff];generalize Sp.ints c.xs c'.xs = p at *;generalize decide (a = a') = u at *;generalize decide (b = b') = v at *;cases p <;> cases u <;> cases v <;> simp_all
noncomputable def Xku : PC Try.prog := ⟨16, Xbt, [(false, [.bool])], fun _ => True, Xbd, Xny⟩
noncomputable def Xji : PC Try.prog := ⟨23, X5, [(false, [.bool])], fun _ => True, Xz, Xk2⟩
noncomputable def Xks : PC Try.prog := ⟨26, Xbr, [(false, [.bool])], fun _ => True, Xbc, Xnu⟩
namespace Sp
def pdL (pl sh ti st : Dt) (ce : Int) (hd rt : Dt) (a b : Int) : Dt := if pairE pl sh ti st ce hd rt a b = 0 then dfF rt a.toNat b.toNat 0 hd.length else []
end Sp
abbrev X7 : RTs := [(false, [.row 3 Ja]), (false, [.int .i64])]
abbrev Xdg (ds : DS) : DS := match ds with | [[.l pl, .l sh, .l ti, .l st, .i ce, .l hd, .l rt], [.i a], [.i b]] => [[.l (Sp.pdL pl sh ti st ce hd rt a b)], [.i (Sp.pairE pl sh ti st ce hd rt a b)]] | _ => []
end Go.Proofs.Ytmogofidmchdoaa
