/-
  'TopTaught': for every input the law returns true, and what is handed in reads as before. No condition.
-/
import Derived.Test.YtbhlmkgliflhaaaGreatQtte
import Derived.Test.YtbhlmkgliflhaaaGreatRows
import Derived.WalkKit
import Derived.ProofKit
set_option linter.unusedVariables false
set_option linter.unusedSectionVars false
set_option linter.unusedSimpArgs false
namespace Go.Proofs.YtbhlmkgliflhaaaGreat
noncomputable def Xmu : PC Tryz.prog := ⟨7, [], [(false, [.bool])], fun _ => True, fun _ => [[.b true]], Yyr Xvr rfl rfl rfl fun _ _ _ => rfl⟩
noncomputable def Xmt : PC Tryz.prog := ⟨8, [], [(false, [.bool])], fun _ => True, fun _ => [[.b true]], Yyr Xvq rfl rfl rfl fun _ _ _ => rfl⟩
open Go.RowKit
set_option maxRecDepth 100000
set_option maxHeartbeats 3200000
noncomputable def TT3 : Tab Tryz.prog := ⟨[Xsw, Xpn, Xgg, Xpo, Xmu, Xmt], [Xwh, Xwg, Xwr], []⟩
def Zcm := [[Cl.b false]]
def Zcj [W : InW] (Q : DS -> Prop) := Pre True (Vif true (Pre True (Q [[Cl.b true]])) (Q Zcm))
def Zcn [W : InW] (b_Learners : Ro Jd) := (↑(b_Learners.xs.length) : Int)
def Zck [W : InW] (s_Skills : Ro Ja) := Tt.start (s_Skills.xs.length)
def Zcl := (29 : Nat) - Int.toNat Ze
def Xcb [W : InW] (s_Skills : Ro Ja) (s_Instrs : Ro Jb) (b_Learners : Ro Jd) (b_Cars : Ro Ivs) (b_Price b_Excess b_Lo b_Hi : Int) (b_Terms : Ro Jc) (x_Events : Ro Iv11) (x_Learner : Int) (Q : DS -> Prop) : Prop :=
 Pre True (Pre (Sq.NamesOk s_Skills.xs /\ Sq.NamesOk s_Instrs.xs) (Pre (Sp.NamesOk b_Learners.xs /\ Sp.NamesOk b_Cars.xs) (Vif (!decide (Sp.rErr ⟨b_Learners.xs, b_Cars.xs, b_Price, b_Excess, b_Lo, b_Hi, b_Terms.xs⟩ x_Events.xs = 0)) (Vif (!decide (Sp.rErr ⟨b_Learners.xs, b_Cars.xs, b_Price, b_Excess, b_Lo, b_Hi, b_Terms.xs⟩ x_Events.xs = 0)) (Zcj Q) (Vif (decide (Sp.chkE b_Learners.xs b_Cars.xs b_Price b_Excess b_Lo b_Hi b_Terms.xs = 0)) (Zcj Q) (Q Zcm))) (Vif (!decide (Sq.chkE s_Skills.xs s_Instrs.xs = 0)) (Vif (!decide (Sp.rErr ⟨b_Learners.xs, b_Cars.xs, b_Price, b_Excess, b_Lo, b_Hi, b_Terms.xs⟩ x_Events.xs = 0)) (Zcj Q) (Vif (decide (Sp.chkE b_Learners.xs b_Cars.xs b_Price b_Excess b_Lo b_Hi b_Terms.xs = 0)) (Zcj Q) (Q Zcm))) (Vif (!decide (Sp.chkE b_Learners.xs b_Cars.xs b_Price b_Excess b_Lo b_Hi b_Terms.xs = 0)) (Vif (!decide (Sp.rErr ⟨b_Learners.xs, b_Cars.xs, b_Price, b_Excess, b_Lo, b_Hi, b_Terms.xs⟩ x_Events.xs = 0)) (Zcj Q) (Vif (decide (Sp.chkE b_Learners.xs b_Cars.xs b_Price b_Excess b_Lo b_Hi b_Terms.xs = 0)) (Zcj Q) (Q Zcm))) (Pre (s_Skills.xs.length <= 5 /\ Ze <= 0 /\ Ze <= (↑(s_Skills.xs.length) : Int) /\ [] = Tt.start Zu) (Ar .i64 x_Learner fun z => Need (!decide ((Zcn b_Learners) = 0)) (Pre (((1 : Nat) <= s_Skills.xs.length /\ s_Skills.xs.length <= 5) /\ Tt.LsOk (Sp.rB ⟨b_Learners.xs, b_Cars.xs, b_Price, b_Excess, b_Lo, b_Hi, b_Terms.xs⟩ x_Events.xs).ls /\ (Ze <= 0 /\ Ze <= 29) /\ (↑(0 : Nat) : Int) <= 60 * 0 /\ (↑(0 : Nat) : Int) <= 60 * 0) (Pre (Sq.Two (Zck s_Skills)) (Pre (Sq.Two (Zck s_Skills)) (Pre (Sq.Two (Zck s_Skills)) (Vif (!decide (Sq.aftE s_Skills.xs s_Instrs.xs (Zck s_Skills) [] (30 : Int) = 0)) (Q Zcm) (Vif (!decide (Sq.aftE s_Skills.xs s_Instrs.xs (Zck s_Skills) (Tt.wkD (Sp.rB ⟨b_Learners.xs, b_Cars.xs, b_Price, b_Excess, b_Lo, b_Hi, b_Terms.xs⟩ x_Events.xs).ls (z.tmod (Zcn b_Learners)) (↑(s_Skills.xs.length) : Int) Zu Zcl) (30 : Int) = 0)) (Q Zcm) (Vif (!decide (Sq.aftE s_Skills.xs s_Instrs.xs (Zck s_Skills) (Tt.wkA (Sp.rB ⟨b_Learners.xs, b_Cars.xs, b_Price, b_Excess, b_Lo, b_Hi, b_Terms.xs⟩ x_Events.xs).ls (z.tmod (Zcn b_Learners)) (↑(s_Skills.xs.length) : Int) Zu Zcl) (30 : Int) = 0)) (Q Zcm) (Vif (!decide ((↑(List.length (Sq.aftD s_Skills.xs s_Instrs.xs (Zck s_Skills) [] (30 : Int))) : Int) = (↑(List.length (Zck s_Skills)) : Int))) (Q Zcm) (Vif (!decide ((↑(List.length (Sq.aftD s_Skills.xs s_Instrs.xs (Zck s_Skills) (Tt.wkD (Sp.rB ⟨b_Learners.xs, b_Cars.xs, b_Price, b_Excess, b_Lo, b_Hi, b_Terms.xs⟩ x_Events.xs).ls (z.tmod (Zcn b_Learners)) (↑(s_Skills.xs.length) : Int) Zu Zcl) (30 : Int))) : Int) = (↑(List.length (Zck s_Skills)) : Int))) (Q Zcm) (Vif (!decide ((↑(List.length (Sq.aftD s_Skills.xs s_Instrs.xs (Zck s_Skills) (Tt.wkA (Sp.rB ⟨b_Learners.xs, b_Cars.xs, b_Price, b_Excess, b_Lo, b_Hi, b_Terms.xs⟩ x_Events.xs).ls (z.tmod (Zcn b_Learners)) (↑(s_Skills.xs.length) : Int) Zu Zcl) (30 : Int))) : Int) = (↑(List.length (Zck s_Skills)) : Int))) (Q Zcm) (Pre (Tt.Le3 (Zck s_Skills) (Sq.aftD s_Skills.xs s_Instrs.xs (Zck s_Skills) [] (30 : Int)) (Sq.aftD s_Skills.xs s_Instrs.xs (Zck s_Skills) (Tt.wkD (Sp.rB ⟨b_Learners.xs, b_Cars.xs, b_Price, b_Excess, b_Lo, b_Hi, b_Terms.xs⟩ x_Events.xs).ls (z.tmod (Zcn b_Learners)) (↑(s_Skills.xs.length) : Int) Zu Zcl) (30 : Int)) (Sq.aftD s_Skills.xs s_Instrs.xs (Zck s_Skills) (Tt.wkA (Sp.rB ⟨b_Learners.xs, b_Cars.xs, b_Price, b_Excess, b_Lo, b_Hi, b_Terms.xs⟩ x_Events.xs).ls (z.tmod (Zcn b_Learners)) (↑(s_Skills.xs.length) : Int) Zu Zcl) (30 : Int)) /\ Ze <= 0 /\ Ze <= (↑(List.length (Zck s_Skills)) : Int)) (Zcj Q)))))))))))))))))))
theorem Xf6 (W : InW) (s_Skills s_Instrs b_Learners b_Cars b_Price b_Excess b_Lo b_Hi b_Terms x_Events x_Learner Q) : Yvp (cxT Tryz.prog TT TT3 1000 50) 1000 3 [.agg [.rs _ s_Skills, .rs _ s_Instrs], .agg [.rs _ b_Learners, .rs _ b_Cars, .si .i64 b_Price, .si .i64 b_Excess, .si .i64 b_Lo, .si .i64 b_Hi, .rs _ b_Terms], .agg [.rs _ x_Events, .si .u8 x_Learner]] [] 0 (Yzq [(false, [.bool])] Q) (fun _ _ _ _ => Stuck 421) = Xcb s_Skills s_Instrs b_Learners b_Cars b_Price b_Excess b_Lo b_Hi b_Terms x_Events x_Learner Q := by kernel_rfl
abbrev Xb4 : List AT := [.agg [.sl Ja, .sl Jb], .agg [.sl Jd, .sl Ivs, .int .i64, .int .i64, .int .i64, .int .i64, .sl Jc], .agg [.sl Iv11, .int .u8]]
theorem Xgh {pre : DS -> Prop} {res : DS -> DS} (hyp_ : ∀ (W : InW) (s_Skills : Ro Ja) (s_Instrs : Ro Jb) (b_Learners : Ro Jd) (b_Cars : Ro Ivs) (b_Price b_Excess b_Lo b_Hi : Int) (b_Terms : Ro Jc) (x_Events : Ro Iv11) (x_Learner : Int), pre [[.l s_Skills.xs, .l s_Instrs.xs], [.l b_Learners.xs, .l b_Cars.xs, .i b_Price, .i b_Excess, .i b_Lo, .i b_Hi, .l b_Terms.xs], [.l x_Events.xs, .i x_Learner]] -> ∀ Q : DS -> Prop, Q (res [[.l s_Skills.xs, .l s_Instrs.xs], [.l b_Learners.xs, .l b_Cars.xs, .i b_Price, .i b_Excess, .i b_Lo, .i b_Hi, .l b_Terms.xs], [.l x_Events.xs, .i x_Learner]]) -> Xcb s_Skills s_Instrs b_Learners b_Cars b_Price b_Excess b_Lo b_Hi b_Terms x_Events x_Learner Q) : PureOk Tryz.prog 3 Xb4 [(false, [.bool])] pre res :=
 PureOk.of' (fun W => @TT W) (fun W => @Xb W) Xa TT3 1000 50 fun W s_Skills s_Instrs b_Learners b_Cars b_Price b_Excess b_Lo b_Hi b_Terms x_Events x_Learner hp =>
  (Xf6 W s_Skills s_Instrs b_Learners b_Cars b_Price b_Excess b_Lo b_Hi b_Terms x_Events x_Learner (fun o => o = res [[.l s_Skills.xs, .l s_Instrs.xs], [.l b_Learners.xs, .l b_Cars.xs, .i b_Price, .i b_Excess, .i b_Lo, .i b_Hi, .l b_Terms.xs], [.l x_Events.xs, .i x_Learner]])).mpr (hyp_ W s_Skills s_Instrs b_Learners b_Cars b_Price b_Excess b_Lo b_Hi b_Terms x_Events x_Learner hp _ rfl)
theorem wf_u8 {n : Int} (h : WfC (.int .u8) (.i n)) : 0 <= n /\ n <= 255 := by
 cases h with
 | int _ _ h => simp [Lit.wf, IntKind.min, IntKind.max, IntKind.signed, IntKind.bits] at h; omega
theorem WfL.head {t : Ty} {ts : List Ty} {c : Cl} {cs : List Cl} (h : WfL (t :: ts) (c :: cs)) : WfC t c /\ WfL ts cs := by
 cases h with
 | cons h hs => exact ⟨h, hs⟩
theorem WfD.head {a : AT} {ats : List AT} {d : List Cl} {ds : DS} (h : WfD (a :: ats) (d :: ds)) : WfA a d /\ WfD ats ds := by
 obtain ⟨d', ds', e, h1, h2⟩ := h;cases e;exact ⟨h1, h2⟩
theorem WfC.str_le {c : Cl} (h : WfC .str c) : c.str.size <= maxLen := by cases h; assumption
theorem WfC.cell {ts : List Ty} {xs : Dt} (h : WfC (.sl ts) (.l xs)) {i k : Nat} {t : Ty} (hi : i < xs.length) (ht : ts[k]? = some t) : WfC t (cel xs i k) := by
 cases h with
 | sl _ _ _ _ h => exact h i k t hi ht
theorem Xde {ts : List Ty} {xs : Dt} (h : WfC (.sl (.str :: ts)) (.l xs)) (i : Nat) : (cel xs i 0).str.size <= 9223372036854775807 := by
 by_cases hi : i < xs.length
 ·have := (h.cell hi (k := 0) rfl).str_le;simp only [maxLen] at this;omega
 ·have : cel xs i 0 = .z := by simp [cel, List.getD_eq_getElem?_getD, List.getElem?_eq_none (Nat.le_of_not_lt hi)]
  rw [this]; decide
theorem Xjo {s : Sp.Sch} {evs : Dt} : ∀ (n : Nat) (i : Int) (b : Sp.Bks), Sp.Inv s b i -> i + n <= 60 -> Sp.Inv s (Sp.runB s evs n i b) (i + n)
 | 0, i, b, h, _ => by rw [show i + ((0 : Nat) : Int) = i by omega]; exact h
 | n + 1, i, b, h, hn => by
  have st := Xjo (evs := evs) n (i + 1) _ (h.step (by omega) (Sp.evt evs i)) (by omega);rw [show i + ((n + 1 : Nat) : Int) = i + 1 + n by omega];exact st
theorem vif_y [InW] {A B : Prop} (h : A) : Vif true A B := vif (fun _ => h) (fun g => absurd g (by decide))
theorem Xea : PureOk Tryz.prog 3 Xb4 [(false, [.bool])] (WfD Xb4) fun _ => [[.b true]] :=
 Xgh fun W sk is rl rc pr ex lo hi rt evs lrn hp Q h => by
  obtain ⟨d, ds, e1, hp1, hp2⟩ := hp;cases e1;have hb := (WfD.head hp2).1;have hx := (WfD.head (WfD.head hp2).2).1;have hu := wf_u8 (WfL.head (WfL.head hx).2).1;have hn2 : Sq.NamesOk sk.xs /\ Sq.NamesOk is.xs := ⟨fun i => Xde (WfL.head hp1).1 i, fun i => Xde (WfL.head (WfL.head hp1).2).1 i⟩;have hn5 : Sp.NamesOk rl.xs /\ Sp.NamesOk rc.xs := ⟨fun i => Xde (WfL.head hb).1 i, fun i => Xde (WfL.head (WfL.head hb).2).1 i⟩;clear hb hx hp1 hp2;unfold Xcb;delta Zcj Zcl Zu Zcm Zck Ze Zcn;have yes : Pre True (Vif true (Pre True (Q [[.b true]])) (Q [[.b false]])) := X2 trivial (vif_y (X2 trivial h));refine X2 trivial (X2 hn2 (X2 hn5 (vifn (fun e => vifn (fun _ => yes) (fun g => absurd g e)) (fun e => ?_))));have hck : Sp.chkE rl.xs rc.xs pr ex lo hi rt.xs = 0 /\ evs.xs.length <= 60 := by
   have e2 : Sp.runErr rl.xs rc.xs pr ex lo hi rt.xs evs.xs = 0 := e;unfold Sp.runErr at e2
   by_cases c : Sp.chkE rl.xs rc.xs pr ex lo hi rt.xs = 0
   ·rw [if_pos c] at e2;refine ⟨c, ?_⟩
    split at e2
    ·cases e2
    ·omega
   ·rw [if_neg c] at e2;exact absurd e2 c
  refine vifn (fun f => vifn (fun g => absurd e g) (fun _ => vifd (fun _ => yes) (fun g => absurd hck.1 g))) (fun f => vifn (fun g => absurd hck.1 g) (fun _ => ?_));have hS := Xhv.1 f;have hB := Xn2 hck.1;have n1 := hS.n1;have n5 := hS.n5;have hl := hB.learners;have hI := Xjo (s := ⟨rl.xs, rc.xs, pr, ex, lo, hi, rt.xs⟩) (evs := evs.xs) evs.xs.length 0 _ (Sp.Inv.zero (s := ⟨rl.xs, rc.xs, pr, ex, lo, hi, rt.xs⟩) hB) (by omega);have eB : Sp.rB ⟨rl.xs, rc.xs, pr, ex, lo, hi, rt.xs⟩ evs.xs = Sp.runB ⟨rl.xs, rc.xs, pr, ex, lo, hi, rt.xs⟩ evs.xs evs.xs.length 0 (Sp.open0 ⟨rl.xs, rc.xs, pr, ex, lo, hi, rt.xs⟩) := by
   rw [Sp.rB, if_pos e]; rfl
  rw [eB];generalize Sp.runB ⟨rl.xs, rc.xs, pr, ex, lo, hi, rt.xs⟩ evs.xs evs.xs.length 0 (Sp.open0 ⟨rl.xs, rc.xs, pr, ex, lo, hi, rt.xs⟩) = B at hI ⊢;have hc := hB.cars;have hL : Tt.LsOk B.ls := ⟨by have := hI.many; omega, fun j hj => by
   have := hI.ls j hj;simp only at this;omega⟩
  refine X2 ⟨n5, by omega, by omega, rfl⟩ (ar64 (by omega) (ned (by rw [decide_eq_false (by omega)]; rfl) (X2 ⟨⟨n1, n5⟩, hL, by omega, by omega, by omega⟩ (X2 (Tt.start_two _) (X2 (Tt.start_two _) (X2 (Tt.start_two _) ?_))))));have ez : Int.toNat 0 = 0 := rfl;rw [ez, Nat.sub_zero];generalize lrn.tmod rl.xs.length = who;have hm : (0 : Int) < (sk.xs.length : Int) := by omega
  have sA := Tt.wk_sub B.ls who sk.xs.length 29 0;have hA := Tt.wk_ok (who := who) hm hL.l60;generalize Tt.wkA B.ls who sk.xs.length 0 29 = all at sA hA ⊢;generalize Tt.wkD B.ls who sk.xs.length 0 29 = some_ at sA ⊢;have hD := hA.sub sA;have a0 := Tt.aft hS (hA.sub (List.nil_sublist _));have a1 := Tt.aft hS hD;have a2 := Tt.aft hS hA;have sl := Tt.start_len sk.xs.length;refine vifn (fun g => absurd a0.1 g) (fun _ => vifn (fun g => absurd a1.1 g) (fun _ => vifn (fun g => absurd a2.1 g) (fun _ => vifn (fun g => absurd (by rw [a0.2.1, sl]) g) (fun _ => vifn (fun g => absurd (by rw [a1.2.1, sl]) g) (fun _ => vifn (fun g => absurd (by rw [a2.2.1, sl]) g) (fun _ => X2 ⟨⟨by rw [sl]; exact n5, by rw [a0.2.1, sl], by rw [a1.2.1, sl], by rw [a2.2.1, sl], fun s hs => ?_⟩, by omega, by omega⟩ yes))))));rw [sl] at hs;exact ⟨Tt.aft_le hS hD (List.nil_sublist _) s hs, Tt.aft_le hS hA sA s hs⟩
end Go.Proofs.YtbhlmkgliflhaaaGreat
namespace Go.Proofs.YtbhlmkgliflhaaaGreat.topTaught
open Go.ChangeShapes Go.WideShapes Go.ChangeAt Go.RowKit
set_option maxRecDepth 100000
theorem own : ownKnob Tryz.prog.godebug = none := by kernel_rfl
theorem laid : laidOutB Tryz.prog = true := by kernel_rfl
theorem lifted (os : Os) (started : os.Started) (H : Type) (enc : TypeId × Value -> H) :
  ReturnsInHanded {} Tryz.checked os 3 .any (Rows.topTaughtSpec.pre6 enc Tryz.prog Tryz.f3 Rows.topTaughtRow.domain false) (Rows.topTaughtSpec.post enc Tryz.prog Tryz.f3 false true false false) := by
 refine returnsInHanded_of_change (C := Tryz.checked) own started (by kernel_rfl) Tryz.func3
  (ChangeSpec.witness6 (enc := enc) (C := Tryz.checked) false ⟨#[], #[(.agg #[.slice none 0 0, .slice none 0 0]), (.agg #[.slice none 0 0, .slice none 0 0, .int .i64 0, .int .i64 0, .int .i64 0, .int .i64 0, .slice none 0 0]), (.agg #[.slice none 0 0, .int .u8 0])], []⟩ 8 (by kernel_rfl) (by kernel_rfl) (by kernel_rfl) (by kernel_rfl)) ?_
 intro W base args ds gs before hval hW _ _;exact law_end (f := Tryz.f3) (s := Rows.topTaughtSpec) (by kernel_rfl) Tryz.underlying4 (by kernel_rfl) rfl laid (by kernel_rfl)
  (fun ds h => by match ds, (show ds.length = 3 from h) with | [_, _, _], _ => exact ⟨rfl, rfl, rfl⟩) Xea hval hW
theorem over : Rows.topTaughtRow.holds Tryz.pinned (OpenSpec.ofChange Rows.topTaughtSpec) :=
 OpenClaim.holds_of_wide 3 Tryz.f3 rfl rfl rfl rfl rfl rfl rfl ⟨rfl, rfl, rfl, rfl, rfl⟩ rfl rfl rfl rfl rfl (by kernel_rfl) Tryz.func3 (by kernel_rfl)
  (of_decide_eq_true (by kernel_rfl)) (by unfold Func.isWrapper; first | (rw [if_pos (by decide +kernel)]; kernel_rfl) | (rw [if_neg (by decide +kernel)]; exact ⟨rfl, rfl⟩))
  (fun os started H enc _ => lifted os started H enc)
theorem proved : Rows.TopTaughtSaid := over
end Go.Proofs.YtbhlmkgliflhaaaGreat.topTaught
