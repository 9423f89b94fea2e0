/-
  'AnswerStrikes': for every input the law returns true, and what is handed in reads as before. No condition.
-/
import Derived.Test.YtifhdbgciehicaaQsta
set_option linter.unusedVariables false
set_option linter.unusedSectionVars false
set_option linter.unusedSimpArgs false
namespace Go.Proofs.Ytifhdbgciehicaa
open Go.RowKit
set_option maxRecDepth 100000
set_option maxHeartbeats 1600000
namespace Sp
def markE (qs ps : Dt) (all : Int) (sh : Dt) : Int := if askE qs ps all sh = 0 then (if (uns sh).length = 0 then 0 else 2) else askE qs ps all sh
def markR (qs ps : Dt) (all : Int) (sh : Dt) : Dt := if markE qs ps all sh = 0 then mk qs ps sh else []
def markB (qs ps : Dt) (all : Int) (sh : Dt) : Bool := if markE qs ps all sh = 0 then psS qs ps all sh else false
end Sp
abbrev Xde (ds : DS) : DS := match ds with | [[.l qs, .l ps, .i all], [.l sh]] => [[.l (Sp.markR qs ps all sh)], [.b (Sp.markB qs ps all sh)], [.i (Sp.markE qs ps all sh)]] | _ => []
namespace Sp
def strA (qs : Dt) (all : Int) (i : Nat) : Int := all - qPts qs i
def strP (qs ps : Dt) (i : Nat) : Dt := ps.set (qPart qs i).toNat [.i (num ps (qPart qs i).toNat - qPts qs i)]
def strQ (qs : Dt) (i : Nat) : Dt := qs.take i ++ qs.drop (i + 1)
def strE (qs ps : Dt) (all i : Int) : Int := if chkE qs ps all = 0 then (if inr i 0 (qs.length - 1) = true then (if qs.length = 1 then 3 else if inr (strA qs all i.toNat) (-240) 240 = true then (if inr (num (strP qs ps i.toNat) (qPart qs i.toNat).toNat) (-240) 240 = true then 0 else 7) else 7) else 4) else chkE qs ps all
def strK (qs ps : Dt) (all i : Int) : List Cl := if strE qs ps all i = 0 then [.l (strQ qs i.toNat), .l (strP qs ps i.toNat), .i (strA qs all i.toNat)] else [.l [], .l [], .i 0]
end Sp
noncomputable def T31 : Tab Try.prog := ⟨[Xcz, Xhp, Xbh], [], []⟩
def Zdv := [Cl.l [], Cl.l [], Cl.i 0]
def Zdu [W : InW] (k_Qs : Ro Iv5) (i : Int) := cel k_Qs.xs i.toNat Zd
def Zdt [W : InW] (k_Qs : Ro Iv5) (k_Ps : Ro Jc) (k_All i : Int) (Q : DS -> Prop) := Vif (!decide (Sp.chkE k_Qs.xs k_Ps.xs k_All = 0)) (Q [Zdv, [Cl.i (Sp.chkE k_Qs.xs k_Ps.xs k_All)]]) (Need (decide (0 <= i) && decide (i < (↑(k_Qs.xs.length) : Int))) (Need (decide (i.toNat < k_Qs.xs.length)) (Need (decide (0 <= i)) (Need (decide (Zd <= i.toNat) && decide (i.toNat <= k_Qs.xs.length)) (Need (decide ((Zd + (List.drop Zd (List.take i.toNat k_Qs.xs)).length) * 40 <= 140737488355328)) (Ar .i64 (i + 1) fun z => Need (decide (0 <= z)) (Need (decide (z.toNat <= k_Qs.xs.length) && decide (k_Qs.xs.length <= k_Qs.xs.length)) (Need (decide (((List.drop Zd (List.take i.toNat k_Qs.xs)).length + (List.drop z.toNat (List.take (k_Qs.xs.length) k_Qs.xs)).length) * 40 <= 140737488355328)) (Need (decide ((Zd + k_Ps.xs.length) * 8 <= 140737488355328)) (Ar .i64 (k_All - (cel k_Qs.xs i.toNat (Zd + 1 + 1 + 1)).int) fun z_1 => Need (decide (Zb <= (Zdu k_Qs i).int) && decide ((Zdu k_Qs i).int < (↑(k_Ps.xs.length) : Int))) (Need (decide ((Zdu k_Qs i).int.toNat < k_Ps.xs.length)) (Ar .i64 ((cel k_Ps.xs (Zdu k_Qs i).int.toNat Zd).int - (cel k_Qs.xs i.toNat (Zd + 1 + 1 + 1)).int) fun z_2 => Need (decide (Zb <= (Zdu k_Qs i).int) && decide ((Zdu k_Qs i).int < (↑(k_Ps.xs.length) : Int))) (Need (decide ((Zdu k_Qs i).int.toNat < k_Ps.xs.length)) (Pre True (Vif (!Sp.inr z_1 (-240 : Int) (240 : Int)) (Q [Zdv, [Cl.i 7]]) (Need (decide (Zb <= (Zdu k_Qs i).int) && decide ((Zdu k_Qs i).int < (↑(List.set k_Ps.xs (Zdu k_Qs i).int.toNat [Cl.i z_2]).length : Int))) (Need (decide ((Zdu k_Qs i).int.toNat < (List.set k_Ps.xs (Zdu k_Qs i).int.toNat [Cl.i z_2]).length)) (Pre True (Vif (!Sp.inr (cel (List.set k_Ps.xs (Zdu k_Qs i).int.toNat [Cl.i z_2]) (Zdu k_Qs i).int.toNat Zd).int (-240 : Int) (240 : Int)) (Q [Zdv, [Cl.i 7]]) (Q [[Cl.l (List.drop Zd (List.take i.toNat k_Qs.xs) ++ List.drop z.toNat (List.take (k_Qs.xs.length) k_Qs.xs)), Cl.l (List.set k_Ps.xs (Zdu k_Qs i).int.toNat [Cl.i z_2]), Cl.i z_1], [Cl.i 0]]))))))))))))))))))))
def Zdw [W : InW] (k_Qs : Ro Iv5) (k_Ps : Ro Jc) (k_All i : Int) (Q : DS -> Prop) := Vif (decide (Sp.chkE k_Qs.xs k_Ps.xs k_All = 0)) (Vif (decide ((↑(k_Qs.xs.length) : Int) = 1)) (Q [Zdv, [Cl.i 3]]) (Zdt k_Qs k_Ps k_All i Q)) (Zdt k_Qs k_Ps k_All i Q)
def Xim [W : InW] (k_Qs : Ro Iv5) (k_Ps : Ro Jc) (k_All i : Int) (Q : DS -> Prop) : Prop :=
 Pre True (Vif (decide (Sp.chkE k_Qs.xs k_Ps.xs k_All = 0)) (Ar .i64 ((↑(k_Qs.xs.length) : Int) - 1) fun z => Pre True (Vif (!Sp.inr i Zb z) (Q [Zdv, [Cl.i 4]]) (Zdw k_Qs k_Ps k_All i Q))) (Zdw k_Qs k_Ps k_All i Q))
theorem Xoh (W : InW) (k_Qs k_Ps k_All i Q) : Ywr (cxT Try.prog TT T31 1000 50) 1000 33 [.agg [.rs _ k_Qs, .rs _ k_Ps, .si .i64 k_All], .si .i64 i] [] 0 (Y01 [(true, [.row 71 Iv5, .row 3 Jc, .int .i64]), (false, [.int .i64])] Q) (fun _ _ _ _ => Stuck 421) = Xim k_Qs k_Ps k_All i Q := by kernel_rfl
abbrev Xdj : List AT := [.agg [.sl Iv5, .sl Jc, .int .i64], .one (.int .i64)]
theorem Xpa {pre : DS -> Prop} {res : DS -> DS} (hyp_ : ∀ (W : InW) (k_Qs : Ro Iv5) (k_Ps : Ro Jc) (k_All i : Int), pre [[.l k_Qs.xs, .l k_Ps.xs, .i k_All], [.i i]] -> ∀ Q : DS -> Prop, Q (res [[.l k_Qs.xs, .l k_Ps.xs, .i k_All], [.i i]]) -> Xim k_Qs k_Ps k_All i Q) : PureOk Try.prog 33 Xdj [(true, [.row 71 Iv5, .row 3 Jc, .int .i64]), (false, [.int .i64])] pre res :=
 PureOk.of' (fun W => @TT W) (fun W => @Xe W) Xa T31 1000 50 fun W k_Qs k_Ps k_All i hp =>
  (Xoh W k_Qs k_Ps k_All i (fun o => o = res [[.l k_Qs.xs, .l k_Ps.xs, .i k_All], [.i i]])).mpr (hyp_ W k_Qs k_Ps k_All i hp _ rfl)
abbrev Xby : RTs := [(true, [.row 71 Iv5, .row 3 Jc, .int .i64]), (false, [.int .i64])]
abbrev Xx (ds : DS) : DS := match ds with | [[.l qs, .l ps, .i all], [.i i]] => [Sp.strK qs ps all i, [.i (Sp.strE qs ps all i)]] | _ => []
theorem okstr : PureOk Try.prog 33 Xdj Xby (fun _ => True) Xx :=
 Xpa fun W qs ps all i hp Q h => by
  have hm := qs.len;simp only [maxLen] at hm;unfold Xim;delta Zdw Zdt Zdu Zd Zdv Zb;simp only [Xx, Sp.strK] at h
  by_cases e : Sp.chkE qs.xs ps.xs all = 0
  rotate_left
  ·have e1 : Sp.strE qs.xs ps.xs all i = Sp.chkE qs.xs ps.xs all := by unfold Sp.strE; rw [if_neg e]
   rw [if_neg (by omega), e1] at h;exact ⟨trivial, vifd (fun c => absurd c e) fun _ => vifd (fun c => absurd c e) fun _ => vifn (fun _ => h) fun c => absurd c e⟩
  have hk := Sp.chkE_iff.1 e;have n1 := hk.n1;have n2 := hk.n2;have p2 := hk.p2
  by_cases e1 : Sp.inr i 0 (qs.xs.length - 1) = true
  rotate_left
  ·have e2 : Sp.strE qs.xs ps.xs all i = 4 := by unfold Sp.strE; rw [if_pos e, if_neg e1]
   rw [if_neg (by omega), e2] at h;refine ⟨trivial, vifd (fun _ => ?_) fun c => absurd e c⟩;refine ar64 (by omega) ⟨trivial, vifb (fun _ => h) fun c => absurd c e1⟩
  by_cases e2 : qs.xs.length = 1
  ·have e3 : Sp.strE qs.xs ps.xs all i = 3 := by unfold Sp.strE; rw [if_pos e, if_pos e1, if_pos e2]
   rw [if_neg (by omega), e3] at h;refine ⟨trivial, vifd (fun _ => ?_) fun c => absurd e c⟩;refine ar64 (by omega) ⟨trivial, vifb (fun c => absurd (e1.symm.trans c) (by decide)) fun c => vifd (fun _ => vifd (fun _ => h) fun c => by omega) fun c => absurd e c⟩
  have hi := Sp.inr_iff.1 e1;have hpart := hk.part i.toNat (by omega);have hpts := hk.pts i.toNat (by omega);have hall := hk.all_;have hneed := hk.need (Sp.qPart qs.xs i.toNat).toNat (by omega);have h7 : Sp.strE qs.xs ps.xs all i = 7 -> Q [[.l [], .l [], .i 0], [.i 7]] := fun c => by
   rw [if_neg (by omega), c] at h; exact h
  have h0 : Sp.strE qs.xs ps.xs all i = 0 -> Q [[.l (Sp.strQ qs.xs i.toNat), .l (Sp.strP qs.xs ps.xs i.toNat), .i (Sp.strA qs.xs all i.toNat)], [.i 0]] := fun c => by
   rw [if_pos c, c] at h; exact h
  clear h;unfold Sp.strE at h7 h0;rw [if_pos e, if_pos e1, if_neg e2] at h7 h0;have hd : List.take qs.xs.length qs.xs = qs.xs := List.take_length;have ez : (i + 1).toNat = i.toNat + 1 := by omega
  unfold Sp.strP Sp.strQ at h0;unfold Sp.strP at h7;simp only [Nat.zero_add, Nat.reduceAdd, List.drop_zero, List.length_take, List.length_drop, List.length_set, hd, show (cel qs.xs i.toNat 0).int = Sp.qPart qs.xs i.toNat from rfl, show (cel qs.xs i.toNat 3).int = Sp.qPts qs.xs i.toNat from rfl, show all - Sp.qPts qs.xs i.toNat = Sp.strA qs.xs all i.toNat from rfl, show ∀ l k, (cel l k 0).int = Sp.num l k from fun _ _ => rfl];have hA : -500 <= Sp.strA qs.xs all i.toNat /\ Sp.strA qs.xs all i.toNat <= 500 := by unfold Sp.strA; omega
  have hneed : -240 <= Sp.num ps.xs (Sp.qPart qs.xs i.toNat).toNat /\ Sp.num ps.xs (Sp.qPart qs.xs i.toNat).toNat <= 240 := hneed;refine ⟨trivial, vifd (fun _ => ?_) fun c => absurd e c⟩;refine ar64 (by omega) ⟨trivial, vifb (fun c => absurd (e1.symm.trans c) (by decide)) fun _ => vifd (fun _ => vifd (fun c => absurd c (by omega)) fun _ => vifn (fun c => absurd e c) fun _ => ?_) fun c => absurd e c⟩
  repeat' (first | omega | intro _ | with_reducible first | apply vifd | apply vifn | apply vifq | apply Xd | apply Xc | apply vifb | apply vif | apply nedd | apply ned2 | apply ned | apply ar64 | apply Xb | exact True.intro | assumption | rfl | apply And.intro)
  all_goals first | (apply h7; simp [*]; done) | skip
  all_goals (rw [ez]; apply h0; simp [*]; done)
noncomputable def Xcy : PC Try.prog := ⟨33, Xdj, Xby, fun _ => True, Xx, okstr⟩
open Go.RowKit
set_option maxRecDepth 100000
set_option maxHeartbeats 1600000
namespace Sp
def mis1 (right : Int) (rs : Dt) (k : Nat) : Bool := !decide (ansOf (row (row rs k) 0) = right)
def one (b : Dt) : Dt := [[.l b]]
def mAny (right : Int) (b : Dt) : Bool := anyF (mis1 right (rdD (one b))) 0 (rdD (one b)).length
def mAll (right : Int) (b : Dt) : Bool := allF (mis1 right (rdD (one b))) 0 (rdD (one b)).length
end Sp
noncomputable def T32 : Tab Try.prog := ⟨[Xfo, Xky], [], []⟩
def Xjf [InW] (e : List Ed) (K : Nat -> List Ed -> Prop) : Prop := match e with
 | [.b any, .b al, .i i, .i part, .i boxes, .i right, .i pts, .i minus, .l rs] => Pre (0 <= i /\ i <= rs.length /\ rs.length <= 128 /\ ∀ k, k < rs.length -> 0 < (Sp.row rs k).length) (K 0 [.b (any || Sp.anyF (Sp.mis1 right rs) i.toNat (rs.length - i.toNat)), .b (al && Sp.allF (Sp.mis1 right rs) i.toNat (rs.length - i.toNat))])
 | _ => False
noncomputable def Xke : LC where
 len := 40
 T := [(2, (.ptr 1 0)), (6, (.row 4)), (7, .bool), (8, .bool), (9, .int .i64)]
 H := [(1, .blk 71 [.int .i64, .int .i64, .int .i64, .int .i64, .int .i64]), (4, .nst 26 [.sl Jb])]
 W := ([10] ++ rg 14 24)
 outs := [⟨.exit 0, [(7, .bool), (8, .bool)], [], ([2, 6, 9, 10] ++ rg 14 24)⟩]
 spec := Xjf
def Zdx [W : InW] (i : Int) (rs : Dt) := cel (cel rs i.toNat Zd).lst (Int.toNat Zb) Zd
def Xit [W : InW] (any al : Bool) (i part boxes right pts minus : Int) (rs : Dt) (A : List Ed -> Prop) (K : Nat -> List Ed -> Prop) : Prop :=
 Vif (decide (i < (↑(rs.length) : Int))) (Need (decide (0 <= i) && decide (i < (↑(rs.length) : Int))) (Need (decide (i.toNat < rs.length)) (Need (decide (Zb <= 0) && decide (Zb < (↑(List.length (cel rs i.toNat Zd).lst) : Int))) (Need (decide (Int.toNat Zb < List.length (cel rs i.toNat Zd).lst)) (Pre True (Vif any (Vif al (Ar .i64 (i + 1) fun z => A [.b true, .b !decide (Sp.ansOf (Zdx i rs).lst = right), .i z, .i part, .i boxes, .i right, .i pts, .i minus, .l rs]) (Ar .i64 (i + 1) fun z => A [.b true, .b false, .i z, .i part, .i boxes, .i right, .i pts, .i minus, .l rs])) (Vif al (Ar .i64 (i + 1) fun z => A [.b !decide (Sp.ansOf (Zdx i rs).lst = right), .b !decide (Sp.ansOf (Zdx i rs).lst = right), .i z, .i part, .i boxes, .i right, .i pts, .i minus, .l rs]) (Ar .i64 (i + 1) fun z => A [.b !decide (Sp.ansOf (Zdx i rs).lst = right), .b false, .i z, .i part, .i boxes, .i right, .i pts, .i minus, .l rs])))))))) (K 0 [.b any, .b al])
theorem Xoa (W : InW) (any al i part boxes right pts minus rs A K) : Yfc { cxT Try.prog TT T32 1000 50 with fn := 79 } 1000 (Yn7 Try.prog 79 5) (Yd6 40 [(2, .ptr 1 0), (6, .rw 4), (7, .sb any), (8, .sb al), (9, .si .i64 i)] ([10] ++ rg 14 24)) [(1, .blk 71 [.si .i64 part, .si .i64 boxes, .si .i64 right, .si .i64 pts, .si .i64 minus]), (4, .nst 26 [.sl Jb] rs)] (Yug Xke A K) = Xit any al i part boxes right pts minus rs A K := by kernel_rfl
def Xh0 : Prop := ∀ (W : InW) (body a : Code), (Try.prog.funcs[79]?).bind (·.body) = some body -> a ∈ Yy body -> Yfx a = 5 -> @Ymq W Try.prog a (@Yto W Xke)
theorem Xo1 (meas : [InW] -> List Ed -> Nat) (hyp_ : ∀ (W : InW) any al i part boxes right pts minus rs K, Xjf [.b any, .b al, .i i, .i part, .i boxes, .i right, .i pts, .i minus, .l rs] K -> ∀ A : List Ed -> Prop, (∀ e, meas e < meas [.b any, .b al, .i i, .i part, .i boxes, .i right, .i pts, .i minus, .l rs] -> Xjf e K -> A e) -> Xit any al i part boxes right pts minus rs A K) : Xh0 :=
 LE.okOf' (fun W => @TT W) (fun W => @Xe W) Xa T32 1000 50 (by kernel_rfl) Xke (fun W => @meas W) fun W any al i part boxes right pts minus rs K hs =>
  (Xoa W any al i part boxes right pts minus rs (fun e => meas e < meas [.b any, .b al, .i i, .i part, .i boxes, .i right, .i pts, .i minus, .l rs] /\ Xjf e K) K).mpr (hyp_ W any al i part boxes right pts minus rs K hs _ fun e h1 h2 => ⟨h1, h2⟩)
theorem okLms : Xh0 := Xo1 (fun e => match e with | [_, _, .i i, _, _, _, _, _, .l rs] => ((rs.length : Int) - i).toNat | _ => 0) fun W any al i part boxes right pts minus rs K hs A hA => by
 obtain ⟨⟨h0, h1, h2, hp⟩, hk⟩ := hs;unfold Xit;delta Zdx Zd Zb;simp only [show Int.toNat 0 = 0 from rfl, show (cel rs i.toNat 0).lst = Sp.row rs i.toNat from rfl, show (cel (Sp.row rs i.toNat) 0 0).lst = Sp.row (Sp.row rs i.toNat) 0 from rfl];have ez : (i + 1).toNat = i.toNat + 1 := by omega
 by_cases hi : i < rs.length
 ·have h3 := hp i.toNat (by omega);rw [show rs.length - i.toNat = (rs.length - (i.toNat + 1)) + 1 by omega] at hk;have hA' : ∀ c d, c = (any || Sp.mis1 right rs i.toNat) -> d = (al && Sp.mis1 right rs i.toNat) -> A [.b c, .b d, .i (i + 1), .i part, .i boxes, .i right, .i pts, .i minus, .l rs] := fun c d hc hd => hA _ (show ((rs.length : Int) - (i + 1)).toNat < ((rs.length : Int) - i).toNat by omega) ⟨⟨by omega, by omega, h2, hp⟩, by
   rw [ez, hc, hd, Bool.or_assoc, Bool.and_assoc];exact hk⟩
  clear hA hk;unfold Sp.mis1 at hA'
  repeat' (first | omega | intro _ | with_reducible first | apply vifd | apply vifn | apply vifq | apply Xd | apply Xc | apply vifb | apply vif | apply nedd | apply ned2 | apply ned | apply ar64 | apply Xb | exact True.intro | assumption | rfl | apply And.intro)
  all_goals first | (refine hA' _ _ ?_ ?_ <;> simp [*]; done) | skip
 ·rw [show rs.length - i.toNat = 0 by omega] at hk;simp only [Sp.allF, Sp.anyF, Bool.and_true, Bool.or_false] at hk;clear hA
  repeat' (first | omega | intro _ | with_reducible first | apply vifd | apply vifn | apply vifq | apply Xd | apply Xc | apply vifb | apply vif | apply nedd | apply ned2 | apply ned | apply ar64 | apply Xb | exact True.intro | assumption | rfl | apply And.intro)
  all_goals exact hk
noncomputable def le_ms : LE Try.prog := ⟨79, 5, fun W => @Yto W Xke, okLms⟩
noncomputable def T33 : Tab Try.prog := ⟨[Xfo, Xky], [le_ms], []⟩
def Xn4 [W : InW] (q_Part q_Boxes q_Right q_Points q_Minus : Int) (b : Ro Jc) (Q : DS -> Prop) : Prop :=
 Pre (Sp.RdgOk (8 : Nat) [[Cl.l b.xs]]) (Pre (Zb <= 0 /\ Zb <= (↑(List.length (Sp.rdD [[Cl.l b.xs]])) : Int) /\ List.length (Sp.rdD [[Cl.l b.xs]]) <= 128 /\ ∀ (k : Nat), k < List.length ((List.headD (Xfo.res [[Cl.l [[Cl.l b.xs]]]]) []).headD Cl.z).lst -> (0 : Nat) < List.length (Sp.row ((List.headD (Xfo.res [[Cl.l [[Cl.l b.xs]]]]) []).headD Cl.z).lst k)) (Q [[Cl.b (false || Sp.anyF (Sp.mis1 q_Right (Sp.rdD [[Cl.l b.xs]])) (Int.toNat Zb) (List.length (Sp.rdD [[Cl.l b.xs]]) - Int.toNat Zb))], [Cl.b (true && Sp.allF (Sp.mis1 q_Right (Sp.rdD [[Cl.l b.xs]])) (Int.toNat Zb) (List.length (Sp.rdD [[Cl.l b.xs]]) - Int.toNat Zb))]]))
theorem vc_ms (W : InW) (q_Part q_Boxes q_Right q_Points q_Minus b Q) : Ywr (cxT Try.prog TT T33 1000 50) 1000 79 [.agg [.si .i64 q_Part, .si .i64 q_Boxes, .si .i64 q_Right, .si .i64 q_Points, .si .i64 q_Minus], .rs _ b] [] 0 (Y01 [(false, [.bool]), (false, [.bool])] Q) (fun _ _ _ _ => Stuck 421) = Xn4 q_Part q_Boxes q_Right q_Points q_Minus b Q := by kernel_rfl
abbrev Xif : List AT := [.agg [.int .i64, .int .i64, .int .i64, .int .i64, .int .i64], .one (.sl Jc)]
theorem ok_ms {pre : DS -> Prop} {res : DS -> DS} (hyp_ : ∀ (W : InW) (q_Part q_Boxes q_Right q_Points q_Minus : Int) (b : Ro Jc), pre [[.i q_Part, .i q_Boxes, .i q_Right, .i q_Points, .i q_Minus], [.l b.xs]] -> ∀ Q : DS -> Prop, Q (res [[.i q_Part, .i q_Boxes, .i q_Right, .i q_Points, .i q_Minus], [.l b.xs]]) -> Xn4 q_Part q_Boxes q_Right q_Points q_Minus b Q) : PureOk Try.prog 79 Xif [(false, [.bool]), (false, [.bool])] pre res :=
 PureOk.of' (fun W => @TT W) (fun W => @Xe W) Xa T33 1000 50 fun W q_Part q_Boxes q_Right q_Points q_Minus b hp =>
  (vc_ms W q_Part q_Boxes q_Right q_Points q_Minus b (fun o => o = res [[.i q_Part, .i q_Boxes, .i q_Right, .i q_Points, .i q_Minus], [.l b.xs]])).mpr (hyp_ W q_Part q_Boxes q_Right q_Points q_Minus b hp _ rfl)
abbrev Xku (ds : DS) : DS := match ds with | [[.i _, .i _, .i right, .i _, .i _], [.l b]] => [[.b (Sp.mAny right b)], [.b (Sp.mAll right b)]] | _ => []
abbrev Xkw (ds : DS) : Prop := match ds with | [[.i _, .i _, .i right, .i _, .i _], [.l b]] => b.length <= 4 | _ => False
theorem Xmi {b : Dt} (h : b.length <= 4) : Sp.Few (Sp.one b) := by
 refine ⟨by simp [Sp.one], fun i hi => ?_⟩;have : i = 0 := by simp [Sp.one] at hi; exact hi
 subst this;exact h
theorem Xhq {b : Dt} : (Sp.pos (Sp.one b)).length <= b.length := by
 rw [<- Sp.uns_len];have := Sp.unsRow_len b ((0 : Nat) : Int) b.length 0;have e : Sp.uns (Sp.one b) = Sp.unsRow b ((0 : Nat) : Int) 0 b.length ++ [] := rfl;rw [e, List.append_nil];exact this
theorem Xmg {b : Dt} (h : b.length <= 4) : Sp.RdgOk 8 (Sp.one b) := ⟨Xmi h, by have := Xhq (b := b); omega, by omega⟩
theorem Xmh {b : Dt} (h : b.length <= 4) : Sp.LikOk (Sp.one b) (Sp.rdD (Sp.one b)) := Sp.rds_lik rfl (fun _ => rfl) (by have := Xhq (b := b); omega)
theorem okms : PureOk Try.prog 79 Xif [(false, [.bool]), (false, [.bool])] Xkw Xku :=
 ok_ms fun W part boxes right pts minus b hp Q h => by
  have hp : b.xs.length <= 4 := hp;have hl := Xmh hp;have h : Q [[.b (Sp.mAny right b.xs)], [.b (Sp.mAll right b.xs)]] := h;unfold Sp.mAny Sp.mAll at h;unfold Xn4;delta Zb;simp only [show Int.toNat 0 = 0 from rfl, Nat.sub_zero, Bool.true_and, Bool.false_or];exact ⟨Xmg hp, ⟨by omega, by omega, hl.few, fun k hk => by have hk : k < (Sp.rdD (Sp.one b.xs)).length := hk; have := hl.len k hk; show 0 < (Sp.row (Sp.rdD (Sp.one b.xs)) k).length; have h1 : (Sp.one b.xs).length = 1 := rfl; omega⟩, h⟩
noncomputable def Xon : PC Try.prog := ⟨79, Xif, [(false, [.bool]), (false, [.bool])], Xkw, Xku, okms⟩
namespace Sp
def errL (f : Nat -> Int) : Nat -> Nat -> Int -> Int
 | _, 0, e => e
 | i, n + 1, e => if e = 0 then errL f (i + 1) n (f i) else e
theorem errL_ne {f : Nat -> Int} {e : Int} (h : e ≠ 0) : ∀ n i, errL f i n e = e
 | 0, _ => rfl
 | n + 1, i => by unfold errL; rw [if_neg h]
theorem errL_0 {f : Nat -> Int} : ∀ n i e, errL f i n e = 0 -> e = 0 /\ ∀ k, i <= k -> k < i + n -> f k = 0
 | 0, i, e, h => ⟨h, fun k a b => by omega⟩
 | n + 1, i, e, h => by
  unfold errL at h
  by_cases c : e = 0
  ·rw [if_pos c] at h;have := errL_0 n (i + 1) _ h;refine ⟨c, fun k a b => ?_⟩;rcases Nat.eq_or_lt_of_le a with d | d
   ·exact d ▸ this.1
   ·exact this.2 k (by omega) (by omega)
  ·rw [if_neg c] at h; exact absurd h c
structure KeyIf (er : Int) (qs ps : Dt) (all : Int) : Prop where
 ok : er = 0 -> KeyOk qs ps all
def shI (qs pp : Dt) (i : Nat) : Int := shE qs (row pp i)
end Sp
noncomputable def T34 : Tab Try.prog := ⟨[Xjn], [], []⟩
def Xji [InW] (e : List Ed) (K : Nat -> List Ed -> Prop) : Prop := match e with
 | [.ro _ pp, .i er, .i i, .ro _ qs, .ro _ ps, .i all] => Pre (0 <= i /\ i <= pp.xs.length /\ Sp.KeyIf er qs.xs ps.xs all) (K 0 [.ro _ pp, .i (Sp.errL (Sp.shI qs.xs pp.xs) i.toNat (pp.xs.length - i.toNat) er), .ro _ qs, .ro _ ps, .i all])
 | _ => False
noncomputable def Xkh : LC where
 len := 98
 T := [(1, .rs [.sl Jb]), (2, (.ptr 1 0)), (8, .int .i64), (9, .int .i64)]
 H := [(1, .blk 25 [.rs Iv5, .rs Jc, .int .i64])]
 W := (rg 28 16)
 outs := [⟨.exit 0, [(1, .rs [.sl Jb]), (2, (.ptr 1 0)), (8, .int .i64)], [(1, .blk 25 [.rs Iv5, .rs Jc, .int .i64])], ([9] ++ rg 28 16)⟩]
 spec := Xji
def Zdy := [Ty.sl [Ty.sl [Ty.int IntKind.i64]]]
def Xiw [W : InW] (pp : Ro [.sl Jb]) (er i : Int) (qs : Ro Iv5) (ps : Ro Jc) (all : Int) (A : List Ed -> Prop) (K : Nat -> List Ed -> Prop) : Prop :=
 Vif (decide (i < (↑(pp.xs.length) : Int))) (Vif (decide (er = 0)) (Need (decide (0 <= i) && decide (i < (↑(pp.xs.length) : Int))) (Need (decide (i.toNat < pp.xs.length)) (Pre (Sp.KeyOk qs.xs ps.xs all) (Ar .i64 (i + 1) fun z => A [.ro Zdy pp, .i (Sp.shE qs.xs (cel pp.xs i.toNat (0 : Nat)).lst), .i z, .ro _ qs, .ro _ ps, .i all])))) (K 0 [.ro Zdy pp, .i er, .ro _ qs, .ro _ ps, .i all])) (K 0 [.ro Zdy pp, .i er, .ro _ qs, .ro _ ps, .i all])
theorem Xod (W : InW) (pp er i qs ps all A K) : Yfc { cxT Try.prog TT T34 1000 50 with fn := 36 } 1000 (Yn7 Try.prog 36 6) (Yd6 98 [(1, .rs _ pp), (2, .ptr 1 0), (8, .si .i64 er), (9, .si .i64 i)] (rg 28 16)) [(1, .blk 25 [.rs _ qs, .rs _ ps, .si .i64 all])] (Yug Xkh A K) = Xiw pp er i qs ps all A K := by kernel_rfl
def Xh3 : Prop := ∀ (W : InW) (body a : Code), (Try.prog.funcs[36]?).bind (·.body) = some body -> a ∈ Yy body -> Yfx a = 6 -> @Ymq W Try.prog a (@Yto W Xkh)
theorem Xo4 (meas : [InW] -> List Ed -> Nat) (hyp_ : ∀ (W : InW) pp er i qs ps all K, Xji [.ro _ pp, .i er, .i i, .ro _ qs, .ro _ ps, .i all] K -> ∀ A : List Ed -> Prop, (∀ e, meas e < meas [.ro _ pp, .i er, .i i, .ro _ qs, .ro _ ps, .i all] -> Xji e K -> A e) -> Xiw pp er i qs ps all A K) : Xh3 :=
 LE.okOf' (fun W => @TT W) (fun W => @Xe W) Xa T34 1000 50 (by kernel_rfl) Xkh (fun W => @meas W) fun W pp er i qs ps all K hs =>
  (Xod W pp er i qs ps all (fun e => meas e < meas [.ro _ pp, .i er, .i i, .ro _ qs, .ro _ ps, .i all] /\ Xji e K) K).mpr (hyp_ W pp er i qs ps all K hs _ fun e h1 h2 => ⟨h1, h2⟩)
theorem okLme : Xh3 := Xo4 (fun e => match e with | [.ro _ pp, _, .i i, _, _, _] => ((pp.xs.length : Int) - i).toNat | _ => 0) fun W pp er i qs ps all K hs A hA => by
 obtain ⟨⟨h0, h1, hp⟩, hk⟩ := hs;have hm := pp.len;simp only [maxLen] at hm;unfold Xiw;delta Zdy;have ez : (i + 1).toNat = i.toNat + 1 := by omega
 by_cases hi : i < pp.xs.length
 ·rw [show pp.xs.length - i.toNat = (pp.xs.length - (i.toNat + 1)) + 1 by omega] at hk;simp only [Sp.errL] at hk
  by_cases c : er = 0
  ·rw [if_pos c] at hk;have hkey := hp.ok c;have hA' := hA [.ro _ pp, .i (Sp.shE qs.xs (cel pp.xs i.toNat 0).lst), .i (i + 1), .ro _ qs, .ro _ ps, .i all] (show ((pp.xs.length : Int) - (i + 1)).toNat < ((pp.xs.length : Int) - i).toNat by omega) ⟨⟨by omega, by omega, ⟨fun _ => hkey⟩⟩, by
    rw [ez];exact hk⟩
   clear hA hk
   repeat' (first | (with_reducible refine Xb hkey ?_) | omega | intro _ | with_reducible first | apply vifd | apply vifn | apply vifq | apply Xd | apply Xc | apply vifb | apply vif | apply nedd | apply ned2 | apply ned | apply ar64 | apply Xb | exact True.intro | assumption | rfl | apply And.intro)
   all_goals first | exact hA' | skip
  ·rw [if_neg c] at hk;clear hA
   repeat' (first | omega | intro _ | with_reducible first | apply vifd | apply vifn | apply vifq | apply Xd | apply Xc | apply vifb | apply vif | apply nedd | apply ned2 | apply ned | apply ar64 | apply Xb | exact True.intro | assumption | rfl | apply And.intro)
   all_goals first | exact hk | contradiction | skip
 ·rw [show pp.xs.length - i.toNat = 0 by omega] at hk;simp only [Sp.errL] at hk;clear hA
  repeat' (first | omega | intro _ | with_reducible first | apply vifd | apply vifn | apply vifq | apply Xd | apply Xc | apply vifb | apply vif | apply nedd | apply ned2 | apply ned | apply ar64 | apply Xb | exact True.intro | assumption | rfl | apply And.intro)
  all_goals exact hk
noncomputable def le_me : LE Try.prog := ⟨36, 6, fun W => @Yto W Xkh, okLme⟩
namespace Sp
def mAdd (qs sh l : Dt) (j : Nat) : Dt := l.set j [.i ((cel l j 0).int + if mAll (qRight qs j) (row sh j) = true then 1 else 0), .i ((cel l j 1).int + if mAny (qRight qs j) (row sh j) = true then 1 else 0)]
def addQ (qs sh : Dt) : Nat -> Nat -> Dt -> Dt
 | _, 0, l => l
 | j, n + 1, l => addQ qs sh (j + 1) n (mAdd qs sh l j)
def addP (qs pp : Dt) : Nat -> Nat -> Dt -> Dt
 | _, 0, l => l
 | i, n + 1, l => addP qs pp (i + 1) n (addQ qs (row pp i) 0 l.length l)
structure CntAt (l : Dt) (m : Int) (q : Int) : Prop where
 ok : ∀ j : Nat, j < l.length -> ∃ x y : Int, l.getD j [] = [.i x, .i y] /\ 0 <= x /\ x <= (if (j : Int) < q then m + 1 else m) /\ 0 <= y /\ y <= (if (j : Int) < q then m + 1 else m)
theorem set_getD {l : Dt} {j : Nat} {c : List Cl} (h : j < l.length) : (l.set j c).getD j [] = c := by
 rw [List.getD_eq_getElem?_getD, List.getElem?_set_self h]; rfl
theorem set_getN {l : Dt} {j k : Nat} {c : List Cl} (h : j ≠ k) : (l.set j c).getD k [] = l.getD k [] := by
 rw [List.getD_eq_getElem?_getD, List.getElem?_set_ne h, <- List.getD_eq_getElem?_getD]
theorem cel_set {l : Dt} {j k : Nat} {c : List Cl} (h : j < l.length) : cel (l.set j c) j k = c.getD k .z := by
 unfold cel; rw [set_getD h]
theorem CntAt.next {l : Dt} {m : Int} {j : Nat} (h : CntAt l m j) (hj : j < l.length) {x y dx dy : Int} (e : l.getD j [] = [.i x, .i y]) (hx : dx = 0 \/ dx = 1) (hy : dy = 0 \/ dy = 1) : CntAt (l.set j [.i (x + dx), .i (y + dy)]) m (j + 1 : Int) := by
 refine ⟨fun k hk => ?_⟩;rw [List.length_set] at hk;obtain ⟨a, b, h1, h2, h3, h4, h5⟩ := h.ok k hk
 by_cases c : j = k
 ·subst c;rw [e] at h1;injection h1 with h6 h7
  injection h6 with h6
  injection h7 with h7 _
  injection h7 with h7
  subst h6; subst h7;refine ⟨x + dx, y + dy, set_getD hj, ?_⟩;rw [if_neg (by omega)] at h3 h5;rw [if_pos (by omega)];omega
 ·refine ⟨a, b, by rw [set_getN c]; exact h1, h2, ?_, h4, ?_⟩
  ·split at h3 <;> split <;> omega
  ·split at h5 <;> split <;> omega
structure PpOk (qs pp : Dt) : Prop where
 ok : ∀ i, i < pp.length -> ShapeOk qs (row pp i)
end Sp
noncomputable def T35 : Tab Try.prog := ⟨[Xon], [], []⟩
def Xjg [InW] (e : List Ed) (K : Nat -> List Ed -> Prop) : Prop := match e with
 | [.ro _ pp, .i i, .i j, .ro _ qs, .ro _ ps, .i all, .l l] => Pre (0 <= i /\ i < pp.xs.length /\ 0 <= j /\ j <= l.length /\ l.length = qs.xs.length /\ Sp.KeyOk qs.xs ps.xs all /\ Sp.PpOk qs.xs pp.xs /\ i <= 20 /\ Sp.CntAt l i j) (K 0 [.ro _ pp, .i i, .ro _ qs, .ro _ ps, .i all, .l (Sp.addQ qs.xs (Sp.row pp.xs i.toNat) j.toNat (l.length - j.toNat) l)])
 | _ => False
noncomputable def Xkf : LC where
 len := 98
 T := [(1, .rs [.sl Jb]), (2, (.ptr 1 0)), (10, (.row 3)), (11, .int .i64), (12, .int .i64)]
 H := [(1, .blk 25 [.rs Iv5, .rs Jc, .int .i64]), (3, .arr 80 Ja)]
 W := ([13, 14] ++ rg 57 40)
 outs := [⟨.exit 4, [(1, .rs [.sl Jb]), (2, (.ptr 1 0)), (10, (.row 6)), (11, .int .i64)], [(1, .blk 25 [.rs Iv5, .rs Jc, .int .i64]), (6, .arr 80 Ja)], ([12, 13, 14] ++ rg 57 40)⟩]
 spec := Xjg
def Zdz [W : InW] (j : Int) (l : Dt) := decide (0 <= j) && decide (j < (↑(l.length) : Int))
def Zea [W : InW] (j : Int) (l : Dt) := List.getD l j.toNat []
def Xiu [W : InW] (pp : Ro [.sl Jb]) (i j : Int) (qs : Ro Iv5) (ps : Ro Jc) (all : Int) (l : Dt) (A : List Ed -> Prop) (K : Nat -> List Ed -> Prop) : Prop :=
 Vif (decide (j < (↑(l.length) : Int))) (Need (decide (0 <= j) && decide (j < (↑(qs.xs.length) : Int))) (Need (decide (j.toNat < qs.xs.length)) (Need (decide (0 <= i) && decide (i < (↑(pp.xs.length) : Int))) (Need (decide (i.toNat < pp.xs.length)) (Need (decide (0 <= j) && decide (j < (↑(List.length (cel pp.xs i.toNat Zd).lst) : Int))) (Need (decide (j.toNat < List.length (cel pp.xs i.toNat Zd).lst)) (Pre (List.length (cel (cel pp.xs i.toNat Zd).lst j.toNat Zd).lst <= 4) (Vif (Sp.mAll (cel qs.xs j.toNat (Zd + 1 + 1)).int (cel (cel pp.xs i.toNat Zd).lst j.toNat Zd).lst) (Need (Zdz j l) (Need (decide (j.toNat < l.length)) (Ar .i64 ((cel l j.toNat Zd).int + 1) fun z => Need (Zdz j l) (Need (decide (j.toNat < l.length)) (Vif (Sp.mAny (cel qs.xs j.toNat (Zd + 1 + 1)).int (cel (cel pp.xs i.toNat Zd).lst j.toNat Zd).lst) (Need (decide (0 <= j) && decide (j < (↑(List.set l j.toNat (Ynl (Zea j l) Zd [Cl.i z])).length : Int))) (Need (decide (j.toNat < (List.set l j.toNat (Ynl (Zea j l) Zd [Cl.i z])).length)) (Ar .i64 ((cel (List.set l j.toNat (Ynl (Zea j l) Zd [Cl.i z])) j.toNat (0+1)).int + 1) fun z_1 => Need (decide (0 <= j) && decide (j < (↑(List.set l j.toNat (Ynl (Zea j l) Zd [Cl.i z])).length : Int))) (Need (decide (j.toNat < (List.set l j.toNat (Ynl (Zea j l) Zd [Cl.i z])).length)) (Ar .i64 (j + 1) fun z_2 => A [.ro Zdy pp, .i i, .i z_2, .ro _ qs, .ro _ ps, .i all, .l ((List.set l j.toNat (Ynl (Zea j l) Zd [Cl.i z])).set j.toNat (Ynl ((List.set l j.toNat (Ynl (Zea j l) Zd [Cl.i z])).getD j.toNat []) (0+1) [Cl.i z_1]))]))))) (Ar .i64 (j + 1) fun z_1 => A [.ro Zdy pp, .i i, .i z_1, .ro _ qs, .ro _ ps, .i all, .l (List.set l j.toNat (Ynl (Zea j l) Zd [Cl.i z]))])))))) (Vif (Sp.mAny (cel qs.xs j.toNat (Zd + 1 + 1)).int (cel (cel pp.xs i.toNat Zd).lst j.toNat Zd).lst) (Need (Zdz j l) (Need (decide (j.toNat < l.length)) (Ar .i64 ((cel l j.toNat (0+1)).int + 1) fun z => Need (Zdz j l) (Need (decide (j.toNat < l.length)) (Ar .i64 (j + 1) fun z_1 => A [.ro Zdy pp, .i i, .i z_1, .ro _ qs, .ro _ ps, .i all, .l (List.set l j.toNat (Ynl (Zea j l) (0+1) [Cl.i z]))]))))) (Ar .i64 (j + 1) fun z => A [.ro Zdy pp, .i i, .i z, .ro _ qs, .ro _ ps, .i all, .l l])))))))))) (K 0 [.ro Zdy pp, .i i, .ro _ qs, .ro _ ps, .i all, .l l])
theorem Xob (W : InW) (pp i j qs ps all l A K) : Yfc { cxT Try.prog TT T35 1000 50 with fn := 36 } 1000 (Yn7 Try.prog 36 16) (Yd6 98 [(1, .rs _ pp), (2, .ptr 1 0), (10, .rw 3), (11, .si .i64 i), (12, .si .i64 j)] ([13, 14] ++ rg 57 40)) [(1, .blk 25 [.rs _ qs, .rs _ ps, .si .i64 all]), (3, .arr 80 Ja l)] (Yug Xkf A K) = Xiu pp i j qs ps all l A K := by kernel_rfl
def Xh1 : Prop := ∀ (W : InW) (body a : Code), (Try.prog.funcs[36]?).bind (·.body) = some body -> a ∈ Yy body -> Yfx a = 16 -> @Ymq W Try.prog a (@Yto W Xkf)
theorem Xo2 (meas : [InW] -> List Ed -> Nat) (hyp_ : ∀ (W : InW) pp i j qs ps all l K, Xjg [.ro _ pp, .i i, .i j, .ro _ qs, .ro _ ps, .i all, .l l] K -> ∀ A : List Ed -> Prop, (∀ e, meas e < meas [.ro _ pp, .i i, .i j, .ro _ qs, .ro _ ps, .i all, .l l] -> Xjg e K -> A e) -> Xiu pp i j qs ps all l A K) : Xh1 :=
 LE.okOf' (fun W => @TT W) (fun W => @Xe W) Xa T35 1000 50 (by kernel_rfl) Xkf (fun W => @meas W) fun W pp i j qs ps all l K hs =>
  (Xob W pp i j qs ps all l (fun e => meas e < meas [.ro _ pp, .i i, .i j, .ro _ qs, .ro _ ps, .i all, .l l] /\ Xjg e K) K).mpr (hyp_ W pp i j qs ps all l K hs _ fun e h1 h2 => ⟨h1, h2⟩)
theorem okLmq : Xh1 := Xo2 (fun e => match e with | [_, _, .i j, _, _, _, .l l] => ((l.length : Int) - j).toNat | _ => 0) fun W pp i j qs ps all l K hs A hA => by
 obtain ⟨⟨h0, h1, h2, h3, h4, hkey, hpp, hi20, hc⟩, hk⟩ := hs;have n2 := hkey.n2;unfold Xiu;delta Zdy Zea Zdz Zd;have ez : (j + 1).toNat = j.toNat + 1 := by omega
 have ej : ((j.toNat : Nat) : Int) = j := Int.toNat_of_nonneg h2
 by_cases hj : j < l.length
 ·have hj2 : j.toNat < l.length := by omega
  have hsh := hpp.ok i.toNat (by omega);have hr := hsh.row_ j.toNat (by omega);have hb := hkey.boxes j.toNat (by omega);have hn := hsh.n;obtain ⟨x, y, hg, b1, b2, b3, b4⟩ := hc.ok j.toNat hj2;rw [if_neg (by omega)] at b2 b4;have c0 : cel l j.toNat 0 = .i x := by unfold cel; rw [hg]; rfl
  have c1 : cel l j.toNat 1 = .i y := by unfold cel; rw [hg]; rfl
  rw [show l.length - j.toNat = (l.length - (j.toNat + 1)) + 1 by omega] at hk;simp only [Sp.addQ, Sp.mAdd, c0, c1, show ∀ a, (Cl.i a).int = a from fun _ => rfl] at hk;have hnx := fun dx dy => Sp.CntAt.next (m := i) (dx := dx) (dy := dy) (by rw [ej]; exact hc) hj2 hg
  rw [ej] at hnx;have hA' := hA [.ro _ pp, .i i, .i (j + 1), .ro _ qs, .ro _ ps, .i all, .l (l.set j.toNat [.i (x + if Sp.mAll (Sp.qRight qs.xs j.toNat) (Sp.row (Sp.row pp.xs i.toNat) j.toNat) = true then 1 else 0), .i (y + if Sp.mAny (Sp.qRight qs.xs j.toNat) (Sp.row (Sp.row pp.xs i.toNat) j.toNat) = true then 1 else 0)])] (by show (((l.set _ _).length : Int) - (j + 1)).toNat < ((l.length : Int) - j).toNat; rw [List.length_set]; omega) ⟨⟨h0, h1, by omega, by rw [List.length_set]; omega, by rw [List.length_set]; exact h4, hkey, hpp, hi20, hnx _ _ (by split <;> simp) (by split <;> simp)⟩, by
   rw [ez, List.length_set]; exact hk⟩
  clear hA hk hnx;simp only [Nat.zero_add, Nat.reduceAdd, show (cel pp.xs i.toNat 0).lst = Sp.row pp.xs i.toNat from rfl, show (cel (Sp.row pp.xs i.toNat) j.toNat 0).lst = Sp.row (Sp.row pp.xs i.toNat) j.toNat from rfl, show (cel qs.xs j.toNat 2).int = Sp.qRight qs.xs j.toNat from rfl, hg, c0, c1, show ∀ a, (Cl.i a).int = a from fun _ => rfl, Sp.cel_set hj2, Sp.set_getD hj2, List.set_set, List.length_set, show ∀ a b c : Cl, Ynl [a, b] 0 [c] = [c, b] from fun _ _ _ => rfl, show ∀ a b c : Cl, Ynl [a, b] 1 [c] = [a, c] from fun _ _ _ => rfl, show ∀ (a b : Cl), List.getD [a, b] 1 Cl.z = b from fun _ _ => rfl];have hr4 : (Sp.row (Sp.row pp.xs i.toNat) j.toNat).length <= 4 := by omega
  have hs2 : l.set j.toNat [.i x, .i y] = l := by
   rw [<- hg, List.getD_eq_getElem?_getD, List.getElem?_eq_getElem hj2];exact List.set_getElem_self hj2
  cases m1 : Sp.mAll (Sp.qRight qs.xs j.toNat) (Sp.row (Sp.row pp.xs i.toNat) j.toNat) <;> cases m2 : Sp.mAny (Sp.qRight qs.xs j.toNat) (Sp.row (Sp.row pp.xs i.toNat) j.toNat) <;> simp only [m1, m2, if_true, if_false, Int.add_zero, Bool.false_eq_true, hs2] at hA' ⊢
  all_goals (repeat' (first | (with_reducible refine Xb hr4 ?_) | omega | intro _ | with_reducible first | apply vifd | apply vifn | apply vifq | apply Xd | apply Xc | apply vifb | apply vif | apply nedd | apply ned2 | apply ned | apply ar64 | apply Xb | exact True.intro | assumption | rfl | apply And.intro))
  all_goals first | contradiction | exact hA' | skip
 ·rw [show l.length - j.toNat = 0 by omega] at hk;simp only [Sp.addQ] at hk;clear hA
  repeat' (first | omega | intro _ | with_reducible first | apply vifd | apply vifn | apply vifq | apply Xd | apply Xc | apply vifb | apply vif | apply nedd | apply ned2 | apply ned | apply ar64 | apply Xb | exact True.intro | assumption | rfl | apply And.intro)
  all_goals exact hk
noncomputable def le_mq : LE Try.prog := ⟨36, 16, fun W => @Yto W Xkf, okLmq⟩
noncomputable def T36 : Tab Try.prog := ⟨[Xon], [le_mq], []⟩
namespace Sp
theorem addQ_len (qs sh : Dt) : ∀ n j l, (addQ qs sh j n l).length = l.length
 | 0, _, _ => rfl
 | n + 1, j, l => by simp [addQ, addQ_len qs sh n, mAdd]
theorem CntAt.go {qs sh : Dt} {m : Int} : ∀ n j l, CntAt l m (j : Nat) -> j + n = l.length -> CntAt (addQ qs sh j n l) m (l.length : Nat)
 | 0, j, l, h, e => by rw [<- e]; exact h
 | n + 1, j, l, h, e => by
  obtain ⟨x, y, hg, _⟩ := h.ok j (by omega);have c0 : cel l j 0 = .i x := by unfold cel; rw [hg]; rfl
  have c1 : cel l j 1 = .i y := by unfold cel; rw [hg]; rfl
  have := CntAt.go (qs := qs) (sh := sh) n (j + 1) (mAdd qs sh l j) (by
   unfold mAdd;rw [c0, c1];exact h.next (by omega) hg (by split <;> simp) (by split <;> simp)) (by unfold mAdd; rw [List.length_set]; omega)
  rw [show (mAdd qs sh l j).length = l.length by unfold mAdd; rw [List.length_set]] at this;exact this
theorem CntAt.up {l : Dt} {m : Int} (h : CntAt l m (l.length : Nat)) : CntAt l (m + 1) 0 := ⟨fun j hj => by
 obtain ⟨x, y, hg, h1, h2, h3, h4⟩ := h.ok j hj;rw [if_pos (by omega)] at h2 h4;exact ⟨x, y, hg, h1, by rw [if_neg (by omega)]; exact h2, h3, by rw [if_neg (by omega)]; exact h4⟩⟩
end Sp
def Xjh [InW] (e : List Ed) (K : Nat -> List Ed -> Prop) : Prop := match e with
 | [.ro _ pp, .i i, .ro _ qs, .ro _ ps, .i all, .l l] => Pre (0 <= i /\ i <= pp.xs.length /\ pp.xs.length <= 20 /\ l.length = qs.xs.length /\ Sp.KeyOk qs.xs ps.xs all /\ Sp.PpOk qs.xs pp.xs /\ Sp.CntAt l i 0) (K 0 [.l (Sp.addP qs.xs pp.xs i.toNat (pp.xs.length - i.toNat) l)])
 | _ => False
noncomputable def Xkg : LC where
 len := 98
 T := [(1, .rs [.sl Jb]), (2, (.ptr 1 0)), (10, (.row 3)), (11, .int .i64)]
 H := [(1, .blk 25 [.rs Iv5, .rs Jc, .int .i64]), (3, .arr 80 Ja)]
 W := ([12, 13, 14] ++ rg 51 46)
 outs := [⟨.exit 2, [(10, (.row 6))], [(6, .arr 80 Ja)], ([1, 2] ++ rg 11 4 ++ rg 51 46)⟩]
 spec := Xjh
def Xiv [W : InW] (pp : Ro [.sl Jb]) (i : Int) (qs : Ro Iv5) (ps : Ro Jc) (all : Int) (l : Dt) (A : List Ed -> Prop) (K : Nat -> List Ed -> Prop) : Prop :=
 Vif (decide (i < (↑(pp.xs.length) : Int))) (Pre (0 <= i /\ i < (↑(pp.xs.length) : Int) /\ Zb <= 0 /\ Zb <= (↑(l.length) : Int) /\ l.length = qs.xs.length /\ Sp.KeyOk qs.xs ps.xs all /\ Sp.PpOk qs.xs pp.xs /\ i <= 20 /\ Sp.CntAt l i Zb) (Ar .i64 (i + 1) fun z => A [.ro Zdy pp, .i z, .ro _ qs, .ro _ ps, .i all, .l (Sp.addQ qs.xs (Sp.row pp.xs i.toNat) (Int.toNat Zb) (l.length - Int.toNat Zb) l)])) (K 0 [.l l])
theorem Xoc (W : InW) (pp i qs ps all l A K) : Yfc { cxT Try.prog TT T36 1000 50 with fn := 36 } 1000 (Yn7 Try.prog 36 13) (Yd6 98 [(1, .rs _ pp), (2, .ptr 1 0), (10, .rw 3), (11, .si .i64 i)] ([12, 13, 14] ++ rg 51 46)) [(1, .blk 25 [.rs _ qs, .rs _ ps, .si .i64 all]), (3, .arr 80 Ja l)] (Yug Xkg A K) = Xiv pp i qs ps all l A K := by kernel_rfl
def Xh2 : Prop := ∀ (W : InW) (body a : Code), (Try.prog.funcs[36]?).bind (·.body) = some body -> a ∈ Yy body -> Yfx a = 13 -> @Ymq W Try.prog a (@Yto W Xkg)
theorem Xo3 (meas : [InW] -> List Ed -> Nat) (hyp_ : ∀ (W : InW) pp i qs ps all l K, Xjh [.ro _ pp, .i i, .ro _ qs, .ro _ ps, .i all, .l l] K -> ∀ A : List Ed -> Prop, (∀ e, meas e < meas [.ro _ pp, .i i, .ro _ qs, .ro _ ps, .i all, .l l] -> Xjh e K -> A e) -> Xiv pp i qs ps all l A K) : Xh2 :=
 LE.okOf' (fun W => @TT W) (fun W => @Xe W) Xa T36 1000 50 (by kernel_rfl) Xkg (fun W => @meas W) fun W pp i qs ps all l K hs =>
  (Xoc W pp i qs ps all l (fun e => meas e < meas [.ro _ pp, .i i, .ro _ qs, .ro _ ps, .i all, .l l] /\ Xjh e K) K).mpr (hyp_ W pp i qs ps all l K hs _ fun e h1 h2 => ⟨h1, h2⟩)
theorem okLmp : Xh2 := Xo3 (fun e => match e with | [.ro _ pp, .i i, _, _, _, _] => ((pp.xs.length : Int) - i).toNat | _ => 0) fun W pp i qs ps all l K hs A hA => by
 obtain ⟨⟨h0, h1, h20, h4, hkey, hpp, hc⟩, hk⟩ := hs;unfold Xiv;delta Zb Zdy;have ez : (i + 1).toNat = i.toNat + 1 := by omega
 by_cases hi : i < pp.xs.length
 ·rw [show pp.xs.length - i.toNat = (pp.xs.length - (i.toNat + 1)) + 1 by omega] at hk;simp only [Sp.addP] at hk;have hgo := Sp.CntAt.go (qs := qs.xs) (sh := Sp.row pp.xs i.toNat) l.length 0 l hc (by omega);have hl := Sp.addQ_len qs.xs (Sp.row pp.xs i.toNat) l.length 0 l;rw [show ((l.length : Nat) : Int) = ((Sp.addQ qs.xs (Sp.row pp.xs i.toNat) 0 l.length l).length : Nat) by rw [hl]] at hgo;have hA' := hA [.ro _ pp, .i (i + 1), .ro _ qs, .ro _ ps, .i all, .l (Sp.addQ qs.xs (Sp.row pp.xs i.toNat) 0 l.length l)] (show ((pp.xs.length : Int) - (i + 1)).toNat < ((pp.xs.length : Int) - i).toNat by omega) ⟨⟨by omega, by omega, h20, by rw [hl]; exact h4, hkey, hpp, hgo.up⟩, by rw [ez]; exact hk⟩;clear hA hk hgo;simp only [show Int.toNat 0 = 0 from rfl, Nat.sub_zero]
  repeat' (first | (with_reducible refine Xb ⟨by omega, by omega, by omega, by omega, h4, hkey, hpp, by omega, hc⟩ ?_) | omega | intro _ | with_reducible first | apply vifd | apply vifn | apply vifq | apply Xd | apply Xc | apply vifb | apply vif | apply nedd | apply ned2 | apply ned | apply ar64 | apply Xb | exact True.intro | assumption | rfl | apply And.intro)
  all_goals first | exact hA' | skip
 ·rw [show pp.xs.length - i.toNat = 0 by omega] at hk;simp only [Sp.addP] at hk;clear hA
  repeat' (first | omega | intro _ | with_reducible first | apply vifd | apply vifn | apply vifq | apply Xd | apply Xc | apply vifb | apply vif | apply nedd | apply ned2 | apply ned | apply ar64 | apply Xb | exact True.intro | assumption | rfl | apply And.intro)
  all_goals exact hk
noncomputable def le_mp : LE Try.prog := ⟨36, 13, fun W => @Yto W Xkg, okLmp⟩
noncomputable def T37 : Tab Try.prog := ⟨[Xcz], [le_me, le_mp], []⟩
def Zed [W : InW] (k_Qs : Ro Iv5) := List.replicate (↑(k_Qs.xs.length) : Int).toNat (Ybr [.int .i64, .int .i64])
def Zeb [W : InW] (k_Qs : Ro Iv5) (k_Ps : Ro Jc) (k_All : Int) (pp : Ro [.sl Jb]) (Q : DS -> Prop) := Need (decide ((↑(k_Qs.xs.length) : Int) = (↑(k_Qs.xs.length) : Int)) && decide (Zb <= (↑(k_Qs.xs.length) : Int)) && decide ((16 : Nat) * (↑(k_Qs.xs.length) : Int).toNat <= 281474976710656)) (Pre (Zb <= 0 /\ Zb <= (↑(pp.xs.length) : Int) /\ pp.xs.length <= 20 /\ (Zed k_Qs).length = k_Qs.xs.length /\ Sp.KeyOk k_Qs.xs k_Ps.xs k_All /\ Sp.PpOk k_Qs.xs pp.xs /\ Sp.CntAt (Zed k_Qs) Zb Zb) (Q [[Cl.l (Sp.addP k_Qs.xs pp.xs (Int.toNat Zb) (pp.xs.length - Int.toNat Zb) (Zed k_Qs))], [Cl.i 0]]))
def Zec [W : InW] (k_Qs : Ro Iv5) (k_Ps : Ro Jc) (k_All : Int) (pp : Ro [.sl Jb]) (Q : DS -> Prop) := Pre (Zb <= 0 /\ Zb <= (↑(pp.xs.length) : Int) /\ Sp.KeyIf (Sp.chkE k_Qs.xs k_Ps.xs k_All) k_Qs.xs k_Ps.xs k_All) (Vif (!decide (Sp.errL (Sp.shI k_Qs.xs pp.xs) (Int.toNat Zb) (pp.xs.length - Int.toNat Zb) (Sp.chkE k_Qs.xs k_Ps.xs k_All) = 0)) (Q [[Cl.l []], [Cl.i (Sp.errL (Sp.shI k_Qs.xs pp.xs) (Int.toNat Zb) (pp.xs.length - Int.toNat Zb) (Sp.chkE k_Qs.xs k_Ps.xs k_All))]]) (Zeb k_Qs k_Ps k_All pp Q))
def Xio [W : InW] (k_Qs : Ro Iv5) (k_Ps : Ro Jc) (k_All : Int) (pp : Ro [.sl Jb]) (Q : DS -> Prop) : Prop :=
 Pre True (Vif (decide (Sp.chkE k_Qs.xs k_Ps.xs k_All = 0)) (Vif (decide ((20 : Int) < (↑(pp.xs.length) : Int))) (Pre (Zb <= 0 /\ Zb <= (↑(pp.xs.length) : Int) /\ Sp.KeyIf (3 : Int) k_Qs.xs k_Ps.xs k_All) (Vif (!decide (Sp.errL (Sp.shI k_Qs.xs pp.xs) (Int.toNat Zb) (pp.xs.length - Int.toNat Zb) (3 : Int) = 0)) (Q [[Cl.l []], [Cl.i (Sp.errL (Sp.shI k_Qs.xs pp.xs) (Int.toNat Zb) (pp.xs.length - Int.toNat Zb) (3 : Int))]]) (Zeb k_Qs k_Ps k_All pp Q))) (Zec k_Qs k_Ps k_All pp Q)) (Zec k_Qs k_Ps k_All pp Q))
theorem Xoj (W : InW) (k_Qs k_Ps k_All pp Q) : Ywr (cxT Try.prog TT T37 1000 50) 1000 36 [.agg [.rs _ k_Qs, .rs _ k_Ps, .si .i64 k_All], .rs _ pp] [] 0 (Y01 [(false, [.row 80 Ja]), (false, [.int .i64])] Q) (fun _ _ _ _ => Stuck 421) = Xio k_Qs k_Ps k_All pp Q := by kernel_rfl
abbrev Xdl : List AT := [.agg [.sl Iv5, .sl Jc, .int .i64], .one (.sl [.sl Jb])]
theorem Xpc {pre : DS -> Prop} {res : DS -> DS} (hyp_ : ∀ (W : InW) (k_Qs : Ro Iv5) (k_Ps : Ro Jc) (k_All : Int) (pp : Ro [.sl Jb]), pre [[.l k_Qs.xs, .l k_Ps.xs, .i k_All], [.l pp.xs]] -> ∀ Q : DS -> Prop, Q (res [[.l k_Qs.xs, .l k_Ps.xs, .i k_All], [.l pp.xs]]) -> Xio k_Qs k_Ps k_All pp Q) : PureOk Try.prog 36 Xdl [(false, [.row 80 Ja]), (false, [.int .i64])] pre res :=
 PureOk.of' (fun W => @TT W) (fun W => @Xe W) Xa T37 1000 50 fun W k_Qs k_Ps k_All pp hp =>
  (Xoj W k_Qs k_Ps k_All pp (fun o => o = res [[.l k_Qs.xs, .l k_Ps.xs, .i k_All], [.l pp.xs]])).mpr (hyp_ W k_Qs k_Ps k_All pp hp _ rfl)
namespace Sp
def misE (qs ps : Dt) (all : Int) (pp : Dt) : Int := errL (shI qs pp) 0 pp.length (if chkE qs ps all = 0 then (if 20 < pp.length then 3 else 0) else chkE qs ps all)
def misV (qs ps : Dt) (all : Int) (pp : Dt) : Dt := if misE qs ps all pp = 0 then addP qs pp 0 pp.length (List.replicate qs.length [.i 0, .i 0]) else []
theorem misE_ok {qs ps pp : Dt} {all : Int} (h : misE qs ps all pp = 0) : KeyOk qs ps all /\ pp.length <= 20 /\ ∀ i, i < pp.length -> ShOk qs (row pp i) := by
 obtain ⟨h1, h2⟩ := errL_0 _ _ _ h
 split at h1
 ·rename_i e
  split at h1
  ·omega
  ·exact ⟨chkE_iff.1 e, by omega, fun i hi => shE_iff.1 (h2 i (by omega) (by omega))⟩
 ·rename_i e; exact absurd h1 e
end Sp
abbrev Xy (ds : DS) : DS := match ds with | [[.l qs, .l ps, .i all], [.l pp]] => [[.l (Sp.misV qs ps all pp)], [.i (Sp.misE qs ps all pp)]] | _ => []
theorem okmis : PureOk Try.prog 36 Xdl [(false, [.row 80 Ja]), (false, [.int .i64])] (fun _ => True) Xy :=
 Xpc fun W qs ps all pp hp Q h => by
  unfold Xio;delta Zec Zeb Zed Zb;simp only [Xy, Sp.misV] at h;simp only [show Int.toNat 0 = 0 from rfl, Nat.sub_zero, Int.toNat_natCast, show Ybr [.int .i64, .int .i64] = [Cl.i 0, Cl.i 0] from rfl];refine ⟨trivial, vifd (fun e => vifd (fun e2 => ?_) fun e2 => ?_) fun e => ?_⟩
  ·have e3 : Sp.misE qs.xs ps.xs all pp.xs = 3 := by
    unfold Sp.misE;rw [if_pos e, if_pos (by omega), Sp.errL_ne (by omega)]
   rw [if_neg (by omega), e3] at h;refine ⟨⟨by omega, by omega, ⟨fun c => by omega⟩⟩, ?_⟩;rw [Sp.errL_ne (by omega)];exact vifn (fun _ => h) fun c => by omega
  ·have e3 : Sp.misE qs.xs ps.xs all pp.xs = Sp.errL (Sp.shI qs.xs pp.xs) 0 pp.xs.length (Sp.chkE qs.xs ps.xs all) := by
    unfold Sp.misE;rw [if_pos e, if_neg (by omega), e]
   have hk := Sp.chkE_iff.1 e;have n2 := hk.n2;rw [<- e3];refine ⟨⟨by omega, by omega, ⟨fun _ => hk⟩⟩, vifn (fun e4 => ?_) fun e4 => ?_⟩
   ·rw [if_neg e4] at h; exact h
   ·have ho := Sp.misE_ok e4;rw [if_pos e4, e4] at h;refine ned (by simp; omega) ⟨⟨by omega, by omega, by omega, by rw [List.length_replicate], hk, ⟨fun i hi => (ho.2.2 i hi).toShapeOk⟩, ⟨fun j hj => ⟨0, 0, ?_, by omega, by split <;> omega, by omega, by split <;> omega⟩⟩⟩, h⟩;rw [List.length_replicate] at hj;rw [List.getD_eq_getElem?_getD, List.getElem?_replicate, if_pos hj]; rfl
  ·have e3 : Sp.misE qs.xs ps.xs all pp.xs = Sp.chkE qs.xs ps.xs all := by
    unfold Sp.misE;rw [if_neg e, Sp.errL_ne e]
   rw [if_neg (by omega), e3] at h;refine ⟨⟨by omega, by omega, ⟨fun c => absurd c e⟩⟩, ?_⟩;rw [Sp.errL_ne e];exact vifn (fun _ => h) fun c => absurd c e
noncomputable def Xoo : PC Try.prog := ⟨36, Xdl, [(false, [.row 80 Ja]), (false, [.int .i64])], fun _ => True, Xy, okmis⟩
open Go.RowKit
set_option maxRecDepth 100000
set_option maxHeartbeats 1600000
namespace Sp
def eqI (xs : Dt) (x : Int) (k : Nat) : Bool := decide (x = num xs k)
def idxOf (xs : Dt) (x : Int) : Int := if anyF (eqI xs x) 0 xs.length = true then (fstF (eqI xs x) 0 xs.length : Nat) else -1
end Sp
def Xjj [InW] (e : List Ed) (K : Nat -> List Ed -> Prop) : Prop := match e with
 | [.ro _ xs, .i x, .i n, .i i] => Pre (n = xs.xs.length /\ 0 <= i /\ i <= n) (Vif (Sp.anyF (Sp.eqI xs.xs x) i.toNat (xs.xs.length - i.toNat)) (K 1 [.i ((Sp.fstF (Sp.eqI xs.xs x) i.toNat (xs.xs.length - i.toNat) : Nat) : Int)]) (K 0 []))
 | _ => False
noncomputable def Xki : LC where
 len := 19
 T := [(0, .rs Jc), (1, .int .i64), (7, .int .i64), (8, .int .i64)]
 H := []
 W := ([4, 5] ++ rg 9 10)
 outs := [⟨.exit 0, [], [], ([0, 1, 4, 5] ++ rg 7 12)⟩, ⟨.ret, [(4, .int .i64)], [], ([0, 1, 5] ++ rg 7 12)⟩]
 spec := Xjj
def Xix [W : InW] (xs : Ro Jc) (x n i : Int) (A : List Ed -> Prop) (K : Nat -> List Ed -> Prop) : Prop :=
 Vif (decide (i < n)) (Need (decide (0 <= i) && decide (i < (↑(xs.xs.length) : Int))) (Need (decide (i.toNat < xs.xs.length)) (Vif (decide (x = (cel xs.xs i.toNat (0 : Nat)).int)) (K (0+1) [.i i]) (Ar .i64 (i + 1) fun z => A [.ro _ xs, .i x, .i n, .i z])))) (K 0 [])
theorem Xoe (W : InW) (xs x n i A K) : Yfc { cxT Try.prog TT T0 1000 50 with fn := 86 } 1000 (Yn7 Try.prog 86 3) (Yd6 19 [(0, .rs _ xs), (1, .si .i64 x), (7, .si .i64 n), (8, .si .i64 i)] ([4, 5] ++ rg 9 10)) [] (Yug Xki A K) = Xix xs x n i A K := by kernel_rfl
def Xh4 : Prop := ∀ (W : InW) (body a : Code), (Try.prog.funcs[86]?).bind (·.body) = some body -> a ∈ Yy body -> Yfx a = 3 -> @Ymq W Try.prog a (@Yto W Xki)
theorem Xo5 (meas : [InW] -> List Ed -> Nat) (hyp_ : ∀ (W : InW) xs x n i K, Xjj [.ro _ xs, .i x, .i n, .i i] K -> ∀ A : List Ed -> Prop, (∀ e, meas e < meas [.ro _ xs, .i x, .i n, .i i] -> Xjj e K -> A e) -> Xix xs x n i A K) : Xh4 :=
 LE.okOf' (fun W => @TT W) (fun W => @Xe W) Xa T0 1000 50 (by kernel_rfl) Xki (fun W => @meas W) fun W xs x n i K hs =>
  (Xoe W xs x n i (fun e => meas e < meas [.ro _ xs, .i x, .i n, .i i] /\ Xjj e K) K).mpr (hyp_ W xs x n i K hs _ fun e h1 h2 => ⟨h1, h2⟩)
theorem okLix : Xh4 := Xo5 (fun e => match e with | [_, _, .i n, .i i] => (n - i).toNat | _ => 0) fun W xs x n i K hs A hA => by
 obtain ⟨⟨rfl, h0, h1⟩, hk⟩ := hs;unfold Xix;have hm := xs.len;simp only [maxLen] at hm;have ez : (i + 1).toNat = i.toNat + 1 := by omega
 have ei : ((i.toNat : Nat) : Int) = i := Int.toNat_of_nonneg h0
 by_cases hi : i < xs.xs.length
 ·rw [show xs.xs.length - i.toNat = (xs.xs.length - (i.toNat + 1)) + 1 by omega] at hk;simp only [Sp.anyF, Sp.fstF] at hk;simp only [show ∀ k, (cel xs.xs k 0).int = Sp.num xs.xs k from fun _ => rfl]
  by_cases c : x = Sp.num xs.xs i.toNat
  ·have c2 : Sp.eqI xs.xs x i.toNat = true := decide_eq_true c;rw [c2, Bool.true_or, if_pos rfl, ei] at hk;have hk := hk.1 rfl;clear hA
   repeat' (first | omega | intro _ | with_reducible first | apply vifd | apply vifn | apply vifq | apply Xd | apply Xc | apply vifb | apply vif | apply nedd | apply ned2 | apply ned | apply ar64 | apply Xb | exact True.intro | assumption | rfl | apply And.intro)
   all_goals first | contradiction | exact hk | skip
  ·have c2 : Sp.eqI xs.xs x i.toNat = false := decide_eq_false c;rw [c2, Bool.false_or, if_neg (by decide)] at hk;have hA' := hA [.ro _ xs, .i x, .i xs.xs.length, .i (i + 1)] (show ((xs.xs.length : Int) - (i + 1)).toNat < ((xs.xs.length : Int) - i).toNat by omega) ⟨⟨rfl, by omega, by omega⟩, by rw [ez]; exact hk⟩;clear hA hk
   repeat' (first | omega | intro _ | with_reducible first | apply vifd | apply vifn | apply vifq | apply Xd | apply Xc | apply vifb | apply vif | apply nedd | apply ned2 | apply ned | apply ar64 | apply Xb | exact True.intro | assumption | rfl | apply And.intro)
   all_goals first | contradiction | exact hA' | skip
 ·rw [show xs.xs.length - i.toNat = 0 by omega] at hk;clear hA
  repeat' (first | omega | intro _ | with_reducible first | apply vifd | apply vifn | apply vifq | apply Xd | apply Xc | apply vifb | apply vif | apply nedd | apply ned2 | apply ned | apply ar64 | apply Xb | exact True.intro | assumption | rfl | apply And.intro)
  all_goals exact hk.2 rfl
noncomputable def le_ix : LE Try.prog := ⟨86, 3, fun W => @Yto W Xki, okLix⟩
noncomputable def T40 : Tab Try.prog := ⟨[], [le_ix], []⟩
def Xn5 [W : InW] (xs : Ro Jc) (x : Int) (Q : DS -> Prop) : Prop :=
 Pre ((↑(xs.xs.length) : Int) = (↑(xs.xs.length) : Int) /\ Zb <= 0 /\ Zb <= (↑(xs.xs.length) : Int)) (Vif (Sp.anyF (Sp.eqI xs.xs x) (Int.toNat Zb) (xs.xs.length - Int.toNat Zb)) (Q [[Cl.i (↑(Sp.fstF (Sp.eqI xs.xs x) (Int.toNat Zb) (xs.xs.length - Int.toNat Zb)) : Int)]]) (Q [[Cl.i (-1 : Int)]]))
theorem vc_ix (W : InW) (xs x Q) : Ywr (cxT Try.prog TT T40 1000 50) 1000 86 [.rs _ xs, .si .i64 x] [] 0 (Y01 [(false, [.int .i64])] Q) (fun _ _ _ _ => Stuck 421) = Xn5 xs x Q := by kernel_rfl
abbrev Xig : List AT := [.one (.sl Jc), .one (.int .i64)]
theorem ok_ix {pre : DS -> Prop} {res : DS -> DS} (hyp_ : ∀ (W : InW) (xs : Ro Jc) (x : Int), pre [[.l xs.xs], [.i x]] -> ∀ Q : DS -> Prop, Q (res [[.l xs.xs], [.i x]]) -> Xn5 xs x Q) : PureOk Try.prog 86 Xig [(false, [.int .i64])] pre res :=
 PureOk.of' (fun W => @TT W) (fun W => @Xe W) Xa T40 1000 50 fun W xs x hp =>
  (vc_ix W xs x (fun o => o = res [[.l xs.xs], [.i x]])).mpr (hyp_ W xs x hp _ rfl)
abbrev Xhi (ds : DS) : DS := match ds with | [[.l xs], [.i x]] => [[.i (Sp.idxOf xs x)]] | _ => []
theorem okix : PureOk Try.prog 86 Xig [(false, [.int .i64])] (fun _ => True) Xhi :=
 ok_ix fun W xs x hp Q h => by
  unfold Xn5;delta Zb;simp only [Xhi, Sp.idxOf] at h;simp only [show Int.toNat 0 = 0 from rfl, Nat.sub_zero];refine ⟨⟨trivial, by omega, by omega⟩, vif (fun e => ?_) fun e => ?_⟩
  ·rw [if_pos e] at h; exact h
  ·rw [if_neg (by simp [e])] at h; exact h
noncomputable def Xop : PC Try.prog := ⟨86, Xig, [(false, [.int .i64])], fun _ => True, Xhi, okix⟩
noncomputable def T41 : Tab Try.prog := ⟨[Xop], [], []⟩
def Xn6 [W : InW] (xs : Ro Jc) (x : Int) (Q : DS -> Prop) : Prop :=
 Pre True (Q [[Cl.b (decide ((0 : Int) <= Sp.idxOf xs.xs x))]])
theorem vc_cn (W : InW) (xs x Q) : Ywr (cxT Try.prog TT T41 1000 50) 1000 87 [.rs _ xs, .si .i64 x] [] 0 (Y01 [(false, [.bool])] Q) (fun _ _ _ _ => Stuck 421) = Xn6 xs x Q := by kernel_rfl
abbrev Xii : List AT := [.one (.sl Jc), .one (.int .i64)]
theorem ok_cn {pre : DS -> Prop} {res : DS -> DS} (hyp_ : ∀ (W : InW) (xs : Ro Jc) (x : Int), pre [[.l xs.xs], [.i x]] -> ∀ Q : DS -> Prop, Q (res [[.l xs.xs], [.i x]]) -> Xn6 xs x Q) : PureOk Try.prog 87 Xii [(false, [.bool])] pre res :=
 PureOk.of' (fun W => @TT W) (fun W => @Xe W) Xa T41 1000 50 fun W xs x hp =>
  (vc_cn W xs x (fun o => o = res [[.l xs.xs], [.i x]])).mpr (hyp_ W xs x hp _ rfl)
abbrev Xkv (ds : DS) : DS := match ds with | [[.l xs], [.i x]] => [[.b (decide (0 <= Sp.idxOf xs x))]] | _ => []
theorem okcn : PureOk Try.prog 87 Xii [(false, [.bool])] (fun _ => True) Xkv :=
 ok_cn fun W xs x hp Q h => by
  unfold Xn6;exact ⟨trivial, h⟩
noncomputable def pc_cn : PC Try.prog := ⟨87, Xii, [(false, [.bool])], fun _ => True, Xkv, okcn⟩
def Xjc [InW] (e : List Ed) (K : Nat -> List Ed -> Prop) : Prop := match e with
 | [.i a, .ro _ d, .i n, .i i] => Pre (n = d.xs.length /\ 0 <= i /\ i <= d.xs.length /\ Sp.Low d.xs /\ -1000 * i <= a /\ a <= 1000 * i) (K 0 [.i (Sp.sumF (Sp.num d.xs) i.toNat (d.xs.length - i.toNat) a)])
 | _ => False
noncomputable def Xkb : LC where
 len := 16
 T := [(2, .int .i64), (5, .rs Jc), (6, .int .i64), (7, .int .i64)]
 H := []
 W := ([4] ++ rg 8 7)
 outs := [⟨.exit 0, [(2, .int .i64)], [], (rg 4 11)⟩]
 spec := Xjc
def Xiq [W : InW] (a : Int) (d : Ro Jc) (n i : Int) (A : List Ed -> Prop) (K : Nat -> List Ed -> Prop) : Prop :=
 Vif (decide (i < n)) (Need (decide (0 <= i) && decide (i < (↑(d.xs.length) : Int))) (Need (decide (i.toNat < d.xs.length)) (Ar .i64 (a + (cel d.xs i.toNat (0 : Nat)).int) fun z => Ar .i64 (i + 1) fun z_1 => A [.i z, .ro _ d, .i n, .i z_1]))) (K 0 [.i a])
theorem Xn7 (W : InW) (a d n i A K) : Yfc { cxT Try.prog TT T0 1000 50 with fn := 63 } 1000 (Yn7 Try.prog 63 3) (Yd6 16 [(2, .si .i64 a), (5, .rs _ d), (6, .si .i64 n), (7, .si .i64 i)] ([4] ++ rg 8 7)) [] (Yug Xkb A K) = Xiq a d n i A K := by kernel_rfl
def Xhx : Prop := ∀ (W : InW) (body a : Code), (Try.prog.funcs[63]?).bind (·.body) = some body -> a ∈ Yy body -> Yfx a = 3 -> @Ymq W Try.prog a (@Yto W Xkb)
theorem Xoy (meas : [InW] -> List Ed -> Nat) (hyp_ : ∀ (W : InW) a d n i K, Xjc [.i a, .ro _ d, .i n, .i i] K -> ∀ A : List Ed -> Prop, (∀ e, meas e < meas [.i a, .ro _ d, .i n, .i i] -> Xjc e K -> A e) -> Xiq a d n i A K) : Xhx :=
 LE.okOf' (fun W => @TT W) (fun W => @Xe W) Xa T0 1000 50 (by kernel_rfl) Xkb (fun W => @meas W) fun W a d n i K hs =>
  (Xn7 W a d n i (fun e => meas e < meas [.i a, .ro _ d, .i n, .i i] /\ Xjc e K) K).mpr (hyp_ W a d n i K hs _ fun e h1 h2 => ⟨h1, h2⟩)
theorem okLsu : Xhx := Xoy (fun e => match e with | [_, _, .i n, .i i] => (n - i).toNat | _ => 0) fun W a d n i K hs A hA => by
 obtain ⟨⟨rfl, h0, h1, hl, h2, h3⟩, hk⟩ := hs;unfold Xiq;have hm := d.len;have hl1 := hl.1;simp only [maxLen] at hm;have ez : (i + 1).toNat = i.toNat + 1 := by omega
 by_cases hi : i < d.xs.length
 ·rw [show d.xs.length - i.toNat = (d.xs.length - (i.toNat + 1)) + 1 by omega] at hk;simp only [Sp.sumF] at hk;have hv := hl.2 i.toNat (by omega);have hA' := hA [.i (a + Sp.num d.xs i.toNat), .ro _ d, .i d.xs.length, .i (i + 1)] (show ((d.xs.length : Int) - (i + 1)).toNat < ((d.xs.length : Int) - i).toNat by omega) ⟨⟨rfl, by omega, by omega, hl, by omega, by omega⟩, by rw [ez]; exact hk⟩;clear hA hk;simp only [show ∀ k, (cel d.xs k 0).int = Sp.num d.xs k from fun _ => rfl]
  repeat' (first | omega | intro _ | with_reducible first | apply vifd | apply vifn | apply vifq | apply Xd | apply Xc | apply vifb | apply vif | apply nedd | apply ned2 | apply ned | apply ar64 | apply Xb | exact True.intro | assumption | rfl | apply And.intro)
  all_goals first | contradiction | exact hA' | skip
 ·rw [show d.xs.length - i.toNat = 0 by omega] at hk;simp only [Sp.sumF] at hk;clear hA
  repeat' (first | omega | intro _ | with_reducible first | apply vifd | apply vifn | apply vifq | apply Xd | apply Xc | apply vifb | apply vif | apply nedd | apply ned2 | apply ned | apply ar64 | apply Xb | exact True.intro | assumption | rfl | apply And.intro)
  all_goals exact hk
noncomputable def le_su : LE Try.prog := ⟨63, 3, fun W => @Yto W Xkb, okLsu⟩
noncomputable def T42 : Tab Try.prog := ⟨[], [le_su], []⟩
def Xn3 [W : InW] (d : Ro Jc) (Q : DS -> Prop) : Prop :=
 Pre ((↑(d.xs.length) : Int) = (↑(d.xs.length) : Int) /\ (0 : Int) <= 0 /\ (0 : Int) <= (↑(d.xs.length) : Int) /\ Sp.Low d.xs /\ (-1000 : Int) * 0 <= 0 /\ (0 : Int) <= 1000 * 0) (Q [[Cl.i (Sp.sumF (Sp.num d.xs) (Int.toNat (0 : Int)) (d.xs.length - Int.toNat (0 : Int)) (0 : Int))]])
theorem vc_su (W : InW) (d Q) : Ywr (cxT Try.prog TT T42 1000 50) 1000 63 [.rs _ d] [] 0 (Y01 [(false, [.int .i64])] Q) (fun _ _ _ _ => Stuck 421) = Xn3 d Q := by kernel_rfl
abbrev Xie : List AT := [.one (.sl Jc)]
theorem ok_su {pre : DS -> Prop} {res : DS -> DS} (hyp_ : ∀ (W : InW) (d : Ro Jc), pre [[.l d.xs]] -> ∀ Q : DS -> Prop, Q (res [[.l d.xs]]) -> Xn3 d Q) : PureOk Try.prog 63 Xie [(false, [.int .i64])] pre res :=
 PureOk.of' (fun W => @TT W) (fun W => @Xe W) Xa T42 1000 50 fun W d hp =>
  (vc_su W d (fun o => o = res [[.l d.xs]])).mpr (hyp_ W d hp _ rfl)
theorem oksu : PureOk Try.prog 63 Xie [(false, [.int .i64])] Xhk Xhh :=
 ok_su fun W d hp Q h => by
  have hp : Sp.Low d.xs := hp;unfold Xn3;simp only [show Int.toNat 0 = 0 from rfl, Nat.sub_zero];exact ⟨⟨trivial, by omega, by omega, hp, by omega, by omega⟩, h⟩
noncomputable def Xom : PC Try.prog := ⟨63, Xie, [(false, [.int .i64])], Xhk, Xhh, oksu⟩
def Xdu [W : InW] (a b : Bool) (Q : DS -> Prop) : Prop :=
 Vif b (Q [[Cl.i 1]]) (Vif a (Q [[Cl.i 2]]) (Q [[Cl.i 0]]))
theorem Xl6 (W : InW) (a b Q) : Ywr (cxT Try.prog TT T0 1000 50) 1000 59 [.sb a, .sb b] [] 0 (Y01 [(false, [.int .i64])] Q) (fun _ _ _ _ => Stuck 421) = Xdu a b Q := by kernel_rfl
abbrev Xch : List AT := [.one (.bool), .one (.bool)]
theorem Xnq {pre : DS -> Prop} {res : DS -> DS} (hyp_ : ∀ (W : InW) (a b : Bool), pre [[.b a], [.b b]] -> ∀ Q : DS -> Prop, Q (res [[.b a], [.b b]]) -> Xdu a b Q) : PureOk Try.prog 59 Xch [(false, [.int .i64])] pre res :=
 PureOk.of' (fun W => @TT W) (fun W => @Xe W) Xa T0 1000 50 fun W a b hp =>
  (Xl6 W a b (fun o => o = res [[.b a], [.b b]])).mpr (hyp_ W a b hp _ rfl)
namespace Sp
def ocB (a b : Bool) : Int := if b = true then 1 else if a = true then 2 else 0
end Sp
abbrev Xfj (ds : DS) : DS := match ds with | [[.b a], [.b b]] => [[.i (Sp.ocB a b)]] | _ => []
theorem Xox : PureOk Try.prog 59 Xch [(false, [.int .i64])] (fun _ => True) Xfj :=
 Xnq fun W a b hp Q h => by
  unfold Xdu;cases a <;> cases b <;> (repeat' (first | omega | intro _ | with_reducible first | apply vifd | apply vifn | apply vifq | apply Xd | apply Xc | apply vifb | apply vif | apply nedd | apply ned2 | apply ned | apply ar64 | apply Xb | exact True.intro | assumption | rfl | apply And.intro)) <;> first | exact h | contradiction | skip
noncomputable def Xhn : PC Try.prog := ⟨59, Xch, [(false, [.int .i64])], fun _ => True, Xfj, Xox⟩
open Go.RowKit
set_option maxRecDepth 100000
set_option maxHeartbeats 1600000
namespace Sp
def bitV (b : Int) (i : Int) : Int := andI .i64 (b.fdiv (2 ^ min i.toNat 64)) 1
def ansW (u : Dt) (q b : Int) : Nat -> Nat -> Dt -> Dt
 | _, 0, l => l
 | i, n + 1, l => ansW u q b (i + 1) n (if cA u i = q then l.set (cB u i).toNat [.i (bitV b i)] else l)
structure UqOk (u : Dt) (q : Int) (l : Nat) : Prop where
 few : u.length <= 64
 low : l <= 1000
 in_ : ∀ i, i < u.length -> cA u i = q -> 0 <= cB u i /\ cB u i < l
end Sp
def Xjk [InW] (e : List Ed) (K : Nat -> List Ed -> Prop) : Prop := match e with
 | [.i q, .i b, .i n, .i i, .ro _ qs, .ro _ ps, .i all, .ro _ sh, .l u, .l l] => Pre (n = u.length /\ 0 <= i /\ i <= u.length /\ 0 <= b /\ Sp.UqOk u q l.length) (K 0 [.i q, .i b, .ro _ qs, .ro _ ps, .i all, .ro _ sh, .l u, .l (Sp.ansW u q b i.toNat (u.length - i.toNat) l)])
 | _ => False
noncomputable def Xkj : LC where
 len := 64
 T := [(0, (.ptr 1 0)), (1, .int .i64), (2, .int .i64), (7, (.row 3)), (32, (.row 4)), (33, .int .i64), (34, .int .i64)]
 H := [(1, .blk 89 [.rs Iv5, .rs Jc, .int .i64, .rs Jb, (.row 4)]), (4, .arr 44 Ja), (3, .arr 3 Jc)]
 W := ([8, 9] ++ rg 35 17)
 outs := [⟨.exit 0, [(0, (.ptr 1 0)), (1, .int .i64), (2, .int .i64), (7, (.row 6))], [(1, .blk 89 [.rs Iv5, .rs Jc, .int .i64, .rs Jb, (.row 4)]), (4, .arr 44 Ja), (6, .arr 3 Jc)], ([8, 9] ++ rg 32 20)⟩]
 spec := Xjk
def Xiy [W : InW] (q b n i : Int) (qs : Ro Iv5) (ps : Ro Jc) (all : Int) (sh : Ro Jb) (u l : Dt) (A : List Ed -> Prop) (K : Nat -> List Ed -> Prop) : Prop :=
 Vif (decide (i < n)) (Need (decide (0 <= i) && decide (i < (↑(u.length) : Int))) (Need (decide (i.toNat < u.length)) (Vif (decide ((cel u i.toNat (0 : Nat)).int = q)) (Need (decide (0 <= i)) (Need (decide ((0 : Int) <= (cel u i.toNat (0+1)).int) && decide ((cel u i.toNat (0+1)).int < (↑(l.length) : Int))) (Need (decide ((cel u i.toNat (0+1)).int.toNat < l.length)) (Ar .i64 (i + 1) fun z => A [.i q, .i b, .i n, .i z, .ro _ qs, .ro _ ps, .i all, .ro [Ty.sl [Ty.int IntKind.i64]] sh, .l u, .l (List.set l (cel u i.toNat (0+1)).int.toNat [Cl.i (andI IntKind.i64 (b.fdiv ((2 : Int) ^ min i.toNat (64 : Nat))) (1 : Int))])])))) (Ar .i64 (i + 1) fun z => A [.i q, .i b, .i n, .i z, .ro _ qs, .ro _ ps, .i all, .ro [Ty.sl [Ty.int IntKind.i64]] sh, .l u, .l l])))) (K 0 [.i q, .i b, .ro _ qs, .ro _ ps, .i all, .ro [Ty.sl [Ty.int IntKind.i64]] sh, .l u, .l l])
theorem Xof (W : InW) (q b n i qs ps all sh u l A K) : Yfc { cxT Try.prog TT T0 1000 50 with fn := 78 } 1000 (Yn7 Try.prog 78 5) (Yd6 64 [(0, .ptr 1 0), (1, .si .i64 q), (2, .si .i64 b), (7, .rw 3), (32, .rw 4), (33, .si .i64 n), (34, .si .i64 i)] ([8, 9] ++ rg 35 17)) [(1, .blk 89 [.rs _ qs, .rs _ ps, .si .i64 all, .rs _ sh, .rw 4]), (4, .arr 44 Ja u), (3, .arr 3 Jc l)] (Yug Xkj A K) = Xiy q b n i qs ps all sh u l A K := by kernel_rfl
def Xh5 : Prop := ∀ (W : InW) (body a : Code), (Try.prog.funcs[78]?).bind (·.body) = some body -> a ∈ Yy body -> Yfx a = 5 -> @Ymq W Try.prog a (@Yto W Xkj)
theorem Xo6 (meas : [InW] -> List Ed -> Nat) (hyp_ : ∀ (W : InW) q b n i qs ps all sh u l K, Xjk [.i q, .i b, .i n, .i i, .ro _ qs, .ro _ ps, .i all, .ro _ sh, .l u, .l l] K -> ∀ A : List Ed -> Prop, (∀ e, meas e < meas [.i q, .i b, .i n, .i i, .ro _ qs, .ro _ ps, .i all, .ro _ sh, .l u, .l l] -> Xjk e K -> A e) -> Xiy q b n i qs ps all sh u l A K) : Xh5 :=
 LE.okOf' (fun W => @TT W) (fun W => @Xe W) Xa T0 1000 50 (by kernel_rfl) Xkj (fun W => @meas W) fun W q b n i qs ps all sh u l K hs =>
  (Xof W q b n i qs ps all sh u l (fun e => meas e < meas [.i q, .i b, .i n, .i i, .ro _ qs, .ro _ ps, .i all, .ro _ sh, .l u, .l l] /\ Xjk e K) K).mpr (hyp_ W q b n i qs ps all sh u l K hs _ fun e h1 h2 => ⟨h1, h2⟩)
theorem okLan : Xh5 := Xo6 (fun e => match e with | [_, _, .i n, .i i, _, _, _, _, _, _] => (n - i).toNat | _ => 0) fun W q b n i qs ps all sh u l K hs A hA => by
 obtain ⟨⟨rfl, h0, h1, hb, hu⟩, hk⟩ := hs;have h64 := hu.few;unfold Xiy;simp only [Nat.zero_add, show ∀ k, (cel u k 0).int = Sp.cA u k from fun _ => rfl, show ∀ k, (cel u k 1).int = Sp.cB u k from fun _ => rfl];have ez : (i + 1).toNat = i.toNat + 1 := by omega
 by_cases hi : i < u.length
 ·rw [show u.length - i.toNat = (u.length - (i.toNat + 1)) + 1 by omega] at hk;simp only [Sp.ansW, Sp.bitV, Int.toNat_natCast] at hk
  by_cases c : Sp.cA u i.toNat = q
  ·have h3 := hu.in_ i.toNat (by omega) c;rw [if_pos c] at hk;have hA' := hA [.i q, .i b, .i u.length, .i (i + 1), .ro _ qs, .ro _ ps, .i all, .ro _ sh, .l u, .l (l.set (Sp.cB u i.toNat).toNat [.i (andI .i64 (b.fdiv (2 ^ min i.toNat 64)) 1)])] (show ((u.length : Int) - (i + 1)).toNat < ((u.length : Int) - i).toNat by omega) ⟨⟨rfl, by omega, by omega, hb, ⟨hu.few, by rw [List.length_set]; exact hu.low, fun k hk he => by rw [List.length_set]; exact hu.in_ k hk he⟩⟩, by rw [ez]; exact hk⟩;clear hA hk
   repeat' (first | omega | intro _ | with_reducible first | apply vifd | apply vifn | apply vifq | apply Xd | apply Xc | apply vifb | apply vif | apply nedd | apply ned2 | apply ned | apply ar64 | apply Xb | exact True.intro | assumption | rfl | apply And.intro)
   all_goals first | contradiction | exact hA' | skip
  ·rw [if_neg c] at hk;have hA' := hA [.i q, .i b, .i u.length, .i (i + 1), .ro _ qs, .ro _ ps, .i all, .ro _ sh, .l u, .l l] (show ((u.length : Int) - (i + 1)).toNat < ((u.length : Int) - i).toNat by omega) ⟨⟨rfl, by omega, by omega, hb, hu⟩, by rw [ez]; exact hk⟩;clear hA hk
   repeat' (first | omega | intro _ | with_reducible first | apply vifd | apply vifn | apply vifq | apply Xd | apply Xc | apply vifb | apply vif | apply nedd | apply ned2 | apply ned | apply ar64 | apply Xb | exact True.intro | assumption | rfl | apply And.intro)
   all_goals first | contradiction | exact hA' | skip
 ·rw [show u.length - i.toNat = 0 by omega] at hk;simp only [Sp.ansW] at hk;clear hA
  repeat' (first | omega | intro _ | with_reducible first | apply vifd | apply vifn | apply vifq | apply Xd | apply Xc | apply vifb | apply vif | apply nedd | apply ned2 | apply ned | apply ar64 | apply Xb | exact True.intro | assumption | rfl | apply And.intro)
  all_goals exact hk
noncomputable def le_an : LE Try.prog := ⟨78, 5, fun W => @Yto W Xkj, okLan⟩
namespace Sp
def ansX (l : Dt) : Int := if 0 <= idxOf l 1 /\ 0 <= idxOf (l.drop (idxOf l 1 + 1).toNat) 1 then -1 else idxOf l 1
def rowW (sh u : Dt) (q b : Int) : Dt := ansW u q b 0 u.length (row sh q.toNat)
end Sp
noncomputable def T43 : Tab Try.prog := ⟨[Xop, pc_cn], [le_an], []⟩
def Xkt [InW] (e : List Ed) (K : Nat -> List Ed -> Prop) : Prop := match e with
 | [.i q, .i b, .ro _ qs, .ro _ ps, .i all, .ro _ sh, .l u] => Pre (0 <= q /\ q < sh.xs.length /\ 0 <= b /\ Sp.UqOk u q (Sp.row sh.xs q.toNat).length) (K 0 [.i (Sp.ansX (Sp.rowW sh.xs u q b)), .ro _ qs, .ro _ ps, .i all, .ro _ sh, .l u])
 | _ => False
noncomputable def Xq : CC where
 g := 78
 args := [(.ptr 1 0), .int .i64, .int .i64]
 H := [(1, .blk 89 [.rs Iv5, .rs Jc, .int .i64, .rs Jb, (.row 4)]), (4, .arr 44 Ja)]
 outs := [⟨false, .int .i64, [(1, .blk 89 [.rs Iv5, .rs Jc, .int .i64, .rs Jb, (.row 4)]), (4, .arr 44 Ja)], false⟩]
 spec := Xkt
def Zeg [W : InW] (q : Int) (sh : Ro Jb) := List.length (cel sh.xs q.toNat (0 : Nat)).lst
def Zeh [W : InW] (q : Int) (sh : Ro Jb) := List.replicate (↑(Zeg q sh) : Int).toNat (Ybr [Ty.int IntKind.i64])
def Zef [W : InW] (q : Int) (sh : Ro Jb) := List.take (min (Zeg q sh) (Zeh q sh).length) (cel sh.xs q.toNat (0 : Nat)).lst ++ List.drop (min (Zeg q sh) (Zeh q sh).length) (Zeh q sh)
def Zee [W : InW] (q b : Int) (sh : Ro Jb) (u : Dt) := Sp.ansW u q b (Int.toNat Zb) (u.length - Int.toNat Zb) (Zef q sh)
def Xer [W : InW] (q b : Int) (qs : Ro Iv5) (ps : Ro Jc) (all : Int) (sh : Ro Jb) (u : Dt) (K : Nat -> List Ed -> Prop) : Prop :=
 Need (decide (0 <= q) && decide (q < (↑(sh.xs.length) : Int))) (Need (decide (q.toNat < sh.xs.length)) (Need (decide ((↑(Zeg q sh) : Int) = (↑(Zeg q sh) : Int)) && decide (Zb <= (↑(Zeg q sh) : Int)) && decide ((8 : Nat) * (↑(Zeg q sh) : Int).toNat <= 281474976710656)) (Need (decide (0 <= q) && decide (q < (↑(sh.xs.length) : Int))) (Need (decide (q.toNat < sh.xs.length)) (Pre ((↑(u.length) : Int) = (↑(u.length) : Int) /\ Zb <= 0 /\ Zb <= (↑(u.length) : Int) /\ 0 <= b /\ Sp.UqOk u q (Zef q sh).length) (Pre True (Vif (decide (Zb <= Sp.idxOf (Zee q b sh u) (1 : Int))) (Ar .i64 (Sp.idxOf (Zee q b sh u) (1 : Int) + 1) fun z => Need (decide (0 <= z)) (Need (decide (z.toNat <= List.length (Zee q b sh u)) && decide (List.length (Zee q b sh u) <= List.length (Zee q b sh u))) (Need (decide (z.toNat + (List.length (Zee q b sh u) - z.toNat) <= List.length (Zee q b sh u))) (Pre True (Vif (decide (Zb <= Sp.idxOf (List.take (List.length (Zee q b sh u) - z.toNat) (List.drop z.toNat (Zee q b sh u))) (1 : Int))) (K 0 [.i (-1 : Int), .ro _ qs, .ro _ ps, .i all, .ro [Ty.sl [Ty.int IntKind.i64]] sh, .l u]) (K 0 [.i (Sp.idxOf (Zee q b sh u) (1 : Int)), .ro _ qs, .ro _ ps, .i all, .ro [Ty.sl [Ty.int IntKind.i64]] sh, .l u])))))) (K 0 [.i (Sp.idxOf (Zee q b sh u) (1 : Int)), .ro _ qs, .ro _ ps, .i all, .ro [Ty.sl [Ty.int IntKind.i64]] sh, .l u]))))))))
theorem Xlx (W : InW) (q b qs ps all sh u K) : Ywo (cxT Try.prog TT T43 1000 50) 1000 78 [.ptr 1 0, .si .i64 q, .si .i64 b] [(1, .blk 89 [.rs _ qs, .rs _ ps, .si .i64 all, .rs _ sh, .rw 4]), (4, .arr 44 Ja u)] (fun v h => outC Xq.H [.ro _ qs, .ro _ ps, .i all, .ro _ sh, .l u] Xq.outs 0 false v h K) (fun v h => outC Xq.H [.ro _ qs, .ro _ ps, .i all, .ro _ sh, .l u] Xq.outs 0 true v h K) = Xer q b qs ps all sh u K := by kernel_rfl
theorem Xng (hyp_ : ∀ (W : InW) q b qs ps all sh u K, Xkt [.i q, .i b, .ro _ qs, .ro _ ps, .i all, .ro _ sh, .l u] K -> Xer q b qs ps all sh u K) : ∀ W : InW, @CallC W Try.prog Xq :=
 CC.okOf (fun W => @TT W) (fun W => @Xe W) Xa T43 1000 50 Xq fun W q b qs ps all sh u K hs => (Xlx W q b qs ps all sh u K).mpr (hyp_ W q b qs ps all sh u K hs)
theorem Xg4 (u : Dt) (q b : Int) : ∀ n i l, (Sp.ansW u q b i n l).length = l.length
 | 0, _, _ => rfl
 | n + 1, i, l => by
  simp only [Sp.ansW];rw [Xg4 u q b n (i + 1)]
  split <;> simp
theorem Xg2 (xs : Dt) (x : Int) : -1 <= Sp.idxOf xs x /\ Sp.idxOf xs x < xs.length := by
 unfold Sp.idxOf
 split
 ·rename_i h;have := Sp.fstF_spec h;omega
 ·omega
theorem Xh8 : ∀ W : InW, @CallC W Try.prog Xq := Xng fun W q b qs ps all sh u K hs => by
 obtain ⟨⟨h0, h1, h2, h3⟩, hk⟩ := hs;unfold Xer;delta Zee Zef Zeh Zeg Zb;have hlow := h3.low;simp only [show Int.toNat 0 = 0 from rfl, Nat.sub_zero, Int.toNat_natCast, List.length_replicate, Nat.min_self, List.take_length, List.drop_replicate, Nat.sub_self, List.replicate_zero, List.append_nil, show (cel sh.xs q.toNat 0).lst = Sp.row sh.xs q.toNat from rfl, show Sp.ansW u q b 0 u.length (Sp.row sh.xs q.toNat) = Sp.rowW sh.xs u q b from rfl];have hl : (Sp.rowW sh.xs u q b).length = (Sp.row sh.xs q.toNat).length := Xg4 _ _ _ _ _ _;have hz : ∀ z : Nat, List.take ((Sp.rowW sh.xs u q b).length - z) (List.drop z (Sp.rowW sh.xs u q b)) = List.drop z (Sp.rowW sh.xs u q b) := fun z => List.take_of_length_le (by simp);simp only [hz];clear hz;unfold Sp.ansX at hk;generalize Sp.rowW sh.xs u q b = l at *;have hi := Xg2 l 1
 by_cases c : 0 <= Sp.idxOf l 1
 ·by_cases c2 : 0 <= Sp.idxOf (l.drop (Sp.idxOf l 1 + 1).toNat) 1
  ·rw [if_pos ⟨c, c2⟩] at hk
   repeat' (first | (with_reducible refine Xb ⟨rfl, by omega, by omega, h2, h3⟩ ?_) | (with_reducible refine Xb trivial ?_) | (with_reducible refine ned ?_ ?_; simp; omega) | omega | intro _ | with_reducible first | apply vifd | apply vifn | apply vifq | apply Xd | apply Xc | apply vifb | apply vif | apply nedd | apply ned2 | apply ned | apply ar64 | apply Xb | exact True.intro | assumption | rfl | apply And.intro)
   all_goals first | contradiction | exact hk | skip
  ·rw [if_neg (fun x => c2 x.2)] at hk
   repeat' (first | (with_reducible refine Xb ⟨rfl, by omega, by omega, h2, h3⟩ ?_) | (with_reducible refine Xb trivial ?_) | (with_reducible refine ned ?_ ?_; simp; omega) | omega | intro _ | with_reducible first | apply vifd | apply vifn | apply vifq | apply Xd | apply Xc | apply vifb | apply vif | apply nedd | apply ned2 | apply ned | apply ar64 | apply Xb | exact True.intro | assumption | rfl | apply And.intro)
   all_goals first | contradiction | exact hk | skip
 ·rw [if_neg (fun x => c x.1)] at hk
  repeat' (first | (with_reducible refine Xb ⟨rfl, by omega, by omega, h2, h3⟩ ?_) | (with_reducible refine Xb trivial ?_) | (with_reducible refine ned ?_ ?_; simp; omega) | omega | intro _ | with_reducible first | apply vifd | apply vifn | apply vifq | apply Xd | apply Xc | apply vifb | apply vif | apply nedd | apply ned2 | apply ned | apply ar64 | apply Xb | exact True.intro | assumption | rfl | apply And.intro)
  all_goals first | contradiction | exact hk | skip
open Go.RowKit
set_option maxRecDepth 100000
set_option maxHeartbeats 1600000
namespace Sp
def anW (sh u : Dt) (b : Int) (i : Nat) : Int := ansX (rowW sh u i b)
def stW (qs sh u : Dt) (b : Int) (i : Nat) (l : Dt) : Dt :=
 if anW sh u b i = qRight qs i then l.set (qPart qs i).toNat [.i (num l (qPart qs i).toNat + qPts qs i)] else if anW sh u b i = -1 then l else l.set (qPart qs i).toNat [.i (num l (qPart qs i).toNat - qMin qs i)]
def addW (qs sh u : Dt) (b : Int) : Nat -> Nat -> Dt -> Dt
 | _, 0, l => l
 | i, n + 1, l => addW qs sh u b (i + 1) n (stW qs sh u b i l)
def mkW (qs ps sh u : Dt) (b : Int) : Dt := addW qs sh u b 0 qs.length (List.replicate ps.length [.i 0])
structure SeOk (qs sh u : Dt) : Prop where
 n : sh.length = qs.length
 few : u.length <= 64
 uq : ∀ q, q < sh.length -> UqOk u q (row sh q).length
theorem stW_len (qs sh u : Dt) (b : Int) (i : Nat) (l : Dt) : (stW qs sh u b i l).length = l.length := by
 unfold stW; split
 ·simp
 ·split <;> simp
theorem addW_len (qs sh u : Dt) (b : Int) : ∀ n i l, (addW qs sh u b i n l).length = l.length
 | 0, _, _ => rfl
 | n + 1, i, l => by simp only [addW, addW_len qs sh u b n, stW_len]
theorem stW_in {qs sh u l : Dt} {b m : Int} {i : Nat} (hp : 0 <= qPart qs i /\ qPart qs i < l.length) (h1 : 0 <= qPts qs i /\ qPts qs i <= 20) (h2 : 0 <= qMin qs i /\ qMin qs i <= 20) (h : ∀ p, p < l.length -> -m <= num l p /\ num l p <= m) : ∀ p, p < (stW qs sh u b i l).length -> -(m + 20) <= num (stW qs sh u b i l) p /\ num (stW qs sh u b i l) p <= m + 20 := fun p hpl => by
 rw [stW_len] at hpl;have a := h p hpl;have c := h (qPart qs i).toNat (by omega);unfold stW
 split
 ·rw [num_set (by omega)]; split <;> omega
 ·split
  ·omega
  ·rw [num_set (by omega)]; split <;> omega
theorem addW_in {qs sh u : Dt} {b : Int} {np : Nat} (hp : ∀ i, i < qs.length -> 0 <= qPart qs i /\ qPart qs i < np) (h1 : ∀ i, i < qs.length -> 0 <= qPts qs i /\ qPts qs i <= 20) (h2 : ∀ i, i < qs.length -> 0 <= qMin qs i /\ qMin qs i <= 20) : ∀ n i l (m : Int), i + n <= qs.length -> l.length = np -> (∀ p, p < l.length -> -m <= num l p /\ num l p <= m) -> ∀ p, p < np -> -(m + 20 * n) <= num (addW qs sh u b i n l) p /\ num (addW qs sh u b i n l) p <= m + 20 * n
 | 0, i, l, m, hi, hl, h, p, hpn => by
  have := h p (by omega);simp only [addW];omega
 | n + 1, i, l, m, hi, hl, h, p, hpn => by
  have := addW_in (sh := sh) (u := u) (b := b) hp h1 h2 n (i + 1) (stW qs sh u b i l) (m + 20) (by omega) (by rw [stW_len]; exact hl) (stW_in (by rw [hl]; exact hp i (by omega)) (h1 i (by omega)) (h2 i (by omega)) h) p hpn;simp only [addW];omega
end Sp
def Xjd [InW] (e : List Ed) (K : Nat -> List Ed -> Prop) : Prop := match e with
 | [.i b, .ro _ qs', .i n, .i i, .ro _ qs, .ro _ ps, .i all, .ro _ sh, .l u, .l l] => Pre (qs'.xs = qs.xs /\ n = qs.xs.length /\ 0 <= i /\ i <= qs.xs.length /\ 0 <= b /\ Sp.KeyOk qs.xs ps.xs all /\ Sp.SeOk qs.xs sh.xs u /\ l.length = ps.xs.length /\ ∀ p, p < l.length -> -(20 * i) <= Sp.num l p /\ Sp.num l p <= 20 * i) (K 0 [.i b, .ro _ qs, .ro _ ps, .i all, .ro _ sh, .l u, .l (Sp.addW qs.xs sh.xs u b i.toNat (qs.xs.length - i.toNat) l)])
 | _ => False
noncomputable def T44 : Tab Try.prog := ⟨[], [], [ceOf Xq Xh8]⟩
noncomputable def Xkc : LC where
 len := 56
 T := [(0, (.ptr 1 0)), (1, .int .i64), (5, (.row 3)), (19, .rs Iv5), (20, .int .i64), (21, .int .i64)]
 H := [(1, .blk 89 [.rs Iv5, .rs Jc, .int .i64, .rs Jb, (.row 4)]), (4, .arr 44 Ja), (3, .arr 3 Jc)]
 W := ([6, 7] ++ rg 22 33)
 outs := [⟨.exit 0, [(0, (.ptr 1 0)), (1, .int .i64), (5, (.row 6))], [(1, .blk 89 [.rs Iv5, .rs Jc, .int .i64, .rs Jb, (.row 4)]), (4, .arr 44 Ja), (6, .arr 3 Jc)], ([6, 7] ++ rg 19 36)⟩]
 spec := Xjd
def Zei [W : InW] (qz : Ro Iv5) (i : Int) (l : Dt) := decide ((0 : Int) <= (cel qz.xs i.toNat Zd).int) && decide ((cel qz.xs i.toNat Zd).int < (↑(l.length) : Int))
def Zej [W : InW] (qz : Ro Iv5) (i : Int) (l : Dt) := decide ((cel qz.xs i.toNat Zd).int.toNat < l.length)
def Zek := [Ty.sl [Ty.int IntKind.i64]]
def Xir [W : InW] (b : Int) (qz : Ro Iv5) (n i : Int) (qs : Ro Iv5) (ps : Ro Jc) (all : Int) (sh : Ro Jb) (u l : Dt) (A : List Ed -> Prop) (K : Nat -> List Ed -> Prop) : Prop :=
 Vif (decide (i < n)) (Need (decide (0 <= i) && decide (i < (↑(qz.xs.length) : Int))) (Need (decide (i.toNat < qz.xs.length)) (Pre (0 <= i /\ i < (↑(sh.xs.length) : Int) /\ 0 <= b /\ Sp.UqOk u i (List.length (Sp.row sh.xs i.toNat))) (Vif (decide (Sp.ansX (Sp.rowW sh.xs u i b) = (cel qz.xs i.toNat (Zd + 1 + 1)).int)) (Need (Zei qz i l) (Need (Zej qz i l) (Ar .i64 ((cel l (cel qz.xs i.toNat Zd).int.toNat Zd).int + (cel qz.xs i.toNat (Zd + 1 + 1 + 1)).int) fun z => Need (Zei qz i l) (Need (Zej qz i l) (Ar .i64 (i + 1) fun z_1 => A [.i b, .ro _ qz, .i n, .i z_1, .ro _ qs, .ro _ ps, .i all, .ro Zek sh, .l u, .l (List.set l (cel qz.xs i.toNat Zd).int.toNat [Cl.i z])]))))) (Vif (decide (Sp.ansX (Sp.rowW sh.xs u i b) = (-1 : Int))) (Ar .i64 (i + 1) fun z => A [.i b, .ro _ qz, .i n, .i z, .ro _ qs, .ro _ ps, .i all, .ro Zek sh, .l u, .l l]) (Need (Zei qz i l) (Need (Zej qz i l) (Ar .i64 ((cel l (cel qz.xs i.toNat Zd).int.toNat Zd).int - (cel qz.xs i.toNat (Zd + 1 + 1 + 1 + 1)).int) fun z => Need (Zei qz i l) (Need (Zej qz i l) (Ar .i64 (i + 1) fun z_1 => A [.i b, .ro _ qz, .i n, .i z_1, .ro _ qs, .ro _ ps, .i all, .ro Zek sh, .l u, .l (List.set l (cel qz.xs i.toNat Zd).int.toNat [Cl.i z])])))))))))) (K 0 [.i b, .ro _ qs, .ro _ ps, .i all, .ro Zek sh, .l u, .l l])
theorem Xn8 (W : InW) (b qz n i qs ps all sh u l A K) : Yfc { cxT Try.prog TT T44 1000 50 with fn := 55 } 1000 (Yn7 Try.prog 55 4) (Yd6 56 [(0, .ptr 1 0), (1, .si .i64 b), (5, .rw 3), (19, .rs _ qz), (20, .si .i64 n), (21, .si .i64 i)] ([6, 7] ++ rg 22 33)) [(1, .blk 89 [.rs _ qs, .rs _ ps, .si .i64 all, .rs _ sh, .rw 4]), (4, .arr 44 Ja u), (3, .arr 3 Jc l)] (Yug Xkc A K) = Xir b qz n i qs ps all sh u l A K := by kernel_rfl
def Xhy : Prop := ∀ (W : InW) (body a : Code), (Try.prog.funcs[55]?).bind (·.body) = some body -> a ∈ Yy body -> Yfx a = 4 -> @Ymq W Try.prog a (@Yto W Xkc)
theorem Xoz (meas : [InW] -> List Ed -> Nat) (hyp_ : ∀ (W : InW) b qz n i qs ps all sh u l K, Xjd [.i b, .ro _ qz, .i n, .i i, .ro _ qs, .ro _ ps, .i all, .ro _ sh, .l u, .l l] K -> ∀ A : List Ed -> Prop, (∀ e, meas e < meas [.i b, .ro _ qz, .i n, .i i, .ro _ qs, .ro _ ps, .i all, .ro _ sh, .l u, .l l] -> Xjd e K -> A e) -> Xir b qz n i qs ps all sh u l A K) : Xhy :=
 LE.okOf' (fun W => @TT W) (fun W => @Xe W) Xa T44 1000 50 (by kernel_rfl) Xkc (fun W => @meas W) fun W b qz n i qs ps all sh u l K hs =>
  (Xn8 W b qz n i qs ps all sh u l (fun e => meas e < meas [.i b, .ro _ qz, .i n, .i i, .ro _ qs, .ro _ ps, .i all, .ro _ sh, .l u, .l l] /\ Xjd e K) K).mpr (hyp_ W b qz n i qs ps all sh u l K hs _ fun e h1 h2 => ⟨h1, h2⟩)
theorem okLpw : Xhy := Xoz (fun e => match e with | [_, _, .i n, .i i, _, _, _, _, _, _] => (n - i).toNat | _ => 0) fun W b qz n i qs ps all sh u l K hs A hA => by
 obtain ⟨⟨hq, rfl, h0, h1, hb, hkey, hse, hl, hin⟩, hk⟩ := hs;unfold Xir;delta Zej Zei Zek Zd;simp only [hq];have n2 := hkey.n2;have ez : (i + 1).toNat = i.toNat + 1 := by omega
 have ei : ((i.toNat : Nat) : Int) = i := Int.toNat_of_nonneg h0
 by_cases hi : i < qs.xs.length
 ·have hn := hse.n;have huq := hse.uq i.toNat (by omega);rw [ei] at huq;have hp := hkey.part i.toNat (by omega);have hpt := hkey.pts i.toNat (by omega);have hmn := hkey.minus i.toNat (by omega);have hv := hin (Sp.qPart qs.xs i.toNat).toNat (by omega);rw [show qs.xs.length - i.toNat = (qs.xs.length - (i.toNat + 1)) + 1 by omega] at hk;simp only [Sp.addW] at hk;have hA' := hA [.i b, .ro _ qz, .i qs.xs.length, .i (i + 1), .ro _ qs, .ro _ ps, .i all, .ro _ sh, .l u, .l (Sp.stW qs.xs sh.xs u b i.toNat l)] (show ((qs.xs.length : Int) - (i + 1)).toNat < ((qs.xs.length : Int) - i).toNat by omega) ⟨⟨hq, rfl, by omega, by omega, hb, hkey, hse, by rw [Sp.stW_len]; exact hl, fun p hp2 => by
   have := Sp.stW_in (qs := qs.xs) (sh := sh.xs) (u := u) (b := b) (m := 20 * i) (i := i.toNat) (by omega) hpt hmn hin p hp2;omega⟩, by rw [ez]; exact hk⟩
  clear hA hk;unfold Sp.stW Sp.anW at hA';rw [ei] at hA';simp only [Nat.zero_add, Nat.reduceAdd, show (cel qs.xs i.toNat 0).int = Sp.qPart qs.xs i.toNat from rfl, show (cel qs.xs i.toNat 2).int = Sp.qRight qs.xs i.toNat from rfl, show (cel qs.xs i.toNat 3).int = Sp.qPts qs.xs i.toNat from rfl, show (cel qs.xs i.toNat 4).int = Sp.qMin qs.xs i.toNat from rfl, show ∀ k, (cel l k 0).int = Sp.num l k from fun _ => rfl];generalize Sp.ansX (Sp.rowW sh.xs u i b) = r at *
  by_cases c : r = Sp.qRight qs.xs i.toNat
  ·rw [if_pos c] at hA'
   repeat' (first | (with_reducible refine Xb ⟨by omega, by omega, hb, huq⟩ ?_) | omega | intro _ | with_reducible first | apply vifd | apply vifn | apply vifq | apply Xd | apply Xc | apply vifb | apply vif | apply nedd | apply ned2 | apply ned | apply ar64 | apply Xb | exact True.intro | assumption | rfl | apply And.intro)
   all_goals first | contradiction | exact hA' | skip
  ·rw [if_neg c] at hA'
   by_cases c2 : r = -1
   ·rw [if_pos c2] at hA'
    repeat' (first | (with_reducible refine Xb ⟨by omega, by omega, hb, huq⟩ ?_) | omega | intro _ | with_reducible first | apply vifd | apply vifn | apply vifq | apply Xd | apply Xc | apply vifb | apply vif | apply nedd | apply ned2 | apply ned | apply ar64 | apply Xb | exact True.intro | assumption | rfl | apply And.intro)
    all_goals first | contradiction | exact hA' | skip
   ·rw [if_neg c2] at hA'
    repeat' (first | (with_reducible refine Xb ⟨by omega, by omega, hb, huq⟩ ?_) | omega | intro _ | with_reducible first | apply vifd | apply vifn | apply vifq | apply Xd | apply Xc | apply vifb | apply vif | apply nedd | apply ned2 | apply ned | apply ar64 | apply Xb | exact True.intro | assumption | rfl | apply And.intro)
    all_goals first | contradiction | exact hA' | skip
 ·rw [show qs.xs.length - i.toNat = 0 by omega] at hk;simp only [Sp.addW] at hk;clear hA
  repeat' (first | omega | intro _ | with_reducible first | apply vifd | apply vifn | apply vifq | apply Xd | apply Xc | apply vifb | apply vif | apply nedd | apply ned2 | apply ned | apply ar64 | apply Xb | exact True.intro | assumption | rfl | apply And.intro)
  all_goals exact hk
noncomputable def le_pw : LE Try.prog := ⟨55, 4, fun W => @Yto W Xkc, okLpw⟩
noncomputable def T45 : Tab Try.prog := ⟨[], [le_pw], [ceOf Xq Xh8]⟩
def Xko [InW] (e : List Ed) (K : Nat -> List Ed -> Prop) : Prop := match e with
 | [.i b, .ro _ qs, .ro _ ps, .i all, .ro _ sh, .l u] => Pre (0 <= b /\ Sp.KeyOk qs.xs ps.xs all /\ Sp.SeOk qs.xs sh.xs u) (K 0 [.ro _ qs, .ro _ ps, .i all, .ro _ sh, .l u, .l (Sp.mkW qs.xs ps.xs sh.xs u b)])
 | _ => False
noncomputable def Xp : CC where
 g := 55
 args := [(.ptr 1 0), .int .i64]
 H := [(1, .blk 89 [.rs Iv5, .rs Jc, .int .i64, .rs Jb, (.row 4)]), (4, .arr 44 Ja)]
 outs := [⟨false, (.row 6), [(1, .blk 89 [.rs Iv5, .rs Jc, .int .i64, .rs Jb, (.row 4)]), (4, .arr 44 Ja), (6, .arr 3 Jc)], false⟩]
 spec := Xko
def Zel [W : InW] (ps : Ro Jc) := List.replicate (↑(ps.xs.length) : Int).toNat (Ybr [Ty.int IntKind.i64])
def Xem [W : InW] (b : Int) (qs : Ro Iv5) (ps : Ro Jc) (all : Int) (sh : Ro Jb) (u : Dt) (K : Nat -> List Ed -> Prop) : Prop :=
 Need (decide ((↑(ps.xs.length) : Int) = (↑(ps.xs.length) : Int)) && decide (Zb <= (↑(ps.xs.length) : Int)) && decide ((8 : Nat) * (↑(ps.xs.length) : Int).toNat <= 281474976710656)) (Pre (qs.xs = qs.xs /\ (↑(qs.xs.length) : Int) = (↑(qs.xs.length) : Int) /\ Zb <= 0 /\ Zb <= (↑(qs.xs.length) : Int) /\ 0 <= b /\ Sp.KeyOk qs.xs ps.xs all /\ Sp.SeOk qs.xs sh.xs u /\ (Zel ps).length = ps.xs.length /\ ∀ (p : Nat), p < (Zel ps).length -> -((20 : Int) * 0) <= Sp.num (Zel ps) p /\ Sp.num (Zel ps) p <= 20 * 0) (K 0 [.ro _ qs, .ro _ ps, .i all, .ro Zek sh, .l u, .l (Sp.addW qs.xs sh.xs u b (Int.toNat Zb) (qs.xs.length - Int.toNat Zb) (Zel ps))]))
theorem Xls (W : InW) (b qs ps all sh u K) : Ywo (cxT Try.prog TT T45 1000 50) 1000 55 [.ptr 1 0, .si .i64 b] [(1, .blk 89 [.rs _ qs, .rs _ ps, .si .i64 all, .rs _ sh, .rw 4]), (4, .arr 44 Ja u)] (fun v h => outC Xp.H [.ro _ qs, .ro _ ps, .i all, .ro _ sh, .l u] Xp.outs 0 false v h K) (fun v h => outC Xp.H [.ro _ qs, .ro _ ps, .i all, .ro _ sh, .l u] Xp.outs 0 true v h K) = Xem b qs ps all sh u K := by kernel_rfl
theorem Xnb (hyp_ : ∀ (W : InW) b qs ps all sh u K, Xko [.i b, .ro _ qs, .ro _ ps, .i all, .ro _ sh, .l u] K -> Xem b qs ps all sh u K) : ∀ W : InW, @CallC W Try.prog Xp :=
 CC.okOf (fun W => @TT W) (fun W => @Xe W) Xa T45 1000 50 Xp fun W b qs ps all sh u K hs => (Xls W b qs ps all sh u K).mpr (hyp_ W b qs ps all sh u K hs)
theorem Xh7 : ∀ W : InW, @CallC W Try.prog Xp := Xnb fun W b qs ps all sh u K hs => by
 obtain ⟨⟨hb, hkey, hse⟩, hk⟩ := hs;have p2 := hkey.p2;unfold Xem;delta Zel Zb Zek;simp only [show Int.toNat 0 = 0 from rfl, Nat.sub_zero, Int.toNat_natCast, show Ybr [.int .i64] = [Cl.i 0] from rfl];unfold Sp.mkW at hk;refine ned (by simp; omega) ⟨⟨trivial, trivial, by omega, by omega, hb, hkey, hse, by simp, fun p _ => by rw [Sp.num_rep]; omega⟩, ?_⟩;exact hk
def Xje [InW] (e : List Ed) (K : Nat -> List Ed -> Prop) : Prop := match e with
 | [.i n, .i i, .ro _ qs, .ro _ ps, .i all, .ro _ sh, .l u, .l l] => Pre (n = l.length /\ 0 <= i /\ i <= l.length /\ l.length = ps.xs.length /\ l.length <= 4) (Vif (Sp.partsOk l ps.xs i.toNat (l.length - i.toNat)) (K 0 [.ro _ qs, .ro _ ps, .i all, .ro _ sh, .l u, .l l]) (K 1 [.ro _ qs, .ro _ ps, .i all, .ro _ sh, .l u]))
 | _ => False
noncomputable def Xkd : LC where
 len := 37
 T := [(0, (.ptr 1 0)), (5, (.row 7)), (11, (.row 7)), (12, .int .i64), (13, .int .i64)]
 H := [(1, .blk 89 [.rs Iv5, .rs Jc, .int .i64, .rs Jb, (.row 4)]), (4, .arr 44 Ja), (7, .arr 3 Jc)]
 W := ([4, 6, 7] ++ rg 14 15)
 outs := [⟨.exit 0, [(0, (.ptr 1 0)), (5, (.row 7))], [(1, .blk 89 [.rs Iv5, .rs Jc, .int .i64, .rs Jb, (.row 4)]), (4, .arr 44 Ja), (7, .arr 3 Jc)], ([4, 6, 7] ++ rg 11 18)⟩, ⟨.ret, [(0, (.ptr 1 0)), (4, (.lit (.bool false)))], [(1, .blk 89 [.rs Iv5, .rs Jc, .int .i64, .rs Jb, (.row 4)]), (4, .arr 44 Ja)], ([5, 6, 7] ++ rg 11 18)⟩]
 spec := Xje
def Xis [W : InW] (n i : Int) (qs : Ro Iv5) (ps : Ro Jc) (all : Int) (sh : Ro Jb) (u l : Dt) (A : List Ed -> Prop) (K : Nat -> List Ed -> Prop) : Prop :=
 Vif (decide (i < n)) (Need (decide (0 <= i) && decide (i < (↑(l.length) : Int))) (Need (decide (i.toNat < l.length)) (Need (decide (0 <= i) && decide (i < (↑(ps.xs.length) : Int))) (Need (decide (i.toNat < ps.xs.length)) (Vif (decide ((cel l i.toNat (0 : Nat)).int < (cel ps.xs i.toNat (0 : Nat)).int)) (K (0+1) [.ro _ qs, .ro _ ps, .i all, .ro Zek sh, .l u]) (Ar .i64 (i + 1) fun z => A [.i n, .i z, .ro _ qs, .ro _ ps, .i all, .ro Zek sh, .l u, .l l])))))) (K 0 [.ro _ qs, .ro _ ps, .i all, .ro Zek sh, .l u, .l l])
theorem Xn9 (W : InW) (n i qs ps all sh u l A K) : Yfc { cxT Try.prog TT T0 1000 50 with fn := 56 } 1000 (Yn7 Try.prog 56 4) (Yd6 37 [(0, .ptr 1 0), (5, .rw 7), (11, .rw 7), (12, .si .i64 n), (13, .si .i64 i)] ([4, 6, 7] ++ rg 14 15)) [(1, .blk 89 [.rs _ qs, .rs _ ps, .si .i64 all, .rs _ sh, .rw 4]), (4, .arr 44 Ja u), (7, .arr 3 Jc l)] (Yug Xkd A K) = Xis n i qs ps all sh u l A K := by kernel_rfl
def Xhz : Prop := ∀ (W : InW) (body a : Code), (Try.prog.funcs[56]?).bind (·.body) = some body -> a ∈ Yy body -> Yfx a = 4 -> @Ymq W Try.prog a (@Yto W Xkd)
theorem Xo0 (meas : [InW] -> List Ed -> Nat) (hyp_ : ∀ (W : InW) n i qs ps all sh u l K, Xje [.i n, .i i, .ro _ qs, .ro _ ps, .i all, .ro _ sh, .l u, .l l] K -> ∀ A : List Ed -> Prop, (∀ e, meas e < meas [.i n, .i i, .ro _ qs, .ro _ ps, .i all, .ro _ sh, .l u, .l l] -> Xje e K -> A e) -> Xis n i qs ps all sh u l A K) : Xhz :=
 LE.okOf' (fun W => @TT W) (fun W => @Xe W) Xa T0 1000 50 (by kernel_rfl) Xkd (fun W => @meas W) fun W n i qs ps all sh u l K hs =>
  (Xn9 W n i qs ps all sh u l (fun e => meas e < meas [.i n, .i i, .ro _ qs, .ro _ ps, .i all, .ro _ sh, .l u, .l l] /\ Xje e K) K).mpr (hyp_ W n i qs ps all sh u l K hs _ fun e h1 h2 => ⟨h1, h2⟩)
theorem okLpl : Xhz := Xo0 (fun e => match e with | [.i n, .i i, _, _, _, _, _, _] => (n - i).toNat | _ => 0) fun W n i qs ps all sh u l K hs A hA => by
 obtain ⟨⟨rfl, h0, h1, hl, h4⟩, hk⟩ := hs;unfold Xis;delta Zek;simp only [show ∀ k, (cel l k 0).int = Sp.num l k from fun _ => rfl, show ∀ k, (cel ps.xs k 0).int = Sp.num ps.xs k from fun _ => rfl];have ez : (i + 1).toNat = i.toNat + 1 := by omega
 by_cases hi : i < l.length
 ·rw [show l.length - i.toNat = (l.length - (i.toNat + 1)) + 1 by omega] at hk;simp only [Sp.partsOk, Sp.allF] at hk
  by_cases c : Sp.num ps.xs i.toNat <= Sp.num l i.toNat
  ·rw [decide_eq_true c, Bool.true_and] at hk;have hA' := hA [.i l.length, .i (i + 1), .ro _ qs, .ro _ ps, .i all, .ro _ sh, .l u, .l l] (show ((l.length : Int) - (i + 1)).toNat < ((l.length : Int) - i).toNat by omega) ⟨⟨rfl, by omega, by omega, hl, h4⟩, by rw [ez]; exact hk⟩;clear hA hk
   repeat' (first | omega | intro _ | with_reducible first | apply vifd | apply vifn | apply vifq | apply Xd | apply Xc | apply vifb | apply vif | apply nedd | apply ned2 | apply ned | apply ar64 | apply Xb | exact True.intro | assumption | rfl | apply And.intro)
   all_goals first | contradiction | exact hA' | skip
  ·rw [decide_eq_false c, Bool.false_and] at hk;have hk := hk.2 rfl;clear hA
   repeat' (first | omega | intro _ | with_reducible first | apply vifd | apply vifn | apply vifq | apply Xd | apply Xc | apply vifb | apply vif | apply nedd | apply ned2 | apply ned | apply ar64 | apply Xb | exact True.intro | assumption | rfl | apply And.intro)
   all_goals first | contradiction | exact hk | skip
 ·rw [show l.length - i.toNat = 0 by omega] at hk;simp only [Sp.partsOk, Sp.allF] at hk;have hk := hk.1 rfl;clear hA
  repeat' (first | omega | intro _ | with_reducible first | apply vifd | apply vifn | apply vifq | apply Xd | apply Xc | apply vifb | apply vif | apply nedd | apply ned2 | apply ned | apply ar64 | apply Xb | exact True.intro | assumption | rfl | apply And.intro)
  all_goals exact hk
noncomputable def le_pl : LE Try.prog := ⟨56, 4, fun W => @Yto W Xkd, okLpl⟩
namespace Sp
def psW (qs ps : Dt) (all : Int) (sh u : Dt) (b : Int) : Bool := passOf all ps (mkW qs ps sh u b)
theorem mkW_len (qs ps sh u : Dt) (b : Int) : (mkW qs ps sh u b).length = ps.length := by unfold mkW; rw [addW_len, List.length_replicate]
theorem mkW_low {qs ps sh u : Dt} {all b : Int} (hk : KeyOk qs ps all) : Low (mkW qs ps sh u b) := by
 have h1 := hk.p2;have h2 := hk.n2;refine ⟨by rw [mkW_len]; omega, fun i hi => ?_⟩;rw [mkW_len] at hi;have := addW_in (sh := sh) (u := u) (b := b) hk.part hk.pts hk.minus qs.length 0 (List.replicate ps.length [.i 0]) 0 (by omega) (by simp) (fun p _ => by rw [num_rep]; omega) i hi;unfold mkW;omega
end Sp
noncomputable def T46 : Tab Try.prog := ⟨[Xom], [le_pl], [ceOf Xp Xh7]⟩
def Xkp [InW] (e : List Ed) (K : Nat -> List Ed -> Prop) : Prop := match e with
 | [.i b, .ro _ qs, .ro _ ps, .i all, .ro _ sh, .l u] => Pre (0 <= b /\ Sp.KeyOk qs.xs ps.xs all /\ Sp.SeOk qs.xs sh.xs u) (K 0 [.b (Sp.psW qs.xs ps.xs all sh.xs u b), .ro _ qs, .ro _ ps, .i all, .ro _ sh, .l u])
 | _ => False
noncomputable def Xv : CC where
 g := 56
 args := [(.ptr 1 0), .int .i64]
 H := [(1, .blk 89 [.rs Iv5, .rs Jc, .int .i64, .rs Jb, (.row 4)]), (4, .arr 44 Ja)]
 outs := [⟨false, .bool, [(1, .blk 89 [.rs Iv5, .rs Jc, .int .i64, .rs Jb, (.row 4)]), (4, .arr 44 Ja)], false⟩]
 spec := Xkp
def Xen [W : InW] (b : Int) (qs : Ro Iv5) (ps : Ro Jc) (all : Int) (sh : Ro Jb) (u : Dt) (K : Nat -> List Ed -> Prop) : Prop :=
 Pre (0 <= b /\ Sp.KeyOk qs.xs ps.xs all /\ Sp.SeOk qs.xs sh.xs u) (Pre ((↑(List.length (Sp.mkW qs.xs ps.xs sh.xs u b)) : Int) = (↑(List.length (Sp.mkW qs.xs ps.xs sh.xs u b)) : Int) /\ Zb <= 0 /\ Zb <= (↑(List.length (Sp.mkW qs.xs ps.xs sh.xs u b)) : Int) /\ List.length (Sp.mkW qs.xs ps.xs sh.xs u b) = ps.xs.length /\ List.length (Sp.mkW qs.xs ps.xs sh.xs u b) <= 4) (Vif (Sp.partsOk (Sp.mkW qs.xs ps.xs sh.xs u b) ps.xs (Int.toNat Zb) (List.length (Sp.mkW qs.xs ps.xs sh.xs u b) - Int.toNat Zb)) (Pre (Sp.Low (Sp.mkW qs.xs ps.xs sh.xs u b)) (K 0 [.b (decide (all <= Sp.total (Sp.mkW qs.xs ps.xs sh.xs u b))), .ro _ qs, .ro _ ps, .i all, .ro Zek sh, .l u])) (K 0 [.b false, .ro _ qs, .ro _ ps, .i all, .ro Zek sh, .l u])))
theorem Xlt (W : InW) (b qs ps all sh u K) : Ywo (cxT Try.prog TT T46 1000 50) 1000 56 [.ptr 1 0, .si .i64 b] [(1, .blk 89 [.rs _ qs, .rs _ ps, .si .i64 all, .rs _ sh, .rw 4]), (4, .arr 44 Ja u)] (fun v h => outC Xv.H [.ro _ qs, .ro _ ps, .i all, .ro _ sh, .l u] Xv.outs 0 false v h K) (fun v h => outC Xv.H [.ro _ qs, .ro _ ps, .i all, .ro _ sh, .l u] Xv.outs 0 true v h K) = Xen b qs ps all sh u K := by kernel_rfl
theorem Xnc (hyp_ : ∀ (W : InW) b qs ps all sh u K, Xkp [.i b, .ro _ qs, .ro _ ps, .i all, .ro _ sh, .l u] K -> Xen b qs ps all sh u K) : ∀ W : InW, @CallC W Try.prog Xv :=
 CC.okOf (fun W => @TT W) (fun W => @Xe W) Xa T46 1000 50 Xv fun W b qs ps all sh u K hs => (Xlt W b qs ps all sh u K).mpr (hyp_ W b qs ps all sh u K hs)
theorem Xk0 : ∀ W : InW, @CallC W Try.prog Xv := Xnc fun W b qs ps all sh u K hs => by
 obtain ⟨⟨hb, hkey, hse⟩, hk⟩ := hs;have p2 := hkey.p2;have hl := Sp.mkW_len qs.xs ps.xs sh.xs u b;unfold Xen;delta Zek Zb;unfold Sp.psW Sp.passOf at hk;simp only [show Int.toNat 0 = 0 from rfl, Nat.sub_zero];refine ⟨⟨hb, hkey, hse⟩, ⟨⟨trivial, by omega, by omega, hl, by omega⟩, vif (fun e => ?_) fun e => ?_⟩⟩
 ·rw [e, Bool.and_true] at hk;exact ⟨Sp.mkW_low hkey, hk⟩
 ·rw [e, Bool.and_false] at hk;exact hk
open Go.RowKit
set_option maxRecDepth 100000
set_option maxHeartbeats 1600000
def Xe1 [InW] (e : List Ed) (K : Nat -> List Ed -> Prop) : Prop := match e with
 | [.i q, .ro _ bx, .i n, .i j, .ro _ qz, .ro _ pz, .i az, .ro _ sh, .l acc] => Pre (n = bx.xs.length /\ 0 <= j /\ j <= n /\ 0 <= q /\ q <= 12 /\ n <= 4 /\ (acc.length : Int) <= 4 * q + j) (K 0 [.i q, .ro _ qz, .ro _ pz, .i az, .ro _ sh, .l (acc ++ Sp.unsRow bx.xs q j.toNat (bx.xs.length - j.toNat))])
 | _ => False
noncomputable def Xgo : LC where
 len := 71
 T := [(6, (.ptr 7 0)), (7, .int .i64), (41, .rs Jc), (42, .int .i64), (43, .int .i64)]
 H := [(7, .blk 89 [.rs Iv5, .rs Jc, .int .i64, .rs Jb, (.row 6)]), (6, .arr 44 Ja)]
 W := ([9, 10] ++ rg 44 19)
 outs := [⟨.exit 3, [(6, (.ptr 7 0)), (7, .int .i64)], [(7, .blk 89 [.rs Iv5, .rs Jc, .int .i64, .rs Jb, (.row 9)]), (9, .arr 44 Ja)], ([9, 10] ++ rg 41 22)⟩]
 spec := Xe1
def Xd6 [W : InW] (q : Int) (bx : Ro Jc) (n j : Int) (qz : Ro Iv5) (pz : Ro Jc) (az : Int) (sh : Ro Jb) (acc : Dt) (A : List Ed -> Prop) (K : Nat -> List Ed -> Prop) : Prop :=
 Vif (decide (j < n)) (Need (decide (0 <= j) && decide (j < (↑(bx.xs.length) : Int))) (Need (decide (j.toNat < bx.xs.length)) (Vif (decide ((cel bx.xs j.toNat (0 : Nat)).int = 2)) (Need (decide ((acc.length + [[Cl.i q, Cl.i j]].length) * 16 <= 140737488355328)) (Ar .i64 (j + 1) fun z => A [.i q, .ro _ bx, .i n, .i z, .ro _ qz, .ro _ pz, .i az, .ro Zek sh, .l (acc ++ [[Cl.i q, Cl.i j]])])) (Ar .i64 (j + 1) fun z => A [.i q, .ro _ bx, .i n, .i z, .ro _ qz, .ro _ pz, .i az, .ro Zek sh, .l acc])))) (K 0 [.i q, .ro _ qz, .ro _ pz, .i az, .ro Zek sh, .l acc])
theorem Xlc (W : InW) (q bx n j qz pz az sh acc A K) : Yfc { cxT Try.prog TT T0 1000 50 with fn := 76 } 1000 (Yn7 Try.prog 76 13) (Yd6 71 [(6, .ptr 7 0), (7, .si .i64 q), (41, .rs _ bx), (42, .si .i64 n), (43, .si .i64 j)] ([9, 10] ++ rg 44 19)) [(7, .blk 89 [.rs _ qz, .rs _ pz, .si .i64 az, .rs _ sh, .rw 6]), (6, .arr 44 Ja acc)] (Yug Xgo A K) = Xd6 q bx n j qz pz az sh acc A K := by kernel_rfl
def Xfz : Prop := ∀ (W : InW) (body a : Code), (Try.prog.funcs[76]?).bind (·.body) = some body -> a ∈ Yy body -> Yfx a = 13 -> @Ymq W Try.prog a (@Yto W Xgo)
theorem Xmv (meas : [InW] -> List Ed -> Nat) (hyp_ : ∀ (W : InW) q bx n j qz pz az sh acc K, Xe1 [.i q, .ro _ bx, .i n, .i j, .ro _ qz, .ro _ pz, .i az, .ro _ sh, .l acc] K -> ∀ A : List Ed -> Prop, (∀ e, meas e < meas [.i q, .ro _ bx, .i n, .i j, .ro _ qz, .ro _ pz, .i az, .ro _ sh, .l acc] -> Xe1 e K -> A e) -> Xd6 q bx n j qz pz az sh acc A K) : Xfz :=
 LE.okOf' (fun W => @TT W) (fun W => @Xe W) Xa T0 1000 50 (by kernel_rfl) Xgo (fun W => @meas W) fun W q bx n j qz pz az sh acc K hs =>
  (Xlc W q bx n j qz pz az sh acc (fun e => meas e < meas [.i q, .ro _ bx, .i n, .i j, .ro _ qz, .ro _ pz, .i az, .ro _ sh, .l acc] /\ Xe1 e K) K).mpr (hyp_ W q bx n j qz pz az sh acc K hs _ fun e h1 h2 => ⟨h1, h2⟩)
theorem Xpn : Xfz := Xmv (fun e => match e with | [_, _, .i n, .i j, _, _, _, _, _] => (n - j).toNat | _ => 0) fun W q bx n j qz pz az sh acc K hs A hA => by
 obtain ⟨⟨rfl, h0, h1, h2, h3, h4, h5⟩, hk⟩ := hs;unfold Xd6;delta Zek;simp only [List.length_cons, List.length_nil];have ez : (j + 1).toNat = j.toNat + 1 := by omega
 have ej : ((j.toNat : Nat) : Int) = j := Int.toNat_of_nonneg h0
 by_cases hj : j < bx.xs.length
 ·rw [show bx.xs.length - j.toNat = (bx.xs.length - (j.toNat + 1)) + 1 by omega] at hk;simp only [Sp.unsRow, Sp.bx, ej] at hk
  by_cases c : (cel bx.xs j.toNat 0).int = 2
  ·simp only [c, if_true] at hk;rw [<- List.append_assoc] at hk;have hA' := hA [.i q, .ro _ bx, .i bx.xs.length, .i (j + 1), .ro _ qz, .ro _ pz, .i az, .ro _ sh, .l (acc ++ [[.i q, .i j]])] (show ((bx.xs.length : Int) - (j + 1)).toNat < ((bx.xs.length : Int) - j).toNat by omega) ⟨⟨rfl, by omega, by omega, h2, h3, h4, by simp; omega⟩, by rw [ez]; exact hk⟩;clear hA hk
   repeat' (first | omega | intro _ | with_reducible first | apply vifd | apply vifn | apply vifq | apply Xd | apply Xc | apply vifb | apply vif | apply nedd | apply ned2 | apply ned | apply ar64 | apply Xb | exact True.intro | assumption | rfl | apply And.intro)
   all_goals first | contradiction | exact hA' | skip
  ·simp only [c, if_false, List.nil_append] at hk;have hA' := hA [.i q, .ro _ bx, .i bx.xs.length, .i (j + 1), .ro _ qz, .ro _ pz, .i az, .ro _ sh, .l acc] (show ((bx.xs.length : Int) - (j + 1)).toNat < ((bx.xs.length : Int) - j).toNat by omega) ⟨⟨rfl, by omega, by omega, h2, h3, h4, by omega⟩, by rw [ez]; exact hk⟩;clear hA hk
   repeat' (first | omega | intro _ | with_reducible first | apply vifd | apply vifn | apply vifq | apply Xd | apply Xc | apply vifb | apply vif | apply nedd | apply ned2 | apply ned | apply ar64 | apply Xb | exact True.intro | assumption | rfl | apply And.intro)
   all_goals first | contradiction | exact hA' | skip
 ·rw [show bx.xs.length - j.toNat = 0 by omega] at hk;simp only [Sp.unsRow, List.append_nil] at hk;clear hA
  repeat' (first | omega | intro _ | with_reducible first | apply vifd | apply vifn | apply vifq | apply Xd | apply Xc | apply vifb | apply vif | apply nedd | apply ned2 | apply ned | apply ar64 | apply Xb | exact True.intro | assumption | rfl | apply And.intro)
  all_goals exact hk
noncomputable def Xqg : LE Try.prog := ⟨76, 13, fun W => @Yto W Xgo, Xpn⟩
noncomputable def T47 : Tab Try.prog := ⟨[Xc0], [Xqg], []⟩
def Xe0 [InW] (e : List Ed) (K : Nat -> List Ed -> Prop) : Prop := match e with
 | [.ro _ s2, .i n, .i i, .ro _ qs, .ro _ ps, .i all, .ro _ qz, .ro _ pz, .i az, .ro _ sh, .l acc] => Pre (n = s2.xs.length /\ 0 <= i /\ i <= n /\ s2.xs.length = qs.xs.length /\ Sp.KeyOk qs.xs ps.xs all /\ (acc.length : Int) <= 4 * i) (Vif (Sp.hasE (Sp.rowE qs.xs s2.xs) i.toNat (s2.xs.length - i.toNat)) (K 1 [.i (Sp.rowE qs.xs s2.xs (Sp.idxE (Sp.rowE qs.xs s2.xs) i.toNat (s2.xs.length - i.toNat)))]) (K 0 [.ro _ qz, .ro _ pz, .i az, .ro _ sh, .l (acc ++ Sp.unsAll s2.xs i.toNat (s2.xs.length - i.toNat))]))
 | _ => False
noncomputable def Xgn : LC where
 len := 71
 T := [(2, (.ptr 1 0)), (6, (.ptr 7 0)), (21, .rs Jb), (22, .int .i64), (23, .int .i64)]
 H := [(1, .blk 25 [.rs Iv5, .rs Jc, .int .i64]), (7, .blk 89 [.rs Iv5, .rs Jc, .int .i64, .rs Jb, (.row 6)]), (6, .arr 44 Ja)]
 W := ([4, 5] ++ rg 7 4 ++ rg 24 40)
 outs := [⟨.exit 0, [(6, (.ptr 7 0))], [(7, .blk 89 [.rs Iv5, .rs Jc, .int .i64, .rs Jb, (.row 9)]), (9, .arr 44 Ja)], ([2, 4, 5] ++ rg 7 4 ++ rg 21 43)⟩, ⟨.ret, [(4, (.lit (.pointer none))), (5, .int .i64)], [], ([2] ++ rg 6 5 ++ rg 21 43)⟩]
 spec := Xe0
def Zem [W : InW] (s2 : Ro Jb) (i : Int) := (↑(List.length (cel s2.xs i.toNat Zd).lst) : Int)
def Xd5 [W : InW] (s2 : Ro Jb) (n i : Int) (qs : Ro Iv5) (ps : Ro Jc) (all : Int) (qz : Ro Iv5) (pz : Ro Jc) (az : Int) (sh : Ro Jb) (acc : Dt) (A : List Ed -> Prop) (K : Nat -> List Ed -> Prop) : Prop :=
 Vif (decide (i < n)) (Need (decide (0 <= i) && decide (i < (↑(s2.xs.length) : Int))) (Need (decide (i.toNat < s2.xs.length)) (Need (decide (0 <= i) && decide (i < (↑(qs.xs.length) : Int))) (Need (decide (i.toNat < qs.xs.length)) (Vif (!decide ((Zem s2 i) = (cel qs.xs i.toNat (0+1)).int)) (K (0+1) [.i (3 : Int)]) (Pre True (Vif (Sp.out Zb (2 : Int) (cel s2.xs i.toNat Zd).lst) (K (0+1) [.i (7 : Int)]) (Pre ((Zem s2 i) = (Zem s2 i) /\ Zb <= 0 /\ Zb <= (Zem s2 i) /\ 0 <= i /\ i <= 12 /\ (Zem s2 i) <= 4 /\ (↑(acc.length) : Int) <= 4 * i + 0) (Ar .i64 (i + 1) fun z => A [.ro Zek s2, .i n, .i z, .ro _ qs, .ro _ ps, .i all, .ro _ qz, .ro _ pz, .i az, .ro Zek sh, .l (acc ++ Sp.unsRow (cel s2.xs i.toNat Zd).lst i (Int.toNat Zb) (List.length (cel s2.xs i.toNat Zd).lst - Int.toNat Zb))]))))))))) (K 0 [.ro _ qz, .ro _ pz, .i az, .ro Zek sh, .l acc])
theorem Xlb (W : InW) (s2 n i qs ps all qz pz az sh acc A K) : Yfc { cxT Try.prog TT T47 1000 50 with fn := 76 } 1000 (Yn7 Try.prog 76 6) (Yd6 71 [(2, .ptr 1 0), (6, .ptr 7 0), (21, .rs _ s2), (22, .si .i64 n), (23, .si .i64 i)] ([4, 5] ++ rg 7 4 ++ rg 24 40)) [(1, .blk 25 [.rs _ qs, .rs _ ps, .si .i64 all]), (7, .blk 89 [.rs _ qz, .rs _ pz, .si .i64 az, .rs _ sh, .rw 6]), (6, .arr 44 Ja acc)] (Yug Xgn A K) = Xd5 s2 n i qs ps all qz pz az sh acc A K := by kernel_rfl
def Xfy : Prop := ∀ (W : InW) (body a : Code), (Try.prog.funcs[76]?).bind (·.body) = some body -> a ∈ Yy body -> Yfx a = 6 -> @Ymq W Try.prog a (@Yto W Xgn)
theorem Xmu (meas : [InW] -> List Ed -> Nat) (hyp_ : ∀ (W : InW) s2 n i qs ps all qz pz az sh acc K, Xe0 [.ro _ s2, .i n, .i i, .ro _ qs, .ro _ ps, .i all, .ro _ qz, .ro _ pz, .i az, .ro _ sh, .l acc] K -> ∀ A : List Ed -> Prop, (∀ e, meas e < meas [.ro _ s2, .i n, .i i, .ro _ qs, .ro _ ps, .i all, .ro _ qz, .ro _ pz, .i az, .ro _ sh, .l acc] -> Xe0 e K -> A e) -> Xd5 s2 n i qs ps all qz pz az sh acc A K) : Xfy :=
 LE.okOf' (fun W => @TT W) (fun W => @Xe W) Xa T47 1000 50 (by kernel_rfl) Xgn (fun W => @meas W) fun W s2 n i qs ps all qz pz az sh acc K hs =>
  (Xlb W s2 n i qs ps all qz pz az sh acc (fun e => meas e < meas [.ro _ s2, .i n, .i i, .ro _ qs, .ro _ ps, .i all, .ro _ qz, .ro _ pz, .i az, .ro _ sh, .l acc] /\ Xe0 e K) K).mpr (hyp_ W s2 n i qs ps all qz pz az sh acc K hs _ fun e h1 h2 => ⟨h1, h2⟩)
theorem Xpm : Xfy := Xmu (fun e => match e with | .ro _ _ :: .i n :: .i i :: _ => (n - i).toNat | _ => 0) fun W s2 n i qs ps all qz pz az sh acc K hs A hA => by
 obtain ⟨⟨rfl, h0, h1, h2, hkey, h5⟩, hk⟩ := hs;have n2 := hkey.n2;unfold Xd5;delta Zem Zek Zb Zd;simp only [show Int.toNat 0 = 0 from rfl, Nat.sub_zero, Nat.zero_add, show (cel s2.xs i.toNat 0).lst = Sp.row s2.xs i.toNat from rfl, show (cel qs.xs i.toNat 1).int = Sp.qBoxes qs.xs i.toNat from rfl];have ez : (i + 1).toNat = i.toNat + 1 := by omega
 have ei : ((i.toNat : Nat) : Int) = i := Int.toNat_of_nonneg h0
 by_cases hi : i < s2.xs.length
 ·have hb := hkey.boxes i.toNat (by omega);rw [show s2.xs.length - i.toNat = (s2.xs.length - (i.toNat + 1)) + 1 by omega] at hk;obtain ⟨g1, g2⟩ := Xc7 (K1 := fun _ e => K 1 [.i e]) hk;simp only [Sp.unsAll, ei] at g2;have hul := Sp.unsRow_len (Sp.row s2.xs i.toNat) i (Sp.row s2.xs i.toNat).length 0;have hA' : Sp.rowE qs.xs s2.xs i.toNat = 0 -> (Sp.row s2.xs i.toNat).length <= 4 -> A [.ro _ s2, .i s2.xs.length, .i (i + 1), .ro _ qs, .ro _ ps, .i all, .ro _ qz, .ro _ pz, .i az, .ro _ sh, .l (acc ++ Sp.unsRow (Sp.row s2.xs i.toNat) i 0 (Sp.row s2.xs i.toNat).length)] := fun f f4 => hA _ (by show ((s2.xs.length : Int) - (i + 1)).toNat < ((s2.xs.length : Int) - i).toNat; omega) ⟨⟨rfl, by omega, by omega, h2, hkey, by simp; omega⟩, by
   have g2 := g2 f;rw [<- List.append_assoc] at g2;rw [ez]; exact g2⟩
  clear hA hk g2;unfold Sp.rowE at hA' g1
  by_cases c : ((Sp.row s2.xs i.toNat).length : Int) = Sp.qBoxes qs.xs i.toNat
  ·have f4 : (Sp.row s2.xs i.toNat).length <= 4 := by omega
   rw [if_pos c] at hA' g1
   by_cases c2 : Sp.out 0 2 (Sp.row s2.xs i.toNat) = true
   ·rw [if_pos c2] at hA' g1;have g1 := g1 (by decide)
    repeat' (first | (with_reducible refine Xb trivial ?_) | (with_reducible refine Xb ⟨rfl, by omega, by omega, by omega, by omega, by omega, by omega⟩ ?_) | omega | intro _ | with_reducible first | apply vifd | apply vifn | apply vifq | apply Xd | apply Xc | apply vifb | apply vif | apply nedd | apply ned2 | apply ned | apply ar64 | apply Xb | exact True.intro | assumption | rfl | apply And.intro)
    all_goals first | contradiction | exact g1 | skip
    all_goals (rw [c2] at *; contradiction)
   ·rw [if_neg c2] at hA' g1;have hA' := hA' rfl f4
    repeat' (first | (with_reducible refine Xb trivial ?_) | (with_reducible refine Xb ⟨rfl, by omega, by omega, by omega, by omega, by omega, by omega⟩ ?_) | omega | intro _ | with_reducible first | apply vifd | apply vifn | apply vifq | apply Xd | apply Xc | apply vifb | apply vif | apply nedd | apply ned2 | apply ned | apply ar64 | apply Xb | exact True.intro | assumption | rfl | apply And.intro)
    all_goals first | contradiction | exact hA' | skip
  ·rw [if_neg c] at hA' g1;have g1 := g1 (by decide)
   repeat' (first | (with_reducible refine Xb trivial ?_) | omega | intro _ | with_reducible first | apply vifd | apply vifn | apply vifq | apply Xd | apply Xc | apply vifb | apply vif | apply nedd | apply ned2 | apply ned | apply ar64 | apply Xb | exact True.intro | assumption | rfl | apply And.intro)
   all_goals first | contradiction | exact g1 | skip
 ·rw [show s2.xs.length - i.toNat = 0 by omega] at hk;simp only [Sp.unsAll, List.append_nil] at hk;clear hA
  repeat' (first | omega | intro _ | with_reducible first | apply vifd | apply vifn | apply vifq | apply Xd | apply Xc | apply vifb | apply vif | apply nedd | apply ned2 | apply ned | apply ar64 | apply Xb | exact True.intro | assumption | rfl | apply And.intro)
  all_goals exact hk.2 rfl
noncomputable def Xqf : LE Try.prog := ⟨76, 6, fun W => @Yto W Xgn, Xpm⟩
noncomputable def T48 : Tab Try.prog := ⟨[Xc0], [Xqf], []⟩
def Xkn [InW] (e : List Ed) (K : Nat -> List Ed -> Prop) : Prop := match e with
 | [.ro _ qs, .ro _ ps, .i all, .ro _ sh] => Pre (Sp.KeyOk qs.xs ps.xs all) (Vif (decide (Sp.shE qs.xs sh.xs = 0)) (K 1 [.ro _ qs, .ro _ ps, .i all, .ro _ sh, .l (Sp.uns sh.xs)]) (K 0 [.i (Sp.shE qs.xs sh.xs)]))
 | _ => False
noncomputable def Xu : CC where
 g := 76
 args := [.agg [.rs Iv5, .rs Jc, .int .i64], .rs Jb]
 H := []
 outs := [⟨false, .tup [(.lit (.pointer none)), .int .i64], [], false⟩, ⟨false, .tup [(.ptr 6 0), (.lit (.int .i64 0))], [(6, .blk 89 [.rs Iv5, .rs Jc, .int .i64, .rs Jb, (.row 12)]), (12, .arr 44 Ja)], false⟩]
 spec := Xkn
def Xel [W : InW] (qs : Ro Iv5) (ps : Ro Jc) (all : Int) (sh : Ro Jb) (K : Nat -> List Ed -> Prop) : Prop :=
 Vif (!decide ((↑(sh.xs.length) : Int) = (↑(qs.xs.length) : Int))) (K 0 [.i (3 : Int)]) (Pre ((↑(sh.xs.length) : Int) = (↑(sh.xs.length) : Int) /\ Zb <= 0 /\ Zb <= (↑(sh.xs.length) : Int) /\ sh.xs.length = qs.xs.length /\ Sp.KeyOk qs.xs ps.xs all /\ (↑(0 : Nat) : Int) <= 4 * 0) (Vif (Sp.hasE (Sp.rowE qs.xs sh.xs) Za (sh.xs.length - Int.toNat Zb)) (K 0 [.i (Sp.rowE qs.xs sh.xs (Sp.idxE (Sp.rowE qs.xs sh.xs) Za (sh.xs.length - Int.toNat Zb)))]) (Vif (decide ((7 : Int) < (↑(List.length (Sp.unsAll sh.xs Za (sh.xs.length - Int.toNat Zb))) : Int))) (K 0 [.i (3 : Int)]) (K (0+1) [.ro _ qs, .ro _ ps, .i all, .ro Zek sh, .l (Sp.unsAll sh.xs Za (sh.xs.length - Int.toNat Zb))]))))
theorem Xlr (W : InW) (qs ps all sh K) : Ywo (cxT Try.prog TT T48 1000 50) 1000 76 [.agg [.rs _ qs, .rs _ ps, .si .i64 all], .rs _ sh] [] (fun v h => outC Xu.H [] Xu.outs 0 false v h K) (fun v h => outC Xu.H [] Xu.outs 0 true v h K) = Xel qs ps all sh K := by kernel_rfl
theorem Xna (hyp_ : ∀ (W : InW) qs ps all sh K, Xkn [.ro _ qs, .ro _ ps, .i all, .ro _ sh] K -> Xel qs ps all sh K) : ∀ W : InW, @CallC W Try.prog Xu :=
 CC.okOf (fun W => @TT W) (fun W => @Xe W) Xa T48 1000 50 Xu fun W qs ps all sh K hs => (Xlr W qs ps all sh K).mpr (hyp_ W qs ps all sh K hs)
theorem Xkz : ∀ W : InW, @CallC W Try.prog Xu := Xna fun W qs ps all sh K hs => by
 obtain ⟨hkey, hk⟩ := hs;unfold Xel;delta Za Zb Zek;simp only [show Int.toNat 0 = 0 from rfl, Nat.sub_zero];have k0 : ∀ e, Sp.shE qs.xs sh.xs = e -> e ≠ 0 -> K 0 [.i e] := fun e h1 h2 => by
  have := hk.2 (decide_eq_false (by omega));rw [h1] at this; exact this
 have k1 : Sp.shE qs.xs sh.xs = 0 -> K 1 [.ro _ qs, .ro _ ps, .i all, .ro _ sh, .l (Sp.uns sh.xs)] := fun h => hk.1 (decide_eq_true h);clear hk;unfold Sp.shE at k0 k1;refine vifn (fun e => k0 3 (by rw [if_neg e]) (by decide)) fun e => ⟨⟨trivial, by omega, by omega, by omega, hkey, by omega⟩, ?_⟩;rw [if_pos e] at k0 k1;refine vif (fun e1 => ?_) fun e1 => ?_
 ·rw [if_pos e1] at k0;exact k0 _ rfl (Sp.hasE_ix e1).2.2
 ·rw [if_neg (by simp [e1])] at k0 k1;have hu : Sp.unsAll sh.xs 0 sh.xs.length = Sp.uns sh.xs := rfl;rw [hu];refine vifd (fun e2 => k0 3 (by rw [if_pos (by omega)]) (by decide)) fun e2 => k1 (by rw [if_neg (by omega)])
noncomputable def T49 : Tab Try.prog := ⟨[Xbg], [], [ceOf Xu Xkz]⟩
def Xhf [InW] (e : List Ed) (K : Nat -> List Ed -> Prop) : Prop := match e with
 | [.ro _ qs, .ro _ ps, .i all, .ro _ sh] => Vif (decide (Sp.askE qs.xs ps.xs all sh.xs = 0)) (K 1 [.ro _ qs, .ro _ ps, .i all, .ro _ sh, .l (Sp.uns sh.xs)]) (K 0 [.i (Sp.askE qs.xs ps.xs all sh.xs)])
 | _ => False
noncomputable def Xh : CC where
 g := 54
 args := [.agg [.rs Iv5, .rs Jc, .int .i64], .rs Jb]
 H := []
 outs := [⟨false, .tup [(.lit (.pointer none)), .int .i64], [], false⟩, ⟨false, .tup [(.ptr 6 0), (.lit (.int .i64 0))], [(6, .blk 89 [.rs Iv5, .rs Jc, .int .i64, .rs Jb, (.row 12)]), (12, .arr 44 Ja)], false⟩]
 spec := Xhf
def Xcv [W : InW] (qs : Ro Iv5) (ps : Ro Jc) (all : Int) (sh : Ro Jb) (K : Nat -> List Ed -> Prop) : Prop :=
 Pre True (Vif (!decide (Sp.chkE qs.xs ps.xs all = 0)) (K 0 [.i (Sp.chkE qs.xs ps.xs all)]) (Pre (Sp.KeyOk qs.xs ps.xs all) (Vif (decide (Sp.shE qs.xs sh.xs = 0)) (K (0+1) [.ro _ qs, .ro _ ps, .i all, .ro [Ty.sl [Ty.int IntKind.i64]] sh, .l (Sp.uns sh.xs)]) (K 0 [.i (Sp.shE qs.xs sh.xs)]))))
theorem Xi6 (W : InW) (qs ps all sh K) : Ywo (cxT Try.prog TT T49 1000 50) 1000 54 [.agg [.rs _ qs, .rs _ ps, .si .i64 all], .rs _ sh] [] (fun v h => outC Xh.H [] Xh.outs 0 false v h K) (fun v h => outC Xh.H [] Xh.outs 0 true v h K) = Xcv qs ps all sh K := by kernel_rfl
theorem Xj1 (hyp_ : ∀ (W : InW) qs ps all sh K, Xhf [.ro _ qs, .ro _ ps, .i all, .ro _ sh] K -> Xcv qs ps all sh K) : ∀ W : InW, @CallC W Try.prog Xh :=
 CC.okOf (fun W => @TT W) (fun W => @Xe W) Xa T49 1000 50 Xh fun W qs ps all sh K hs => (Xi6 W qs ps all sh K).mpr (hyp_ W qs ps all sh K hs)
theorem Xbi : ∀ W : InW, @CallC W Try.prog Xh := Xj1 fun W qs ps all sh K hs => by
 have k0 : ∀ e, Sp.askE qs.xs ps.xs all sh.xs = e -> e ≠ 0 -> K 0 [.i e] := fun e h1 h2 => by
  have := hs.2 (decide_eq_false (by omega));rw [h1] at this; exact this
 have k1 : Sp.askE qs.xs ps.xs all sh.xs = 0 -> K 1 [.ro _ qs, .ro _ ps, .i all, .ro _ sh, .l (Sp.uns sh.xs)] := fun h => hs.1 (decide_eq_true h);clear hs;unfold Sp.askE at k0 k1;unfold Xcv;refine ⟨trivial, vifn (fun e => k0 _ (by rw [if_neg e]) e) fun e => ⟨Sp.chkE_iff.1 e, ?_⟩⟩;rw [if_pos e] at k0 k1;exact vifd (fun e1 => k1 e1) fun e1 => k0 _ rfl e1
noncomputable def T50 : Tab Try.prog := ⟨[], [], [ceOf Xh Xbi, ceOf Xp Xh7, ceOf Xv Xk0]⟩
def Xdr [W : InW] (k_Qs : Ro Iv5) (k_Ps : Ro Jc) (k_All : Int) (sh : Ro Jb) (Q : DS -> Prop) : Prop :=
 Vif (decide (Sp.askE k_Qs.xs k_Ps.xs k_All sh.xs = 0)) (Vif (decide (Zb < (↑(List.length (Sp.uns sh.xs)) : Int))) (Q [[Cl.l []], [Cl.b false], [Cl.i 2]]) (Pre (Zb <= 0 /\ Sp.KeyOk k_Qs.xs k_Ps.xs k_All /\ Sp.SeOk k_Qs.xs sh.xs (Sp.uns sh.xs)) (Pre (Zb <= 0 /\ Sp.KeyOk k_Qs.xs k_Ps.xs k_All /\ Sp.SeOk k_Qs.xs sh.xs (Sp.uns sh.xs)) (Q [[Cl.l (Sp.mkW k_Qs.xs k_Ps.xs sh.xs (Sp.uns sh.xs) Zb)], [Cl.b (Sp.psW k_Qs.xs k_Ps.xs k_All sh.xs (Sp.uns sh.xs) Zb)], [Cl.i 0]])))) (Vif (!decide (Sp.askE k_Qs.xs k_Ps.xs k_All sh.xs = 0)) (Q [[Cl.l []], [Cl.b false], [Cl.i (Sp.askE k_Qs.xs k_Ps.xs k_All sh.xs)]]) ((16 : Nat) = 16 + 1))
theorem Xl3 (W : InW) (k_Qs k_Ps k_All sh Q) : Ywr (cxT Try.prog TT T50 1000 50) 1000 19 [.agg [.rs _ k_Qs, .rs _ k_Ps, .si .i64 k_All], .rs _ sh] [] 0 (Y01 [(false, [.row 3 Jc]), (false, [.bool]), (false, [.int .i64])] Q) (fun _ _ _ _ => Stuck 421) = Xdr k_Qs k_Ps k_All sh Q := by kernel_rfl
abbrev Xce : List AT := [.agg [.sl Iv5, .sl Jc, .int .i64], .one (.sl Jb)]
theorem Xnn {pre : DS -> Prop} {res : DS -> DS} (hyp_ : ∀ (W : InW) (k_Qs : Ro Iv5) (k_Ps : Ro Jc) (k_All : Int) (sh : Ro Jb), pre [[.l k_Qs.xs, .l k_Ps.xs, .i k_All], [.l sh.xs]] -> ∀ Q : DS -> Prop, Q (res [[.l k_Qs.xs, .l k_Ps.xs, .i k_All], [.l sh.xs]]) -> Xdr k_Qs k_Ps k_All sh Q) : PureOk Try.prog 19 Xce [(false, [.row 3 Jc]), (false, [.bool]), (false, [.int .i64])] pre res :=
 PureOk.of' (fun W => @TT W) (fun W => @Xe W) Xa T50 1000 50 fun W k_Qs k_Ps k_All sh hp =>
  (Xl3 W k_Qs k_Ps k_All sh (fun o => o = res [[.l k_Qs.xs, .l k_Ps.xs, .i k_All], [.l sh.xs]])).mpr (hyp_ W k_Qs k_Ps k_All sh hp _ rfl)
open Go.RowKit
set_option maxRecDepth 100000
set_option maxHeartbeats 1600000
def rfIn : Code -> List LI
 | .seq a b => rfIn a ++ rfIn b
 | .cond _ a b => rfIn a ++ rfIn b
 | .block _ a => rfIn a
 | .loop a => rfIn a
 | .scope a => rfIn a
 | .rangeFunc _ ps asg b => ⟨.ready, none, ps, asg, b⟩ :: rfIn b
 | _ => []
def lpAt (P : Program) (g : FuncId) (k : Nat) : LI := (rfIn (Yjr P g)).getD k ⟨.ready, none, #[], .skip, .skip⟩
noncomputable abbrev LPth : LI := lpAt Try.prog 60 0
namespace Sp
def psB (qs ps : Dt) (all : Int) (sh u : Dt) (k : Nat) : Bool := psW qs ps all sh u k
end Sp
noncomputable def T60 : Tab Try.prog := ⟨[], [], [ceOf Xv Xk0]⟩
def Xex [InW] (e : List Ed) (K : Nat -> List Ed -> Prop) : Prop := match e with
 | [.i n, .i i, .ro _ qs, .ro _ ps, .i all, .ro _ sh, .l u, .b so, .b al] => Pre (0 <= i /\ i <= n /\ n <= 1000 /\ Sp.KeyOk qs.xs ps.xs all /\ Sp.SeOk qs.xs sh.xs u) (K 0 [.ro _ qs, .ro _ ps, .i all, .ro _ sh, .l u, .b (so || Sp.anyF (Sp.psB qs.xs ps.xs all sh.xs u) i.toNat (n - i).toNat), .b (al && Sp.allF (Sp.psB qs.xs ps.xs all sh.xs u) i.toNat (n - i).toNat)])
 | _ => False
noncomputable def Xgk : LC where
 len := 18
 T := [(0, (.yl 1)), (1, (.ptr 10 0)), (9, .int .i64), (10, .int .i64)]
 H := [(1, .lp LPth [(.opq 1501), (.opq 1504), (.opq 1507), (.opq 1510), (.ptr 13 0), (.ptr 16 0), (.ptr 19 0), (.opq 318), (.opq 321), (.opq 1528), (.opq 327), (.opq 330), (.opq 333), (.opq 336), (.opq 339), (.opq 342), (.opq 345), (.opq 348), (.opq 351), (.opq 354), (.opq 357), (.opq 360), (.opq 1567), (.opq 1570)]), (10, .blk 85 [(.ptr 4 0)]), (4, .blk 89 [.rs Iv5, .rs Jc, .int .i64, .rs Jb, (.row 7)]), (7, .arr 44 Ja), (13, .blk 84 [(.fn (.func 56) [(.ptr 4 0)] [])]), (16, .blk 4 [.bool]), (19, .blk 4 [.bool])]
 W := ([3] ++ rg 11 7)
 outs := [⟨.exit 0, [], [(1, .lp LPth [(.opq 1501), (.opq 1504), (.opq 1507), (.opq 1510), (.ptr 13 0), (.ptr 16 0), (.ptr 19 0), (.opq 618), (.opq 621), (.opq 1528), (.opq 627), (.opq 630), (.opq 633), (.opq 636), (.opq 639), (.opq 642), (.opq 645), (.opq 648), (.opq 651), (.opq 654), (.opq 657), (.opq 660), (.opq 1567), (.opq 1570)]), (618, .dead), (621, .dead), (627, .dead), (630, .dead), (633, .dead), (636, .dead), (639, .dead), (642, .dead), (645, .dead), (648, .dead), (651, .dead), (654, .dead), (657, .dead), (660, .dead), (10, .blk 85 [(.ptr 4 0)]), (4, .blk 89 [.rs Iv5, .rs Jc, .int .i64, .rs Jb, (.row 7)]), (7, .arr 44 Ja), (13, .blk 84 [(.fn (.func 56) [(.ptr 4 0)] [])]), (16, .blk 4 [.bool]), (19, .blk 4 [.bool])], ([0, 1, 3] ++ rg 9 9)⟩]
 spec := Xex
def Xd2 [W : InW] (n i : Int) (qs : Ro Iv5) (ps : Ro Jc) (all : Int) (sh : Ro Jb) (u : Dt) (so al : Bool) (A : List Ed -> Prop) (K : Nat -> List Ed -> Prop) : Prop :=
 Vif (decide (i < n)) (Pre (0 <= i /\ Sp.KeyOk qs.xs ps.xs all /\ Sp.SeOk qs.xs sh.xs u) (Vif so (Vif al (Ar .i64 (i + 1) fun z => PreL LPth LPth (A [.i n, .i z, .ro _ qs, .ro _ ps, .i all, .ro Zek sh, .l u, .b true, .b (Sp.psW qs.xs ps.xs all sh.xs u i)])) (Ar .i64 (i + 1) fun z => PreL LPth LPth (A [.i n, .i z, .ro _ qs, .ro _ ps, .i all, .ro Zek sh, .l u, .b true, .b false]))) (Vif al (Ar .i64 (i + 1) fun z => PreL LPth LPth (A [.i n, .i z, .ro _ qs, .ro _ ps, .i all, .ro Zek sh, .l u, .b (Sp.psW qs.xs ps.xs all sh.xs u i), .b (Sp.psW qs.xs ps.xs all sh.xs u i)])) (Ar .i64 (i + 1) fun z => PreL LPth LPth (A [.i n, .i z, .ro _ qs, .ro _ ps, .i all, .ro Zek sh, .l u, .b (Sp.psW qs.xs ps.xs all sh.xs u i), .b false]))))) (PreL LPth LPth (K 0 [.ro _ qs, .ro _ ps, .i all, .ro Zek sh, .l u, .b so, .b al]))
theorem Xk8 (W : InW) (n i qs ps all sh u so al A K) : Yfc { cxT Try.prog TT T60 1000 50 with fn := 83 } 1000 (Yn7 Try.prog 83 2) (Yd6 18 [(0, .yl 1), (1, .ptr 10 0), (9, .si .i64 n), (10, .si .i64 i)] ([3] ++ rg 11 7)) [(1, .lp LPth [.opq 1501, .opq 1504, .opq 1507, .opq 1510, .ptr 13 0, .ptr 16 0, .ptr 19 0, .opq 318, .opq 321, .opq 1528, .opq 327, .opq 330, .opq 333, .opq 336, .opq 339, .opq 342, .opq 345, .opq 348, .opq 351, .opq 354, .opq 357, .opq 360, .opq 1567, .opq 1570]), (10, .blk 85 [.ptr 4 0]), (4, .blk 89 [.rs _ qs, .rs _ ps, .si .i64 all, .rs _ sh, .rw 7]), (7, .arr 44 Ja u), (13, .blk 84 [.fn (.func 56) [.ptr 4 0] []]), (16, .blk 4 [.sb so]), (19, .blk 4 [.sb al])] (Yug Xgk A K) = Xd2 n i qs ps all sh u so al A K := by kernel_rfl
def Xfv : Prop := ∀ (W : InW) (body a : Code), (Try.prog.funcs[83]?).bind (·.body) = some body -> a ∈ Yy body -> Yfx a = 2 -> @Ymq W Try.prog a (@Yto W Xgk)
theorem Xmr (meas : [InW] -> List Ed -> Nat) (hyp_ : ∀ (W : InW) n i qs ps all sh u so al K, Xex [.i n, .i i, .ro _ qs, .ro _ ps, .i all, .ro _ sh, .l u, .b so, .b al] K -> ∀ A : List Ed -> Prop, (∀ e, meas e < meas [.i n, .i i, .ro _ qs, .ro _ ps, .i all, .ro _ sh, .l u, .b so, .b al] -> Xex e K -> A e) -> Xd2 n i qs ps all sh u so al A K) : Xfv :=
 LE.okOf' (fun W => @TT W) (fun W => @Xe W) Xa T60 1000 50 (by kernel_rfl) Xgk (fun W => @meas W) fun W n i qs ps all sh u so al K hs =>
  (Xk8 W n i qs ps all sh u so al (fun e => meas e < meas [.i n, .i i, .ro _ qs, .ro _ ps, .i all, .ro _ sh, .l u, .b so, .b al] /\ Xex e K) K).mpr (hyp_ W n i qs ps all sh u so al K hs _ fun e h1 h2 => ⟨h1, h2⟩)
theorem Xpj : Xfv := Xmr (fun e => match e with | .i n :: .i i :: _ => (n - i).toNat | _ => 0) fun W n i qs ps all sh u so al K hs A hA => by
 obtain ⟨⟨h0, h1, h2, hkey, hse⟩, hk⟩ := hs;unfold Xd2;delta Zek;have ez : (i + 1).toNat = i.toNat + 1 := by omega
 have ei : ((i.toNat : Nat) : Int) = i := Int.toNat_of_nonneg h0
 by_cases hi : i < n
 ·rw [show (n - i).toNat = (n - (i + 1)).toNat + 1 by omega] at hk;have hA' : ∀ c d, c = (so || Sp.psW qs.xs ps.xs all sh.xs u i) -> d = (al && Sp.psW qs.xs ps.xs all sh.xs u i) -> A [.i n, .i (i + 1), .ro _ qs, .ro _ ps, .i all, .ro _ sh, .l u, .b c, .b d] := fun c d hc hd => hA _ (show (n - (i + 1)).toNat < (n - i).toNat by omega) ⟨⟨by omega, by omega, h2, hkey, hse⟩, by
   simp only [Sp.anyF, Sp.allF, Sp.psB, ei] at hk;rw [ez, hc, hd, Bool.or_assoc, Bool.and_assoc];exact hk⟩
  clear hA hk
  repeat' (first | (with_reducible refine Xb ⟨h0, hkey, hse⟩ ?_) | (refine ⟨rfl, ?_⟩; done) | omega | intro _ | with_reducible first | apply vifd | apply vifn | apply vifq | apply Xd | apply Xc | apply vifb | apply vif | apply nedd | apply ned2 | apply ned | apply ar64 | apply Xb | exact True.intro | assumption | rfl | apply And.intro)
  all_goals first | contradiction | (refine ⟨rfl, ?_⟩; refine hA' _ _ ?_ ?_ <;> simp [*]; done) | skip
 ·rw [show (n - i).toNat = 0 by omega] at hk;simp only [Sp.allF, Sp.anyF, Bool.and_true, Bool.or_false] at hk;clear hA
  repeat' (first | omega | intro _ | with_reducible first | apply vifd | apply vifn | apply vifq | apply Xd | apply Xc | apply vifb | apply vif | apply nedd | apply ned2 | apply ned | apply ar64 | apply Xb | exact True.intro | assumption | rfl | apply And.intro)
  all_goals exact ⟨rfl, hk⟩
noncomputable def Xqc : LE Try.prog := ⟨83, 2, fun W => @Yto W Xgk, Xpj⟩
noncomputable def T61 : Tab Try.prog := ⟨[], [Xqc], []⟩
def Xhe [InW] (e : List Ed) (K : Nat -> List Ed -> Prop) : Prop := match e with
 | [.ro _ qs, .ro _ ps, .i all, .ro _ sh, .l u] => Pre (Sp.KeyOk qs.xs ps.xs all /\ Sp.SeOk qs.xs sh.xs u /\ u.length <= 7) (K 0 [.b (Sp.anyF (Sp.psB qs.xs ps.xs all sh.xs u) 0 (2 ^ u.length)), .b (Sp.allF (Sp.psB qs.xs ps.xs all sh.xs u) 0 (2 ^ u.length)), .ro _ qs, .ro _ ps, .i all, .ro _ sh, .l u])
 | _ => False
noncomputable def Xm : CC where
 g := 60
 args := [(.fn (.func 83) [] [(.ptr 10 0)]), (.fn (.func 56) [(.ptr 4 0)] [])]
 H := [(10, .blk 85 [(.ptr 4 0)]), (4, .blk 89 [.rs Iv5, .rs Jc, .int .i64, .rs Jb, (.row 7)]), (7, .arr 44 Ja)]
 outs := [⟨false, .tup [.bool, .bool], [(10, .blk 85 [(.ptr 4 0)]), (4, .blk 89 [.rs Iv5, .rs Jc, .int .i64, .rs Jb, (.row 7)]), (7, .arr 44 Ja)], false⟩]
 spec := Xhe
def Xcu [W : InW] (qs : Ro Iv5) (ps : Ro Jc) (all : Int) (sh : Ro Jb) (u : Dt) (K : Nat -> List Ed -> Prop) : Prop :=
 Need (decide ((0 : Int) <= (↑(u.length) : Int))) (Ar .i64 ((1 : Int) * 2 ^ min (↑(u.length) : Int).toNat (64 : Nat)) fun z => PreL LPth LPth (Pre ((0 : Int) <= 0 /\ 0 <= z /\ z <= 1000 /\ Sp.KeyOk qs.xs ps.xs all /\ Sp.SeOk qs.xs sh.xs u) (K 0 [.b (false || Sp.anyF (Sp.psB qs.xs ps.xs all sh.xs u) Za (z - 0).toNat), .b (true && Sp.allF (Sp.psB qs.xs ps.xs all sh.xs u) Za (z - 0).toNat), .ro _ qs, .ro _ ps, .i all, .ro Zek sh, .l u])))
theorem Xi5 (W : InW) (qs ps all sh u K) : Ywo (cxT Try.prog TT T61 1000 50) 1000 60 [.fn (.func 83) [] [.ptr 10 0], .fn (.func 56) [.ptr 4 0] []] [(10, .blk 85 [.ptr 4 0]), (4, .blk 89 [.rs _ qs, .rs _ ps, .si .i64 all, .rs _ sh, .rw 7]), (7, .arr 44 Ja u)] (fun v h => outC Xm.H [.ro _ qs, .ro _ ps, .i all, .ro _ sh, .l u] Xm.outs 0 false v h K) (fun v h => outC Xm.H [.ro _ qs, .ro _ ps, .i all, .ro _ sh, .l u] Xm.outs 0 true v h K) = Xcu qs ps all sh u K := by kernel_rfl
theorem Xj0 (hyp_ : ∀ (W : InW) qs ps all sh u K, Xhe [.ro _ qs, .ro _ ps, .i all, .ro _ sh, .l u] K -> Xcu qs ps all sh u K) : ∀ W : InW, @CallC W Try.prog Xm :=
 CC.okOf (fun W => @TT W) (fun W => @Xe W) Xa T61 1000 50 Xm fun W qs ps all sh u K hs => (Xi5 W qs ps all sh u K).mpr (hyp_ W qs ps all sh u K hs)
theorem Xo {n : Nat} (h : n <= 7) : (1 : Int) * 2 ^ min ((n : Nat) : Int).toNat 64 = ((2 ^ n : Nat) : Int) /\ 1 <= 2 ^ n /\ 2 ^ n <= 128 := by
 have h1 : min ((n : Nat) : Int).toNat 64 = n := by rw [Int.toNat_natCast]; omega
 refine ⟨by rw [h1, Int.one_mul]; norm_cast, Nat.one_le_two_pow, ?_⟩;exact Nat.le_trans (Nat.pow_le_pow_right (by decide) h) (by decide)
theorem Xnx : ∀ W : InW, @CallC W Try.prog Xm := Xj0 fun W qs ps all sh u K hs => by
 obtain ⟨⟨hkey, hse, h7⟩, hk⟩ := hs;unfold Xcu;delta Za Zek Zb;obtain ⟨p1, p2, p3⟩ := Xo h7;rw [p1];simp only [show Int.toNat 0 = 0 from rfl, Int.sub_zero, Bool.true_and, Bool.false_or];refine nedd (by omega) (ar64 (by omega) ⟨rfl, ⟨by omega, by omega, by omega, hkey, hse⟩, ?_⟩);rw [Int.toNat_natCast];exact hk
noncomputable def T62 : Tab Try.prog := ⟨[Xhn], [], [ceOf Xh Xbi, ceOf Xm Xnx]⟩
def Xdq [W : InW] (k_Qs : Ro Iv5) (k_Ps : Ro Jc) (k_All : Int) (sh : Ro Jb) (Q : DS -> Prop) : Prop :=
 Vif (decide (Sp.askE k_Qs.xs k_Ps.xs k_All sh.xs = 0)) (Pre (Sp.KeyOk k_Qs.xs k_Ps.xs k_All /\ Sp.SeOk k_Qs.xs sh.xs (Sp.uns sh.xs) /\ List.length (Sp.uns sh.xs) <= 7) (Pre True (Q [[Cl.i (Sp.ocB (Sp.anyF (Sp.psB k_Qs.xs k_Ps.xs k_All sh.xs (Sp.uns sh.xs)) (0 : Nat) ((2 : Nat) ^ List.length (Sp.uns sh.xs))) (Sp.allF (Sp.psB k_Qs.xs k_Ps.xs k_All sh.xs (Sp.uns sh.xs)) (0 : Nat) ((2 : Nat) ^ List.length (Sp.uns sh.xs))))], [Cl.i 0]]))) (Vif (!decide (Sp.askE k_Qs.xs k_Ps.xs k_All sh.xs = 0)) (Q [[Cl.i 0], [Cl.i (Sp.askE k_Qs.xs k_Ps.xs k_All sh.xs)]]) ((16 : Nat) = 16 + 1))
theorem Xl2 (W : InW) (k_Qs k_Ps k_All sh Q) : Ywr (cxT Try.prog TT T62 1000 50) 1000 23 [.agg [.rs _ k_Qs, .rs _ k_Ps, .si .i64 k_All], .rs _ sh] [] 0 (Y01 [(false, [.int .i64]), (false, [.int .i64])] Q) (fun _ _ _ _ => Stuck 421) = Xdq k_Qs k_Ps k_All sh Q := by kernel_rfl
abbrev Xcd : List AT := [.agg [.sl Iv5, .sl Jc, .int .i64], .one (.sl Jb)]
theorem Xnm {pre : DS -> Prop} {res : DS -> DS} (hyp_ : ∀ (W : InW) (k_Qs : Ro Iv5) (k_Ps : Ro Jc) (k_All : Int) (sh : Ro Jb), pre [[.l k_Qs.xs, .l k_Ps.xs, .i k_All], [.l sh.xs]] -> ∀ Q : DS -> Prop, Q (res [[.l k_Qs.xs, .l k_Ps.xs, .i k_All], [.l sh.xs]]) -> Xdq k_Qs k_Ps k_All sh Q) : PureOk Try.prog 23 Xcd [(false, [.int .i64]), (false, [.int .i64])] pre res :=
 PureOk.of' (fun W => @TT W) (fun W => @Xe W) Xa T62 1000 50 fun W k_Qs k_Ps k_All sh hp =>
  (Xl2 W k_Qs k_Ps k_All sh (fun o => o = res [[.l k_Qs.xs, .l k_Ps.xs, .i k_All], [.l sh.xs]])).mpr (hyp_ W k_Qs k_Ps k_All sh hp _ rfl)
open Go.RowKit
set_option maxRecDepth 100000
namespace Sp
def mk1 (d : Dt) (k : Nat) : Bool := decide (bx d k = 1)
theorem ansD_pos (d : Dt) : ∀ n i a, 0 <= a -> ansD d i n a = anyF (mk1 d) i n
 | 0, _, _, _ => rfl
 | n + 1, i, a, h => by
  simp only [ansD, anyF, mk1]
  by_cases e : bx d i = 1
  ·simp [e, h]
  ·simp [e]; exact ansD_pos d n (i + 1) a h
theorem ansL_none (d : Dt) : ∀ n i a, anyF (mk1 d) i n = false -> ansL d i n a = a
 | 0, _, _, _ => rfl
 | n + 1, i, a, h => by
  simp only [anyF, Bool.or_eq_false_iff, mk1, decide_eq_false_iff_not] at h;simp only [ansL, if_neg h.1];exact ansL_none d n (i + 1) a h.2
theorem ansD_neg (d : Dt) : ∀ n i, ansD d i n (-1) = (anyF (mk1 d) i n && anyF (mk1 d) (fstF (mk1 d) i n + 1) (i + n - (fstF (mk1 d) i n + 1)))
 | 0, _ => rfl
 | n + 1, i => by
  by_cases e : bx d i = 1
  ·have e2 : mk1 d i = true := decide_eq_true e;simp only [ansD, anyF, fstF, e, if_true, e2, Bool.true_or, Bool.true_and];rw [if_neg (by decide), ansD_pos d n (i + 1) i (by omega), show i + (n + 1) - (i + 1) = n by omega]
  ·have e2 : mk1 d i = false := decide_eq_false e;simp only [ansD, anyF, fstF, e, if_false, e2, Bool.false_or, Bool.false_eq_true];rw [ansD_neg d n (i + 1), show i + (n + 1) = i + 1 + n by omega]
theorem ansL_neg (d : Dt) : ∀ n i, ansD d i n (-1) = false -> anyF (mk1 d) i n = true -> ansL d i n (-1) = fstF (mk1 d) i n
 | 0, _, _, h => by simp [anyF] at h
 | n + 1, i, h, h2 => by
  by_cases e : bx d i = 1
  ·have e2 : mk1 d i = true := decide_eq_true e;simp only [ansD, e, if_true] at h;rw [if_neg (by decide), ansD_pos d n (i + 1) i (by omega)] at h;simp only [ansL, e, if_true, fstF, e2];exact ansL_none d n (i + 1) i h
  ·have e2 : mk1 d i = false := decide_eq_false e;simp only [ansD, e, if_false] at h;simp only [anyF, e2, Bool.false_or] at h2;simp only [ansL, e, if_false, fstF, e2, Bool.false_eq_true];exact ansL_neg d n (i + 1) h h2
theorem anyF_shift (g : Nat -> Bool) (s : Nat) : ∀ n i, anyF (fun k => g (s + k)) i n = anyF g (s + i) n
 | 0, _ => rfl
 | n + 1, i => by simp only [anyF, anyF_shift g s n (i + 1), Nat.add_assoc]
theorem eqI_mk1 (d : Dt) : eqI d 1 = mk1 d := by
 funext k
 unfold eqI mk1 bx num;exact decide_eq_decide.2 ⟨fun h => h.symm, fun h => h.symm⟩
theorem idxOf_ge (d : Dt) : (0 <= idxOf d 1) ↔ anyF (mk1 d) 0 d.length = true := by
 unfold idxOf;rw [eqI_mk1]
 split
 ·rename_i h; exact ⟨fun _ => h, fun _ => by omega⟩
 ·rename_i h; exact ⟨fun c => by omega, fun c => absurd c h⟩
theorem ansX_of (d : Dt) : ansX d = ansOf d := by
 unfold ansX ansOf;rw [ansD_neg]
 by_cases h : anyF (mk1 d) 0 d.length = true
 ·have hi : idxOf d 1 = (fstF (mk1 d) 0 d.length : Nat) := by unfold idxOf; rw [eqI_mk1, if_pos h]
  have hf := fstF_spec h;have e1 : (idxOf d 1 + 1).toNat = fstF (mk1 d) 0 d.length + 1 := by rw [hi]; omega
  have e2 : (0 <= idxOf (d.drop (fstF (mk1 d) 0 d.length + 1)) 1) ↔ anyF (mk1 d) (fstF (mk1 d) 0 d.length + 1) (0 + d.length - (fstF (mk1 d) 0 d.length + 1)) = true := by
   rw [idxOf_ge, List.length_drop, Nat.zero_add];have : mk1 (d.drop (fstF (mk1 d) 0 d.length + 1)) = fun k => mk1 d (fstF (mk1 d) 0 d.length + 1 + k) := by
    funext k
    unfold mk1 bx cel;simp only [List.getD_eq_getElem?_getD, List.getElem?_drop]
   rw [this, anyF_shift, Nat.add_zero]
  rw [h, Bool.true_and]
  by_cases c : anyF (mk1 d) (fstF (mk1 d) 0 d.length + 1) (0 + d.length - (fstF (mk1 d) 0 d.length + 1)) = true
  ·rw [if_pos ⟨by omega, by rw [e1]; exact e2.2 c⟩, if_pos c]
  ·rw [if_neg (fun x => c (e2.1 (by rw [e1] at x; exact x.2))), if_neg c];have hL := ansL_neg d d.length 0 (by rw [ansD_neg, h, Bool.true_and]; simpa using c) h;rw [hL, hi]
 ·have h0 : anyF (mk1 d) 0 d.length = false := by simpa using h
  have hn : ¬ 0 <= idxOf d 1 := fun c => h ((idxOf_ge d).1 c);rw [if_neg (fun x => hn x.1), h0, Bool.false_and, if_neg (by decide), ansL_none d _ _ _ h0];unfold idxOf;rw [eqI_mk1, if_neg h]
theorem bit7 : ∀ b : Fin 128, ∀ i : Fin 7, bitV (b.val : Int) (i.val : Int) = ((b.val / 2 ^ i.val % 2 : Nat) : Int) := by decide +kernel
theorem bit_of {b i : Nat} (hb : b < 128) (hi : i < 7) : bitV (b : Int) (i : Int) = ((b / 2 ^ i % 2 : Nat) : Int) := bit7 ⟨b, hb⟩ ⟨i, hi⟩
def itW : List (Nat × Nat) -> Nat -> Dt -> Dt
 | [], _, s => s
 | p :: ps, b, s => itW ps (b / 2) (withD s p.1 p.2 ((b % 2 : Nat) : Int))
theorem rds_it : ∀ (ps : List (Nat × Nat)) (sh r : Dt), pos sh = ps -> (r ∈ rds sh ↔ ∃ b, b < 2 ^ ps.length /\ r = itW ps b sh)
 | [], sh, r, h => by
  rw [rds_nil h, List.mem_singleton];exact ⟨fun e => ⟨0, by simp, e⟩, fun ⟨_, _, e⟩ => e⟩
 | p :: ps, sh, r, h => by
  have h0 := rds_it ps (withD sh p.1 p.2 0) r (pos_with_tl (by decide) h);have h1 := rds_it ps (withD sh p.1 p.2 1) r (pos_with_tl (by decide) h);rw [rds_cons h, List.mem_append, h0, h1, List.length_cons, Nat.pow_succ];constructor
  ·rintro (⟨b, hb, e⟩ | ⟨b, hb, e⟩)
   ·refine ⟨2 * b, by omega, ?_⟩;simp only [itW];rw [show 2 * b / 2 = b by omega, show 2 * b % 2 = 0 by omega];exact e
   ·refine ⟨2 * b + 1, by omega, ?_⟩;simp only [itW];rw [show (2 * b + 1) / 2 = b by omega, show (2 * b + 1) % 2 = 1 by omega];exact e
  ·rintro ⟨b, hb, e⟩;simp only [itW] at e;rcases Nat.mod_two_eq_zero_or_one b with c | c
   ·left; rw [c] at e; exact ⟨b / 2, by omega, e⟩
   ·right; rw [c] at e; exact ⟨b / 2, by omega, e⟩
theorem itW_len : ∀ (ps : List (Nat × Nat)) (b : Nat) (s : Dt), (itW ps b s).length = s.length
 | [], _, _ => rfl
 | p :: ps, b, s => by simp only [itW, itW_len ps, withD_len]
theorem prC_cel (us : List (Nat × Nat)) (i : Nat) (h : i < us.length) : cA (us.map prC) i = us[i].1 /\ cB (us.map prC) i = us[i].2 := by
 unfold cA cB cel;rw [List.getD_eq_getElem?_getD (l := us.map prC), List.getElem?_map, List.getElem?_eq_getElem h];exact ⟨rfl, rfl⟩
theorem ansW_it (us : List (Nat × Nat)) (q b : Nat) (hb : b < 128) (h7 : us.length <= 7) : ∀ n i s, i + n = us.length -> q < s.length -> ansW (us.map prC) q b i n (row s q) = row (itW (us.drop i) (b / 2 ^ i) s) q
 | 0, i, s, hi, hq => by rw [List.drop_eq_nil_of_le (by omega)]; rfl
 | n + 1, i, s, hi, hq => by
  have hlt : i < us.length := by omega
  rw [List.drop_eq_getElem_cons hlt];obtain ⟨c1, c2⟩ := prC_cel us i hlt;simp only [ansW, itW, c1, c2];rw [bit_of hb (by omega), Int.toNat_natCast];have hrow := withD_row s us[i].1 us[i].2 ((b / 2 ^ i % 2 : Nat) : Int) q hq;have e : (if (us[i].1 : Int) = (q : Int) then (row s q).set us[i].2 [.i ((b / 2 ^ i % 2 : Nat) : Int)] else row s q) = row (withD s us[i].1 us[i].2 ((b / 2 ^ i % 2 : Nat) : Int)) q := by
   rw [hrow]
   by_cases c : us[i].1 = q
   ·rw [if_pos (by omega), if_pos c.symm]
   ·rw [if_neg (by omega), if_neg (fun x => c x.symm)]
  rw [e, ansW_it us q b hb h7 n (i + 1) _ (by omega) (by rw [withD_len]; exact hq), Nat.pow_succ, Nat.div_div_eq_div_mul]
theorem rowW_it {sh : Dt} {q b : Nat} (hb : b < 128) (h7 : (pos sh).length <= 7) (hq : q < sh.length) : rowW sh (uns sh) q b = row (itW (pos sh) b sh) q := by
 unfold rowW;rw [uns_pos, List.length_map, Int.toNat_natCast];have := ansW_it (pos sh) q b hb h7 (pos sh).length 0 sh (by omega) hq;rw [List.drop_zero, Nat.pow_zero, Nat.div_one] at this;exact this
def Nums (l : Dt) : Prop := ∀ p, p < l.length -> l.getD p [] = [.i (num l p)]
theorem Nums.set {l : Dt} (h : Nums l) {p : Nat} {v : Int} : Nums (l.set p [.i v]) := fun q hq => by
 rw [List.length_set] at hq
 by_cases e : p = q
 ·subst e;rw [set_getD hq, num_set hq, if_pos rfl]
 ·rw [set_getN e, h q hq]
  congr 2
  unfold num cel;rw [set_getN e]
theorem Nums.same {l : Dt} (h : Nums l) {p : Nat} (hp : p < l.length) : l.set p [.i (num l p)] = l := by
 rw [<- h p hp, List.getD_eq_getElem?_getD, List.getElem?_eq_getElem hp];exact List.set_getElem_self hp
theorem Nums.rep (n : Nat) (v : Int) : Nums (List.replicate n [.i v]) := fun p hp => by
 rw [List.length_replicate] at hp;unfold num cel;simp [List.getElem?_replicate, hp, Cl.int]
theorem ansOf_ge (d : Dt) : -1 <= ansOf d := by
 rw [<- ansX_of];unfold ansX;have := Xg2 d 1
 split <;> omega
theorem stW_step {qs sh u r l : Dt} {b : Int} {i : Nat} (h : anW sh u b i = ansOf (row r i)) (hl : Nums l) (hp : (qPart qs i).toNat < l.length) : stW qs sh u b i l = l.set (qPart qs i).toNat [.i (num l (qPart qs i).toNat + ptsQ qs r i)] := by
 have hg := ansOf_ge (row r i);unfold stW ptsQ ptsV;rw [h]
 by_cases c : ansOf (row r i) = qRight qs i
 ·rw [if_pos c, if_pos c]
 ·rw [if_neg c, if_neg c]
  by_cases c2 : ansOf (row r i) = -1
  ·rw [if_pos c2, if_neg (by omega), Int.add_zero, hl.same hp]
  ·rw [if_neg c2, if_pos (by omega)]
   congr 3
   omega
theorem addW_G {qs sh u r : Dt} {b : Int} {np : Nat} (hp : ∀ i, i < qs.length -> (qPart qs i).toNat < np) (h : ∀ i, i < qs.length -> anW sh u b i = ansOf (row r i)) : ∀ n i l, i + n <= qs.length -> Nums l -> l.length = np -> addW qs sh u b i n l = addG qs r i n l
 | 0, _, _, _, _, _ => rfl
 | n + 1, i, l, hi, hl, hn => by
  simp only [addW, addG];rw [stW_step (h i (by omega)) hl (by rw [hn]; exact hp i (by omega))];exact addW_G hp h n (i + 1) _ (by omega) hl.set (by rw [List.length_set]; exact hn)
theorem mkW_it {qs ps sh : Dt} {all : Int} {b : Nat} (hk : KeyOk qs ps all) (hn : sh.length = qs.length) (h7 : (pos sh).length <= 7) (hb : b < 2 ^ (pos sh).length) : mkW qs ps sh (uns sh) b = mk qs ps (itW (pos sh) b sh) := by
 have hb2 : b < 128 := Nat.lt_of_lt_of_le hb (Nat.le_trans (Nat.pow_le_pow_right (by decide) h7) (by decide));unfold mkW mk;rw [itW_len, hn];refine addW_G (np := ps.length) (fun i hi => by have := hk.part i hi; omega) (fun i hi => ?_) _ _ _ (by omega) (Nums.rep _ _) (by simp);unfold anW;rw [rowW_it hb2 h7 (by omega), ansX_of]
theorem psW_it {qs ps sh : Dt} {all : Int} {b : Nat} (hk : KeyOk qs ps all) (hn : sh.length = qs.length) (h7 : (pos sh).length <= 7) (hb : b < 2 ^ (pos sh).length) : psW qs ps all sh (uns sh) b = psS qs ps all (itW (pos sh) b sh) := by
 unfold psW psS;rw [mkW_it hk hn h7 hb]
theorem rds_ix {sh r : Dt} : r ∈ rds sh ↔ ∃ k, k < (rdD sh).length /\ row (rdD sh) k = r := by
 constructor
 ·intro h;obtain ⟨k, hk, e⟩ := List.mem_iff_getElem.1 h;have hk2 : k < (rdD sh).length := by unfold rdD; simpa using hk
  obtain ⟨h2, e2⟩ := rdD_row hk2;exact ⟨k, hk2, e2.trans e⟩
 ·rintro ⟨k, hk, e⟩;obtain ⟨h2, e2⟩ := rdD_row hk;rw [<- e, e2];exact List.getElem_mem h2
theorem any_rds {sh : Dt} (f : Dt -> Bool) : (∃ k, k < (rdD sh).length /\ f (row (rdD sh) k) = true) ↔ ∃ b, b < 2 ^ (pos sh).length /\ f (itW (pos sh) b sh) = true := by
 constructor
 ·rintro ⟨k, hk, h⟩;obtain ⟨b, hb, e⟩ := (rds_it _ sh _ rfl).1 (rds_ix.2 ⟨k, hk, rfl⟩);exact ⟨b, hb, by rw [<- e]; exact h⟩
 ·rintro ⟨b, hb, h⟩;obtain ⟨k, hk, e⟩ := rds_ix.1 ((rds_it _ sh _ rfl).2 ⟨b, hb, rfl⟩);exact ⟨k, hk, by rw [e]; exact h⟩
theorem anyF_0 {f : Nat -> Bool} {n : Nat} : anyF f 0 n = true ↔ ∃ k, k < n /\ f k = true := by
 rw [anyF_iff];exact ⟨fun ⟨k, _, h, e⟩ => ⟨k, by omega, e⟩, fun ⟨k, h, e⟩ => ⟨k, by omega, by omega, e⟩⟩
theorem allF_0 {f : Nat -> Bool} {n : Nat} : allF f 0 n = true ↔ ∀ k, k < n -> f k = true := by
 rw [allF_iff];exact ⟨fun h k hk => h k (by omega) (by omega), fun h k _ hk => h k (by omega)⟩
theorem bool_iff {a b : Bool} (h : a = true ↔ b = true) : a = b := by cases a <;> cases b <;> simp_all
theorem anyF_rds {sh : Dt} {f : Dt -> Bool} {g : Nat -> Bool} (h : ∀ b, b < 2 ^ (pos sh).length -> g b = f (itW (pos sh) b sh)) : anyF g 0 (2 ^ (uns sh).length) = anyF (fun k => f (row (rdD sh) k)) 0 (rdD sh).length := by
 refine bool_iff ?_;rw [anyF_0, anyF_0, any_rds, uns_len];exact ⟨fun ⟨b, hb, e⟩ => ⟨b, hb, by rw [<- h b hb]; exact e⟩, fun ⟨b, hb, e⟩ => ⟨b, hb, by rw [h b hb]; exact e⟩⟩
theorem allF_rds {sh : Dt} {f : Dt -> Bool} {g : Nat -> Bool} (h : ∀ b, b < 2 ^ (pos sh).length -> g b = f (itW (pos sh) b sh)) : allF g 0 (2 ^ (uns sh).length) = allF (fun k => f (row (rdD sh) k)) 0 (rdD sh).length := by
 refine bool_iff ?_;rw [allF_0, allF_0, uns_len];have := any_rds (sh := sh) fun r => !f r;constructor
 ·intro h1 k hk;cases e : f (row (rdD sh) k) with
  | true => rfl
  | false =>
   obtain ⟨b, hb, c⟩ := this.1 ⟨k, hk, by rw [e]; rfl⟩;rw [<- h b hb, h1 b hb] at c;cases c
 ·intro h1 b hb;rw [h b hb];cases e : f (itW (pos sh) b sh) with
  | true => rfl
  | false =>
   obtain ⟨k, hk, c⟩ := this.2 ⟨b, hb, by rw [e]; rfl⟩;rw [h1 k hk] at c;cases c
theorem ocV_bits {qs ps sh : Dt} {all : Int} (hk : KeyOk qs ps all) (hs : ShOk qs sh) : ocB (anyF (psB qs ps all sh (uns sh)) 0 (2 ^ (uns sh).length)) (allF (psB qs ps all sh (uns sh)) 0 (2 ^ (uns sh).length)) = ocV qs ps all sh := by
 have h7 := hs.seven;rw [uns_len] at h7;have h := fun b (hb : b < 2 ^ (pos sh).length) => psW_it (ps := ps) (all := all) hk hs.n h7 hb;rw [anyF_rds (f := psS qs ps all) (g := psB qs ps all sh (uns sh)) h, allF_rds (f := psS qs ps all) (g := psB qs ps all sh (uns sh)) h];rfl
theorem ShOk.se {qs sh : Dt} (h : ShOk qs sh) {ps : Dt} {all : Int} (hk : KeyOk qs ps all) : SeOk qs sh (uns sh) := by
 have h7 := h.seven;refine ⟨h.n, by omega, fun q hq => ⟨by omega, ?_, fun i hi e => ?_⟩⟩
 ·have := (h.toShapeOk.few hk).2 q hq; omega
 ·obtain ⟨p, hp, e1, e2⟩ := uns_cel hi;have hm := mem_pos.1 hp;unfold cA at e;unfold cB;rw [e1] at e;rw [e2];have : p.1 = q := by omega
  subst this;omega
end Sp
open Go.RowKit
set_option maxRecDepth 100000
set_option maxHeartbeats 1600000
theorem Xou : PureOk Try.prog 19 Xce [(false, [.row 3 Jc]), (false, [.bool]), (false, [.int .i64])] (fun _ => True) Xde :=
 Xnn fun W qs ps all sh hp Q h => by
  unfold Xdr;delta Zb;simp only [Xde, Sp.markR, Sp.markB] at h
  by_cases e : Sp.askE qs.xs ps.xs all sh.xs = 0
  ·obtain ⟨hk, hs⟩ := Sp.askE_ok e;have hse := hs.se hk
   by_cases e2 : (Sp.uns sh.xs).length = 0
   ·have e3 : Sp.markE qs.xs ps.xs all sh.xs = 0 := by unfold Sp.markE; rw [if_pos e, if_pos e2]
    rw [if_pos e3, if_pos e3, e3] at h;have hp0 : Sp.pos sh.xs = [] := List.length_eq_zero_iff.1 (by rw [<- Sp.uns_len]; exact e2);have hm := Sp.mkW_it (b := 0) (ps := ps.xs) hk hs.n (by rw [hp0]; simp) (by rw [hp0]; simp);have hm : Sp.mkW qs.xs ps.xs sh.xs (Sp.uns sh.xs) 0 = Sp.mk qs.xs ps.xs sh.xs := by rw [hp0] at hm; exact hm
    refine vifd (fun _ => vifd (fun c => by omega) fun _ => ⟨⟨by omega, hk, hse⟩, ⟨⟨by omega, hk, hse⟩, ?_⟩⟩) fun c => absurd e c;unfold Sp.psW;rw [hm];exact h
   ·have e3 : Sp.markE qs.xs ps.xs all sh.xs = 2 := by unfold Sp.markE; rw [if_pos e, if_neg e2]
    rw [if_neg (by omega), if_neg (by omega), e3] at h;exact vifd (fun _ => vifd (fun c => h) fun c => by omega) fun c => absurd e c
  ·have e3 : Sp.markE qs.xs ps.xs all sh.xs = Sp.askE qs.xs ps.xs all sh.xs := by unfold Sp.markE; rw [if_neg e]
   rw [if_neg (by omega), if_neg (by omega), e3] at h;exact vifd (fun c => absurd c e) fun _ => vifn (fun _ => h) fun c => absurd c e
noncomputable def Xme : PC Try.prog := ⟨19, Xce, [(false, [.row 3 Jc]), (false, [.bool]), (false, [.int .i64])], fun _ => True, Xde, Xou⟩
theorem Xot : PureOk Try.prog 23 Xcd [(false, [.int .i64]), (false, [.int .i64])] (fun _ => True) Xdd :=
 Xnm fun W qs ps all sh hp Q h => by
  unfold Xdq;simp only [Xdd, Sp.ocA] at h;refine vifd (fun e => ?_) fun e => vifn (fun _ => ?_) fun c => absurd c e
  ·obtain ⟨hk, hs⟩ := Sp.askE_ok e;rw [if_pos e, e] at h;rw [Sp.ocV_bits hk hs];exact ⟨⟨hk, hs.se hk, hs.seven⟩, trivial, h⟩
  ·rw [if_neg e] at h; exact h
noncomputable def Xmd : PC Try.prog := ⟨23, Xcd, [(false, [.int .i64]), (false, [.int .i64])], fun _ => True, Xdd, Xot⟩
open Go.RowKit
set_option maxRecDepth 100000
set_option maxHeartbeats 1600000
namespace Sp
def xorB (k ix : Int) : Int := xorI .i64 k ((1 : Int) * 2 ^ min ix.toNat 64)
def dcB (qs ps : Dt) (all : Int) (sh u : Dt) (ix : Int) (k : Nat) : Bool := !(psW qs ps all sh u k == psW qs ps all sh u (xorB k ix))
theorem xor7 : ∀ k : Fin 128, ∀ i : Fin 7, xorI .i64 (k.val : Int) ((1 : Int) * 2 ^ min ((i.val : Nat) : Int).toNat 64) = ((if k.val / 2 ^ i.val % 2 = 0 then k.val + 2 ^ i.val else k.val - 2 ^ i.val : Nat) : Int) := by decide +kernel
def flip (k i : Nat) : Nat := if k / 2 ^ i % 2 = 0 then k + 2 ^ i else k - 2 ^ i
theorem xor_of {k i : Nat} (hk : k < 128) (hi : i < 7) : xorB (k : Int) (i : Int) = (flip k i : Nat) := xor7 ⟨k, hk⟩ ⟨i, hi⟩
theorem xor_ge {k ix : Int} (h0 : 0 <= k) (h1 : k < 128) (h2 : 0 <= ix) (h3 : ix < 7) : 0 <= xorB k ix := by
 have := xor_of (k := k.toNat) (i := ix.toNat) (by omega) (by omega);rw [Int.toNat_of_nonneg h0, Int.toNat_of_nonneg h2] at this;rw [this]; omega
end Sp
def Xew [InW] (e : List Ed) (K : Nat -> List Ed -> Prop) : Prop := match e with
 | [.i n, .i i, .ro _ qs, .ro _ ps, .i all, .ro _ sh, .l u, .i ix, .b so, .b al] => Pre (0 <= i /\ i <= n /\ n <= 128 /\ Sp.KeyOk qs.xs ps.xs all /\ Sp.SeOk qs.xs sh.xs u /\ 0 <= ix /\ ix < 7) (K 0 [.ro _ qs, .ro _ ps, .i all, .ro _ sh, .l u, .i ix, .b (so || Sp.anyF (Sp.dcB qs.xs ps.xs all sh.xs u ix) i.toNat (n - i).toNat), .b (al && Sp.allF (Sp.dcB qs.xs ps.xs all sh.xs u ix) i.toNat (n - i).toNat)])
 | _ => False
noncomputable def Xgj : LC where
 len := 18
 T := [(0, (.yl 1)), (1, (.ptr 10 0)), (9, .int .i64), (10, .int .i64)]
 H := [(1, .lp LPth [(.opq 1501), (.opq 1504), (.opq 1507), (.opq 1510), (.ptr 13 0), (.ptr 16 0), (.ptr 19 0), (.opq 318), (.opq 321), (.opq 1528), (.opq 327), (.opq 330), (.opq 333), (.opq 336), (.opq 339), (.opq 342), (.opq 345), (.opq 348), (.opq 351), (.opq 354), (.opq 357), (.opq 360), (.opq 1567), (.opq 1570)]), (10, .blk 85 [(.ptr 4 0)]), (4, .blk 89 [.rs Iv5, .rs Jc, .int .i64, .rs Jb, (.row 7)]), (7, .arr 44 Ja), (13, .blk 84 [(.fn (.func 66) [] [(.ptr 25 0), (.ptr 22 0)])]), (25, .blk 85 [(.ptr 4 0)]), (22, .blk 3 [.int .i64]), (16, .blk 4 [.bool]), (19, .blk 4 [.bool])]
 W := ([3] ++ rg 11 7)
 outs := [⟨.exit 0, [], [(1, .lp LPth [(.opq 1501), (.opq 1504), (.opq 1507), (.opq 1510), (.ptr 13 0), (.ptr 16 0), (.ptr 19 0), (.opq 618), (.opq 621), (.opq 1528), (.opq 627), (.opq 630), (.opq 633), (.opq 636), (.opq 639), (.opq 642), (.opq 645), (.opq 648), (.opq 651), (.opq 654), (.opq 657), (.opq 660), (.opq 1567), (.opq 1570)]), (618, .dead), (621, .dead), (627, .dead), (630, .dead), (633, .dead), (636, .dead), (639, .dead), (642, .dead), (645, .dead), (648, .dead), (651, .dead), (654, .dead), (657, .dead), (660, .dead), (10, .blk 85 [(.ptr 4 0)]), (4, .blk 89 [.rs Iv5, .rs Jc, .int .i64, .rs Jb, (.row 7)]), (7, .arr 44 Ja), (13, .blk 84 [(.fn (.func 66) [] [(.ptr 25 0), (.ptr 22 0)])]), (25, .blk 85 [(.ptr 4 0)]), (22, .blk 3 [.int .i64]), (16, .blk 4 [.bool]), (19, .blk 4 [.bool])], ([0, 1, 3] ++ rg 9 9)⟩]
 spec := Xew
def Xd1 [W : InW] (n i : Int) (qs : Ro Iv5) (ps : Ro Jc) (all : Int) (sh : Ro Jb) (u : Dt) (ix : Int) (so al : Bool) (A : List Ed -> Prop) (K : Nat -> List Ed -> Prop) : Prop :=
 Vif (decide (i < n)) (Pre (0 <= i /\ Sp.KeyOk qs.xs ps.xs all /\ Sp.SeOk qs.xs sh.xs u) (Need (decide (0 <= ix)) (Ar .i64 ((1 : Int) * 2 ^ min ix.toNat (64 : Nat)) fun z => Pre ((0 : Int) <= xorI IntKind.i64 i z /\ Sp.KeyOk qs.xs ps.xs all /\ Sp.SeOk qs.xs sh.xs u) (Vif so (Vif al (Ar .i64 (i + 1) fun z_1 => PreL LPth LPth (A [.i n, .i z_1, .ro _ qs, .ro _ ps, .i all, .ro Zek sh, .l u, .i ix, .b true, .b !Sp.psW qs.xs ps.xs all sh.xs u i == Sp.psW qs.xs ps.xs all sh.xs u (xorI IntKind.i64 i z)])) (Ar .i64 (i + 1) fun z => PreL LPth LPth (A [.i n, .i z, .ro _ qs, .ro _ ps, .i all, .ro Zek sh, .l u, .i ix, .b true, .b false]))) (Vif al (Ar .i64 (i + 1) fun z_1 => PreL LPth LPth (A [.i n, .i z_1, .ro _ qs, .ro _ ps, .i all, .ro Zek sh, .l u, .i ix, .b !Sp.psW qs.xs ps.xs all sh.xs u i == Sp.psW qs.xs ps.xs all sh.xs u (xorI IntKind.i64 i z), .b !Sp.psW qs.xs ps.xs all sh.xs u i == Sp.psW qs.xs ps.xs all sh.xs u (xorI IntKind.i64 i z)])) (Ar .i64 (i + 1) fun z_1 => PreL LPth LPth (A [.i n, .i z_1, .ro _ qs, .ro _ ps, .i all, .ro Zek sh, .l u, .i ix, .b !Sp.psW qs.xs ps.xs all sh.xs u i == Sp.psW qs.xs ps.xs all sh.xs u (xorI IntKind.i64 i z), .b false]))))))) (PreL LPth LPth (K 0 [.ro _ qs, .ro _ ps, .i all, .ro Zek sh, .l u, .i ix, .b so, .b al]))
theorem Xk7 (W : InW) (n i qs ps all sh u ix so al A K) : Yfc { cxT Try.prog TT T60 1000 50 with fn := 83 } 1000 (Yn7 Try.prog 83 2) (Yd6 18 [(0, .yl 1), (1, .ptr 10 0), (9, .si .i64 n), (10, .si .i64 i)] ([3] ++ rg 11 7)) [(1, .lp LPth [.opq 1501, .opq 1504, .opq 1507, .opq 1510, .ptr 13 0, .ptr 16 0, .ptr 19 0, .opq 318, .opq 321, .opq 1528, .opq 327, .opq 330, .opq 333, .opq 336, .opq 339, .opq 342, .opq 345, .opq 348, .opq 351, .opq 354, .opq 357, .opq 360, .opq 1567, .opq 1570]), (10, .blk 85 [.ptr 4 0]), (4, .blk 89 [.rs _ qs, .rs _ ps, .si .i64 all, .rs _ sh, .rw 7]), (7, .arr 44 Ja u), (13, .blk 84 [.fn (.func 66) [] [.ptr 25 0, .ptr 22 0]]), (25, .blk 85 [.ptr 4 0]), (22, .blk 3 [.si .i64 ix]), (16, .blk 4 [.sb so]), (19, .blk 4 [.sb al])] (Yug Xgj A K) = Xd1 n i qs ps all sh u ix so al A K := by kernel_rfl
def Xfu : Prop := ∀ (W : InW) (body a : Code), (Try.prog.funcs[83]?).bind (·.body) = some body -> a ∈ Yy body -> Yfx a = 2 -> @Ymq W Try.prog a (@Yto W Xgj)
theorem Xmq (meas : [InW] -> List Ed -> Nat) (hyp_ : ∀ (W : InW) n i qs ps all sh u ix so al K, Xew [.i n, .i i, .ro _ qs, .ro _ ps, .i all, .ro _ sh, .l u, .i ix, .b so, .b al] K -> ∀ A : List Ed -> Prop, (∀ e, meas e < meas [.i n, .i i, .ro _ qs, .ro _ ps, .i all, .ro _ sh, .l u, .i ix, .b so, .b al] -> Xew e K -> A e) -> Xd1 n i qs ps all sh u ix so al A K) : Xfu :=
 LE.okOf' (fun W => @TT W) (fun W => @Xe W) Xa T60 1000 50 (by kernel_rfl) Xgj (fun W => @meas W) fun W n i qs ps all sh u ix so al K hs =>
  (Xk7 W n i qs ps all sh u ix so al (fun e => meas e < meas [.i n, .i i, .ro _ qs, .ro _ ps, .i all, .ro _ sh, .l u, .i ix, .b so, .b al] /\ Xew e K) K).mpr (hyp_ W n i qs ps all sh u ix so al K hs _ fun e h1 h2 => ⟨h1, h2⟩)
theorem Xpi : Xfu := Xmq (fun e => match e with | .i n :: .i i :: _ => (n - i).toNat | _ => 0) fun W n i qs ps all sh u ix so al K hs A hA => by
 obtain ⟨⟨h0, h1, h2, hkey, hse, h3, h4⟩, hk⟩ := hs;unfold Xd1;delta Zek;have ez : (i + 1).toNat = i.toNat + 1 := by omega
 have ei : ((i.toNat : Nat) : Int) = i := Int.toNat_of_nonneg h0
 by_cases hi : i < n
 ·have hx := Sp.xor_ge (k := i) (ix := ix) h0 (by omega) h3 h4;obtain ⟨p1, p2, p3⟩ := Xo (n := ix.toNat) (by omega);rw [Int.toNat_of_nonneg h3] at p1;rw [show (n - i).toNat = (n - (i + 1)).toNat + 1 by omega] at hk;have hA' : ∀ c d, c = (so || !(Sp.psW qs.xs ps.xs all sh.xs u i == Sp.psW qs.xs ps.xs all sh.xs u (Sp.xorB i ix))) -> d = (al && !(Sp.psW qs.xs ps.xs all sh.xs u i == Sp.psW qs.xs ps.xs all sh.xs u (Sp.xorB i ix))) -> A [.i n, .i (i + 1), .ro _ qs, .ro _ ps, .i all, .ro _ sh, .l u, .i ix, .b c, .b d] := fun c d hc hd => hA _ (show (n - (i + 1)).toNat < (n - i).toNat by omega) ⟨⟨by omega, by omega, h2, hkey, hse, h3, h4⟩, by
   simp only [Sp.anyF, Sp.allF, Sp.dcB, ei] at hk;rw [ez, hc, hd, Bool.or_assoc, Bool.and_assoc];exact hk⟩
  clear hA hk;unfold Sp.xorB at hA' hx;rw [p1] at hA' hx ⊢;have p4 : 1 <= ((2 ^ ix.toNat : Nat) : Int) /\ ((2 ^ ix.toNat : Nat) : Int) <= 128 := by omega
  generalize ((2 ^ ix.toNat : Nat) : Int) = z at *
  repeat' (first | (with_reducible refine Xb ⟨h0, hkey, hse⟩ ?_) | (with_reducible refine Xb ⟨hx, hkey, hse⟩ ?_) | omega | intro _ | with_reducible first | apply vifd | apply vifn | apply vifq | apply Xd | apply Xc | apply vifb | apply vif | apply nedd | apply ned2 | apply ned | apply ar64 | apply Xb | exact True.intro | assumption | rfl | apply And.intro)
  all_goals first | contradiction | (refine ⟨rfl, ?_⟩; refine hA' _ _ ?_ ?_ <;> simp [*]; done) | skip
 ·rw [show (n - i).toNat = 0 by omega] at hk;simp only [Sp.allF, Sp.anyF, Bool.and_true, Bool.or_false] at hk;clear hA
  repeat' (first | omega | intro _ | with_reducible first | apply vifd | apply vifn | apply vifq | apply Xd | apply Xc | apply vifb | apply vif | apply nedd | apply ned2 | apply ned | apply ar64 | apply Xb | exact True.intro | assumption | rfl | apply And.intro)
  all_goals exact ⟨rfl, hk⟩
noncomputable def Xqb : LE Try.prog := ⟨83, 2, fun W => @Yto W Xgj, Xpi⟩
noncomputable def T63 : Tab Try.prog := ⟨[], [Xqb], []⟩
def Xhd [InW] (e : List Ed) (K : Nat -> List Ed -> Prop) : Prop := match e with
 | [.ro _ qs, .ro _ ps, .i all, .ro _ sh, .l u, .i ix] => Pre (Sp.KeyOk qs.xs ps.xs all /\ Sp.SeOk qs.xs sh.xs u /\ u.length <= 7 /\ 0 <= ix /\ ix < 7) (K 0 [.b (Sp.anyF (Sp.dcB qs.xs ps.xs all sh.xs u ix) 0 (2 ^ u.length)), .b (Sp.allF (Sp.dcB qs.xs ps.xs all sh.xs u ix) 0 (2 ^ u.length)), .ro _ qs, .ro _ ps, .i all, .ro _ sh, .l u, .i ix])
 | _ => False
noncomputable def Xl : CC where
 g := 60
 args := [(.fn (.func 83) [] [(.ptr 10 0)]), (.fn (.func 66) [] [(.ptr 25 0), (.ptr 22 0)])]
 H := [(10, .blk 85 [(.ptr 4 0)]), (4, .blk 89 [.rs Iv5, .rs Jc, .int .i64, .rs Jb, (.row 7)]), (7, .arr 44 Ja), (25, .blk 85 [(.ptr 4 0)]), (22, .blk 3 [.int .i64])]
 outs := [⟨false, .tup [.bool, .bool], [(10, .blk 85 [(.ptr 4 0)]), (4, .blk 89 [.rs Iv5, .rs Jc, .int .i64, .rs Jb, (.row 7)]), (7, .arr 44 Ja), (25, .blk 85 [(.ptr 4 0)]), (22, .blk 3 [.int .i64])], false⟩]
 spec := Xhd
def Xct [W : InW] (qs : Ro Iv5) (ps : Ro Jc) (all : Int) (sh : Ro Jb) (u : Dt) (ix : Int) (K : Nat -> List Ed -> Prop) : Prop :=
 Need (decide ((0 : Int) <= (↑(u.length) : Int))) (Ar .i64 ((1 : Int) * 2 ^ min (↑(u.length) : Int).toNat (64 : Nat)) fun z => PreL LPth LPth (Pre ((0 : Int) <= 0 /\ 0 <= z /\ z <= 128 /\ Sp.KeyOk qs.xs ps.xs all /\ Sp.SeOk qs.xs sh.xs u /\ 0 <= ix /\ ix < 7) (K 0 [.b (false || Sp.anyF (Sp.dcB qs.xs ps.xs all sh.xs u ix) Za (z - 0).toNat), .b (true && Sp.allF (Sp.dcB qs.xs ps.xs all sh.xs u ix) Za (z - 0).toNat), .ro _ qs, .ro _ ps, .i all, .ro Zek sh, .l u, .i ix])))
theorem Xi4 (W : InW) (qs ps all sh u ix K) : Ywo (cxT Try.prog TT T63 1000 50) 1000 60 [.fn (.func 83) [] [.ptr 10 0], .fn (.func 66) [] [.ptr 25 0, .ptr 22 0]] [(10, .blk 85 [.ptr 4 0]), (4, .blk 89 [.rs _ qs, .rs _ ps, .si .i64 all, .rs _ sh, .rw 7]), (7, .arr 44 Ja u), (25, .blk 85 [.ptr 4 0]), (22, .blk 3 [.si .i64 ix])] (fun v h => outC Xl.H [.ro _ qs, .ro _ ps, .i all, .ro _ sh, .l u, .i ix] Xl.outs 0 false v h K) (fun v h => outC Xl.H [.ro _ qs, .ro _ ps, .i all, .ro _ sh, .l u, .i ix] Xl.outs 0 true v h K) = Xct qs ps all sh u ix K := by kernel_rfl
theorem Xjz (hyp_ : ∀ (W : InW) qs ps all sh u ix K, Xhd [.ro _ qs, .ro _ ps, .i all, .ro _ sh, .l u, .i ix] K -> Xct qs ps all sh u ix K) : ∀ W : InW, @CallC W Try.prog Xl :=
 CC.okOf (fun W => @TT W) (fun W => @Xe W) Xa T63 1000 50 Xl fun W qs ps all sh u ix K hs => (Xi4 W qs ps all sh u ix K).mpr (hyp_ W qs ps all sh u ix K hs)
theorem Xnw : ∀ W : InW, @CallC W Try.prog Xl := Xjz fun W qs ps all sh u ix K hs => by
 obtain ⟨⟨hkey, hse, h7, h3, h4⟩, hk⟩ := hs;unfold Xct;delta Za Zek Zb;obtain ⟨p1, p2, p3⟩ := Xo h7;rw [p1];simp only [show Int.toNat 0 = 0 from rfl, Int.sub_zero, Bool.true_and, Bool.false_or];refine nedd (by omega) (ar64 (by omega) ⟨rfl, ⟨by omega, by omega, by omega, hkey, hse, h3, h4⟩, ?_⟩);rw [Int.toNat_natCast];exact hk
namespace Sp
def dcW (qs ps : Dt) (all : Int) (sh u : Dt) : Nat -> Nat -> Dt
 | _, 0 => []
 | i, n + 1 => (if anyF (dcB qs ps all sh u i) 0 (2 ^ u.length) = true then [[.i (cA u i), .i (cB u i)]] else []) ++ dcW qs ps all sh u (i + 1) n
end Sp
noncomputable def T64 : Tab Try.prog := ⟨[], [], [ceOf Xl Xnw]⟩
def Xe7 [InW] (e : List Ed) (K : Nat -> List Ed -> Prop) : Prop := match e with
 | [.i n, .i i, .ro _ qs, .ro _ ps, .i all, .ro _ sh, .l u, .l l] => Pre (n = u.length /\ 0 <= i /\ i <= u.length /\ Sp.KeyOk qs.xs ps.xs all /\ Sp.SeOk qs.xs sh.xs u /\ u.length <= 7 /\ l.length <= i) (K 0 [.l (l ++ Sp.dcW qs.xs ps.xs all sh.xs u i.toNat (u.length - i.toNat))])
 | _ => False
noncomputable def Xgu : LC where
 len := 46
 T := [(4, (.row 3)), (6, (.ptr 25 0)), (24, (.row 7)), (25, .int .i64), (26, .int .i64)]
 H := [(25, .blk 85 [(.ptr 4 0)]), (4, .blk 89 [.rs Iv5, .rs Jc, .int .i64, .rs Jb, (.row 7)]), (7, .arr 44 Ja), (3, .arr 44 Ja)]
 W := (rg 7 5 ++ rg 27 18)
 outs := [⟨.exit 0, [(4, (.row 6))], [(6, .arr 44 Ja)], (rg 6 6 ++ rg 24 21)⟩]
 spec := Xe7
def Xec [W : InW] (n i : Int) (qs : Ro Iv5) (ps : Ro Jc) (all : Int) (sh : Ro Jb) (u l : Dt) (A : List Ed -> Prop) (K : Nat -> List Ed -> Prop) : Prop :=
 Vif (decide (i < n)) (Need (decide (0 <= i) && decide (i < (↑(u.length) : Int))) (Need (decide (i.toNat < u.length)) (Pre (Sp.KeyOk qs.xs ps.xs all /\ Sp.SeOk qs.xs sh.xs u /\ u.length <= 7 /\ 0 <= i /\ i < 7) (Vif (Sp.anyF (Sp.dcB qs.xs ps.xs all sh.xs u i) Zd ((2 : Nat) ^ u.length)) (Need (decide ((l.length + [[Cl.i (cel u i.toNat Zd).int, Cl.i (cel u i.toNat (0+1)).int]].length) * 16 <= 140737488355328)) (Ar .i64 (i + 1) fun z => A [.i n, .i z, .ro _ qs, .ro _ ps, .i all, .ro Zek sh, .l u, .l (l ++ [[Cl.i (cel u i.toNat Zd).int, Cl.i (cel u i.toNat (0+1)).int]])])) (Ar .i64 (i + 1) fun z => A [.i n, .i z, .ro _ qs, .ro _ ps, .i all, .ro Zek sh, .l u, .l l]))))) (K 0 [.l l])
theorem Xli (W : InW) (n i qs ps all sh u l A K) : Yfc { cxT Try.prog TT T64 1000 50 with fn := 27 } 1000 (Yn7 Try.prog 27 6) (Yd6 46 [(4, .rw 3), (6, .ptr 25 0), (24, .rw 7), (25, .si .i64 n), (26, .si .i64 i)] (rg 7 5 ++ rg 27 18)) [(25, .blk 85 [.ptr 4 0]), (4, .blk 89 [.rs _ qs, .rs _ ps, .si .i64 all, .rs _ sh, .rw 7]), (7, .arr 44 Ja u), (3, .arr 44 Ja l)] (Yug Xgu A K) = Xec n i qs ps all sh u l A K := by kernel_rfl
def Xf5 : Prop := ∀ (W : InW) (body a : Code), (Try.prog.funcs[27]?).bind (·.body) = some body -> a ∈ Yy body -> Yfx a = 6 -> @Ymq W Try.prog a (@Yto W Xgu)
theorem Xm1 (meas : [InW] -> List Ed -> Nat) (hyp_ : ∀ (W : InW) n i qs ps all sh u l K, Xe7 [.i n, .i i, .ro _ qs, .ro _ ps, .i all, .ro _ sh, .l u, .l l] K -> ∀ A : List Ed -> Prop, (∀ e, meas e < meas [.i n, .i i, .ro _ qs, .ro _ ps, .i all, .ro _ sh, .l u, .l l] -> Xe7 e K -> A e) -> Xec n i qs ps all sh u l A K) : Xf5 :=
 LE.okOf' (fun W => @TT W) (fun W => @Xe W) Xa T64 1000 50 (by kernel_rfl) Xgu (fun W => @meas W) fun W n i qs ps all sh u l K hs =>
  (Xli W n i qs ps all sh u l (fun e => meas e < meas [.i n, .i i, .ro _ qs, .ro _ ps, .i all, .ro _ sh, .l u, .l l] /\ Xe7 e K) K).mpr (hyp_ W n i qs ps all sh u l K hs _ fun e h1 h2 => ⟨h1, h2⟩)
theorem Xpt : Xf5 := Xm1 (fun e => match e with | .i n :: .i i :: _ => (n - i).toNat | _ => 0) fun W n i qs ps all sh u l K hs A hA => by
 obtain ⟨⟨rfl, h0, h1, hkey, hse, h7, hl⟩, hk⟩ := hs;unfold Xec;delta Zek Zd;simp only [List.length_cons, List.length_nil, Nat.zero_add, show ∀ k, (cel u k 0).int = Sp.cA u k from fun _ => rfl, show ∀ k, (cel u k 1).int = Sp.cB u k from fun _ => rfl];have ez : (i + 1).toNat = i.toNat + 1 := by omega
 have ei : ((i.toNat : Nat) : Int) = i := Int.toNat_of_nonneg h0
 by_cases hi : i < u.length
 ·rw [show u.length - i.toNat = (u.length - (i.toNat + 1)) + 1 by omega] at hk;simp only [Sp.dcW, ei] at hk;cases c : Sp.anyF (Sp.dcB qs.xs ps.xs all sh.xs u i) 0 (2 ^ u.length) with
  | true =>
   rw [c, if_pos rfl, <- List.append_assoc] at hk;have hA' := hA [.i u.length, .i (i + 1), .ro _ qs, .ro _ ps, .i all, .ro _ sh, .l u, .l (l ++ [[.i (Sp.cA u i.toNat), .i (Sp.cB u i.toNat)]])] (show ((u.length : Int) - (i + 1)).toNat < ((u.length : Int) - i).toNat by omega) ⟨⟨rfl, by omega, by omega, hkey, hse, h7, by simp; omega⟩, by rw [ez]; exact hk⟩;clear hA hk
   repeat' (first | (with_reducible refine Xb ⟨hkey, hse, h7, h0, by omega⟩ ?_) | omega | intro _ | with_reducible first | apply vifd | apply vifn | apply vifq | apply Xd | apply Xc | apply vifb | apply vif | apply nedd | apply ned2 | apply ned | apply ar64 | apply Xb | exact True.intro | assumption | rfl | apply And.intro)
   all_goals first | contradiction | exact hA' | skip
  | false =>
   rw [c, if_neg (by decide), List.nil_append] at hk;have hA' := hA [.i u.length, .i (i + 1), .ro _ qs, .ro _ ps, .i all, .ro _ sh, .l u, .l l] (show ((u.length : Int) - (i + 1)).toNat < ((u.length : Int) - i).toNat by omega) ⟨⟨rfl, by omega, by omega, hkey, hse, h7, by omega⟩, by rw [ez]; exact hk⟩;clear hA hk
   repeat' (first | (with_reducible refine Xb ⟨hkey, hse, h7, h0, by omega⟩ ?_) | omega | intro _ | with_reducible first | apply vifd | apply vifn | apply vifq | apply Xd | apply Xc | apply vifb | apply vif | apply nedd | apply ned2 | apply ned | apply ar64 | apply Xb | exact True.intro | assumption | rfl | apply And.intro)
   all_goals first | contradiction | exact hA' | skip
 ·rw [show u.length - i.toNat = 0 by omega] at hk;simp only [Sp.dcW, List.append_nil] at hk;clear hA
  repeat' (first | omega | intro _ | with_reducible first | apply vifd | apply vifn | apply vifq | apply Xd | apply Xc | apply vifb | apply vif | apply nedd | apply ned2 | apply ned | apply ar64 | apply Xb | exact True.intro | assumption | rfl | apply And.intro)
  all_goals exact hk
noncomputable def Xqm : LE Try.prog := ⟨27, 6, fun W => @Yto W Xgu, Xpt⟩
noncomputable def T65 : Tab Try.prog := ⟨[], [Xqm], [ceOf Xh Xbi]⟩
def Xdt [W : InW] (k_Qs : Ro Iv5) (k_Ps : Ro Jc) (k_All : Int) (sh : Ro Jb) (Q : DS -> Prop) : Prop :=
 Vif (decide (Sp.askE k_Qs.xs k_Ps.xs k_All sh.xs = 0)) (Pre ((↑(List.length (Sp.uns sh.xs)) : Int) = (↑(List.length (Sp.uns sh.xs)) : Int) /\ Zb <= 0 /\ Zb <= (↑(List.length (Sp.uns sh.xs)) : Int) /\ Sp.KeyOk k_Qs.xs k_Ps.xs k_All /\ Sp.SeOk k_Qs.xs sh.xs (Sp.uns sh.xs) /\ List.length (Sp.uns sh.xs) <= 7 /\ (↑(0 : Nat) : Int) <= 0) (Q [[Cl.l (Sp.dcW k_Qs.xs k_Ps.xs k_All sh.xs (Sp.uns sh.xs) (Int.toNat Zb) (List.length (Sp.uns sh.xs) - Int.toNat Zb))], [Cl.i 0]])) (Vif (!decide (Sp.askE k_Qs.xs k_Ps.xs k_All sh.xs = 0)) (Q [[Cl.l []], [Cl.i (Sp.askE k_Qs.xs k_Ps.xs k_All sh.xs)]]) ((16 : Nat) = 16 + 1))
theorem Xl5 (W : InW) (k_Qs k_Ps k_All sh Q) : Ywr (cxT Try.prog TT T65 1000 50) 1000 27 [.agg [.rs _ k_Qs, .rs _ k_Ps, .si .i64 k_All], .rs _ sh] [] 0 (Y01 [(false, [.row 44 Ja]), (false, [.int .i64])] Q) (fun _ _ _ _ => Stuck 421) = Xdt k_Qs k_Ps k_All sh Q := by kernel_rfl
abbrev Xcg : List AT := [.agg [.sl Iv5, .sl Jc, .int .i64], .one (.sl Jb)]
theorem Xnp {pre : DS -> Prop} {res : DS -> DS} (hyp_ : ∀ (W : InW) (k_Qs : Ro Iv5) (k_Ps : Ro Jc) (k_All : Int) (sh : Ro Jb), pre [[.l k_Qs.xs, .l k_Ps.xs, .i k_All], [.l sh.xs]] -> ∀ Q : DS -> Prop, Q (res [[.l k_Qs.xs, .l k_Ps.xs, .i k_All], [.l sh.xs]]) -> Xdt k_Qs k_Ps k_All sh Q) : PureOk Try.prog 27 Xcg [(false, [.row 44 Ja]), (false, [.int .i64])] pre res :=
 PureOk.of' (fun W => @TT W) (fun W => @Xe W) Xa T65 1000 50 fun W k_Qs k_Ps k_All sh hp =>
  (Xl5 W k_Qs k_Ps k_All sh (fun o => o = res [[.l k_Qs.xs, .l k_Ps.xs, .i k_All], [.l sh.xs]])).mpr (hyp_ W k_Qs k_Ps k_All sh hp _ rfl)
open Go.RowKit
set_option maxRecDepth 100000
namespace Sp
theorem withR_map (sh : Dt) (q j : Nat) (v : Int) : ∀ n i, withR sh q j v i n = (List.range' i n).map fun k => [.l (if k = q then (row sh k).set j [.i v] else row sh k)]
 | 0, _ => rfl
 | n + 1, i => by simp only [withR, List.range'_succ, List.map_cons, withR_map sh q j v n (i + 1)]
theorem withD_ext {a b : Dt} {q j q' j' : Nat} {v v' : Int} (hl : a.length = b.length) (h : ∀ k, k < a.length -> (if k = q then (row a k).set j [.i v] else row a k) = (if k = q' then (row b k).set j' [.i v'] else row b k)) : withD a q j v = withD b q' j' v' := by
 unfold withD;rw [withR_map, withR_map, <- hl];refine List.map_congr_left fun k hk => ?_;have := List.mem_range'.1 hk;rw [h k (by omega)]
theorem withD_comm (s : Dt) (p p' : Nat × Nat) (v v' : Int) (hne : p ≠ p') : withD (withD s p.1 p.2 v) p'.1 p'.2 v' = withD (withD s p'.1 p'.2 v') p.1 p.2 v := by
 refine withD_ext (by rw [withD_len, withD_len]) fun k hk => ?_;rw [withD_len] at hk;rw [withD_row _ _ _ _ _ hk, withD_row _ _ _ _ _ hk]
 by_cases c : k = p.1 <;> by_cases c' : k = p'.1
 ·rw [if_pos c, if_pos c', if_pos c', if_pos c];have : p.2 ≠ p'.2 := fun e => hne (Prod.ext (c.symm.trans c') e);exact List.set_comm _ _ this
 ·simp [c, c', if_neg (show ¬ p.1 = p'.1 from fun e => c' (c.trans e))]
 ·simp [c, c', if_neg (show ¬ p'.1 = p.1 from fun e => c (c'.trans e))]
 ·simp [c, c']
theorem withD_same (s : Dt) (q j : Nat) (v v' : Int) : withD (withD s q j v) q j v' = withD s q j v' := by
 refine withD_ext (withD_len _ _ _ _) fun k hk => ?_;rw [withD_len] at hk;rw [withD_row _ _ _ _ _ hk]
 by_cases c : k = q
 ·rw [if_pos c, if_pos c, if_pos c, List.set_set]
 ·rw [if_neg c, if_neg c, if_neg c]
theorem itW_out : ∀ (ps : List (Nat × Nat)) (b : Nat) (s : Dt) (p : Nat × Nat) (v : Int), p ∉ ps -> itW ps b (withD s p.1 p.2 v) = withD (itW ps b s) p.1 p.2 v
 | [], _, _, _, _, _ => rfl
 | p0 :: ps, b, s, p, v, h => by
  have h1 : p ≠ p0 := fun e => h (e ▸ List.mem_cons_self);have h2 : p ∉ ps := fun e => h (List.mem_cons_of_mem _ e);simp only [itW];rw [withD_comm s p p0 v _ h1, itW_out ps (b / 2) _ p v h2]
theorem it_erase : ∀ (us : List (Nat × Nat)) (i b : Nat) (s : Dt) (hi : i < us.length), us.Nodup -> b < 2 ^ us.length -> ∃ b', b' < 2 ^ (us.eraseIdx i).length /\ itW us b s = itW (us.eraseIdx i) b' (withD s us[i].1 us[i].2 ((b / 2 ^ i % 2 : Nat) : Int))
 | [], i, _, _, hi, _, _ => by simp at hi
 | p :: ps, 0, b, s, _, _, hb => by
  rw [List.length_cons, Nat.pow_succ] at hb;refine ⟨b / 2, by simp only [List.eraseIdx_cons_zero]; omega, ?_⟩;simp only [itW, List.eraseIdx_cons_zero, List.getElem_cons_zero, Nat.pow_zero, Nat.div_one]
 | p :: ps, i + 1, b, s, hi, hn, hb => by
  have hn := List.nodup_cons.1 hn;have hi2 : i < ps.length := by simpa using hi
  rw [List.length_cons, Nat.pow_succ] at hb;obtain ⟨c, hc, e⟩ := it_erase ps i (b / 2) (withD s p.1 p.2 ((b % 2 : Nat) : Int)) hi2 hn.2 (by omega);refine ⟨2 * c + b % 2, by simp only [List.eraseIdx_cons_succ, List.length_cons, Nat.pow_succ]; omega, ?_⟩;have hne : ps[i] ≠ p := fun x => hn.1 (x ▸ List.getElem_mem hi2);simp only [itW, List.eraseIdx_cons_succ, List.getElem_cons_succ];rw [e, show (2 * c + b % 2) / 2 = c by omega, show (2 * c + b % 2) % 2 = b % 2 by omega, withD_comm s ps[i] p _ _ hne, Nat.pow_succ, Nat.mul_comm (2 ^ i) 2, <- Nat.div_div_eq_div_mul]
theorem it_insert : ∀ (us : List (Nat × Nat)) (i b' v : Nat) (s : Dt) (hi : i < us.length), us.Nodup -> v < 2 -> b' < 2 ^ (us.eraseIdx i).length -> ∃ b, b < 2 ^ us.length /\ b / 2 ^ i % 2 = v /\ itW us b s = itW (us.eraseIdx i) b' (withD s us[i].1 us[i].2 (v : Int))
 | [], i, _, _, _, hi, _, _, _ => by simp at hi
 | p :: ps, 0, b', v, s, _, _, hv, hb => by
  simp only [List.eraseIdx_cons_zero] at hb;refine ⟨2 * b' + v, by rw [List.length_cons, Nat.pow_succ]; omega, by rw [Nat.pow_zero, Nat.div_one]; omega, ?_⟩;simp only [itW, List.eraseIdx_cons_zero, List.getElem_cons_zero];rw [show (2 * b' + v) / 2 = b' by omega, show (2 * b' + v) % 2 = v by omega]
 | p :: ps, i + 1, b', v, s, hi, hn, hv, hb => by
  have hn := List.nodup_cons.1 hn;have hi2 : i < ps.length := by simpa using hi
  simp only [List.eraseIdx_cons_succ, List.length_cons, Nat.pow_succ] at hb;obtain ⟨c, hc, e1, e2⟩ := it_insert ps i (b' / 2) v (withD s p.1 p.2 ((b' % 2 : Nat) : Int)) hi2 hn.2 hv (by omega);have hne : ps[i] ≠ p := fun x => hn.1 (x ▸ List.getElem_mem hi2);refine ⟨2 * c + b' % 2, by rw [List.length_cons, Nat.pow_succ]; omega, ?_, ?_⟩
  ·rw [Nat.pow_succ, Nat.mul_comm (2 ^ i) 2, <- Nat.div_div_eq_div_mul, show (2 * c + b' % 2) / 2 = c by omega];exact e1
  ·simp only [itW, List.eraseIdx_cons_succ, List.getElem_cons_succ];rw [show (2 * c + b' % 2) / 2 = c by omega, show (2 * c + b' % 2) % 2 = b' % 2 by omega, e2, withD_comm s ps[i] p _ _ hne]
theorem flip_succ (b i : Nat) : flip b (i + 1) / 2 = flip (b / 2) i /\ flip b (i + 1) % 2 = b % 2 := by
 unfold flip;rw [Nat.pow_succ, Nat.mul_comm (2 ^ i) 2, <- Nat.div_div_eq_div_mul];have hx : 1 <= 2 ^ i := Nat.one_le_two_pow;have hle : b / 2 / 2 ^ i % 2 ≠ 0 -> 2 ^ i <= b / 2 := fun h => by
  rcases Nat.lt_or_ge (b / 2) (2 ^ i) with c | c
  ·rw [Nat.div_eq_of_lt c] at h; simp at h
  ·exact c
 generalize 2 ^ i = x at *
 split
 ·omega
 ·rename_i h;have := hle h;omega
theorem it_flip : ∀ (us : List (Nat × Nat)) (i b : Nat) (s : Dt) (hi : i < us.length), us.Nodup -> itW us (flip b i) s = withD (itW us b s) us[i].1 us[i].2 ((1 - b / 2 ^ i % 2 : Nat) : Int)
 | [], i, _, _, hi, _ => by simp at hi
 | p :: ps, 0, b, s, _, hn => by
  have hn := List.nodup_cons.1 hn;have e : flip b 0 / 2 = b / 2 /\ flip b 0 % 2 = 1 - b % 2 := by
   unfold flip;rw [Nat.pow_zero, Nat.div_one]
   split <;> omega
  simp only [itW, List.getElem_cons_zero, Nat.pow_zero, Nat.div_one];rw [e.1, e.2, itW_out ps _ s p _ hn.1, itW_out ps _ s p _ hn.1, withD_same]
 | p :: ps, i + 1, b, s, hi, hn => by
  have hn := List.nodup_cons.1 hn;have hi2 : i < ps.length := by simpa using hi
  obtain ⟨e1, e2⟩ := flip_succ b i;simp only [itW, List.getElem_cons_succ];rw [e1, e2, it_flip ps i (b / 2) _ hi2 hn.2, Nat.pow_succ, Nat.mul_comm (2 ^ i) 2, <- Nat.div_div_eq_div_mul]
theorem filter_erase : ∀ (us : List (Nat × Nat)) (i : Nat) (hi : i < us.length), us.Nodup -> us.filter (fun x => decide (x ≠ us[i])) = us.eraseIdx i
 | [], i, hi, _ => by simp at hi
 | p :: ps, 0, _, hn => by
  have hn := List.nodup_cons.1 hn;simp only [List.getElem_cons_zero, List.eraseIdx_cons_zero];rw [List.filter_cons_of_neg (by simp), filter_ne_tl hn.1]
 | p :: ps, i + 1, hi, hn => by
  have hn := List.nodup_cons.1 hn;have hi2 : i < ps.length := by simpa using hi
  have hne : p ≠ ps[i] := fun x => hn.1 (x ▸ List.getElem_mem hi2);simp only [List.getElem_cons_succ, List.eraseIdx_cons_succ];rw [List.filter_cons_of_pos (by simpa using hne), filter_erase ps i hi2 hn.2]
theorem flip_lt7 : ∀ b : Fin 128, ∀ n : Fin 8, ∀ i : Fin 7, b.val < 2 ^ n.val -> i.val < n.val -> flip b.val i.val < 2 ^ n.val := by decide +kernel
theorem flip_lt {b n i : Nat} (hn : n <= 7) (hb : b < 2 ^ n) (hi : i < n) : flip b i < 2 ^ n :=
 flip_lt7 ⟨b, Nat.lt_of_lt_of_le hb (Nat.le_trans (Nat.pow_le_pow_right (by decide) hn) (by decide))⟩ ⟨n, by omega⟩ ⟨i, by omega⟩ hb hi
theorem dc_any {qs ps sh : Dt} {all : Int} {i : Nat} (hk : KeyOk qs ps all) (hs : ShOk qs sh) (hi : i < (pos sh).length) : anyF (dcB qs ps all sh (uns sh) i) 0 (2 ^ (uns sh).length) = dcV qs ps all sh (pos sh)[i].1 (pos sh)[i].2 := by
 have h7 := hs.seven;rw [uns_len] at h7;have hnd := pos_nd sh;have hps := fun b (hb : b < 2 ^ (pos sh).length) => psW_it (ps := ps) (all := all) hk hs.n h7 hb;have he : pos (withD sh (pos sh)[i].1 (pos sh)[i].2 0) = (pos sh).eraseIdx i := by rw [pos_with (by decide), filter_erase _ _ hi hnd]
 have hd : ∀ b, b < 2 ^ (pos sh).length -> (dcB qs ps all sh (uns sh) i b = true ↔ psS qs ps all (itW (pos sh) b sh) ≠ psS qs ps all (itW (pos sh) (flip b i) sh)) := fun b hb => by
  have h128 : b < 128 := Nat.lt_of_lt_of_le hb (Nat.le_trans (Nat.pow_le_pow_right (by decide) h7) (by decide));unfold dcB;rw [xor_of h128 (by omega), hps b hb, hps _ (flip_lt h7 hb hi)];simp
 refine bool_iff ?_;unfold dcV;rw [anyF_0, uns_len];have hR := any_rds (sh := withD sh (pos sh)[i].1 (pos sh)[i].2 0) fun r => !(psS qs ps all r == psS qs ps all (withD r (pos sh)[i].1 (pos sh)[i].2 1));rw [he] at hR;have hR2 : anyF (dcI qs ps all (rdD (withD sh (pos sh)[i].1 (pos sh)[i].2 0)) (pos sh)[i].1 (pos sh)[i].2) 0 (rdD (withD sh (pos sh)[i].1 (pos sh)[i].2 0)).length = true ↔ _ := anyF_0.trans hR;rw [hR2];simp only [Bool.not_eq_true', beq_eq_false_iff_ne, ne_eq];constructor
 ·rintro ⟨b, hb, h⟩;have h := (hd b hb).1 h;rcases Nat.mod_two_eq_zero_or_one (b / 2 ^ i) with c | c
  ·obtain ⟨b', hb', e⟩ := it_erase _ i b sh hi hnd hb;rw [c] at e;refine ⟨b', hb', fun x => h ?_⟩;rw [it_flip _ i b sh hi hnd, c, e];exact x
  ·have hf := it_flip _ i b sh hi hnd;obtain ⟨b', hb', e⟩ := it_erase _ i (flip b i) sh hi hnd (flip_lt h7 hb hi);have c2 : flip b i / 2 ^ i % 2 = 0 := by
    unfold flip;rw [if_neg (by omega)];have hx : 1 <= 2 ^ i := Nat.one_le_two_pow;have : (b - 2 ^ i) / 2 ^ i = b / 2 ^ i - 1 := by
     have := Nat.sub_mul_div b (2 ^ i) 1;rw [Nat.mul_one] at this;exact this
    rw [this]; omega
   have hb0 := it_flip _ i (flip b i) sh hi hnd;have ff : flip (flip b i) i = b := by
    have h1 : flip b i = b - 2 ^ i := by unfold flip; rw [if_neg (by omega)]
    have hge : 2 ^ i <= b := by
     rcases Nat.lt_or_ge b (2 ^ i) with x | x
     ·rw [Nat.div_eq_of_lt x] at c; simp at c
     ·exact x
    rw [show flip (flip b i) i = flip b i + 2 ^ i from if_pos c2, h1];omega
   rw [ff, c2] at hb0;rw [c2] at e;refine ⟨b', hb', fun x => h ?_⟩;rw [hb0, e];exact x.symm
 ·rintro ⟨b', hb', h⟩;obtain ⟨b, hb, c, e⟩ := it_insert _ i b' 0 sh hi hnd (by decide) hb';refine ⟨b, hb, (hd b hb).2 fun x => h ?_⟩;rw [it_flip _ i b sh hi hnd, c, e] at x;exact x
theorem dcW_L {qs ps sh : Dt} {all : Int} (hk : KeyOk qs ps all) (hs : ShOk qs sh) : ∀ n i, i + n = (uns sh).length -> dcW qs ps all sh (uns sh) i n = dcL qs ps all sh (uns sh) i n
 | 0, _, _ => rfl
 | n + 1, i, hi => by
  have hi2 : i < (pos sh).length := by rw [<- uns_len]; omega
  obtain ⟨c1, c2⟩ := prC_cel (pos sh) i hi2;rw [<- uns_pos] at c1 c2;have c3 : (cel (uns sh) i 0).int = (pos sh)[i].1 := c1;have c4 : (cel (uns sh) i 1).int = (pos sh)[i].2 := c2;simp only [dcW, dcL, c1, c2, c3, c4, Int.toNat_natCast];rw [dc_any hk hs hi2, dcW_L hk hs n (i + 1) (by omega)]
end Sp
theorem Xow : PureOk Try.prog 27 Xcg [(false, [.row 44 Ja]), (false, [.int .i64])] (fun _ => True) Xdf :=
 Xnp fun W qs ps all sh hp Q h => by
  unfold Xdt;delta Zb;simp only [Xdf, Sp.dcA] at h;refine vifd (fun e => ?_) fun e => vifn (fun _ => ?_) fun c => absurd c e
  ·obtain ⟨hk, hs⟩ := Sp.askE_ok e;rw [if_pos e, e] at h;simp only [show Int.toNat 0 = 0 from rfl, Nat.sub_zero];rw [Sp.dcW_L hk hs _ _ (by omega)];exact ⟨⟨trivial, by omega, by omega, hk, hs.se hk, hs.seven, by omega⟩, h⟩
  ·rw [if_neg e] at h; exact h
noncomputable def Xmf : PC Try.prog := ⟨27, Xcg, [(false, [.row 44 Ja]), (false, [.int .i64])], fun _ => True, Xdf, Xow⟩
open Go.RowKit
set_option maxRecDepth 100000
set_option maxHeartbeats 1600000
namespace Sp
def miB (sh u : Dt) (q right : Int) (k : Nat) : Bool := !decide (ansX (rowW sh u q k) = right)
end Sp
noncomputable def T66 : Tab Try.prog := ⟨[], [], [ceOf Xq Xh8]⟩
def Xev [InW] (e : List Ed) (K : Nat -> List Ed -> Prop) : Prop := match e with
 | [.i n, .i i, .ro _ qs, .ro _ ps, .i all, .ro _ sh, .l u, .i q, .i part, .i boxes, .i right, .i pts, .i minus, .b so, .b al] => Pre (0 <= i /\ i <= n /\ n <= 128 /\ Sp.SeOk qs.xs sh.xs u /\ 0 <= q /\ q < sh.xs.length) (K 0 [.ro _ qs, .ro _ ps, .i all, .ro _ sh, .l u, .i q, .i part, .i boxes, .i right, .i pts, .i minus, .b (so || Sp.anyF (Sp.miB sh.xs u q right) i.toNat (n - i).toNat), .b (al && Sp.allF (Sp.miB sh.xs u q right) i.toNat (n - i).toNat)])
 | _ => False
noncomputable def Xgi : LC where
 len := 18
 T := [(0, (.yl 1)), (1, (.ptr 10 0)), (9, .int .i64), (10, .int .i64)]
 H := [(1, .lp LPth [(.opq 1501), (.opq 1504), (.opq 1507), (.opq 1510), (.ptr 13 0), (.ptr 16 0), (.ptr 19 0), (.opq 318), (.opq 321), (.opq 1528), (.opq 327), (.opq 330), (.opq 333), (.opq 336), (.opq 339), (.opq 342), (.opq 345), (.opq 348), (.opq 351), (.opq 354), (.opq 357), (.opq 360), (.opq 1567), (.opq 1570)]), (10, .blk 85 [(.ptr 4 0)]), (4, .blk 89 [.rs Iv5, .rs Jc, .int .i64, .rs Jb, (.row 7)]), (7, .arr 44 Ja), (13, .blk 84 [(.fn (.func 77) [] [(.ptr 25 0), (.ptr 22 0), (.ptr 28 0)])]), (25, .blk 85 [(.ptr 4 0)]), (22, .blk 3 [.int .i64]), (28, .blk 71 [.int .i64, .int .i64, .int .i64, .int .i64, .int .i64]), (16, .blk 4 [.bool]), (19, .blk 4 [.bool])]
 W := ([3] ++ rg 11 7)
 outs := [⟨.exit 0, [], [(1, .lp LPth [(.opq 1501), (.opq 1504), (.opq 1507), (.opq 1510), (.ptr 13 0), (.ptr 16 0), (.ptr 19 0), (.opq 618), (.opq 621), (.opq 1528), (.opq 627), (.opq 630), (.opq 633), (.opq 636), (.opq 639), (.opq 642), (.opq 645), (.opq 648), (.opq 651), (.opq 654), (.opq 657), (.opq 660), (.opq 1567), (.opq 1570)]), (618, .dead), (621, .dead), (627, .dead), (630, .dead), (633, .dead), (636, .dead), (639, .dead), (642, .dead), (645, .dead), (648, .dead), (651, .dead), (654, .dead), (657, .dead), (660, .dead), (10, .blk 85 [(.ptr 4 0)]), (4, .blk 89 [.rs Iv5, .rs Jc, .int .i64, .rs Jb, (.row 7)]), (7, .arr 44 Ja), (13, .blk 84 [(.fn (.func 77) [] [(.ptr 25 0), (.ptr 22 0), (.ptr 28 0)])]), (25, .blk 85 [(.ptr 4 0)]), (22, .blk 3 [.int .i64]), (28, .blk 71 [.int .i64, .int .i64, .int .i64, .int .i64, .int .i64]), (16, .blk 4 [.bool]), (19, .blk 4 [.bool])], ([0, 1, 3] ++ rg 9 9)⟩]
 spec := Xev
def Xd0 [W : InW] (n i : Int) (qs : Ro Iv5) (ps : Ro Jc) (all : Int) (sh : Ro Jb) (u : Dt) (q part boxes right pts minus : Int) (so al : Bool) (A : List Ed -> Prop) (K : Nat -> List Ed -> Prop) : Prop :=
 Vif (decide (i < n)) (Pre (0 <= q /\ q < (↑(sh.xs.length) : Int) /\ 0 <= i /\ Sp.UqOk u q (List.length (Sp.row sh.xs q.toNat))) (Vif so (Vif al (Ar .i64 (i + 1) fun z => PreL LPth LPth (A [.i n, .i z, .ro _ qs, .ro _ ps, .i all, .ro Zek sh, .l u, .i q, .i part, .i boxes, .i right, .i pts, .i minus, .b true, .b !decide (Sp.ansX (Sp.rowW sh.xs u q i) = right)])) (Ar .i64 (i + 1) fun z => PreL LPth LPth (A [.i n, .i z, .ro _ qs, .ro _ ps, .i all, .ro Zek sh, .l u, .i q, .i part, .i boxes, .i right, .i pts, .i minus, .b true, .b false]))) (Vif al (Ar .i64 (i + 1) fun z => PreL LPth LPth (A [.i n, .i z, .ro _ qs, .ro _ ps, .i all, .ro Zek sh, .l u, .i q, .i part, .i boxes, .i right, .i pts, .i minus, .b !decide (Sp.ansX (Sp.rowW sh.xs u q i) = right), .b !decide (Sp.ansX (Sp.rowW sh.xs u q i) = right)])) (Ar .i64 (i + 1) fun z => PreL LPth LPth (A [.i n, .i z, .ro _ qs, .ro _ ps, .i all, .ro Zek sh, .l u, .i q, .i part, .i boxes, .i right, .i pts, .i minus, .b !decide (Sp.ansX (Sp.rowW sh.xs u q i) = right), .b false]))))) (PreL LPth LPth (K 0 [.ro _ qs, .ro _ ps, .i all, .ro Zek sh, .l u, .i q, .i part, .i boxes, .i right, .i pts, .i minus, .b so, .b al]))
theorem Xk6 (W : InW) (n i qs ps all sh u q part boxes right pts minus so al A K) : Yfc { cxT Try.prog TT T66 1000 50 with fn := 83 } 1000 (Yn7 Try.prog 83 2) (Yd6 18 [(0, .yl 1), (1, .ptr 10 0), (9, .si .i64 n), (10, .si .i64 i)] ([3] ++ rg 11 7)) [(1, .lp LPth [.opq 1501, .opq 1504, .opq 1507, .opq 1510, .ptr 13 0, .ptr 16 0, .ptr 19 0, .opq 318, .opq 321, .opq 1528, .opq 327, .opq 330, .opq 333, .opq 336, .opq 339, .opq 342, .opq 345, .opq 348, .opq 351, .opq 354, .opq 357, .opq 360, .opq 1567, .opq 1570]), (10, .blk 85 [.ptr 4 0]), (4, .blk 89 [.rs _ qs, .rs _ ps, .si .i64 all, .rs _ sh, .rw 7]), (7, .arr 44 Ja u), (13, .blk 84 [.fn (.func 77) [] [.ptr 25 0, .ptr 22 0, .ptr 28 0]]), (25, .blk 85 [.ptr 4 0]), (22, .blk 3 [.si .i64 q]), (28, .blk 71 [.si .i64 part, .si .i64 boxes, .si .i64 right, .si .i64 pts, .si .i64 minus]), (16, .blk 4 [.sb so]), (19, .blk 4 [.sb al])] (Yug Xgi A K) = Xd0 n i qs ps all sh u q part boxes right pts minus so al A K := by kernel_rfl
def Xft : Prop := ∀ (W : InW) (body a : Code), (Try.prog.funcs[83]?).bind (·.body) = some body -> a ∈ Yy body -> Yfx a = 2 -> @Ymq W Try.prog a (@Yto W Xgi)
theorem Xmp (meas : [InW] -> List Ed -> Nat) (hyp_ : ∀ (W : InW) n i qs ps all sh u q part boxes right pts minus so al K, Xev [.i n, .i i, .ro _ qs, .ro _ ps, .i all, .ro _ sh, .l u, .i q, .i part, .i boxes, .i right, .i pts, .i minus, .b so, .b al] K -> ∀ A : List Ed -> Prop, (∀ e, meas e < meas [.i n, .i i, .ro _ qs, .ro _ ps, .i all, .ro _ sh, .l u, .i q, .i part, .i boxes, .i right, .i pts, .i minus, .b so, .b al] -> Xev e K -> A e) -> Xd0 n i qs ps all sh u q part boxes right pts minus so al A K) : Xft :=
 LE.okOf' (fun W => @TT W) (fun W => @Xe W) Xa T66 1000 50 (by kernel_rfl) Xgi (fun W => @meas W) fun W n i qs ps all sh u q part boxes right pts minus so al K hs =>
  (Xk6 W n i qs ps all sh u q part boxes right pts minus so al (fun e => meas e < meas [.i n, .i i, .ro _ qs, .ro _ ps, .i all, .ro _ sh, .l u, .i q, .i part, .i boxes, .i right, .i pts, .i minus, .b so, .b al] /\ Xev e K) K).mpr (hyp_ W n i qs ps all sh u q part boxes right pts minus so al K hs _ fun e h1 h2 => ⟨h1, h2⟩)
theorem Xph : Xft := Xmp (fun e => match e with | .i n :: .i i :: _ => (n - i).toNat | _ => 0) fun W n i qs ps all sh u q part boxes right pts minus so al K hs A hA => by
 obtain ⟨⟨h0, h1, h2, hse, h3, h4⟩, hk⟩ := hs;unfold Xd0;delta Zek;have ez : (i + 1).toNat = i.toNat + 1 := by omega
 have ei : ((i.toNat : Nat) : Int) = i := Int.toNat_of_nonneg h0
 by_cases hi : i < n
 ·have huq := hse.uq q.toNat (by omega);rw [Int.toNat_of_nonneg h3] at huq;rw [show (n - i).toNat = (n - (i + 1)).toNat + 1 by omega] at hk;have hA' : ∀ c d, c = (so || !decide (Sp.ansX (Sp.rowW sh.xs u q i) = right)) -> d = (al && !decide (Sp.ansX (Sp.rowW sh.xs u q i) = right)) -> A [.i n, .i (i + 1), .ro _ qs, .ro _ ps, .i all, .ro _ sh, .l u, .i q, .i part, .i boxes, .i right, .i pts, .i minus, .b c, .b d] := fun c d hc hd => hA _ (show (n - (i + 1)).toNat < (n - i).toNat by omega) ⟨⟨by omega, by omega, h2, hse, h3, h4⟩, by
   simp only [Sp.anyF, Sp.allF, Sp.miB, ei] at hk;rw [ez, hc, hd, Bool.or_assoc, Bool.and_assoc];exact hk⟩
  clear hA hk
  repeat' (first | (with_reducible refine Xb ⟨h3, h4, h0, huq⟩ ?_) | omega | intro _ | with_reducible first | apply vifd | apply vifn | apply vifq | apply Xd | apply Xc | apply vifb | apply vif | apply nedd | apply ned2 | apply ned | apply ar64 | apply Xb | exact True.intro | assumption | rfl | apply And.intro)
  all_goals first | contradiction | (refine ⟨rfl, ?_⟩; refine hA' _ _ ?_ ?_ <;> simp [*]; done) | skip
 ·rw [show (n - i).toNat = 0 by omega] at hk;simp only [Sp.allF, Sp.anyF, Bool.and_true, Bool.or_false] at hk;clear hA
  repeat' (first | omega | intro _ | with_reducible first | apply vifd | apply vifn | apply vifq | apply Xd | apply Xc | apply vifb | apply vif | apply nedd | apply ned2 | apply ned | apply ar64 | apply Xb | exact True.intro | assumption | rfl | apply And.intro)
  all_goals exact ⟨rfl, hk⟩
noncomputable def Xqa : LE Try.prog := ⟨83, 2, fun W => @Yto W Xgi, Xph⟩
noncomputable def T67 : Tab Try.prog := ⟨[], [Xqa], []⟩
def Xhc [InW] (e : List Ed) (K : Nat -> List Ed -> Prop) : Prop := match e with
 | [.ro _ qs, .ro _ ps, .i all, .ro _ sh, .l u, .i q, .i part, .i boxes, .i right, .i pts, .i minus] => Pre (Sp.SeOk qs.xs sh.xs u /\ u.length <= 7 /\ 0 <= q /\ q < sh.xs.length) (K 0 [.b (Sp.anyF (Sp.miB sh.xs u q right) 0 (2 ^ u.length)), .b (Sp.allF (Sp.miB sh.xs u q right) 0 (2 ^ u.length)), .ro _ qs, .ro _ ps, .i all, .ro _ sh, .l u, .i q, .i part, .i boxes, .i right, .i pts, .i minus])
 | _ => False
noncomputable def Xk : CC where
 g := 60
 args := [(.fn (.func 83) [] [(.ptr 10 0)]), (.fn (.func 77) [] [(.ptr 25 0), (.ptr 22 0), (.ptr 28 0)])]
 H := [(10, .blk 85 [(.ptr 4 0)]), (4, .blk 89 [.rs Iv5, .rs Jc, .int .i64, .rs Jb, (.row 7)]), (7, .arr 44 Ja), (25, .blk 85 [(.ptr 4 0)]), (22, .blk 3 [.int .i64]), (28, .blk 71 [.int .i64, .int .i64, .int .i64, .int .i64, .int .i64])]
 outs := [⟨false, .tup [.bool, .bool], [(10, .blk 85 [(.ptr 4 0)]), (4, .blk 89 [.rs Iv5, .rs Jc, .int .i64, .rs Jb, (.row 7)]), (7, .arr 44 Ja), (25, .blk 85 [(.ptr 4 0)]), (22, .blk 3 [.int .i64]), (28, .blk 71 [.int .i64, .int .i64, .int .i64, .int .i64, .int .i64])], false⟩]
 spec := Xhc
def Xcs [W : InW] (qs : Ro Iv5) (ps : Ro Jc) (all : Int) (sh : Ro Jb) (u : Dt) (q part boxes right pts minus : Int) (K : Nat -> List Ed -> Prop) : Prop :=
 Need (decide ((0 : Int) <= (↑(u.length) : Int))) (Ar .i64 ((1 : Int) * 2 ^ min (↑(u.length) : Int).toNat (64 : Nat)) fun z => PreL LPth LPth (Pre ((0 : Int) <= 0 /\ 0 <= z /\ z <= 128 /\ Sp.SeOk qs.xs sh.xs u /\ 0 <= q /\ q < (↑(sh.xs.length) : Int)) (K 0 [.b (false || Sp.anyF (Sp.miB sh.xs u q right) Za (z - 0).toNat), .b (true && Sp.allF (Sp.miB sh.xs u q right) Za (z - 0).toNat), .ro _ qs, .ro _ ps, .i all, .ro Zek sh, .l u, .i q, .i part, .i boxes, .i right, .i pts, .i minus])))
theorem Xi3 (W : InW) (qs ps all sh u q part boxes right pts minus K) : Ywo (cxT Try.prog TT T67 1000 50) 1000 60 [.fn (.func 83) [] [.ptr 10 0], .fn (.func 77) [] [.ptr 25 0, .ptr 22 0, .ptr 28 0]] [(10, .blk 85 [.ptr 4 0]), (4, .blk 89 [.rs _ qs, .rs _ ps, .si .i64 all, .rs _ sh, .rw 7]), (7, .arr 44 Ja u), (25, .blk 85 [.ptr 4 0]), (22, .blk 3 [.si .i64 q]), (28, .blk 71 [.si .i64 part, .si .i64 boxes, .si .i64 right, .si .i64 pts, .si .i64 minus])] (fun v h => outC Xk.H [.ro _ qs, .ro _ ps, .i all, .ro _ sh, .l u, .i q, .i part, .i boxes, .i right, .i pts, .i minus] Xk.outs 0 false v h K) (fun v h => outC Xk.H [.ro _ qs, .ro _ ps, .i all, .ro _ sh, .l u, .i q, .i part, .i boxes, .i right, .i pts, .i minus] Xk.outs 0 true v h K) = Xcs qs ps all sh u q part boxes right pts minus K := by kernel_rfl
theorem Xjy (hyp_ : ∀ (W : InW) qs ps all sh u q part boxes right pts minus K, Xhc [.ro _ qs, .ro _ ps, .i all, .ro _ sh, .l u, .i q, .i part, .i boxes, .i right, .i pts, .i minus] K -> Xcs qs ps all sh u q part boxes right pts minus K) : ∀ W : InW, @CallC W Try.prog Xk :=
 CC.okOf (fun W => @TT W) (fun W => @Xe W) Xa T67 1000 50 Xk fun W qs ps all sh u q part boxes right pts minus K hs => (Xi3 W qs ps all sh u q part boxes right pts minus K).mpr (hyp_ W qs ps all sh u q part boxes right pts minus K hs)
theorem Xnv : ∀ W : InW, @CallC W Try.prog Xk := Xjy fun W qs ps all sh u q part boxes right pts minus K hs => by
 obtain ⟨⟨hse, h7, h3, h4⟩, hk⟩ := hs;unfold Xcs;delta Za Zek Zb;obtain ⟨p1, p2, p3⟩ := Xo h7;rw [p1];simp only [show Int.toNat 0 = 0 from rfl, Int.sub_zero, Bool.true_and, Bool.false_or];refine nedd (by omega) (ar64 (by omega) ⟨rfl, ⟨by omega, by omega, by omega, hse, h3, h4⟩, ?_⟩);rw [Int.toNat_natCast];exact hk
noncomputable def T68 : Tab Try.prog := ⟨[Xhn], [], [ceOf Xk Xnv]⟩
namespace Sp
def miAny (sh u : Dt) (q right : Int) : Bool := anyF (miB sh u q right) 0 (2 ^ u.length)
def miAll (sh u : Dt) (q right : Int) : Bool := allF (miB sh u q right) 0 (2 ^ u.length)
def mAddW (qs sh u l : Dt) (j : Nat) : Dt := if miAll sh u j (qRight qs j) = true then l.set j [.i ((cel l j 0).int + 1), .i ((cel l j 1).int + 1)] else if miAny sh u j (qRight qs j) = true then l.set j [.i (cel l j 0).int, .i ((cel l j 1).int + 1)] else l
def addQW (qs sh u : Dt) : Nat -> Nat -> Dt -> Dt
 | _, 0, l => l
 | j, n + 1, l => addQW qs sh u (j + 1) n (mAddW qs sh u l j)
end Sp
def Xe5 [InW] (e : List Ed) (K : Nat -> List Ed -> Prop) : Prop := match e with
 | [.i i, .ro _ qz, .i n, .i j, .ro _ qs, .ro _ ps, .i all, .ro _ sh, .l u, .l l] => Pre (n = qz.xs.length /\ 0 <= j /\ j <= n /\ l.length = qz.xs.length /\ sh.xs.length = qz.xs.length /\ Sp.SeOk qs.xs sh.xs u /\ u.length <= 7 /\ l.length <= 12 /\ 0 <= i /\ i <= 20 /\ Sp.CntAt l i j) (K 0 [.i i, .l (Sp.addQW qz.xs sh.xs u j.toNat (qz.xs.length - j.toNat) l)])
 | _ => False
noncomputable def Xgs : LC where
 len := 89
 T := [(4, (.row 3)), (8, (.ptr 25 0)), (30, .int .i64), (44, .rs Iv5), (45, .int .i64), (46, .int .i64)]
 H := [(25, .blk 85 [(.ptr 4 0)]), (4, .blk 89 [.rs Iv5, .rs Jc, .int .i64, .rs Jb, (.row 7)]), (7, .arr 44 Ja), (3, .arr 80 Ja)]
 W := ([10, 11] ++ rg 47 40)
 outs := [⟨.exit 2, [(4, (.row 6)), (30, .int .i64)], [(6, .arr 80 Ja)], ([8, 10, 11] ++ rg 44 43)⟩]
 spec := Xe5
def Zen [W : InW] (j : Int) (l : Dt) := decide (0 <= j) && decide (j < (↑(l.length) : Int))
def Zeo [W : InW] (j : Int) (l : Dt) := List.getD l j.toNat []
def Xea [W : InW] (i : Int) (qz : Ro Iv5) (n j : Int) (qs : Ro Iv5) (ps : Ro Jc) (all : Int) (sh : Ro Jb) (u l : Dt) (A : List Ed -> Prop) (K : Nat -> List Ed -> Prop) : Prop :=
 Vif (decide (j < n)) (Need (decide (0 <= j) && decide (j < (↑(qz.xs.length) : Int))) (Need (decide (j.toNat < qz.xs.length)) (Pre (Sp.SeOk qs.xs sh.xs u /\ u.length <= 7 /\ 0 <= j /\ j < (↑(sh.xs.length) : Int)) (Pre True (Vif (decide (Sp.ocB (Sp.anyF (Sp.miB sh.xs u j (cel qz.xs j.toNat (Zd + 1 + 1)).int) Zd ((2 : Nat) ^ u.length)) (Sp.allF (Sp.miB sh.xs u j (cel qz.xs j.toNat (Zd + 1 + 1)).int) Zd ((2 : Nat) ^ u.length)) = 1)) (Need (Zen j l) (Need (decide (j.toNat < l.length)) (Ar .i64 ((cel l j.toNat Zd).int + 1) fun z => Need (Zen j l) (Need (decide (j.toNat < l.length)) (Need (decide (0 <= j) && decide (j < (↑(List.set l j.toNat (Ynl (Zeo j l) Zd [Cl.i z])).length : Int))) (Need (decide (j.toNat < (List.set l j.toNat (Ynl (Zeo j l) Zd [Cl.i z])).length)) (Ar .i64 ((cel (List.set l j.toNat (Ynl (Zeo j l) Zd [Cl.i z])) j.toNat (0+1)).int + 1) fun z_1 => Need (decide (0 <= j) && decide (j < (↑(List.set l j.toNat (Ynl (Zeo j l) Zd [Cl.i z])).length : Int))) (Need (decide (j.toNat < (List.set l j.toNat (Ynl (Zeo j l) Zd [Cl.i z])).length)) (Ar .i64 (j + 1) fun z_2 => A [.i i, .ro _ qz, .i n, .i z_2, .ro _ qs, .ro _ ps, .i all, .ro Zek sh, .l u, .l ((List.set l j.toNat (Ynl (Zeo j l) Zd [Cl.i z])).set j.toNat (Ynl ((List.set l j.toNat (Ynl (Zeo j l) Zd [Cl.i z])).getD j.toNat []) (0+1) [Cl.i z_1]))]))))))))) (Vif (decide (Sp.ocB (Sp.anyF (Sp.miB sh.xs u j (cel qz.xs j.toNat (Zd + 1 + 1)).int) Zd ((2 : Nat) ^ u.length)) (Sp.allF (Sp.miB sh.xs u j (cel qz.xs j.toNat (Zd + 1 + 1)).int) Zd ((2 : Nat) ^ u.length)) = 2)) (Need (Zen j l) (Need (decide (j.toNat < l.length)) (Ar .i64 ((cel l j.toNat (0+1)).int + 1) fun z => Need (Zen j l) (Need (decide (j.toNat < l.length)) (Ar .i64 (j + 1) fun z_1 => A [.i i, .ro _ qz, .i n, .i z_1, .ro _ qs, .ro _ ps, .i all, .ro Zek sh, .l u, .l (List.set l j.toNat (Ynl (Zeo j l) (0+1) [Cl.i z]))]))))) (Ar .i64 (j + 1) fun z => A [.i i, .ro _ qz, .i n, .i z, .ro _ qs, .ro _ ps, .i all, .ro Zek sh, .l u, .l l]))))))) (K 0 [.i i, .l l])
theorem Xlg (W : InW) (i qz n j qs ps all sh u l A K) : Yfc { cxT Try.prog TT T68 1000 50 with fn := 35 } 1000 (Yn7 Try.prog 35 15) (Yd6 89 [(4, .rw 3), (8, .ptr 25 0), (30, .si .i64 i), (44, .rs _ qz), (45, .si .i64 n), (46, .si .i64 j)] ([10, 11] ++ rg 47 40)) [(25, .blk 85 [.ptr 4 0]), (4, .blk 89 [.rs _ qs, .rs _ ps, .si .i64 all, .rs _ sh, .rw 7]), (7, .arr 44 Ja u), (3, .arr 80 Ja l)] (Yug Xgs A K) = Xea i qz n j qs ps all sh u l A K := by kernel_rfl
def Xf3 : Prop := ∀ (W : InW) (body a : Code), (Try.prog.funcs[35]?).bind (·.body) = some body -> a ∈ Yy body -> Yfx a = 15 -> @Ymq W Try.prog a (@Yto W Xgs)
theorem Xmz (meas : [InW] -> List Ed -> Nat) (hyp_ : ∀ (W : InW) i qz n j qs ps all sh u l K, Xe5 [.i i, .ro _ qz, .i n, .i j, .ro _ qs, .ro _ ps, .i all, .ro _ sh, .l u, .l l] K -> ∀ A : List Ed -> Prop, (∀ e, meas e < meas [.i i, .ro _ qz, .i n, .i j, .ro _ qs, .ro _ ps, .i all, .ro _ sh, .l u, .l l] -> Xe5 e K -> A e) -> Xea i qz n j qs ps all sh u l A K) : Xf3 :=
 LE.okOf' (fun W => @TT W) (fun W => @Xe W) Xa T68 1000 50 (by kernel_rfl) Xgs (fun W => @meas W) fun W i qz n j qs ps all sh u l K hs =>
  (Xlg W i qz n j qs ps all sh u l (fun e => meas e < meas [.i i, .ro _ qz, .i n, .i j, .ro _ qs, .ro _ ps, .i all, .ro _ sh, .l u, .l l] /\ Xe5 e K) K).mpr (hyp_ W i qz n j qs ps all sh u l K hs _ fun e h1 h2 => ⟨h1, h2⟩)
theorem Xpr : Xf3 := Xmz (fun e => match e with | _ :: _ :: .i n :: .i j :: _ => (n - j).toNat | _ => 0) fun W i qz n j qs ps all sh u l K hs A hA => by
 obtain ⟨⟨rfl, h2, h3, h4, hsl, hse, h7, h12, hi0, hi20, hc⟩, hk⟩ := hs;unfold Xea;delta Zek Zeo Zen Zd;have ez : (j + 1).toNat = j.toNat + 1 := by omega
 have ej : ((j.toNat : Nat) : Int) = j := Int.toNat_of_nonneg h2
 by_cases hj : j < qz.xs.length
 ·have hj2 : j.toNat < l.length := by omega
  obtain ⟨x, y, hg, b1, b2, b3, b4⟩ := hc.ok j.toNat hj2;rw [if_neg (by omega)] at b2 b4;have c0 : cel l j.toNat 0 = .i x := by unfold cel; rw [hg]; rfl
  have c1 : cel l j.toNat 1 = .i y := by unfold cel; rw [hg]; rfl
  rw [show qz.xs.length - j.toNat = (qz.xs.length - (j.toNat + 1)) + 1 by omega] at hk;simp only [Sp.addQW, Sp.mAddW, c0, c1, ej, show ∀ a, (Cl.i a).int = a from fun _ => rfl] at hk;have hnx := fun dx dy => Sp.CntAt.next (m := i) (dx := dx) (dy := dy) (by rw [ej]; exact hc) hj2 hg
  rw [ej] at hnx;have hs2 : l.set j.toNat [.i x, .i y] = l := by
   rw [<- hg, List.getD_eq_getElem?_getD, List.getElem?_eq_getElem hj2];exact List.set_getElem_self hj2
  have hA' : ∀ dx dy l', (dx = 0 \/ dx = 1) -> (dy = 0 \/ dy = 1) -> l' = l.set j.toNat [.i (x + dx), .i (y + dy)] -> K 0 [.i i, .l (Sp.addQW qz.xs sh.xs u (j.toNat + 1) (qz.xs.length - (j.toNat + 1)) l')] -> A [.i i, .ro _ qz, .i qz.xs.length, .i (j + 1), .ro _ qs, .ro _ ps, .i all, .ro _ sh, .l u, .l l'] := fun dx dy l' hx hy e hk => by
   subst e;exact hA _ (show ((qz.xs.length : Int) - (j + 1)).toNat < ((qz.xs.length : Int) - j).toNat by omega) ⟨⟨rfl, by omega, by omega, by rw [List.length_set]; exact h4, hsl, hse, h7, by rw [List.length_set]; exact h12, hi0, hi20, hnx dx dy hx hy⟩, by rw [ez]; exact hk⟩
  clear hA hnx;simp only [Nat.zero_add, Nat.reduceAdd, show (cel qz.xs j.toNat 2).int = Sp.qRight qz.xs j.toNat from rfl, hg, c0, c1, show ∀ a, (Cl.i a).int = a from fun _ => rfl, Sp.cel_set hj2, Sp.set_getD hj2, List.set_set, List.length_set, show ∀ a b c : Cl, Ynl [a, b] 0 [c] = [c, b] from fun _ _ _ => rfl, show ∀ a b c : Cl, Ynl [a, b] 1 [c] = [a, c] from fun _ _ _ => rfl, show ∀ (a b : Cl), List.getD [a, b] 1 Cl.z = b from fun _ _ => rfl, show ∀ r, Sp.anyF (Sp.miB sh.xs u j r) 0 (2 ^ u.length) = Sp.miAny sh.xs u j r from fun _ => rfl, show ∀ r, Sp.allF (Sp.miB sh.xs u j r) 0 (2 ^ u.length) = Sp.miAll sh.xs u j r from fun _ => rfl];cases m1 : Sp.miAll sh.xs u j (Sp.qRight qz.xs j.toNat) <;> cases m2 : Sp.miAny sh.xs u j (Sp.qRight qz.xs j.toNat) <;> simp only [m1, m2, if_true, if_false, Bool.false_eq_true, Sp.ocB] at hk ⊢
  ·have hA1 := hA' 0 0 l (.inl rfl) (.inl rfl) (by rw [Int.add_zero, Int.add_zero, hs2]) hk;clear hA' hk
   repeat' (first | (with_reducible refine Xb ⟨hse, h7, h2, by omega⟩ ?_) | (with_reducible refine Xb trivial ?_) | omega | intro _ | with_reducible first | apply vifd | apply vifn | apply vifq | apply Xd | apply Xc | apply vifb | apply vif | apply nedd | apply ned2 | apply ned | apply ar64 | apply Xb | exact True.intro | assumption | rfl | apply And.intro)
   all_goals first | contradiction | exact hA1 | skip
  ·have hA1 := hA' 0 1 _ (.inl rfl) (.inr rfl) (by rw [Int.add_zero]) hk;clear hA' hk
   repeat' (first | (with_reducible refine Xb ⟨hse, h7, h2, by omega⟩ ?_) | (with_reducible refine Xb trivial ?_) | omega | intro _ | with_reducible first | apply vifd | apply vifn | apply vifq | apply Xd | apply Xc | apply vifb | apply vif | apply nedd | apply ned2 | apply ned | apply ar64 | apply Xb | exact True.intro | assumption | rfl | apply And.intro)
   all_goals first | contradiction | exact hA1 | skip
  ·have hA1 := hA' 1 1 _ (.inr rfl) (.inr rfl) rfl hk;clear hA' hk
   repeat' (first | (with_reducible refine Xb ⟨hse, h7, h2, by omega⟩ ?_) | (with_reducible refine Xb trivial ?_) | omega | intro _ | with_reducible first | apply vifd | apply vifn | apply vifq | apply Xd | apply Xc | apply vifb | apply vif | apply nedd | apply ned2 | apply ned | apply ar64 | apply Xb | exact True.intro | assumption | rfl | apply And.intro)
   all_goals first | contradiction | exact hA1 | skip
  ·have hA1 := hA' 1 1 _ (.inr rfl) (.inr rfl) rfl hk;clear hA' hk
   repeat' (first | (with_reducible refine Xb ⟨hse, h7, h2, by omega⟩ ?_) | (with_reducible refine Xb trivial ?_) | omega | intro _ | with_reducible first | apply vifd | apply vifn | apply vifq | apply Xd | apply Xc | apply vifb | apply vif | apply nedd | apply ned2 | apply ned | apply ar64 | apply Xb | exact True.intro | assumption | rfl | apply And.intro)
   all_goals first | contradiction | exact hA1 | skip
 ·rw [show qz.xs.length - j.toNat = 0 by omega] at hk;simp only [Sp.addQW] at hk;clear hA
  repeat' (first | omega | intro _ | with_reducible first | apply vifd | apply vifn | apply vifq | apply Xd | apply Xc | apply vifb | apply vif | apply nedd | apply ned2 | apply ned | apply ar64 | apply Xb | exact True.intro | assumption | rfl | apply And.intro)
  all_goals exact hk
noncomputable def Xqk : LE Try.prog := ⟨35, 15, fun W => @Yto W Xgs, Xpr⟩
noncomputable def T69 : Tab Try.prog := ⟨[], [Xqk], [ceOf Xu Xkz]⟩
namespace Sp
def addPW (qs pp : Dt) : Nat -> Nat -> Dt -> Dt
 | _, 0, l => l
 | i, n + 1, l => addPW qs pp (i + 1) n (addQW qs (row pp i) (uns (row pp i)) 0 qs.length l)
end Sp
def Xe6 [InW] (e : List Ed) (K : Nat -> List Ed -> Prop) : Prop := match e with
 | [.ro _ pp, .i n, .i i, .ro _ qs, .ro _ ps, .i all, .l l] => Pre (n = pp.xs.length /\ 0 <= i /\ i <= n /\ n <= 20 /\ Sp.KeyOk qs.xs ps.xs all /\ l.length = qs.xs.length /\ Sp.CntAt l i 0) (Vif (Sp.hasE (Sp.shI qs.xs pp.xs) i.toNat (pp.xs.length - i.toNat)) (K 1 [.i (Sp.shI qs.xs pp.xs (Sp.idxE (Sp.shI qs.xs pp.xs) i.toNat (pp.xs.length - i.toNat)))]) (K 0 [.l (Sp.addPW qs.xs pp.xs i.toNat (pp.xs.length - i.toNat) l)]))
 | _ => False
noncomputable def Xgt : LC where
 len := 89
 T := [(2, (.ptr 1 0)), (4, (.row 3)), (28, .rs [.sl Jb]), (29, .int .i64), (30, .int .i64)]
 H := [(1, .blk 25 [.rs Iv5, .rs Jc, .int .i64]), (3, .arr 80 Ja)]
 W := ([5] ++ rg 7 5 ++ rg 31 57)
 outs := [⟨.exit 0, [(4, (.row 6))], [(6, .arr 80 Ja)], ([2, 5] ++ rg 7 5 ++ rg 28 60)⟩, ⟨.ret, [(4, (.lit (.slice none 0 0))), (5, .int .i64)], [], ([2] ++ rg 7 5 ++ rg 28 60)⟩]
 spec := Xe6
def Xeb [W : InW] (pp : Ro [.sl Jb]) (n i : Int) (qs : Ro Iv5) (ps : Ro Jc) (all : Int) (l : Dt) (A : List Ed -> Prop) (K : Nat -> List Ed -> Prop) : Prop :=
 Vif (decide (i < n)) (Need (decide (0 <= i) && decide (i < (↑(pp.xs.length) : Int))) (Need (decide (i.toNat < pp.xs.length)) (Pre (Sp.KeyOk qs.xs ps.xs all) (Vif (decide (Sp.shE qs.xs (cel pp.xs i.toNat Zd).lst = 0)) (Pre ((↑(qs.xs.length) : Int) = (↑(qs.xs.length) : Int) /\ Zb <= 0 /\ Zb <= (↑(qs.xs.length) : Int) /\ l.length = qs.xs.length /\ List.length (cel pp.xs i.toNat Zd).lst = qs.xs.length /\ Sp.SeOk qs.xs (cel pp.xs i.toNat Zd).lst (Sp.uns (cel pp.xs i.toNat Zd).lst) /\ List.length (Sp.uns (cel pp.xs i.toNat Zd).lst) <= 7 /\ l.length <= 12 /\ 0 <= i /\ i <= 20 /\ Sp.CntAt l i Zb) (Ar .i64 (i + 1) fun z => A [.ro Zdy pp, .i n, .i z, .ro _ qs, .ro _ ps, .i all, .l (Sp.addQW qs.xs (cel pp.xs i.toNat Zd).lst (Sp.uns (cel pp.xs i.toNat Zd).lst) (Int.toNat Zb) (qs.xs.length - Int.toNat Zb) l)])) (Vif (!decide (Sp.shE qs.xs (cel pp.xs i.toNat Zd).lst = 0)) (K (0+1) [.i (Sp.shE qs.xs (cel pp.xs i.toNat Zd).lst)]) ((435 : Nat) = 435 + 1)))))) (K 0 [.l l])
theorem Xlh (W : InW) (pp n i qs ps all l A K) : Yfc { cxT Try.prog TT T69 1000 50 with fn := 35 } 1000 (Yn7 Try.prog 35 9) (Yd6 89 [(2, .ptr 1 0), (4, .rw 3), (28, .rs _ pp), (29, .si .i64 n), (30, .si .i64 i)] ([5] ++ rg 7 5 ++ rg 31 57)) [(1, .blk 25 [.rs _ qs, .rs _ ps, .si .i64 all]), (3, .arr 80 Ja l)] (Yug Xgt A K) = Xeb pp n i qs ps all l A K := by kernel_rfl
def Xf4 : Prop := ∀ (W : InW) (body a : Code), (Try.prog.funcs[35]?).bind (·.body) = some body -> a ∈ Yy body -> Yfx a = 9 -> @Ymq W Try.prog a (@Yto W Xgt)
theorem Xm0 (meas : [InW] -> List Ed -> Nat) (hyp_ : ∀ (W : InW) pp n i qs ps all l K, Xe6 [.ro _ pp, .i n, .i i, .ro _ qs, .ro _ ps, .i all, .l l] K -> ∀ A : List Ed -> Prop, (∀ e, meas e < meas [.ro _ pp, .i n, .i i, .ro _ qs, .ro _ ps, .i all, .l l] -> Xe6 e K -> A e) -> Xeb pp n i qs ps all l A K) : Xf4 :=
 LE.okOf' (fun W => @TT W) (fun W => @Xe W) Xa T69 1000 50 (by kernel_rfl) Xgt (fun W => @meas W) fun W pp n i qs ps all l K hs =>
  (Xlh W pp n i qs ps all l (fun e => meas e < meas [.ro _ pp, .i n, .i i, .ro _ qs, .ro _ ps, .i all, .l l] /\ Xe6 e K) K).mpr (hyp_ W pp n i qs ps all l K hs _ fun e h1 h2 => ⟨h1, h2⟩)
theorem Xbs (qs sh u : Dt) : ∀ n j l, (Sp.addQW qs sh u j n l).length = l.length
 | 0, _, _ => rfl
 | n + 1, j, l => by
  simp only [Sp.addQW, Xbs qs sh u n];unfold Sp.mAddW
  split
  ·simp
  ·split <;> simp
theorem Xib {qs sh u : Dt} {m : Int} : ∀ n j l, Sp.CntAt l m (j : Nat) -> j + n = l.length -> Sp.CntAt (Sp.addQW qs sh u j n l) m (l.length : Nat)
 | 0, j, l, h, e => by rw [<- e]; exact h
 | n + 1, j, l, h, e => by
  have hj : j < l.length := by omega
  obtain ⟨x, y, hg, _⟩ := h.ok j hj;have c0 : cel l j 0 = .i x := by unfold cel; rw [hg]; rfl
  have c1 : cel l j 1 = .i y := by unfold cel; rw [hg]; rfl
  have hs2 : l.set j [.i x, .i y] = l := by
   rw [<- hg, List.getD_eq_getElem?_getD, List.getElem?_eq_getElem hj];exact List.set_getElem_self hj
  have hl : (Sp.mAddW qs sh u l j).length = l.length := by unfold Sp.mAddW; (repeat' split) <;> simp
  have := Xib (qs := qs) (sh := sh) (u := u) n (j + 1) (Sp.mAddW qs sh u l j) (by
   unfold Sp.mAddW;rw [c0, c1]
   split
   ·exact h.next hj hg (.inr rfl) (.inr rfl)
   ·split
    ·have := h.next (dx := 0) (dy := 1) hj hg (.inl rfl) (.inr rfl)
     rw [Int.add_zero] at this;exact this
    ·have := h.next (dx := 0) (dy := 0) hj hg (.inl rfl) (.inl rfl)
     rw [Int.add_zero, Int.add_zero, hs2] at this;exact this) (by omega)
  rw [hl] at this;exact this
theorem Xps : Xf4 := Xm0 (fun e => match e with | _ :: .i n :: .i i :: _ => (n - i).toNat | _ => 0) fun W pp n i qs ps all l K hs A hA => by
 obtain ⟨⟨rfl, h0, h1, h20, hkey, hl, hc⟩, hk⟩ := hs;unfold Xeb;delta Zd Zb Zdy;have n2 := hkey.n2;have ez : (i + 1).toNat = i.toNat + 1 := by omega
 simp only [show Int.toNat 0 = 0 from rfl, Nat.sub_zero, show (cel pp.xs i.toNat 0).lst = Sp.row pp.xs i.toNat from rfl]
 by_cases hi : i < pp.xs.length
 ·rw [show pp.xs.length - i.toNat = (pp.xs.length - (i.toNat + 1)) + 1 by omega] at hk;obtain ⟨g1, g2⟩ := Xc7 (K1 := fun _ e => K 1 [.i e]) hk;simp only [Sp.addPW] at g2;have g1 : Sp.shE qs.xs (Sp.row pp.xs i.toNat) ≠ 0 -> K 1 [.i (Sp.shE qs.xs (Sp.row pp.xs i.toNat))] := g1;have g2 : Sp.shE qs.xs (Sp.row pp.xs i.toNat) = 0 -> _ := g2;clear hk;refine vifd (fun _ => ned (by simp; omega) (nedd (by omega) ⟨hkey, vifd (fun e => ?_) fun e => vifn (fun _ => g1 e) fun c => absurd c e⟩)) fun c => absurd hi c;have hs := Sp.shE_iff.1 e;have hgo := Xib (qs := qs.xs) (sh := Sp.row pp.xs i.toNat) (u := Sp.uns (Sp.row pp.xs i.toNat)) l.length 0 l hc (by omega);have hll := Xbs qs.xs (Sp.row pp.xs i.toNat) (Sp.uns (Sp.row pp.xs i.toNat)) l.length 0 l;rw [show ((l.length : Nat) : Int) = ((Sp.addQW qs.xs (Sp.row pp.xs i.toNat) (Sp.uns (Sp.row pp.xs i.toNat)) 0 l.length l).length : Nat) by rw [hll]] at hgo;refine ⟨⟨trivial, by omega, by omega, hl, hs.n, hs.se hkey, hs.seven, by omega, h0, by omega, hc⟩, ar64 (by omega) (hA _ (show ((pp.xs.length : Int) - (i + 1)).toNat < ((pp.xs.length : Int) - i).toNat by omega) ⟨⟨rfl, by omega, by omega, h20, hkey, by rw [Xbs]; exact hl, ?_⟩, ?_⟩)⟩
  ·rw [<- hl]; exact hgo.up
  ·rw [ez]; exact g2 e
 ·rw [show pp.xs.length - i.toNat = 0 by omega] at hk;clear hA;exact vifd (fun c => absurd c hi) fun _ => hk.2 rfl
noncomputable def Xql : LE Try.prog := ⟨35, 9, fun W => @Yto W Xgt, Xps⟩
noncomputable def T70 : Tab Try.prog := ⟨[Xbg], [Xql], []⟩
def Zep [W : InW] (k_Qs : Ro Iv5) := List.replicate (↑(k_Qs.xs.length) : Int).toNat (Ybr [.int .i64, .int .i64])
def Xds [W : InW] (k_Qs : Ro Iv5) (k_Ps : Ro Jc) (k_All : Int) (pp : Ro [.sl Jb]) (Q : DS -> Prop) : Prop :=
 Pre True (Vif (!decide (Sp.chkE k_Qs.xs k_Ps.xs k_All = 0)) (Q [[Cl.l []], [Cl.i (Sp.chkE k_Qs.xs k_Ps.xs k_All)]]) (Vif (decide ((20 : Int) < (↑(pp.xs.length) : Int))) (Q [[Cl.l []], [Cl.i 3]]) (Need (decide ((↑(k_Qs.xs.length) : Int) = (↑(k_Qs.xs.length) : Int)) && decide (Zb <= (↑(k_Qs.xs.length) : Int)) && decide ((16 : Nat) * (↑(k_Qs.xs.length) : Int).toNat <= 281474976710656)) (Pre ((↑(pp.xs.length) : Int) = (↑(pp.xs.length) : Int) /\ Zb <= 0 /\ Zb <= (↑(pp.xs.length) : Int) /\ (↑(pp.xs.length) : Int) <= 20 /\ Sp.KeyOk k_Qs.xs k_Ps.xs k_All /\ (Zep k_Qs).length = k_Qs.xs.length /\ Sp.CntAt (Zep k_Qs) Zb Zb) (Vif (Sp.hasE (Sp.shI k_Qs.xs pp.xs) (Int.toNat Zb) (pp.xs.length - Int.toNat Zb)) (Q [[Cl.l []], [Cl.i (Sp.shI k_Qs.xs pp.xs (Sp.idxE (Sp.shI k_Qs.xs pp.xs) (Int.toNat Zb) (pp.xs.length - Int.toNat Zb)))]]) (Q [[Cl.l (Sp.addPW k_Qs.xs pp.xs (Int.toNat Zb) (pp.xs.length - Int.toNat Zb) (Zep k_Qs))], [Cl.i 0]]))))))
theorem Xl4 (W : InW) (k_Qs k_Ps k_All pp Q) : Ywr (cxT Try.prog TT T70 1000 50) 1000 35 [.agg [.rs _ k_Qs, .rs _ k_Ps, .si .i64 k_All], .rs _ pp] [] 0 (Y01 [(false, [.row 80 Ja]), (false, [.int .i64])] Q) (fun _ _ _ _ => Stuck 421) = Xds k_Qs k_Ps k_All pp Q := by kernel_rfl
abbrev Xcf : List AT := [.agg [.sl Iv5, .sl Jc, .int .i64], .one (.sl [.sl Jb])]
theorem Xno {pre : DS -> Prop} {res : DS -> DS} (hyp_ : ∀ (W : InW) (k_Qs : Ro Iv5) (k_Ps : Ro Jc) (k_All : Int) (pp : Ro [.sl Jb]), pre [[.l k_Qs.xs, .l k_Ps.xs, .i k_All], [.l pp.xs]] -> ∀ Q : DS -> Prop, Q (res [[.l k_Qs.xs, .l k_Ps.xs, .i k_All], [.l pp.xs]]) -> Xds k_Qs k_Ps k_All pp Q) : PureOk Try.prog 35 Xcf [(false, [.row 80 Ja]), (false, [.int .i64])] pre res :=
 PureOk.of' (fun W => @TT W) (fun W => @Xe W) Xa T70 1000 50 fun W k_Qs k_Ps k_All pp hp =>
  (Xl4 W k_Qs k_Ps k_All pp (fun o => o = res [[.l k_Qs.xs, .l k_Ps.xs, .i k_All], [.l pp.xs]])).mpr (hyp_ W k_Qs k_Ps k_All pp hp _ rfl)
open Go.RowKit
set_option maxRecDepth 100000
namespace Sp
def flq (us : List (Nat × Nat)) (q : Nat) : List (Nat × Nat) := (us.filter fun p => decide (p.1 = q)).map fun p => (0, p.2)
theorem one_with (d : Dt) (j : Nat) (v : Int) : withD (one d) 0 j v = one (d.set j [.i v]) := rfl
theorem row_it1 : ∀ (us : List (Nat × Nat)) (b : Nat) (s : Dt) (q : Nat), q < s.length -> ∃ b', b' < 2 ^ (flq us q).length /\ row (itW us b s) q = row (itW (flq us q) b' (one (row s q))) 0
 | [], b, s, q, _ => ⟨0, by simp [flq], rfl⟩
 | p :: ps, b, s, q, h => by
  obtain ⟨c, hc, e⟩ := row_it1 ps (b / 2) (withD s p.1 p.2 ((b % 2 : Nat) : Int)) q (by rw [withD_len]; exact h);have hr := withD_row s p.1 p.2 ((b % 2 : Nat) : Int) q h
  by_cases x : p.1 = q
  ·have hf : flq (p :: ps) q = (0, p.2) :: flq ps q := by unfold flq; rw [List.filter_cons_of_pos (by simpa using x)]; rfl
   refine ⟨2 * c + b % 2, by rw [hf, List.length_cons, Nat.pow_succ]; omega, ?_⟩;rw [hf];simp only [itW];rw [e, hr, if_pos x.symm, show (2 * c + b % 2) / 2 = c by omega, show (2 * c + b % 2) % 2 = b % 2 by omega, one_with]
  ·have hf : flq (p :: ps) q = flq ps q := by unfold flq; rw [List.filter_cons_of_neg (by simpa using x)]
   refine ⟨c, by rw [hf]; exact hc, ?_⟩;rw [hf];simp only [itW];rw [e, hr, if_neg (fun y => x y.symm)]
theorem row_it2 : ∀ (us : List (Nat × Nat)) (b' : Nat) (s : Dt) (q : Nat), q < s.length -> b' < 2 ^ (flq us q).length -> ∃ b, b < 2 ^ us.length /\ row (itW us b s) q = row (itW (flq us q) b' (one (row s q))) 0
 | [], b', s, q, _, _ => ⟨0, by simp, rfl⟩
 | p :: ps, b', s, q, h, hb => by
  by_cases x : p.1 = q
  ·have hf : flq (p :: ps) q = (0, p.2) :: flq ps q := by unfold flq; rw [List.filter_cons_of_pos (by simpa using x)]; rfl
   rw [hf, List.length_cons, Nat.pow_succ] at hb;obtain ⟨c, hc, e⟩ := row_it2 ps (b' / 2) (withD s p.1 p.2 ((b' % 2 : Nat) : Int)) q (by rw [withD_len]; exact h) (by omega);have hr := withD_row s p.1 p.2 ((b' % 2 : Nat) : Int) q h;refine ⟨2 * c + b' % 2, by rw [List.length_cons, Nat.pow_succ]; omega, ?_⟩;rw [hf];simp only [itW];rw [show (2 * c + b' % 2) / 2 = c by omega, show (2 * c + b' % 2) % 2 = b' % 2 by omega, e, hr, if_pos x.symm, one_with]
  ·have hf : flq (p :: ps) q = flq ps q := by unfold flq; rw [List.filter_cons_of_neg (by simpa using x)]
   rw [hf] at hb;obtain ⟨c, hc, e⟩ := row_it2 ps b' (withD s p.1 p.2 ((0 : Nat) : Int)) q (by rw [withD_len]; exact h) hb;have hr := withD_row s p.1 p.2 ((0 : Nat) : Int) q h;refine ⟨2 * c, by rw [List.length_cons, Nat.pow_succ]; omega, ?_⟩;rw [hf];simp only [itW];rw [show 2 * c / 2 = c by omega, show 2 * c % 2 = 0 by omega, e, hr, if_neg (fun y => x y.symm)]
theorem flq_app (a b : List (Nat × Nat)) (q : Nat) : flq (a ++ b) q = flq a q ++ flq b q := by unfold flq; rw [List.filter_append, List.map_append]
theorem prow_fl (d : Dt) (i q : Nat) : ∀ n j, flq (prow d i j n) q = if i = q then prow d 0 j n else []
 | 0, j => by simp [prow, flq]
 | n + 1, j => by
  simp only [prow, flq_app, prow_fl d i q n (j + 1)]
  by_cases e : i = q <;> by_cases c : bx d j = 2 <;> simp [flq, e, c]
theorem pall_fl (sh : Dt) (q : Nat) : ∀ n i, flq (pall sh i n) q = if i <= q /\ q < i + n then prow (row sh q) 0 0 (row sh q).length else []
 | 0, i => by rw [if_neg (by omega)]; rfl
 | n + 1, i => by
  simp only [pall, flq_app, prow_fl, pall_fl sh q n (i + 1)]
  by_cases e : i = q
  ·subst e;rw [if_pos rfl, if_neg (by omega), if_pos (by omega), List.append_nil]
  ·rw [if_neg e, List.nil_append]
   by_cases c : i + 1 <= q /\ q < i + 1 + n
   ·rw [if_pos c, if_pos (by omega)]
   ·rw [if_neg c, if_neg (by omega)]
theorem fl_pos {sh : Dt} {q : Nat} (h : q < sh.length) : flq (pos sh) q = pos (one (row sh q)) := by
 unfold pos;rw [pall_fl, if_pos ⟨Nat.zero_le _, by omega⟩]
 show _ = prow (row sh q) 0 0 (row sh q).length ++ []
 rw [List.append_nil]
theorem any_row {sh : Dt} {q : Nat} (h : q < sh.length) (f : Dt -> Bool) : (∃ b, b < 2 ^ (pos sh).length /\ f (row (itW (pos sh) b sh) q) = true) ↔ ∃ k, k < (rdD (one (row sh q))).length /\ f (row (row (rdD (one (row sh q))) k) 0) = true := by
 have := any_rds (sh := one (row sh q)) fun r => f (row r 0);rw [this, <- fl_pos h];constructor
 ·rintro ⟨b, hb, e⟩;obtain ⟨c, hc, e2⟩ := row_it1 (pos sh) b sh q h;exact ⟨c, hc, by rw [<- e2]; exact e⟩
 ·rintro ⟨c, hc, e⟩;obtain ⟨b, hb, e2⟩ := row_it2 (pos sh) c sh q h hc;exact ⟨b, hb, by rw [e2]; exact e⟩
theorem miB_it {sh : Dt} {q b : Nat} {right : Int} (h7 : (pos sh).length <= 7) (hq : q < sh.length) (hb : b < 2 ^ (pos sh).length) : miB sh (uns sh) q right b = !decide (ansOf (row (itW (pos sh) b sh) q) = right) := by
 unfold miB;rw [rowW_it (Nat.lt_of_lt_of_le hb (Nat.le_trans (Nat.pow_le_pow_right (by decide) h7) (by decide))) h7 hq, ansX_of]
theorem mi_any {sh : Dt} {q : Nat} {right : Int} (h7 : (pos sh).length <= 7) (hq : q < sh.length) : miAny sh (uns sh) q right = mAny right (row sh q) := by
 refine bool_iff ?_;unfold miAny mAny;rw [anyF_0, anyF_0, uns_len];have := any_row hq fun d => !decide (ansOf d = right);exact ⟨fun ⟨b, hb, e⟩ => this.1 ⟨b, hb, by rw [miB_it h7 hq hb] at e; exact e⟩, fun h => by
  obtain ⟨b, hb, e⟩ := this.2 h;exact ⟨b, hb, by rw [miB_it h7 hq hb]; exact e⟩⟩
theorem mi_all {sh : Dt} {q : Nat} {right : Int} (h7 : (pos sh).length <= 7) (hq : q < sh.length) : miAll sh (uns sh) q right = mAll right (row sh q) := by
 refine bool_iff ?_;unfold miAll mAll;rw [allF_0, allF_0, uns_len];have := any_row hq fun d => decide (ansOf d = right);constructor
 ·intro h k hk
  show (!decide (ansOf (row (row (rdD (one (row sh q))) k) 0) = right)) = true
  rw [Bool.not_eq_true', decide_eq_false_iff_not];intro c;obtain ⟨b, hb, e⟩ := this.2 ⟨k, hk, decide_eq_true c⟩;have := h b hb;rw [miB_it h7 hq hb, e] at this;cases this
 ·intro h b hb;rw [miB_it h7 hq hb, Bool.not_eq_true', decide_eq_false_iff_not];intro c;obtain ⟨k, hk, e⟩ := this.1 ⟨b, hb, decide_eq_true c⟩;have h1 : (!decide (ansOf (row (row (rdD (one (row sh q))) k) 0) = right)) = true := h k hk;rw [e] at h1;cases h1
theorem mAll_any {right : Int} {d : Dt} (h : mAll right d = true) : mAny right d = true := by
 unfold mAll at h;unfold mAny;rw [allF_0] at h;rw [anyF_0];have : 0 < (rdD (one d)).length := by rw [rdD_len]; exact Nat.two_pow_pos _
 exact ⟨0, this, h 0 this⟩
theorem mAddW_eq {qs sh l : Dt} {m : Int} {j : Nat} (h7 : (pos sh).length <= 7) (hq : j < sh.length) (hc : CntAt l m (j : Nat)) (hj : j < l.length) : mAddW qs sh (uns sh) l j = mAdd qs sh l j := by
 obtain ⟨x, y, hg, _⟩ := hc.ok j hj;have c0 : cel l j 0 = .i x := by unfold cel; rw [hg]; rfl
 have c1 : cel l j 1 = .i y := by unfold cel; rw [hg]; rfl
 have hs2 : l.set j [.i x, .i y] = l := by
  rw [<- hg, List.getD_eq_getElem?_getD, List.getElem?_eq_getElem hj];exact List.set_getElem_self hj
 unfold mAddW mAdd;rw [mi_any h7 hq, mi_all h7 hq, c0, c1];have hh : ∀ a, (Cl.i a).int = a := fun _ => rfl;simp only [hh];cases m1 : mAll (qRight qs j) (row sh j) with
 | true => rw [mAll_any m1]; simp
 | false =>
  cases m2 : mAny (qRight qs j) (row sh j) with
  | true => simp
  | false => simp [hs2]
theorem addQW_eq {qs sh : Dt} {m : Int} (h7 : (pos sh).length <= 7) : ∀ n j l, CntAt l m (j : Nat) -> j + n = l.length -> l.length = sh.length -> addQW qs sh (uns sh) j n l = addQ qs sh j n l
 | 0, _, _, _, _, _ => rfl
 | n + 1, j, l, hc, hn, hl => by
  have hj : j < l.length := by omega
  simp only [addQW, addQ];rw [mAddW_eq h7 (by omega) hc hj];obtain ⟨x, y, hg, _⟩ := hc.ok j hj;have c0 : cel l j 0 = .i x := by unfold cel; rw [hg]; rfl
  have c1 : cel l j 1 = .i y := by unfold cel; rw [hg]; rfl
  have hlen : (mAdd qs sh l j).length = l.length := by unfold mAdd; rw [List.length_set]
  exact addQW_eq h7 n (j + 1) _ (by
   unfold mAdd;rw [c0, c1];exact hc.next hj hg (by split <;> simp) (by split <;> simp)) (by omega) (by omega)
theorem addPW_eq {qs pp : Dt} (hok : ∀ i, i < pp.length -> ShOk qs (row pp i)) : ∀ n i l, i + n = pp.length -> l.length = qs.length -> CntAt l (i : Nat) 0 -> addPW qs pp i n l = addP qs pp i n l
 | 0, _, _, _, _, _ => rfl
 | n + 1, i, l, hn, hl, hc => by
  have hs := hok i (by omega);have h7 := hs.seven;rw [uns_len] at h7;have hn2 := hs.n;simp only [addPW, addP];rw [<- hl, addQW_eq h7 l.length 0 l hc (by omega) (by omega)];have hl2 := addQ_len qs (row pp i) l.length 0 l;have hgo := CntAt.go (qs := qs) (sh := row pp i) l.length 0 l hc (by omega);rw [show ((l.length : Nat) : Int) = ((addQ qs (row pp i) 0 l.length l).length : Nat) by rw [hl2]] at hgo;exact addPW_eq hok n (i + 1) _ (by omega) (by omega) hgo.up
theorem errL_has {f : Nat -> Int} : ∀ n i, errL f i n 0 = if hasE f i n = true then f (idxE f i n) else 0
 | 0, i => by simp [errL, hasE]
 | n + 1, i => by
  unfold errL;rw [if_pos rfl]
  by_cases c : f i = 0
  ·rw [c, errL_has n (i + 1)];simp [hasE, idxE, c]
  ·rw [errL_ne c];simp [hasE, idxE, c]
end Sp
theorem Xov : PureOk Try.prog 35 Xcf [(false, [.row 80 Ja]), (false, [.int .i64])] (fun _ => True) Xy :=
 Xno fun W qs ps all pp hp Q h => by
  unfold Xds;delta Zep Zb;simp only [Xy, Sp.misV] at h;simp only [show Int.toNat 0 = 0 from rfl, Nat.sub_zero, Int.toNat_natCast, show Ybr [.int .i64, .int .i64] = [Cl.i 0, Cl.i 0] from rfl];refine ⟨trivial, vifn (fun e => ?_) fun e => vifd (fun e2 => ?_) fun e2 => ?_⟩
  ·have e3 : Sp.misE qs.xs ps.xs all pp.xs = Sp.chkE qs.xs ps.xs all := by
    unfold Sp.misE;rw [if_neg e, Sp.errL_ne e]
   rw [if_neg (by omega), e3] at h;exact h
  ·have e3 : Sp.misE qs.xs ps.xs all pp.xs = 3 := by
    unfold Sp.misE;rw [if_pos e, if_pos (by omega), Sp.errL_ne (by omega)]
   rw [if_neg (by omega), e3] at h;exact h
  ·have e3 : Sp.misE qs.xs ps.xs all pp.xs = if Sp.hasE (Sp.shI qs.xs pp.xs) 0 pp.xs.length = true then Sp.shI qs.xs pp.xs (Sp.idxE (Sp.shI qs.xs pp.xs) 0 pp.xs.length) else 0 := by
    unfold Sp.misE;rw [if_pos e, if_neg (by omega), Sp.errL_has]
   have hk := Sp.chkE_iff.1 e;have n2 := hk.n2;have hc0 : Sp.CntAt (List.replicate qs.xs.length [Cl.i 0, Cl.i 0]) 0 0 := ⟨fun j hj => ⟨0, 0, by
    rw [List.length_replicate] at hj;rw [List.getD_eq_getElem?_getD, List.getElem?_replicate, if_pos hj]; rfl, by omega, by split <;> omega, by omega, by split <;> omega⟩⟩
   refine ned (by simp; omega) ⟨⟨trivial, by omega, by omega, by omega, hk, by rw [List.length_replicate], hc0⟩, vif (fun e4 => ?_) fun e4 => ?_⟩
   ·rw [if_pos e4] at e3;rw [if_neg (by rw [e3]; exact (Sp.hasE_ix e4).2.2), e3] at h;exact h
   ·rw [if_neg (by simp [e4])] at e3;rw [if_pos e3, e3] at h;have ho := Sp.misE_ok e3;rw [Sp.addPW_eq ho.2.2 pp.xs.length 0 _ (Nat.zero_add _) (by rw [List.length_replicate]) hc0];exact h
noncomputable def Xhm : PC Try.prog := ⟨35, Xcf, [(false, [.row 80 Ja]), (false, [.int .i64])], fun _ => True, Xy, Xov⟩
open Go.RowKit
set_option maxRecDepth 100000
set_option maxHeartbeats 1600000
def Xkr [InW] (e : List Ed) (K : Nat -> List Ed -> Prop) : Prop := match e with
 | [.i a, .i b, .l xs] => Pre (0 <= a /\ b = a + 1 /\ b <= xs.length) (K 0 [.i ((0 : Nat) : Int), .i ((xs.length - 1 : Nat) : Int), .l (xs.take a.toNat ++ xs.drop b.toNat ++ [[.i 0, .i 0, .i 0, .i 0, .i 0]])])
 | _ => False
noncomputable def X6 : CC where
 g := 73
 args := [(.row 3), .int .i64, .int .i64]
 H := [(3, .arr 71 Iv5)]
 outs := [⟨false, (.rwp 6 5), [(6, .arr 71 Iv5)], false⟩]
 spec := Xkr
def Zes [W : InW] (xs : Dt) := (↑(xs.length) : Int)
def Zer [W : InW] (a b : Int) (xs : Dt) := (↑(a.toNat - 0 + (xs.length - b.toNat)) : Int)
def Zeq [W : InW] (a b : Int) (xs : Dt) := List.take (a.toNat - 0) xs ++ List.take (xs.length - b.toNat) (List.drop b.toNat xs) ++ List.drop (a.toNat - 0 + (xs.length - b.toNat)) xs
def Xep [W : InW] (a b : Int) (xs : Dt) (K : Nat -> List Ed -> Prop) : Prop :=
 Need (decide (0 <= a)) (Need (decide (0 <= b)) (Need (decide (Zb <= (Zes xs))) (Need (decide (a.toNat <= b.toNat) && decide (b.toNat <= (Zes xs).toNat) && decide ((Zes xs).toNat <= xs.length)) (Vif (decide (a = b)) ((484 : Nat) = 484 + 1) (Need (decide (0 <= a)) (Need (decide ((0 : Nat) <= a.toNat) && decide (a.toNat <= xs.length)) (Need (decide (0 <= b)) (Need (decide (b.toNat <= xs.length) && decide (xs.length <= xs.length)) (Need (decide (a.toNat - 0 + (xs.length - b.toNat) <= xs.length) && decide (b.toNat + (xs.length - b.toNat) <= xs.length)) (Need (decide (Zb <= (Zer a b xs))) (Need (decide (Zb <= (Zes xs))) (Need (decide ((Zer a b xs).toNat <= (Zes xs).toNat) && decide ((Zes xs).toNat <= (Zeq a b xs).length)) (Need (decide ((Zer a b xs).toNat + ((Zes xs).toNat - (Zer a b xs).toNat) <= (Zeq a b xs).length)) (K 0 [.i (↑(0 : Nat) : Int), .i (Zer a b xs), .l (List.take (Zer a b xs).toNat (Zeq a b xs) ++ List.replicate ((Zes xs).toNat - (Zer a b xs).toNat) (Ybr [.int .i64, .int .i64, .int .i64, .int .i64, .int .i64]) ++ List.drop ((Zer a b xs).toNat + ((Zes xs).toNat - (Zer a b xs).toNat)) (Zeq a b xs))]))))))))))))))
theorem Xlv (W : InW) (a b xs K) : Ywo (cxT Try.prog TT T0 1000 50) 1000 73 [.rw 3, .si .i64 a, .si .i64 b] [(3, .arr 71 Iv5 xs)] (fun v h => outC X6.H [.l xs] X6.outs 0 false v h K) (fun v h => outC X6.H [.l xs] X6.outs 0 true v h K) = Xep a b xs K := by kernel_rfl
theorem Xne (hyp_ : ∀ (W : InW) a b xs K, Xkr [.i a, .i b, .l xs] K -> Xep a b xs K) : ∀ W : InW, @CallC W Try.prog X6 :=
 CC.okOf (fun W => @TT W) (fun W => @Xe W) Xa T0 1000 50 X6 fun W a b xs K hs => (Xlv W a b xs K).mpr (hyp_ W a b xs K hs)
theorem Xkk (xs : Dt) (a : Nat) (z : List Cl) (h : a + 1 <= xs.length) : List.take (xs.length - 1) (List.take a xs ++ List.take (xs.length - (a + 1)) (List.drop (a + 1) xs) ++ List.drop (xs.length - 1) xs) ++ List.replicate 1 z ++ List.drop xs.length (List.take a xs ++ List.take (xs.length - (a + 1)) (List.drop (a + 1) xs) ++ List.drop (xs.length - 1) xs) = xs.take a ++ xs.drop (a + 1) ++ [z] := by
 have e1 : List.take (xs.length - (a + 1)) (List.drop (a + 1) xs) = List.drop (a + 1) xs := List.take_of_length_le (by simp);rw [e1];have hl : (List.take a xs ++ List.drop (a + 1) xs).length = xs.length - 1 := by simp; omega
 have hd : List.drop xs.length (List.take a xs ++ List.drop (a + 1) xs ++ List.drop (xs.length - 1) xs) = [] := List.drop_eq_nil_of_le (by rw [List.length_append, hl, List.length_drop]; omega);rw [hd, List.take_left' hl, List.append_nil];rfl
theorem Xp3 : ∀ W : InW, @CallC W Try.prog X6 := Xne fun W a b xs K hs => by
 obtain ⟨⟨h0, rfl, h2⟩, hk⟩ := hs;have e1 : (a + 1).toNat = a.toNat + 1 := by omega
 have e2 : a.toNat + (xs.length - (a.toNat + 1)) = xs.length - 1 := by omega
 have e3 : xs.length - (xs.length - 1) = 1 := by omega
 have e4 : xs.length - 1 + 1 = xs.length := by omega
 have hd := Xkk xs a.toNat [.i 0, .i 0, .i 0, .i 0, .i 0] (by omega);unfold Xep;delta Zeq Zer Zes Zb;rw [e1] at hk;simp only [Nat.sub_zero, e1, Int.toNat_natCast, e2, e3, e4, show Ybr [.int .i64, .int .i64, .int .i64, .int .i64, .int .i64] = [Cl.i 0, Cl.i 0, Cl.i 0, Cl.i 0, Cl.i 0] from rfl, hd];have hlen : (List.take a.toNat xs ++ List.take (xs.length - (a.toNat + 1)) (List.drop (a.toNat + 1) xs) ++ List.drop (xs.length - 1) xs).length = xs.length := by simp; omega
 simp only [hlen];clear hd
 repeat' (first | omega | intro _ | with_reducible first | apply vifd | apply vifn | apply vifq | apply Xd | apply Xc | apply vifb | apply vif | apply nedd | apply ned2 | apply ned | apply ar64 | apply Xb | exact True.intro | assumption | rfl | apply And.intro)
 all_goals first | contradiction | exact hk | (simp only [Bool.and_eq_true, decide_eq_true_eq]; omega)
noncomputable def T71 : Tab Try.prog := ⟨[Xbg, Xc0], [], [ceOf X6 Xp3]⟩
def Zet [W : InW] (k_Qs : Ro Iv5) (i : Int) := cel k_Qs.xs i.toNat Zd
def Zeu [W : InW] (k_Qs : Ro Iv5) (k_Ps : Ro Jc) (i : Int) := decide (Zb <= (Zet k_Qs i).int) && decide ((Zet k_Qs i).int < (↑(k_Ps.xs.length) : Int))
def Zev := [[Cl.i 0, Cl.i 0, Cl.i 0, Cl.i 0, Cl.i 0]]
def Xdo [W : InW] (k_Qs : Ro Iv5) (k_Ps : Ro Jc) (k_All i : Int) (Q : DS -> Prop) : Prop :=
 Pre True (Vif (!decide (Sp.chkE k_Qs.xs k_Ps.xs k_All = 0)) (Q [Zdv, [Cl.i (Sp.chkE k_Qs.xs k_Ps.xs k_All)]]) (Ar .i64 ((↑(k_Qs.xs.length) : Int) - 1) fun z => Pre True (Vif (Sp.out Zb z [[Cl.i i]]) (Q [Zdv, [Cl.i 4]]) (Vif (decide ((↑(k_Qs.xs.length) : Int) = 1)) (Q [Zdv, [Cl.i 3]]) (Need (decide (0 <= i) && decide (i < (↑(k_Qs.xs.length) : Int))) (Need (decide (i.toNat < k_Qs.xs.length)) (Vif (match k_Qs.v with | Value.slice none len cap => true | x => false) (Ar .i64 (i + 1) fun z => Pre (0 <= i /\ z = i + 1 /\ z <= (↑Zd : Int)) (Vif (match k_Ps.v with | Value.slice none len cap => true | x => false) (false = false /\ False) (Need (decide ((Zd + k_Ps.xs.length) * 8 <= 140737488355328)) (Need (Zeu k_Qs k_Ps i) (Need (decide ((Zet k_Qs i).int.toNat < k_Ps.xs.length)) (Ar .i64 ((cel k_Ps.xs (Zet k_Qs i).int.toNat Zd).int - (cel k_Qs.xs i.toNat (Zd + 1 + 1 + 1)).int) fun z_1 => Need (Zeu k_Qs k_Ps i) (Need (decide ((Zet k_Qs i).int.toNat < k_Ps.xs.length)) (Ar .i64 (k_All - (cel k_Qs.xs i.toNat (Zd + 1 + 1 + 1)).int) fun z_2 => Need (decide (Zb <= (Zet k_Qs i).int) && decide ((Zet k_Qs i).int < (↑(List.set k_Ps.xs (Zet k_Qs i).int.toNat [Cl.i z_1]).length : Int))) (Need (decide ((Zet k_Qs i).int.toNat < (List.set k_Ps.xs (Zet k_Qs i).int.toNat [Cl.i z_1]).length)) (Vif (decide (min (cel (List.set k_Ps.xs (Zet k_Qs i).int.toNat [Cl.i z_1]) (Zet k_Qs i).int.toNat Zd).int z_2 < (-240 : Int))) (Q [Zdv, [Cl.i 7]]) (Need (decide ((↑(Zd - 1) : Int).toNat <= List.length (List.take i.toNat [] ++ List.drop z.toNat [] ++ Zev))) (Q [[Cl.l (List.take (↑(Zd - 1) : Int).toNat (List.take i.toNat [] ++ List.drop z.toNat [] ++ Zev)), Cl.l (List.set k_Ps.xs (Zet k_Qs i).int.toNat [Cl.i z_1]), Cl.i z_2], [Cl.i 0]])))))))))))) (Need (decide ((Zd + k_Qs.xs.length) * 40 <= 140737488355328)) (Ar .i64 (i + 1) fun z => Pre (0 <= i /\ z = i + 1 /\ z <= (↑(k_Qs.xs.length) : Int)) (Vif (match k_Ps.v with | Value.slice none len cap => true | x => false) (false = false /\ False) (Need (decide ((Zd + k_Ps.xs.length) * 8 <= 140737488355328)) (Need (Zeu k_Qs k_Ps i) (Need (decide ((Zet k_Qs i).int.toNat < k_Ps.xs.length)) (Ar .i64 ((cel k_Ps.xs (Zet k_Qs i).int.toNat Zd).int - (cel k_Qs.xs i.toNat (Zd + 1 + 1 + 1)).int) fun z_1 => Need (Zeu k_Qs k_Ps i) (Need (decide ((Zet k_Qs i).int.toNat < k_Ps.xs.length)) (Ar .i64 (k_All - (cel k_Qs.xs i.toNat (Zd + 1 + 1 + 1)).int) fun z_2 => Need (decide (Zb <= (Zet k_Qs i).int) && decide ((Zet k_Qs i).int < (↑(List.set k_Ps.xs (Zet k_Qs i).int.toNat [Cl.i z_1]).length : Int))) (Need (decide ((Zet k_Qs i).int.toNat < (List.set k_Ps.xs (Zet k_Qs i).int.toNat [Cl.i z_1]).length)) (Vif (decide (min (cel (List.set k_Ps.xs (Zet k_Qs i).int.toNat [Cl.i z_1]) (Zet k_Qs i).int.toNat Zd).int z_2 < (-240 : Int))) (Q [Zdv, [Cl.i 7]]) (Need (decide ((↑(k_Qs.xs.length - 1) : Int).toNat <= List.length (List.take i.toNat k_Qs.xs ++ List.drop z.toNat k_Qs.xs ++ Zev))) (Q [[Cl.l (List.take (↑(k_Qs.xs.length - 1) : Int).toNat (List.take i.toNat k_Qs.xs ++ List.drop z.toNat k_Qs.xs ++ Zev)), Cl.l (List.set k_Ps.xs (Zet k_Qs i).int.toNat [Cl.i z_1]), Cl.i z_2], [Cl.i 0]]))))))))))))))))))))
theorem Xl0 (W : InW) (k_Qs k_Ps k_All i Q) : Ywr (cxT Try.prog TT T71 1000 50) 1000 32 [.agg [.rs _ k_Qs, .rs _ k_Ps, .si .i64 k_All], .si .i64 i] [] 0 (Y01 Xby Q) (fun _ _ _ _ => Stuck 421) = Xdo k_Qs k_Ps k_All i Q := by kernel_rfl
abbrev Xcb : List AT := [.agg [.sl Iv5, .sl Jc, .int .i64], .one (.int .i64)]
theorem Xnk {pre : DS -> Prop} {res : DS -> DS} (hyp_ : ∀ (W : InW) (k_Qs : Ro Iv5) (k_Ps : Ro Jc) (k_All i : Int), pre [[.l k_Qs.xs, .l k_Ps.xs, .i k_All], [.i i]] -> ∀ Q : DS -> Prop, Q (res [[.l k_Qs.xs, .l k_Ps.xs, .i k_All], [.i i]]) -> Xdo k_Qs k_Ps k_All i Q) : PureOk Try.prog 32 Xcb Xby pre res :=
 PureOk.of' (fun W => @TT W) (fun W => @Xe W) Xa T71 1000 50 fun W k_Qs k_Ps k_All i hp =>
  (Xl0 W k_Qs k_Ps k_All i (fun o => o = res [[.l k_Qs.xs, .l k_Ps.xs, .i k_All], [.i i]])).mpr (hyp_ W k_Qs k_Ps k_All i hp _ rfl)
theorem Xfh {W : InW} {ts : List Ty} (r : Ro ts) (h : 0 < r.xs.length) (n c : Nat) : r.v ≠ .slice none n c := fun e => by
 obtain ⟨A, c2, h1, h2, h3, u, h4, _⟩ := r.inv;obtain ⟨b, off, h5, _⟩ := h4 (fun x => by rw [x] at h; simp at h);rw [e, h5] at h1;cases h1
theorem Xor : PureOk Try.prog 32 Xcb Xby (fun _ => True) Xx :=
 Xnk fun W qs ps all i hp Q h => by
  have hm := qs.len;simp only [maxLen] at hm;unfold Xdo;delta Zeu Zet Zd Zev Zdv Zb;simp only [Xx, Sp.strK] at h
  by_cases e : Sp.chkE qs.xs ps.xs all = 0
  rotate_left
  ·have e1 : Sp.strE qs.xs ps.xs all i = Sp.chkE qs.xs ps.xs all := by unfold Sp.strE; rw [if_neg e]
   rw [if_neg (by omega), e1] at h;exact ⟨trivial, vifn (fun _ => h) fun c => absurd c e⟩
  have hk := Sp.chkE_iff.1 e;have n1 := hk.n1;have n2 := hk.n2;have p1 := hk.p1;have p2 := hk.p2;have ho : Sp.out 0 (qs.xs.length - 1) [[.i i]] = !Sp.inr i 0 (qs.xs.length - 1) := by unfold Sp.out; simp [Sp.outs, cel, Cl.int]
  refine ⟨trivial, vifn (fun c => absurd e c) fun _ => ar64 (by omega) ⟨trivial, ?_⟩⟩;rw [ho]
  by_cases e1 : Sp.inr i 0 (qs.xs.length - 1) = true
  rotate_left
  ·have e2 : Sp.strE qs.xs ps.xs all i = 4 := by unfold Sp.strE; rw [if_pos e, if_neg e1]
   rw [if_neg (by omega), e2] at h;exact vifb (fun _ => h) fun c => absurd c e1
  refine vifb (fun c => absurd (e1.symm.trans c) (by decide)) fun _ => ?_
  by_cases e2 : qs.xs.length = 1
  ·have e3 : Sp.strE qs.xs ps.xs all i = 3 := by unfold Sp.strE; rw [if_pos e, if_pos e1, if_pos e2]
   rw [if_neg (by omega), e3] at h;exact vifd (fun _ => h) fun c => by omega
  refine vifd (fun c => absurd c (by omega)) fun _ => ?_;have hi := Sp.inr_iff.1 e1;have hpart := hk.part i.toNat (by omega);have hpts := hk.pts i.toNat (by omega);have hall := hk.all_;have hneed := hk.need (Sp.qPart qs.xs i.toNat).toNat (by omega);have h7 : Sp.strE qs.xs ps.xs all i = 7 -> Q [[.l [], .l [], .i 0], [.i 7]] := fun c => by
   rw [if_neg (by omega), c] at h; exact h
  have h0 : Sp.strE qs.xs ps.xs all i = 0 -> Q [[.l (Sp.strQ qs.xs i.toNat), .l (Sp.strP qs.xs ps.xs i.toNat), .i (Sp.strA qs.xs all i.toNat)], [.i 0]] := fun c => by
   rw [if_pos c, c] at h; exact h
  clear h;have hneed : -240 <= Sp.num ps.xs (Sp.qPart qs.xs i.toNat).toNat /\ Sp.num ps.xs (Sp.qPart qs.xs i.toNat).toNat <= 240 := hneed;have hnum : Sp.num (Sp.strP qs.xs ps.xs i.toNat) (Sp.qPart qs.xs i.toNat).toNat = Sp.num ps.xs (Sp.qPart qs.xs i.toNat).toNat - Sp.qPts qs.xs i.toNat := by unfold Sp.strP; rw [Sp.num_set (by omega), if_pos rfl]
  have hE : Sp.strE qs.xs ps.xs all i = if -240 <= Sp.strA qs.xs all i.toNat /\ -240 <= Sp.num (Sp.strP qs.xs ps.xs i.toNat) (Sp.qPart qs.xs i.toNat).toNat then 0 else 7 := by
   unfold Sp.strE;rw [if_pos e, if_pos e1, if_neg e2];have a1 : Sp.strA qs.xs all i.toNat <= 240 := by unfold Sp.strA; omega
   by_cases c1 : -240 <= Sp.strA qs.xs all i.toNat
   ·rw [if_pos (Sp.inr_iff.2 ⟨c1, a1⟩)]
    by_cases c2 : -240 <= Sp.num (Sp.strP qs.xs ps.xs i.toNat) (Sp.qPart qs.xs i.toNat).toNat
    ·rw [if_pos (Sp.inr_iff.2 ⟨c2, by omega⟩), if_pos ⟨c1, c2⟩]
    ·rw [if_neg (fun x => c2 (Sp.inr_iff.1 x).1), if_neg (fun x => c2 x.2)]
   ·rw [if_neg (fun x => c1 (Sp.inr_iff.1 x).1), if_neg (fun x => c1 x.1)]
  rw [hE] at h7 h0;rw [hnum] at h7 h0;have ez : (i + 1).toNat = i.toNat + 1 := by omega
  have htk : List.take (qs.xs.length - 1) (List.take i.toNat qs.xs ++ List.drop (i.toNat + 1) qs.xs ++ [[Cl.i 0, Cl.i 0, Cl.i 0, Cl.i 0, Cl.i 0]]) = Sp.strQ qs.xs i.toNat := by
   unfold Sp.strQ;exact List.take_left' (by simp; omega)
  have hrow : List.set ps.xs (Sp.qPart qs.xs i.toNat).toNat [Cl.i (Sp.num ps.xs (Sp.qPart qs.xs i.toNat).toNat - Sp.qPts qs.xs i.toNat)] = Sp.strP qs.xs ps.xs i.toNat := rfl;have hA : Sp.strA qs.xs all i.toNat = all - Sp.qPts qs.xs i.toNat := rfl;refine ned (by simp only [Bool.and_eq_true, decide_eq_true_eq]; omega) (nedd (by omega) (vif (fun c => ?_) fun _ => nedd (by omega) (ar64 (by omega) ⟨⟨by omega, rfl, by omega⟩, vif (fun c => ?_) fun _ => nedd (by omega) ?_⟩)))
  ·exfalso
   split at c
   ·exact Xfh qs (by omega) _ _ (by assumption)
   ·cases c
  ·exfalso
   split at c
   ·exact Xfh ps (by omega) _ _ (by assumption)
   ·cases c
  simp only [ez, Nat.zero_add, Nat.reduceAdd, Int.toNat_natCast, List.length_set, htk, show (cel qs.xs i.toNat 0).int = Sp.qPart qs.xs i.toNat from rfl, show (cel qs.xs i.toNat 3).int = Sp.qPts qs.xs i.toNat from rfl, show ∀ l k, (cel l k 0).int = Sp.num l k from fun _ _ => rfl];refine ned (by simp only [Bool.and_eq_true, decide_eq_true_eq]; omega) (nedd (by omega) (ar64 (by omega) (ned (by simp only [Bool.and_eq_true, decide_eq_true_eq]; omega) (nedd (by omega) (ar64 (by omega) (ned (by simp only [Bool.and_eq_true, decide_eq_true_eq]; omega) (nedd (by omega) ?_)))))));rw [hrow, hnum];refine vifd (fun c => h7 ?_) fun c => nedd (by simp; omega) ?_
  ·rw [if_neg (by rw [hA]; omega)]
  ·exact h0 (by rw [if_pos (by rw [hA]; omega)])
noncomputable def Xz : PC Try.prog := ⟨32, Xcb, Xby, fun _ => True, Xx, Xor⟩
end Go.Proofs.Ytifhdbgciehicaa
