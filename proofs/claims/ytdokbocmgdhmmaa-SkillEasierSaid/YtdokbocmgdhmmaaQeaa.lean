/-
  'SkillEasier': for every input the law returns true, and what is handed in reads as before. No condition.
-/
import Derived.Test.YtdokbocmgdhmmaaQf
import Derived.Test.YtdokbocmgdhmmaaRows
import Derived.WalkKit
import Derived.ProofKit
set_option linter.unusedVariables false
set_option linter.unusedSectionVars false
set_option linter.unusedSimpArgs false
namespace Go.Proofs.Ytdokbocmgdhmmaa
open Go.RowKit
set_option linter.unusedVariables false
set_option maxRecDepth 100000
set_option maxHeartbeats 1600000
noncomputable def TK15 : Tab Try.prog := ⟨[pc_Check, pc_Chance, pc_Awake], [], []⟩
def VC_lawEasier [W : InW] (s_Skills : Ro [.str, .int .i64, .int .i64, .int .i64, .int .i64]) (s_Instrs : Ro [.str, .int .i64, .int .i64]) (t_Tasks : Ro [.int .i64, .int .i64]) (t_Allowed : Int) (x_lv : Ro [.int .i64]) (x_k x_by : Int) (Q : DS → Prop) : Prop :=
  Pre True (Vif (!decide (Sp.chanceE s_Skills.xs s_Instrs.xs t_Tasks.xs t_Allowed x_lv.xs = (0 : Int))) (Vif (!decide (Sp.chanceE s_Skills.xs s_Instrs.xs t_Tasks.xs t_Allowed x_lv.xs = (0 : Int))) (Vif (decide (Sp.chanceN s_Skills.xs s_Instrs.xs t_Tasks.xs t_Allowed x_lv.xs = (0 : Int))) (Pre True (Q [[Cl.b true]])) (Q [[Cl.b false]])) (Q [[Cl.b false]])) (Pre (Sp.NamesOk s_Skills.xs ∧ Sp.NamesOk s_Instrs.xs) (Vif (!decide (Sp.chkE s_Skills.xs s_Instrs.xs = (0 : Int))) (Vif (!decide (Sp.chanceE s_Skills.xs s_Instrs.xs t_Tasks.xs t_Allowed x_lv.xs = (0 : Int))) (Vif (decide (Sp.chanceN s_Skills.xs s_Instrs.xs t_Tasks.xs t_Allowed x_lv.xs = (0 : Int))) (Pre True (Q [[Cl.b true]])) (Q [[Cl.b false]])) (Q [[Cl.b false]])) (Vif (decide ((↑(t_Tasks.xs.length) : Int) = (0 : Int))) (Vif (!decide (Sp.chanceE s_Skills.xs s_Instrs.xs t_Tasks.xs t_Allowed x_lv.xs = (0 : Int))) (Vif (decide (Sp.chanceN s_Skills.xs s_Instrs.xs t_Tasks.xs t_Allowed x_lv.xs = (0 : Int))) (Pre True (Q [[Cl.b true]])) (Q [[Cl.b false]])) (Q [[Cl.b false]])) (Vif (!decide ((↑(x_lv.xs.length) : Int) = (↑(s_Skills.xs.length) : Int))) (Vif (!decide (Sp.chanceE s_Skills.xs s_Instrs.xs t_Tasks.xs t_Allowed x_lv.xs = (0 : Int))) (Vif (decide (Sp.chanceN s_Skills.xs s_Instrs.xs t_Tasks.xs t_Allowed x_lv.xs = (0 : Int))) (Pre True (Q [[Cl.b true]])) (Q [[Cl.b false]])) (Q [[Cl.b false]])) (Need (decide (((0 : Nat) + x_lv.xs.length) * (8 : Nat) ≤ (140737488355328 : Nat))) (Ar .i64 x_k fun z => Need (!decide ((↑(x_lv.xs.length) : Int) = (0 : Int))) (Ar .i64 x_k fun z_1 => Need (!decide ((↑(t_Tasks.xs.length) : Int) = (0 : Int))) (Need (decide ((0 : Int) ≤ z.tmod (↑(x_lv.xs.length) : Int)) && decide (z.tmod (↑(x_lv.xs.length) : Int) < (↑(x_lv.xs.length) : Int))) (Need (decide ((z.tmod (↑(x_lv.xs.length) : Int)).toNat < x_lv.xs.length)) (Ar .i64 x_by fun z_2 => Ar .i64 ((cel x_lv.xs (z.tmod (↑(x_lv.xs.length) : Int)).toNat (0 : Nat)).int + z_2) fun z_3 => Need (decide ((0 : Int) ≤ z.tmod (↑(x_lv.xs.length) : Int)) && decide (z.tmod (↑(x_lv.xs.length) : Int) < (↑(x_lv.xs.length) : Int))) (Need (decide ((z.tmod (↑(x_lv.xs.length) : Int)).toNat < x_lv.xs.length)) (Pre True (Need (decide (((0 : Nat) + t_Tasks.xs.length) * (16 : Nat) ≤ (140737488355328 : Nat))) (Need (decide ((0 : Int) ≤ z_1.tmod (↑(t_Tasks.xs.length) : Int)) && decide (z_1.tmod (↑(t_Tasks.xs.length) : Int) < (↑(t_Tasks.xs.length) : Int))) (Need (decide ((z_1.tmod (↑(t_Tasks.xs.length) : Int)).toNat < t_Tasks.xs.length)) (Ar .i64 x_by fun z_4 => Ar .i64 ((cel t_Tasks.xs (z_1.tmod (↑(t_Tasks.xs.length) : Int)).toNat (0+1 : Nat)).int + z_4) fun z_5 => Need (decide ((0 : Int) ≤ z_1.tmod (↑(t_Tasks.xs.length) : Int)) && decide (z_1.tmod (↑(t_Tasks.xs.length) : Int) < (↑(t_Tasks.xs.length) : Int))) (Need (decide ((z_1.tmod (↑(t_Tasks.xs.length) : Int)).toNat < t_Tasks.xs.length)) (Pre True (Ar .i64 ((↑(t_Tasks.xs.length) : Int) - (1 : Int)) fun z_6 => Ar .i64 x_by fun z_7 => Ar .i64 (t_Allowed + z_7.tmod (3 : Int)) fun z_8 => Pre True (Vif (decide (Sp.chanceE s_Skills.xs s_Instrs.xs t_Tasks.xs t_Allowed (List.set x_lv.xs (z.tmod (↑(x_lv.xs.length) : Int)).toNat [Cl.i (min (1000 : Int) z_3)]) = (0 : Int))) (Vif (decide (Sp.chanceE s_Skills.xs s_Instrs.xs (List.set t_Tasks.xs (z_1.tmod (↑(t_Tasks.xs.length) : Int)).toNat (setCls (List.getD t_Tasks.xs (z_1.tmod (↑(t_Tasks.xs.length) : Int)).toNat []) (0+1 : Nat) [Cl.i (min (1000 : Int) z_5)])) t_Allowed x_lv.xs = (0 : Int))) (Vif (decide (Sp.chanceE s_Skills.xs s_Instrs.xs t_Tasks.xs (min z_6 z_8) x_lv.xs = (0 : Int))) (Vif (decide (Sp.chanceN s_Skills.xs s_Instrs.xs t_Tasks.xs t_Allowed x_lv.xs ≤ Sp.chanceN s_Skills.xs s_Instrs.xs t_Tasks.xs t_Allowed (List.set x_lv.xs (z.tmod (↑(x_lv.xs.length) : Int)).toNat [Cl.i (min (1000 : Int) z_3)]))) (Vif (decide (Sp.chanceN s_Skills.xs s_Instrs.xs (List.set t_Tasks.xs (z_1.tmod (↑(t_Tasks.xs.length) : Int)).toNat (setCls (List.getD t_Tasks.xs (z_1.tmod (↑(t_Tasks.xs.length) : Int)).toNat []) (0+1 : Nat) [Cl.i (min (1000 : Int) z_5)])) t_Allowed x_lv.xs ≤ Sp.chanceN s_Skills.xs s_Instrs.xs t_Tasks.xs t_Allowed x_lv.xs)) (Vif (decide (Sp.chanceN s_Skills.xs s_Instrs.xs t_Tasks.xs t_Allowed x_lv.xs ≤ Sp.chanceN s_Skills.xs s_Instrs.xs t_Tasks.xs (min z_6 z_8) x_lv.xs)) (Pre True (Q [[Cl.b true]])) (Q [[Cl.b false]])) (Q [[Cl.b false]])) (Q [[Cl.b false]])) (Q [[Cl.b false]])) (Q [[Cl.b false]])) (Q [[Cl.b false]]))))))))))))))))))))))
theorem vc_lawEasier (W : InW) (s_Skills s_Instrs t_Tasks t_Allowed x_lv x_k x_by Q) : bodyK (cxT Try.prog TT TK15 1000 50) 1000 15 [.agg [.rs _ s_Skills, .rs _ s_Instrs], .agg [.rs _ t_Tasks, .si .i64 t_Allowed], .agg [.rs _ x_lv, .si .u8 x_k, .si .u16 x_by]] [] 0 (leafK [(false, [.bool])] Q) (fun _ _ _ _ => Stuck 421) = VC_lawEasier s_Skills s_Instrs t_Tasks t_Allowed x_lv x_k x_by Q := by kernel_rfl
abbrev ats_lawEasier : List AT := [.agg [.sl [.str, .int .i64, .int .i64, .int .i64, .int .i64], .sl [.str, .int .i64, .int .i64]], .agg [.sl [.int .i64, .int .i64], .int .i64], .agg [.sl [.int .i64], .int .u8, .int .u16]]
theorem ok_lawEasier {pre : DS → Prop} {res : DS → DS} (hyp_ : ∀ (W : InW) (s_Skills : Ro [.str, .int .i64, .int .i64, .int .i64, .int .i64]) (s_Instrs : Ro [.str, .int .i64, .int .i64]) (t_Tasks : Ro [.int .i64, .int .i64]) (t_Allowed : Int) (x_lv : Ro [.int .i64]) (x_k : Int) (x_by : Int), pre [[.l s_Skills.xs, .l s_Instrs.xs], [.l t_Tasks.xs, .i t_Allowed], [.l x_lv.xs, .i x_k, .i x_by]] → ∀ Q : DS → Prop, Q (res [[.l s_Skills.xs, .l s_Instrs.xs], [.l t_Tasks.xs, .i t_Allowed], [.l x_lv.xs, .i x_k, .i x_by]]) → VC_lawEasier s_Skills s_Instrs t_Tasks t_Allowed x_lv x_k x_by Q) : PureOk Try.prog 15 ats_lawEasier [(false, [.bool])] pre res :=
  PureOk.of' (fun W => @TT W) (fun W => @TT_ok W) mixed_ok TK15 1000 50 fun W s_Skills s_Instrs t_Tasks t_Allowed x_lv x_k x_by hp =>
    (vc_lawEasier W s_Skills s_Instrs t_Tasks t_Allowed x_lv x_k x_by (fun o => o = res [[.l s_Skills.xs, .l s_Instrs.xs], [.l t_Tasks.xs, .i t_Allowed], [.l x_lv.xs, .i x_k, .i x_by]])).mpr (hyp_ W s_Skills s_Instrs t_Tasks t_Allowed x_lv x_k x_by hp _ rfl)
theorem easier_pure : PureOk Try.prog 15 ats_lawEasier [(false, [.bool])] (WfD ats_lawEasier) fun _ => [[.b true]] :=
  ok_lawEasier fun W sk is ts al lv xk xb hp Q h => by
    obtain ⟨hp1, hp⟩ := hp.head
    obtain ⟨hp2, hp⟩ := hp.head
    obtain ⟨hp3, _⟩ := hp.head
    have hn := school_names hp1
    obtain ⟨g1, hp3⟩ := WfL.head hp3
    obtain ⟨g2, hp3⟩ := WfL.head hp3
    obtain ⟨g3, hp3⟩ := WfL.head hp3
    have g2 := wf_u8 g2
    have g3 := wf_u16 g3
    unfold VC_lawEasier
    simp only [Nat.zero_add, Nat.reduceAdd]
    refine ⟨trivial, vifn (fun e => vifn (fun _ => vifd (fun _ => ⟨trivial, h⟩) fun e2 => absurd (by rw [Sp.chanceN, if_neg e]) e2) fun e2 => absurd e2 e) fun e => ⟨hn, ?_⟩⟩
    obtain ⟨hS, hl, hL⟩ := chanceE_iff.1 e
    have e1 := chk_iff.2 hS.sch
    have t1 := hS.t1
    have n1 := hS.sch.n1
    have n5 := hS.sch.n5
    have l6 := hS.tin.l6
    have a0 := hS.a0
    have a1 := hS.a1
    refine vifn (fun e2 => absurd e1 e2) fun _ => vifd (fun e2 => absurd e2 (by omega)) fun _ => vifn (fun e2 => absurd (show (lv.xs.length : Int) = sk.xs.length by omega) e2) fun _ => ?_
    have ti := tm_in g2.1 (show (0 : Int) < lv.xs.length by omega)
    have tj := tm_in g2.1 (show (0 : Int) < ts.xs.length by omega)
    have tm := tm_in g3.1 (show (0 : Int) < 3 by omega)
    have q1 := hL (xk.tmod lv.xs.length).toNat (by omega)
    have q2 := hS.tin.lv (xk.tmod ts.xs.length).toNat (by omega)
    unfold Sp.fLv at q1
    unfold Sp.tLv at q2
    obtain ⟨⟨c1, c2, c3⟩, c4, c5, c6⟩ := easier_law e (k := (xk.tmod lv.xs.length).toNat) (i := (xk.tmod ts.xs.length).toNat) (by omega) (by omega) g3.1 tm.1
    refine nedd (by omega) (ar64 (by omega) (need_not (by omega) (ar64 (by omega) (need_not (by omega) (need_in (by omega) (nedd (by omega) (ar64 (by omega) (ar64 (by omega) (need_in (by omega) (nedd (by omega) ⟨trivial, ?_⟩))))))))))
    refine nedd (by omega) (need_in (by omega) (nedd (by omega) (ar64 (by omega) (ar64 (by omega) (need_in (by omega) (nedd (by omega) ⟨trivial, ar64 (by omega) (ar64 (by omega) (ar64 (by omega) ⟨trivial, ?_⟩))⟩))))))
    exact vifd (fun _ => vifd (fun _ => vifd (fun _ => vifd (fun _ => vifd (fun _ => vifd (fun _ => ⟨trivial, h⟩) fun x => absurd c6 x) fun x => absurd c5 x) fun x => absurd c4 x) fun x => absurd c3 x) fun x => absurd c2 x) fun x => absurd c1 x
end Go.Proofs.Ytdokbocmgdhmmaa
namespace Go.Proofs.Ytdokbocmgdhmmaa.skillEasier
open Go.ChangeShapes Go.WideShapes Go.ChangeAt Go.RowKit
set_option linter.unusedVariables false
set_option maxRecDepth 100000
theorem own : ownKnob Try.prog.godebug = none := by kernel_rfl
theorem laid : laidOutB Try.prog = true := by kernel_rfl
theorem lifted (os : Os) (started : os.Started) (H : Type) (enc : TypeId × Value → H) :
    ReturnsInHanded {} Try.checked os 15 .any (Rows.skillEasierSpec.pre6 enc Try.prog Try.f15 Rows.skillEasierRow.domain false) (Rows.skillEasierSpec.post enc Try.prog Try.f15 false true false false) := by
  refine returnsInHanded_of_change (C := Try.checked) own started (by kernel_rfl) Try.func15
    (ChangeSpec.witness6 (enc := enc) (C := Try.checked) false ⟨#[], #[(.agg #[.slice none 0 0, .slice none 0 0]), (.agg #[.slice none 0 0, .int .i64 0]), (.agg #[.slice none 0 0, .int .u8 0, .int .u16 0])], []⟩ 8 (by kernel_rfl) (by kernel_rfl) (by kernel_rfl) (by kernel_rfl)) ?_
  intro W base args ds gs before hval hW _ _
  exact law_end (f := Try.f15) (s := Rows.skillEasierSpec) (by kernel_rfl) Try.underlying4 (by kernel_rfl) rfl laid (by kernel_rfl)
    (fun ds h => by match ds, (show ds.length = 3 from h) with | [_, _, _], _ => exact ⟨rfl, rfl, rfl⟩) easier_pure hval hW
theorem over : Rows.skillEasierRow.holds Try.pinned (OpenSpec.ofChange Rows.skillEasierSpec) :=
  OpenClaim.holds_of_wide 15 Try.f15 rfl rfl rfl rfl rfl rfl rfl ⟨rfl, rfl, rfl, rfl, rfl⟩ rfl rfl rfl rfl rfl (by kernel_rfl) Try.func15 (by kernel_rfl)
    (of_decide_eq_true (by kernel_rfl)) (by unfold Func.isWrapper; first | (rw [if_pos (by decide +kernel)]; kernel_rfl) | (rw [if_neg (by decide +kernel)]; exact ⟨rfl, rfl⟩))
    (fun os started H enc _ => lifted os started H enc)
theorem proved : Rows.SkillEasierSaid := over
end Go.Proofs.Ytdokbocmgdhmmaa.skillEasier
