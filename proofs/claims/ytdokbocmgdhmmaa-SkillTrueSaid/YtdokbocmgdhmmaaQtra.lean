/-
  'SkillTrue': for every input the law returns true, and what is handed in reads as before. No condition.
-/
import Derived.Test.YtdokbocmgdhmmaaQf
import Derived.Test.YtdokbocmgdhmmaaRows
import Derived.WalkKit
import Derived.ProofKit
set_option linter.unusedVariables false
set_option linter.unusedSectionVars false
set_option linter.unusedSimpArgs false
namespace Go.Proofs.Ytdokbocmgdhmmaa
open Go.RowKit
set_option linter.unusedVariables false
set_option maxRecDepth 100000
set_option maxHeartbeats 1600000
namespace Sp
def inrs (lv rg : Dt) : Nat → Nat → Bool
  | _, 0 => true
  | i, n + 1 => if rLo rg i ≤ fLv lv i ∧ fLv lv i ≤ rHi rg i then inrs lv rg (i + 1) n else false
end Sp
noncomputable def TK8a : Tab Try.prog := ⟨[], [], []⟩
def sp_tru [InW] (e : List Ed) (K : Nat → List Ed → Prop) : Prop := match e with
  | [.i i, .l lv, .l rg] => Pre (0 ≤ i ∧ i ≤ (rg.length : Int) ∧ rg.length ≤ 5 ∧ rg.length = lv.length) (Vif (Sp.inrs lv rg i.toNat ((rg.length : Int) - i).toNat) (K 0 []) (K 1 []))
  | _ => False
noncomputable def lc_tru : LC where
  len := 83
  T := [(10, (.row 1)), (12, (.row 4)), (14, .int .i64)]
  H := [(1, .arr 3 [.int .i64]), (4, .arr 32 [.int .i64, .int .i64])]
  W := [4, 54, 55, 56, 57, 58, 59, 60, 61, 62, 63, 64, 65, 66, 67, 68, 69, 70, 71, 72, 73, 74, 75, 76, 77, 78, 79, 80, 81]
  outs := [⟨.exit 0, [], [], [4, 10, 12, 14, 54, 55, 56, 57, 58, 59, 60, 61, 62, 63, 64, 65, 66, 67, 68, 69, 70, 71, 72, 73, 74, 75, 76, 77, 78, 79, 80, 81]⟩, ⟨.ret, [(4, (.lit (.bool false)))], [], [10, 12, 14, 54, 55, 56, 57, 58, 59, 60, 61, 62, 63, 64, 65, 66, 67, 68, 69, 70, 71, 72, 73, 74, 75, 76, 77, 78, 79, 80, 81]⟩]
  spec := sp_tru
def VCL_tru [W : InW] (i : Int) (lv rg : Dt) (A : List Ed → Prop) (K : Nat → List Ed → Prop) : Prop :=
  Vif (decide (i < (↑(rg.length) : Int))) (Need (decide ((0 : Int) ≤ i) && decide (i < (↑(lv.length) : Int))) (Need (decide (i.toNat < lv.length)) (Need (decide ((0 : Int) ≤ i) && decide (i < (↑(rg.length) : Int))) (Need (decide (i.toNat < rg.length)) (Vif (decide ((cel lv i.toNat (0 : Nat)).int < (cel rg i.toNat (0 : Nat)).int)) (K (0+1 : Nat) []) (Need (decide ((0 : Int) ≤ i) && decide (i < (↑(lv.length) : Int))) (Need (decide (i.toNat < lv.length)) (Need (decide ((0 : Int) ≤ i) && decide (i < (↑(rg.length) : Int))) (Need (decide (i.toNat < rg.length)) (Vif (decide ((cel rg i.toNat (0+1 : Nat)).int < (cel lv i.toNat (0 : Nat)).int)) (K (0+1 : Nat) []) (Ar .i64 (i + (1 : Int)) fun z => A [.i z, .l lv, .l rg]))))))))))) (K (0 : Nat) [])
theorem vcl_tru (W : InW) (i lv rg A K) : vcTop { cxT Try.prog TT TK8a 1000 50 with fn := 8 } 1000 (loopAt Try.prog 8 10) (tmOut 83 [(10, .rw 1), (12, .rw 4), (14, .si .i64 i)] [4, 54, 55, 56, 57, 58, 59, 60, 61, 62, 63, 64, 65, 66, 67, 68, 69, 70, 71, 72, 73, 74, 75, 76, 77, 78, 79, 80, 81]) [(1, .arr 3 [.int .i64] lv), (4, .arr 32 [.int .i64, .int .i64] rg)] (roundL lc_tru A K) = VCL_tru i lv rg A K := by kernel_rfl
def okLt_tru : Prop := ∀ (W : InW) (body a : Code), (Try.prog.funcs[8]?).bind (·.body) = some body → a ∈ loopsIn body → keyOf a = 10 → @LoopOk W Try.prog a (@loopRun W lc_tru)
theorem okl_tru (meas : [InW] → List Ed → Nat) (hyp_ : ∀ (W : InW) (i : Int) (lv : Dt) (rg : Dt) (K : Nat → List Ed → Prop), sp_tru [.i i, .l lv, .l rg] K → ∀ A : List Ed → Prop, (∀ e, meas e < meas [.i i, .l lv, .l rg] → sp_tru e K → A e) → VCL_tru i lv rg A K) : okLt_tru :=
  LE.okOf' (fun W => @TT W) (fun W => @TT_ok W) mixed_ok TK8a 1000 50 (by kernel_rfl) lc_tru (fun W => @meas W) fun W i lv rg K hs =>
    (vcl_tru W i lv rg (fun e => meas e < meas [.i i, .l lv, .l rg] ∧ sp_tru e K) K).mpr (hyp_ W i lv rg K hs _ fun e h1 h2 => ⟨h1, h2⟩)
theorem okLtru : okLt_tru := okl_tru (fun e => match e with | .i i :: _ :: .l rg :: _ => (rg.length - i).toNat | _ => 0) fun W i lv rg K hs A hA => by
  obtain ⟨⟨h0, h1, h5, hl⟩, hk⟩ := hs
  unfold VCL_tru
  refine vifd (fun e => ?_) fun e => ?_
  · have e1 : (i + 1).toNat = i.toNat + 1 := by omega
    rw [show ((rg.length : Int) - i).toNat = ((rg.length : Int) - (i + 1)).toNat + 1 by omega, Sp.inrs] at hk
    simp only [Nat.zero_add]
    refine need_in (by omega) (nedd (by omega) (need_in (by omega) (nedd (by omega) (vifd (fun e2 => ?_) fun e2 => need_in (by omega) (nedd (by omega) (need_in (by omega) (nedd (by omega) (vifd (fun e3 => ?_) fun e3 => ?_))))))))
    · refine hk.2 ?_
      rw [if_neg]
      intro c
      exact absurd c.1 (by unfold Sp.rLo Sp.fLv; omega)
    · refine hk.2 ?_
      rw [if_neg]
      intro c
      exact absurd c.2 (by unfold Sp.rHi Sp.fLv; omega)
    · rw [if_pos (show Sp.rLo rg i.toNat ≤ Sp.fLv lv i.toNat ∧ Sp.fLv lv i.toNat ≤ Sp.rHi rg i.toNat from ⟨by unfold Sp.rLo Sp.fLv; omega, by unfold Sp.rHi Sp.fLv; omega⟩)] at hk
      exact ar64 (by omega) (hA _ (by show ((rg.length : Int) - (i + 1)).toNat < ((rg.length : Int) - i).toNat; omega) ⟨⟨by omega, by omega, h5, hl⟩, by rw [e1]; exact hk⟩)
  · rw [show ((rg.length : Int) - i).toNat = 0 by omega] at hk
    exact hk.1 rfl
theorem inrs_yes {lv rg : Dt} (h : InR lv rg) : ∀ n i, i + n ≤ rg.length → Sp.inrs lv rg i n = true
  | 0, i, _ => rfl
  | n + 1, i, hi => by rw [Sp.inrs, if_pos (h i (by omega))]; exact inrs_yes h n (i + 1) (by omega)
noncomputable def le_tru : LE Try.prog := ⟨8, 10, fun W => @loopRun W lc_tru, okLtru⟩
noncomputable def TK8 : Tab Try.prog := ⟨[pc_Check, pc_After, pc_lived, pc_Awake], [le_tru], []⟩
def VC_lawTrue [W : InW] (s_Skills : Ro [.str, .int .i64, .int .i64, .int .i64, .int .i64]) (s_Instrs : Ro [.str, .int .i64, .int .i64]) (x_what x_nums : Ro [.int .u16]) (x_wa x_wb : Int) (x_same : Bool) (Q : DS → Prop) : Prop :=
  Pre (Sp.NamesOk s_Skills.xs ∧ Sp.NamesOk s_Instrs.xs) (Vif (!decide (Sp.chkE s_Skills.xs s_Instrs.xs = (0 : Int))) (Pre (Sp.Two []) (Vif (!decide (Sp.aftE s_Skills.xs s_Instrs.xs [] [] (0 : Int) = (0 : Int))) (Pre True (Q [[Cl.b true]])) (Q [[Cl.b false]]))) (Pre (Sp.SchOk s_Skills.xs s_Instrs.xs ∧ Sp.U16 x_what.xs ∧ Sp.U16 x_nums.xs ∧ (0 : Int) ≤ x_wa ∧ x_wa ≤ (255 : Int) ∧ (0 : Int) ≤ x_wb ∧ x_wb ≤ (255 : Int)) (Pre (Sp.Two (Sp.st0 x_nums.xs x_wa x_wb (s_Skills.xs.length))) (Vif (!decide (Sp.aftE s_Skills.xs s_Instrs.xs (Sp.st0 x_nums.xs x_wa x_wb (s_Skills.xs.length)) (Sp.livG s_Skills.xs s_Instrs.xs x_what.xs x_nums.xs x_same).1 (Sp.livG s_Skills.xs s_Instrs.xs x_what.xs x_nums.xs x_same).snd.1 = (0 : Int))) (Q [[Cl.b false]]) (Vif (!decide ((↑(List.length (Sp.aftD s_Skills.xs s_Instrs.xs (Sp.st0 x_nums.xs x_wa x_wb (s_Skills.xs.length)) (Sp.livG s_Skills.xs s_Instrs.xs x_what.xs x_nums.xs x_same).1 (Sp.livG s_Skills.xs s_Instrs.xs x_what.xs x_nums.xs x_same).snd.1)) : Int) = (↑(List.length (Sp.livG s_Skills.xs s_Instrs.xs x_what.xs x_nums.xs x_same).snd.2) : Int))) (Q [[Cl.b false]]) (Pre ((0 : Int) ≤ (0 : Int) ∧ (0 : Int) ≤ (↑(List.length (Sp.aftD s_Skills.xs s_Instrs.xs (Sp.st0 x_nums.xs x_wa x_wb (s_Skills.xs.length)) (Sp.livG s_Skills.xs s_Instrs.xs x_what.xs x_nums.xs x_same).1 (Sp.livG s_Skills.xs s_Instrs.xs x_what.xs x_nums.xs x_same).snd.1)) : Int) ∧ List.length (Sp.aftD s_Skills.xs s_Instrs.xs (Sp.st0 x_nums.xs x_wa x_wb (s_Skills.xs.length)) (Sp.livG s_Skills.xs s_Instrs.xs x_what.xs x_nums.xs x_same).1 (Sp.livG s_Skills.xs s_Instrs.xs x_what.xs x_nums.xs x_same).snd.1) ≤ (5 : Nat) ∧ List.length (Sp.aftD s_Skills.xs s_Instrs.xs (Sp.st0 x_nums.xs x_wa x_wb (s_Skills.xs.length)) (Sp.livG s_Skills.xs s_Instrs.xs x_what.xs x_nums.xs x_same).1 (Sp.livG s_Skills.xs s_Instrs.xs x_what.xs x_nums.xs x_same).snd.1) = List.length (Sp.livG s_Skills.xs s_Instrs.xs x_what.xs x_nums.xs x_same).snd.2) (Vif (Sp.inrs (Sp.livG s_Skills.xs s_Instrs.xs x_what.xs x_nums.xs x_same).snd.2 (Sp.aftD s_Skills.xs s_Instrs.xs (Sp.st0 x_nums.xs x_wa x_wb (s_Skills.xs.length)) (Sp.livG s_Skills.xs s_Instrs.xs x_what.xs x_nums.xs x_same).1 (Sp.livG s_Skills.xs s_Instrs.xs x_what.xs x_nums.xs x_same).snd.1) (Int.toNat (0 : Int)) ((↑(List.length (Sp.aftD s_Skills.xs s_Instrs.xs (Sp.st0 x_nums.xs x_wa x_wb (s_Skills.xs.length)) (Sp.livG s_Skills.xs s_Instrs.xs x_what.xs x_nums.xs x_same).1 (Sp.livG s_Skills.xs s_Instrs.xs x_what.xs x_nums.xs x_same).snd.1)) : Int) - (0 : Int)).toNat) (Pre True (Q [[Cl.b true]])) (Q [[Cl.b false]]))))))))
theorem vc_lawTrue (W : InW) (s_Skills s_Instrs x_what x_nums x_wa x_wb x_same Q) : bodyK (cxT Try.prog TT TK8 1000 50) 1000 8 [.agg [.rs _ s_Skills, .rs _ s_Instrs], .agg [.rs _ x_what, .rs _ x_nums, .si .u8 x_wa, .si .u8 x_wb, .sb x_same]] [] 0 (leafK [(false, [.bool])] Q) (fun _ _ _ _ => Stuck 421) = VC_lawTrue s_Skills s_Instrs x_what x_nums x_wa x_wb x_same Q := by kernel_rfl
abbrev ats_lawTrue : List AT := [.agg [.sl [.str, .int .i64, .int .i64, .int .i64, .int .i64], .sl [.str, .int .i64, .int .i64]], .agg [.sl [.int .u16], .sl [.int .u16], .int .u8, .int .u8, .bool]]
theorem ok_lawTrue {pre : DS → Prop} {res : DS → DS} (hyp_ : ∀ (W : InW) (s_Skills : Ro [.str, .int .i64, .int .i64, .int .i64, .int .i64]) (s_Instrs : Ro [.str, .int .i64, .int .i64]) (x_what : Ro [.int .u16]) (x_nums : Ro [.int .u16]) (x_wa : Int) (x_wb : Int) (x_same : Bool), pre [[.l s_Skills.xs, .l s_Instrs.xs], [.l x_what.xs, .l x_nums.xs, .i x_wa, .i x_wb, .b x_same]] → ∀ Q : DS → Prop, Q (res [[.l s_Skills.xs, .l s_Instrs.xs], [.l x_what.xs, .l x_nums.xs, .i x_wa, .i x_wb, .b x_same]]) → VC_lawTrue s_Skills s_Instrs x_what x_nums x_wa x_wb x_same Q) : PureOk Try.prog 8 ats_lawTrue [(false, [.bool])] pre res :=
  PureOk.of' (fun W => @TT W) (fun W => @TT_ok W) mixed_ok TK8 1000 50 fun W s_Skills s_Instrs x_what x_nums x_wa x_wb x_same hp =>
    (vc_lawTrue W s_Skills s_Instrs x_what x_nums x_wa x_wb x_same (fun o => o = res [[.l s_Skills.xs, .l s_Instrs.xs], [.l x_what.xs, .l x_nums.xs, .i x_wa, .i x_wb, .b x_same]])).mpr (hyp_ W s_Skills s_Instrs x_what x_nums x_wa x_wb x_same hp _ rfl)
theorem true_pure : PureOk Try.prog 8 ats_lawTrue [(false, [.bool])] (WfD ats_lawTrue) fun _ => [[.b true]] :=
  ok_lawTrue fun W sk is what nums wa wb same hp Q h => by
    obtain ⟨hp1, hp⟩ := hp.head
    obtain ⟨hp2, _⟩ := hp.head
    have hn := school_names hp1
    obtain ⟨g1, hp2⟩ := WfL.head hp2
    obtain ⟨g2, hp2⟩ := WfL.head hp2
    obtain ⟨g3, hp2⟩ := WfL.head hp2
    obtain ⟨g4, hp2⟩ := WfL.head hp2
    have hW := u16_of g1
    have hU := u16_of g2
    have g3 := wf_u8 g3
    have g4 := wf_u8 g4
    unfold VC_lawTrue
    refine ⟨hn, vifn (fun e => ⟨fun i hi => absurd hi (Nat.not_lt_zero i), vifn (fun _ => ⟨trivial, h⟩) fun e2 => absurd (chk_iff.2 (ask_iff.1 (Or.inl e2)).his.sch) e⟩) fun e => ?_⟩
    have hS := chk_iff.1 e
    have n5 := hS.n5
    obtain ⟨s1, s2, s3⟩ := st0_ok (n := sk.xs.length) hU g3.1 g4.1
    obtain ⟨q1, q2, q3, q4⟩ := liv_ok (what := what.xs) (same := same) hS hS rfl hU hW g3.1 g4.1 (by_own hS hU)
    have a1 := aftE_of q1
    rw [if_pos q2] at a1
    have ld : (Sp.aftD sk.xs is.xs (Sp.st0 nums.xs wa wb sk.xs.length) (Sp.livG sk.xs is.xs what.xs nums.xs same).1 (Sp.livG sk.xs is.xs what.xs nums.xs same).2.1).length = sk.xs.length := by
      rw [aftD_of q1 q2, fd_len]
      exact (lvA_ok q1.his s2 q2).2.1
    refine ⟨⟨hS, hW, hU, g3.1, g3.2, g4.1, g4.2⟩, s2, vifn (fun x => absurd a1 x) fun _ => vifn (fun x => absurd (by rw [ld, q4]) x) fun _ => ⟨⟨by omega, by omega, by omega, by rw [ld, q4]⟩, vif (fun _ => ⟨trivial, h⟩) fun x => ?_⟩⟩
    rw [inrs_yes q3 _ _ (by rw [ld]; show Int.toNat 0 + ((sk.xs.length : Int) - 0).toNat ≤ sk.xs.length; omega)] at x
    cases x
end Go.Proofs.Ytdokbocmgdhmmaa
namespace Go.Proofs.Ytdokbocmgdhmmaa.skillTrue
open Go.ChangeShapes Go.WideShapes Go.ChangeAt Go.RowKit
set_option linter.unusedVariables false
set_option maxRecDepth 100000
theorem own : ownKnob Try.prog.godebug = none := by kernel_rfl
theorem laid : laidOutB Try.prog = true := by kernel_rfl
theorem lifted (os : Os) (started : os.Started) (H : Type) (enc : TypeId × Value → H) :
    ReturnsInHanded {} Try.checked os 8 .any (Rows.skillTrueSpec.pre6 enc Try.prog Try.f8 Rows.skillTrueRow.domain false) (Rows.skillTrueSpec.post enc Try.prog Try.f8 false true false false) := by
  refine returnsInHanded_of_change (C := Try.checked) own started (by kernel_rfl) Try.func8
    (ChangeSpec.witness6 (enc := enc) (C := Try.checked) false ⟨#[], #[(.agg #[.slice none 0 0, .slice none 0 0]), (.agg #[.slice none 0 0, .slice none 0 0, .int .u8 0, .int .u8 0, .bool false])], []⟩ 8 (by kernel_rfl) (by kernel_rfl) (by kernel_rfl) (by kernel_rfl)) ?_
  intro W base args ds gs before hval hW _ _
  exact law_end (f := Try.f8) (s := Rows.skillTrueSpec) (by kernel_rfl) Try.underlying4 (by kernel_rfl) rfl laid (by kernel_rfl)
    (fun ds h => by match ds, (show ds.length = 2 from h) with | [_, _], _ => exact ⟨rfl, rfl, rfl⟩) true_pure hval hW
theorem over : Rows.skillTrueRow.holds Try.pinned (OpenSpec.ofChange Rows.skillTrueSpec) :=
  OpenClaim.holds_of_wide 8 Try.f8 rfl rfl rfl rfl rfl rfl rfl ⟨rfl, rfl, rfl, rfl, rfl⟩ rfl rfl rfl rfl rfl (by kernel_rfl) Try.func8 (by kernel_rfl)
    (of_decide_eq_true (by kernel_rfl)) (by unfold Func.isWrapper; first | (rw [if_pos (by decide +kernel)]; kernel_rfl) | (rw [if_neg (by decide +kernel)]; exact ⟨rfl, rfl⟩))
    (fun os started H enc _ => lifted os started H enc)
theorem proved : Rows.SkillTrueSaid := over
end Go.Proofs.Ytdokbocmgdhmmaa.skillTrue
