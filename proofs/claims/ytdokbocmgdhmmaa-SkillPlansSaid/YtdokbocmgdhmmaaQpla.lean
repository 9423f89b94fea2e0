/-
  'SkillPlans': for every input the law returns true, and what is handed in reads as before. No condition.
-/
import Derived.Test.YtdokbocmgdhmmaaQf
import Derived.Test.YtdokbocmgdhmmaaRows
import Derived.WalkKit
import Derived.ProofKit
set_option linter.unusedVariables false
set_option linter.unusedSectionVars false
set_option linter.unusedSimpArgs false
namespace Go.Proofs.Ytdokbocmgdhmmaa
open Go.RowKit
set_option linter.unusedVariables false
set_option maxRecDepth 100000
set_option maxHeartbeats 1600000
namespace Sp
def sameI (a b : Dt) : Nat → Nat → Bool
  | _, 0 => true
  | i, n + 1 => (if (cel a i 0).int = (cel b i 0).int then true else false) && sameI a b (i + 1) n
def ints (a b : Dt) : Bool := if a.length = b.length then sameI a b 0 a.length else false
end Sp
theorem sameI_self (a : Dt) : ∀ n i, Sp.sameI a a i n = true
  | 0, _ => rfl
  | n + 1, i => by rw [Sp.sameI, if_pos rfl, sameI_self a n (i + 1)]; rfl
theorem ints_self (a : Dt) : Sp.ints a a = true := by rw [Sp.ints, if_pos rfl, sameI_self]
noncomputable def Tin0 : Tab Try.prog := ⟨[], [], []⟩
def sp_ints [InW] (e : List Ed) (K : Nat → List Ed → Prop) : Prop := match e with
  | [.ro _ a, .ro _ b, .i i] => Pre (0 ≤ i ∧ i ≤ (a.xs.length : Int) ∧ a.xs.length = b.xs.length) (Vif (Sp.sameI a.xs b.xs i.toNat (a.xs.length - i.toNat)) (K 0 []) (K 1 []))
  | _ => False
noncomputable def lc_ints : LC where
  len := 26
  T := [(0, .rs [.int .i64]), (1, .rs [.int .i64]), (5, .int .i64)]
  H := []
  W := [4, 11, 12, 13, 14, 15, 16, 17, 18, 19, 20, 21, 22, 23, 24, 25]
  outs := [⟨.exit 0, [], [], [0, 1, 4, 5, 11, 12, 13, 14, 15, 16, 17, 18, 19, 20, 21, 22, 23, 24, 25]⟩, ⟨.ret, [(4, (.lit (.bool false)))], [], [0, 1, 5, 11, 12, 13, 14, 15, 16, 17, 18, 19, 20, 21, 22, 23, 24, 25]⟩]
  spec := sp_ints
def VCL_ints [W : InW] (a b : Ro [.int .i64]) (i : Int) (A : List Ed → Prop) (K : Nat → List Ed → Prop) : Prop :=
  Vif (decide (i < (↑(a.xs.length) : Int))) (Need (decide ((0 : Int) ≤ i) && decide (i < (↑(a.xs.length) : Int))) (Need (decide (i.toNat < a.xs.length)) (Need (decide ((0 : Int) ≤ i) && decide (i < (↑(b.xs.length) : Int))) (Need (decide (i.toNat < b.xs.length)) (Vif (!decide ((cel a.xs i.toNat (0 : Nat)).int = (cel b.xs i.toNat (0 : Nat)).int)) (K (0+1 : Nat) []) (Ar .i64 (i + (1 : Int)) fun z => A [.ro _ a, .ro _ b, .i z])))))) (K (0 : Nat) [])
theorem vcl_ints (W : InW) (a b i A K) : vcTop { cxT Try.prog TT Tin0 1000 50 with fn := 36 } 1000 (loopAt Try.prog 36 5) (tmOut 26 [(0, .rs _ a), (1, .rs _ b), (5, .si .i64 i)] [4, 11, 12, 13, 14, 15, 16, 17, 18, 19, 20, 21, 22, 23, 24, 25]) [] (roundL lc_ints A K) = VCL_ints a b i A K := by kernel_rfl
def okLt_ints : Prop := ∀ (W : InW) (body a : Code), (Try.prog.funcs[36]?).bind (·.body) = some body → a ∈ loopsIn body → keyOf a = 5 → @LoopOk W Try.prog a (@loopRun W lc_ints)
theorem okl_ints (meas : [InW] → List Ed → Nat) (hyp_ : ∀ (W : InW) (a : Ro [.int .i64]) (b : Ro [.int .i64]) (i : Int) (K : Nat → List Ed → Prop), sp_ints [.ro _ a, .ro _ b, .i i] K → ∀ A : List Ed → Prop, (∀ e, meas e < meas [.ro _ a, .ro _ b, .i i] → sp_ints e K → A e) → VCL_ints a b i A K) : okLt_ints :=
  LE.okOf' (fun W => @TT W) (fun W => @TT_ok W) mixed_ok Tin0 1000 50 (by kernel_rfl) lc_ints (fun W => @meas W) fun W a b i K hs =>
    (vcl_ints W a b i (fun e => meas e < meas [.ro _ a, .ro _ b, .i i] ∧ sp_ints e K) K).mpr (hyp_ W a b i K hs _ fun e h1 h2 => ⟨h1, h2⟩)
theorem okLints : okLt_ints := okl_ints (fun e => match e with | .ro _ a :: _ :: .i i :: _ => ((a.xs.length : Int) - i).toNat | _ => 0) fun W a b i K hs A hA => by
  obtain ⟨⟨h0, h1, h2⟩, hk⟩ := hs
  unfold VCL_ints
  have hm := a.len
  simp only [maxLen] at hm
  have hlt : i < a.xs.length → ((a.xs.length : Int) - (i + 1)).toNat < ((a.xs.length : Int) - i).toNat := by omega
  refine vifd (fun e => ned (by simp; omega) (nedd (by omega) (ned (by simp; omega) (nedd (by omega) (vif (fun e2 => ?_) fun e2 => ar64 (by omega) (hA _ (hlt e) ⟨⟨by omega, by omega, h2⟩, ?_⟩)))))) fun e => ?_
  · rw [show a.xs.length - i.toNat = (a.xs.length - (i.toNat + 1)) + 1 by omega, Sp.sameI] at hk
    exact hk.2 (by rw [if_neg (by simpa using e2)]; rfl)
  · rw [show a.xs.length - i.toNat = (a.xs.length - (i.toNat + 1)) + 1 by omega, Sp.sameI, if_pos (by simpa using e2), Bool.true_and] at hk
    rw [show (i + 1).toNat = i.toNat + 1 by omega]
    exact hk
  · rw [show a.xs.length - i.toNat = 0 by omega] at hk
    exact hk.1 rfl
noncomputable def le_ints : LE Try.prog := ⟨36, 5, fun W => @loopRun W lc_ints, okLints⟩
noncomputable def Tin1 : Tab Try.prog := ⟨[], [le_ints], []⟩
def VC_ints [W : InW] (a b : Ro [.int .i64]) (Q : DS → Prop) : Prop :=
  Vif (!decide ((↑(a.xs.length) : Int) = (↑(b.xs.length) : Int))) (Q [[Cl.b false]]) (Pre ((0 : Int) ≤ (0 : Int) ∧ (0 : Int) ≤ (↑(a.xs.length) : Int) ∧ a.xs.length = b.xs.length) (Vif (Sp.sameI a.xs b.xs (Int.toNat (0 : Int)) (a.xs.length - Int.toNat (0 : Int))) (Q [[Cl.b true]]) (Q [[Cl.b false]])))
theorem vc_ints (W : InW) (a b Q) : bodyK (cxT Try.prog TT Tin1 1000 50) 1000 36 [.rs _ a, .rs _ b] [] 0 (leafK [(false, [.bool])] Q) (fun _ _ _ _ => Stuck 421) = VC_ints a b Q := by kernel_rfl
abbrev ats_ints : List AT := [.one (.sl [.int .i64]), .one (.sl [.int .i64])]
theorem ok_ints {pre : DS → Prop} {res : DS → DS} (hyp_ : ∀ (W : InW) (a : Ro [.int .i64]) (b : Ro [.int .i64]), pre [[.l a.xs], [.l b.xs]] → ∀ Q : DS → Prop, Q (res [[.l a.xs], [.l b.xs]]) → VC_ints a b Q) : PureOk Try.prog 36 ats_ints [(false, [.bool])] pre res :=
  PureOk.of' (fun W => @TT W) (fun W => @TT_ok W) mixed_ok Tin1 1000 50 fun W a b hp =>
    (vc_ints W a b (fun o => o = res [[.l a.xs], [.l b.xs]])).mpr (hyp_ W a b hp _ rfl)
abbrev res_ints (ds : DS) : DS := match ds with | [[.l a], [.l b]] => [[.b (Sp.ints a b)]] | _ => []
theorem okints : PureOk Try.prog 36 ats_ints [(false, [.bool])] (fun _ => True) res_ints :=
  ok_ints fun W a b hp Q hh => by
    unfold VC_ints
    simp only [res_ints, Sp.ints] at hh
    rw [show Int.toNat 0 = 0 from rfl, Nat.sub_zero]
    refine vif (fun e => ?_) fun e => ?_
    · have e' : ¬ (a.xs.length : Int) = b.xs.length := by simpa using e
      rw [if_neg (by omega)] at hh; exact hh
    · have e0 : (a.xs.length : Int) = b.xs.length := by simpa using e
      have e' : a.xs.length = b.xs.length := by omega
      rw [if_pos e'] at hh
      refine ⟨⟨by omega, by omega, e'⟩, vif (fun e2 => ?_) fun e2 => ?_⟩
      · rw [e2] at hh; exact hh
      · rw [e2] at hh; exact hh
noncomputable def pc_ints : PC Try.prog := ⟨36, ats_ints, [(false, [.bool])], fun _ => True, res_ints, okints⟩
noncomputable def TK21 : Tab Try.prog := ⟨[pc_Fewest, pc_rFewest, pc_ints, pc_Awake], [], []⟩
def VC_lawPlans [W : InW] (s_Skills : Ro [.str, .int .i64, .int .i64, .int .i64, .int .i64]) (s_Instrs : Ro [.str, .int .i64, .int .i64]) (t_Tasks : Ro [.int .i64, .int .i64]) (t_Allowed : Int) (x_rg : Ro [.int .i64, .int .i64]) (x_lv : Ro [.int .i64]) (x_w : Int) (Q : DS → Prop) : Prop :=
  Pre True (Pre (Sp.NamesOk s_Skills.xs ∧ Sp.NamesOk s_Instrs.xs) (Pre True (Vif (Sp.ints (Sp.fewD s_Skills.xs s_Instrs.xs t_Tasks.xs t_Allowed x_rg.xs x_w) (Sp.fewD s_Skills.xs s_Instrs.xs t_Tasks.xs t_Allowed x_rg.xs x_w)) (Vif (decide (Sp.fewE s_Skills.xs s_Instrs.xs t_Tasks.xs t_Allowed x_rg.xs x_w = Sp.fewE s_Skills.xs s_Instrs.xs t_Tasks.xs t_Allowed x_rg.xs x_w)) (Pre True (Q [[Cl.b true]])) (Q [[Cl.b false]])) (Q [[Cl.b false]]))))
theorem vc_lawPlans (W : InW) (s_Skills s_Instrs t_Tasks t_Allowed x_rg x_lv x_w Q) : bodyK (cxT Try.prog TT TK21 1000 50) 1000 6 [.agg [.rs _ s_Skills, .rs _ s_Instrs], .agg [.rs _ t_Tasks, .si .i64 t_Allowed], .agg [.rs _ x_rg, .rs _ x_lv, .si .i64 x_w]] [] 0 (leafK [(false, [.bool])] Q) (fun _ _ _ _ => Stuck 421) = VC_lawPlans s_Skills s_Instrs t_Tasks t_Allowed x_rg x_lv x_w Q := by kernel_rfl
abbrev ats_lawPlans : List AT := [.agg [.sl [.str, .int .i64, .int .i64, .int .i64, .int .i64], .sl [.str, .int .i64, .int .i64]], .agg [.sl [.int .i64, .int .i64], .int .i64], .agg [.sl [.int .i64, .int .i64], .sl [.int .i64], .int .i64]]
theorem ok_lawPlans {pre : DS → Prop} {res : DS → DS} (hyp_ : ∀ (W : InW) (s_Skills : Ro [.str, .int .i64, .int .i64, .int .i64, .int .i64]) (s_Instrs : Ro [.str, .int .i64, .int .i64]) (t_Tasks : Ro [.int .i64, .int .i64]) (t_Allowed : Int) (x_rg : Ro [.int .i64, .int .i64]) (x_lv : Ro [.int .i64]) (x_w : Int), pre [[.l s_Skills.xs, .l s_Instrs.xs], [.l t_Tasks.xs, .i t_Allowed], [.l x_rg.xs, .l x_lv.xs, .i x_w]] → ∀ Q : DS → Prop, Q (res [[.l s_Skills.xs, .l s_Instrs.xs], [.l t_Tasks.xs, .i t_Allowed], [.l x_rg.xs, .l x_lv.xs, .i x_w]]) → VC_lawPlans s_Skills s_Instrs t_Tasks t_Allowed x_rg x_lv x_w Q) : PureOk Try.prog 6 ats_lawPlans [(false, [.bool])] pre res :=
  PureOk.of' (fun W => @TT W) (fun W => @TT_ok W) mixed_ok TK21 1000 50 fun W s_Skills s_Instrs t_Tasks t_Allowed x_rg x_lv x_w hp =>
    (vc_lawPlans W s_Skills s_Instrs t_Tasks t_Allowed x_rg x_lv x_w (fun o => o = res [[.l s_Skills.xs, .l s_Instrs.xs], [.l t_Tasks.xs, .i t_Allowed], [.l x_rg.xs, .l x_lv.xs, .i x_w]])).mpr (hyp_ W s_Skills s_Instrs t_Tasks t_Allowed x_rg x_lv x_w hp _ rfl)
theorem plans_pure : PureOk Try.prog 6 ats_lawPlans [(false, [.bool])] (WfD ats_lawPlans) fun _ => [[.b true]] :=
  ok_lawPlans fun W sk is ts al rg lv w hp Q h => by
    obtain ⟨hp1, hp⟩ := hp.head
    have hn := school_names hp1
    unfold VC_lawPlans
    rw [ints_self]
    exact ⟨trivial, hn, trivial, vif (fun _ => vifd (fun _ => ⟨trivial, h⟩) fun e => absurd rfl e) fun e => by cases e⟩
end Go.Proofs.Ytdokbocmgdhmmaa
namespace Go.Proofs.Ytdokbocmgdhmmaa.skillPlans
open Go.ChangeShapes Go.WideShapes Go.ChangeAt Go.RowKit
set_option linter.unusedVariables false
set_option maxRecDepth 100000
theorem own : ownKnob Try.prog.godebug = none := by kernel_rfl
theorem laid : laidOutB Try.prog = true := by kernel_rfl
theorem lifted (os : Os) (started : os.Started) (H : Type) (enc : TypeId × Value → H) :
    ReturnsInHanded {} Try.checked os 6 .any (Rows.skillPlansSpec.pre6 enc Try.prog Try.f6 Rows.skillPlansRow.domain false) (Rows.skillPlansSpec.post enc Try.prog Try.f6 false true false false) := by
  refine returnsInHanded_of_change (C := Try.checked) own started (by kernel_rfl) Try.func6
    (ChangeSpec.witness6 (enc := enc) (C := Try.checked) false ⟨#[], #[(.agg #[.slice none 0 0, .slice none 0 0]), (.agg #[.slice none 0 0, .int .i64 0]), (.agg #[.slice none 0 0, .slice none 0 0, .int .i64 0])], []⟩ 8 (by kernel_rfl) (by kernel_rfl) (by kernel_rfl) (by kernel_rfl)) ?_
  intro W base args ds gs before hval hW _ _
  exact law_end (f := Try.f6) (s := Rows.skillPlansSpec) (by kernel_rfl) Try.underlying4 (by kernel_rfl) rfl laid (by kernel_rfl)
    (fun ds h => by match ds, (show ds.length = 3 from h) with | [_, _, _], _ => exact ⟨rfl, rfl, rfl⟩) plans_pure hval hW
theorem over : Rows.skillPlansRow.holds Try.pinned (OpenSpec.ofChange Rows.skillPlansSpec) :=
  OpenClaim.holds_of_wide 6 Try.f6 rfl rfl rfl rfl rfl rfl rfl ⟨rfl, rfl, rfl, rfl, rfl⟩ rfl rfl rfl rfl rfl (by kernel_rfl) Try.func6 (by kernel_rfl)
    (of_decide_eq_true (by kernel_rfl)) (by unfold Func.isWrapper; first | (rw [if_pos (by decide +kernel)]; kernel_rfl) | (rw [if_neg (by decide +kernel)]; exact ⟨rfl, rfl⟩))
    (fun os started H enc _ => lifted os started H enc)
theorem proved : Rows.SkillPlansSaid := over
end Go.Proofs.Ytdokbocmgdhmmaa.skillPlans
