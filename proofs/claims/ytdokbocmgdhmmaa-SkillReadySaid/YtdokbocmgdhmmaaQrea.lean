/-
  'SkillReady': for every input the law returns true, and what is handed in reads as before. No condition.
-/
import Derived.Test.YtdokbocmgdhmmaaQf
import Derived.Test.YtdokbocmgdhmmaaRows
import Derived.WalkKit
import Derived.ProofKit
set_option linter.unusedVariables false
set_option linter.unusedSectionVars false
set_option linter.unusedSimpArgs false
namespace Go.Proofs.Ytdokbocmgdhmmaa
open Go.RowKit
set_option linter.unusedVariables false
set_option maxRecDepth 100000
set_option maxHeartbeats 1600000
namespace Sp
def anyD (rg nums : Dt) (n : Nat) : Dt := (List.range n).map fun i => [.i (amg (rLo rg i) (rHi rg i) (trn nums i))]
end Sp
noncomputable def TK12a : Tab Try.prog := ⟨[pc_turn, pc_among], [], []⟩
def sp_any [InW] (e : List Ed) (K : Nat → List Ed → Prop) : Prop := match e with
  | [.i i, .ro _ rg, .i w, .ro _ nums, .l any, .l low, .l high] => Pre (0 ≤ i ∧ i ≤ rg.xs.length ∧ rg.xs.length ≤ 5 ∧ Sp.RgOk rg.xs ∧ Sp.U16 nums.xs ∧ any = Sp.anyD rg.xs nums.xs i.toNat ∧ low = Sp.endsD false (rg.xs.take i.toNat) ∧ high = Sp.endsD true (rg.xs.take i.toNat)) (K 0 [.ro _ rg, .i w, .ro _ nums, .l (Sp.anyD rg.xs nums.xs rg.xs.length), .l (Sp.endsD false rg.xs), .l (Sp.endsD true rg.xs)])
  | _ => False
noncomputable def lc_any : LC where
  len := 189
  T := [(5, (.ptr 1 0)), (11, (.row 6)), (12, (.row 9)), (13, (.row 12)), (14, .int .i64)]
  H := [(1, .blk 89 [.rs [.int .i64, .int .i64], .int .i64, .rs [.int .u16]]), (6, .arr 3 [.int .i64]), (9, .arr 3 [.int .i64]), (12, .arr 3 [.int .i64])]
  W := [6, 15, 67, 68, 69, 70, 71, 72, 73, 74, 75, 76, 77, 78, 79, 80, 81, 82, 83, 84, 85, 86, 87, 88, 89, 90, 91, 92, 93, 94, 95, 96, 97, 98, 99, 100, 101, 102]
  outs := [⟨.exit 0, [(5, (.ptr 1 0)), (11, (.row 15)), (12, (.row 18)), (13, (.row 21))], [(1, .blk 89 [.rs [.int .i64, .int .i64], .int .i64, .rs [.int .u16]]), (15, .arr 3 [.int .i64]), (18, .arr 3 [.int .i64]), (21, .arr 3 [.int .i64])], [6, 14, 15, 67, 68, 69, 70, 71, 72, 73, 74, 75, 76, 77, 78, 79, 80, 81, 82, 83, 84, 85, 86, 87, 88, 89, 90, 91, 92, 93, 94, 95, 96, 97, 98, 99, 100, 101, 102]⟩, ⟨.ret, [(6, (.lit (.bool false)))], [], [5, 11, 12, 13, 14, 15, 67, 68, 69, 70, 71, 72, 73, 74, 75, 76, 77, 78, 79, 80, 81, 82, 83, 84, 85, 86, 87, 88, 89, 90, 91, 92, 93, 94, 95, 96, 97, 98, 99, 100, 101, 102]⟩]
  spec := sp_any
def VCL_any [W : InW] (i : Int) (rg : Ro [.int .i64, .int .i64]) (w : Int) (nums : Ro [.int .u16]) (any low high : Dt) (A : List Ed → Prop) (K : Nat → List Ed → Prop) : Prop :=
  Vif (decide (i < (↑(rg.xs.length) : Int))) (Need (decide ((0 : Int) ≤ i) && decide (i < (↑(rg.xs.length) : Int))) (Need (decide (i.toNat < rg.xs.length)) (Vif (decide ((cel rg.xs i.toNat (0+1 : Nat)).int < (cel rg.xs i.toNat (0 : Nat)).int)) (K (0+1 : Nat) []) (Pre ((0 : Int) ≤ i ∧ i ≤ (1000000000 : Int) ∧ Sp.U16 nums.xs) (Pre ((-1000000 : Int) ≤ (cel rg.xs i.toNat (0 : Nat)).int ∧ (cel rg.xs i.toNat (0 : Nat)).int ≤ (cel rg.xs i.toNat (0+1 : Nat)).int ∧ (cel rg.xs i.toNat (0+1 : Nat)).int ≤ (1000000 : Int) ∧ (0 : Int) ≤ Sp.trn nums.xs i ∧ Sp.trn nums.xs i ≤ (1000000000 : Int)) (Need (decide ((any.length + [[Cl.i (Sp.amg (cel rg.xs i.toNat (0 : Nat)).int (cel rg.xs i.toNat (0+1 : Nat)).int (Sp.trn nums.xs i))]].length) * (8 : Nat) ≤ (140737488355328 : Nat))) (Need (decide ((low.length + [[Cl.i (cel rg.xs i.toNat (0 : Nat)).int]].length) * (8 : Nat) ≤ (140737488355328 : Nat))) (Need (decide ((high.length + [[Cl.i (cel rg.xs i.toNat (0+1 : Nat)).int]].length) * (8 : Nat) ≤ (140737488355328 : Nat))) (Ar .i64 (i + (1 : Int)) fun z => A [.i z, .ro _ rg, .i w, .ro _ nums, .l (any ++ [[Cl.i (Sp.amg (cel rg.xs i.toNat (0 : Nat)).int (cel rg.xs i.toNat (0+1 : Nat)).int (Sp.trn nums.xs i))]]), .l (low ++ [[Cl.i (cel rg.xs i.toNat (0 : Nat)).int]]), .l (high ++ [[Cl.i (cel rg.xs i.toNat (0+1 : Nat)).int]])]))))))))) (K (0 : Nat) [.ro _ rg, .i w, .ro _ nums, .l any, .l low, .l high])
theorem vcl_any (W : InW) (i rg w nums any low high A K) : vcTop { cxT Try.prog TT TK12a 1000 50 with fn := 12 } 1000 (loopAt Try.prog 12 7) (tmOut 189 [(5, .ptr 1 0), (11, .rw 6), (12, .rw 9), (13, .rw 12), (14, .si .i64 i)] [6, 15, 67, 68, 69, 70, 71, 72, 73, 74, 75, 76, 77, 78, 79, 80, 81, 82, 83, 84, 85, 86, 87, 88, 89, 90, 91, 92, 93, 94, 95, 96, 97, 98, 99, 100, 101, 102]) [(1, .blk 89 [.rs _ rg, .si .i64 w, .rs _ nums]), (6, .arr 3 [.int .i64] any), (9, .arr 3 [.int .i64] low), (12, .arr 3 [.int .i64] high)] (roundL lc_any A K) = VCL_any i rg w nums any low high A K := by kernel_rfl
def okLt_any : Prop := ∀ (W : InW) (body a : Code), (Try.prog.funcs[12]?).bind (·.body) = some body → a ∈ loopsIn body → keyOf a = 7 → @LoopOk W Try.prog a (@loopRun W lc_any)
theorem okl_any (meas : [InW] → List Ed → Nat) (hyp_ : ∀ (W : InW) (i : Int) (rg : Ro [.int .i64, .int .i64]) (w : Int) (nums : Ro [.int .u16]) (any : Dt) (low : Dt) (high : Dt) (K : Nat → List Ed → Prop), sp_any [.i i, .ro _ rg, .i w, .ro _ nums, .l any, .l low, .l high] K → ∀ A : List Ed → Prop, (∀ e, meas e < meas [.i i, .ro _ rg, .i w, .ro _ nums, .l any, .l low, .l high] → sp_any e K → A e) → VCL_any i rg w nums any low high A K) : okLt_any :=
  LE.okOf' (fun W => @TT W) (fun W => @TT_ok W) mixed_ok TK12a 1000 50 (by kernel_rfl) lc_any (fun W => @meas W) fun W i rg w nums any low high K hs =>
    (vcl_any W i rg w nums any low high (fun e => meas e < meas [.i i, .ro _ rg, .i w, .ro _ nums, .l any, .l low, .l high] ∧ sp_any e K) K).mpr (hyp_ W i rg w nums any low high K hs _ fun e h1 h2 => ⟨h1, h2⟩)
theorem any_succ (rg nums : Dt) (n : Nat) : Sp.anyD rg nums n ++ [[.i (Sp.amg (cel rg n 0).int (cel rg n 1).int (Sp.trn nums n))]] = Sp.anyD rg nums (n + 1) := by
  unfold Sp.anyD
  rw [List.range_succ, List.map_append]
  rfl
theorem any_len (rg nums : Dt) (n : Nat) : (Sp.anyD rg nums n).length = n := by simp [Sp.anyD]
theorem any_at {rg nums : Dt} {n k : Nat} (h : k < n) : Sp.fLv (Sp.anyD rg nums n) k = Sp.amg (Sp.rLo rg k) (Sp.rHi rg k) (Sp.trn nums k) := by
  unfold Sp.fLv Sp.anyD cel
  simp [List.getD_eq_getElem?_getD, List.getElem?_range h, Cl.int]
theorem okLany : okLt_any := okl_any (fun e => match e with | .i i :: .ro _ rg :: _ => (rg.xs.length - i).toNat | _ => 0) fun W i rg w nums any low high K hs A hA => by
  obtain ⟨⟨h0, h1, h5, hR, hU, rfl, rfl, rfl⟩, hk⟩ := hs
  unfold VCL_any
  refine vifd (fun e => ?_) fun e => ?_
  · have e1 : (i + 1).toNat = i.toNat + 1 := by omega
    have ei : ((i.toNat : Nat) : Int) = i := by omega
    have s1 := ends_succ (most := false) (rg := rg.xs) (i := i.toNat) (by omega)
    have s2 := ends_succ (most := true) (rg := rg.xs) (i := i.toNat) (by omega)
    have s3 := any_succ rg.xs nums.xs i.toNat
    rw [ei] at s3
    simp only [if_true, if_false, Bool.false_eq_true] at s1 s2
    have l1 := ends_len false (rg.xs.take i.toNat)
    have l2 := ends_len true (rg.xs.take i.toNat)
    have l3 := any_len rg.xs nums.xs i.toNat
    rw [List.length_take] at l1 l2
    have hr := hR i.toNat (by omega)
    have ht := trn_in hU i
    have hA' := hA [.i (i + 1), .ro _ rg, .i w, .ro _ nums, .l (Sp.anyD rg.xs nums.xs (i.toNat + 1)), .l (Sp.endsD false (rg.xs.take (i.toNat + 1))), .l (Sp.endsD true (rg.xs.take (i.toNat + 1)))] (by show ((rg.xs.length : Int) - (i + 1)).toNat < ((rg.xs.length : Int) - i).toNat; omega) ⟨⟨by omega, by omega, h5, hR, hU, by rw [e1], by rw [e1], by rw [e1]⟩, hk⟩
    rw [← s1, ← s2, ← s3] at hA'
    unfold Sp.rLo Sp.rHi at hr
    simp only [List.length_singleton, Nat.zero_add]
    exact need_in (by omega) (nedd (by omega) (vifd (fun x => absurd x (by omega)) fun _ => ⟨⟨by omega, by omega, hU⟩, ⟨by omega, by omega, by omega, by omega, by omega⟩, nedd (by omega) (nedd (by omega) (nedd (by omega) (ar64 (by omega) hA')))⟩))
  · rw [show i.toNat = rg.xs.length by omega, List.take_length]
    exact hk
noncomputable def le_any : LE Try.prog := ⟨12, 7, fun W => @loopRun W lc_any, okLany⟩
noncomputable def TK12 : Tab Try.prog := ⟨[pc_Check, pc_Chance, pc_Ready, pc_Power, pc_Awake], [le_any], []⟩
def VC_lawReady [W : InW] (s_Skills : Ro [.str, .int .i64, .int .i64, .int .i64, .int .i64]) (s_Instrs : Ro [.str, .int .i64, .int .i64]) (t_Tasks : Ro [.int .i64, .int .i64]) (t_Allowed : Int) (x_rg : Ro [.int .i64, .int .i64]) (x_w : Int) (x_nums : Ro [.int .u16]) (Q : DS → Prop) : Prop :=
  Pre True (Vif (!decide (Sp.readyE s_Skills.xs s_Instrs.xs t_Tasks.xs t_Allowed x_rg.xs x_w = (0 : Int))) (Vif (!decide (Sp.readyE s_Skills.xs s_Instrs.xs t_Tasks.xs t_Allowed x_rg.xs x_w = (0 : Int))) (Vif (!Sp.isRdy s_Skills.xs s_Instrs.xs t_Tasks.xs t_Allowed x_rg.xs x_w) (Vif (decide (Sp.least s_Skills.xs s_Instrs.xs t_Tasks.xs t_Allowed x_rg.xs x_w = (0 : Int))) (Vif (decide (Sp.most s_Skills.xs s_Instrs.xs t_Tasks.xs t_Allowed x_rg.xs x_w = (0 : Int))) (Pre True (Q [[Cl.b true]])) (Q [[Cl.b false]])) (Q [[Cl.b false]])) (Q [[Cl.b false]])) (Q [[Cl.b false]])) (Pre (Sp.NamesOk s_Skills.xs ∧ Sp.NamesOk s_Instrs.xs) (Vif (!decide (Sp.chkE s_Skills.xs s_Instrs.xs = (0 : Int))) (Vif (!decide (Sp.readyE s_Skills.xs s_Instrs.xs t_Tasks.xs t_Allowed x_rg.xs x_w = (0 : Int))) (Vif (!Sp.isRdy s_Skills.xs s_Instrs.xs t_Tasks.xs t_Allowed x_rg.xs x_w) (Vif (decide (Sp.least s_Skills.xs s_Instrs.xs t_Tasks.xs t_Allowed x_rg.xs x_w = (0 : Int))) (Vif (decide (Sp.most s_Skills.xs s_Instrs.xs t_Tasks.xs t_Allowed x_rg.xs x_w = (0 : Int))) (Pre True (Q [[Cl.b true]])) (Q [[Cl.b false]])) (Q [[Cl.b false]])) (Q [[Cl.b false]])) (Q [[Cl.b false]])) (Vif (!decide ((↑(x_rg.xs.length) : Int) = (↑(s_Skills.xs.length) : Int))) (Vif (!decide (Sp.readyE s_Skills.xs s_Instrs.xs t_Tasks.xs t_Allowed x_rg.xs x_w = (0 : Int))) (Vif (!Sp.isRdy s_Skills.xs s_Instrs.xs t_Tasks.xs t_Allowed x_rg.xs x_w) (Vif (decide (Sp.least s_Skills.xs s_Instrs.xs t_Tasks.xs t_Allowed x_rg.xs x_w = (0 : Int))) (Vif (decide (Sp.most s_Skills.xs s_Instrs.xs t_Tasks.xs t_Allowed x_rg.xs x_w = (0 : Int))) (Pre True (Q [[Cl.b true]])) (Q [[Cl.b false]])) (Q [[Cl.b false]])) (Q [[Cl.b false]])) (Q [[Cl.b false]])) (Pre ((0 : Int) ≤ (0 : Int) ∧ (0 : Int) ≤ (↑(x_rg.xs.length) : Int) ∧ x_rg.xs.length ≤ (5 : Nat) ∧ Sp.RgOk x_rg.xs ∧ Sp.U16 x_nums.xs ∧ [] = Sp.anyD x_rg.xs x_nums.xs (Int.toNat (0 : Int)) ∧ [] = Sp.endsD false (List.take (Int.toNat (0 : Int)) x_rg.xs) ∧ [] = Sp.endsD true (List.take (Int.toNat (0 : Int)) x_rg.xs)) (Pre True (Pre True (Pre True (Vif (!decide (Sp.chanceE s_Skills.xs s_Instrs.xs t_Tasks.xs t_Allowed (Sp.anyD x_rg.xs x_nums.xs (x_rg.xs.length)) = (0 : Int))) (Q [[Cl.b false]]) (Vif (!decide (Sp.chanceE s_Skills.xs s_Instrs.xs t_Tasks.xs t_Allowed (Sp.endsD false x_rg.xs) = (0 : Int))) (Q [[Cl.b false]]) (Vif (!decide (Sp.chanceE s_Skills.xs s_Instrs.xs t_Tasks.xs t_Allowed (Sp.endsD true x_rg.xs) = (0 : Int))) (Q [[Cl.b false]]) (Vif (!decide (Sp.chanceN s_Skills.xs s_Instrs.xs t_Tasks.xs t_Allowed (Sp.endsD false x_rg.xs) = Sp.least s_Skills.xs s_Instrs.xs t_Tasks.xs t_Allowed x_rg.xs x_w)) (Q [[Cl.b false]]) (Vif (!decide (Sp.chanceN s_Skills.xs s_Instrs.xs t_Tasks.xs t_Allowed (Sp.endsD true x_rg.xs) = Sp.most s_Skills.xs s_Instrs.xs t_Tasks.xs t_Allowed x_rg.xs x_w)) (Q [[Cl.b false]]) (Vif (decide (Sp.chanceN s_Skills.xs s_Instrs.xs t_Tasks.xs t_Allowed (Sp.anyD x_rg.xs x_nums.xs (x_rg.xs.length)) < Sp.least s_Skills.xs s_Instrs.xs t_Tasks.xs t_Allowed x_rg.xs x_w)) (Q [[Cl.b false]]) (Vif (decide (Sp.most s_Skills.xs s_Instrs.xs t_Tasks.xs t_Allowed x_rg.xs x_w < Sp.chanceN s_Skills.xs s_Instrs.xs t_Tasks.xs t_Allowed (Sp.anyD x_rg.xs x_nums.xs (x_rg.xs.length)))) (Q [[Cl.b false]]) (Vif (decide ((↑(t_Tasks.xs.length) : Int) < (1 : Int))) (Q [[Cl.b false]]) (Vif (decide ((6 : Int) < (↑(t_Tasks.xs.length) : Int))) (Q [[Cl.b false]]) (Ar .i64 ((↑(t_Tasks.xs.length) : Int) - (1 : Int)) fun z => Pre ((0 : Int) ≤ z ∧ z ≤ (6 : Int)) (Ar .i64 (x_w * (1000 : Int) ^ z.toNat) fun z => Vif (Sp.isRdy s_Skills.xs s_Instrs.xs t_Tasks.xs t_Allowed x_rg.xs x_w == decide (z ≤ Sp.least s_Skills.xs s_Instrs.xs t_Tasks.xs t_Allowed x_rg.xs x_w)) (Vif (!Sp.isRdy s_Skills.xs s_Instrs.xs t_Tasks.xs t_Allowed x_rg.xs x_w) (Pre True (Q [[Cl.b true]])) (Vif (decide (z ≤ Sp.chanceN s_Skills.xs s_Instrs.xs t_Tasks.xs t_Allowed (Sp.anyD x_rg.xs x_nums.xs (x_rg.xs.length)))) (Pre True (Q [[Cl.b true]])) (Q [[Cl.b false]]))) (Q [[Cl.b false]]))))))))))))))))))))
theorem vc_lawReady (W : InW) (s_Skills s_Instrs t_Tasks t_Allowed x_rg x_w x_nums Q) : bodyK (cxT Try.prog TT TK12 1000 50) 1000 12 [.agg [.rs _ s_Skills, .rs _ s_Instrs], .agg [.rs _ t_Tasks, .si .i64 t_Allowed], .agg [.rs _ x_rg, .si .i64 x_w, .rs _ x_nums]] [] 0 (leafK [(false, [.bool])] Q) (fun _ _ _ _ => Stuck 421) = VC_lawReady s_Skills s_Instrs t_Tasks t_Allowed x_rg x_w x_nums Q := by kernel_rfl
abbrev ats_lawReady : List AT := [.agg [.sl [.str, .int .i64, .int .i64, .int .i64, .int .i64], .sl [.str, .int .i64, .int .i64]], .agg [.sl [.int .i64, .int .i64], .int .i64], .agg [.sl [.int .i64, .int .i64], .int .i64, .sl [.int .u16]]]
theorem ok_lawReady {pre : DS → Prop} {res : DS → DS} (hyp_ : ∀ (W : InW) (s_Skills : Ro [.str, .int .i64, .int .i64, .int .i64, .int .i64]) (s_Instrs : Ro [.str, .int .i64, .int .i64]) (t_Tasks : Ro [.int .i64, .int .i64]) (t_Allowed : Int) (x_rg : Ro [.int .i64, .int .i64]) (x_w : Int) (x_nums : Ro [.int .u16]), pre [[.l s_Skills.xs, .l s_Instrs.xs], [.l t_Tasks.xs, .i t_Allowed], [.l x_rg.xs, .i x_w, .l x_nums.xs]] → ∀ Q : DS → Prop, Q (res [[.l s_Skills.xs, .l s_Instrs.xs], [.l t_Tasks.xs, .i t_Allowed], [.l x_rg.xs, .i x_w, .l x_nums.xs]]) → VC_lawReady s_Skills s_Instrs t_Tasks t_Allowed x_rg x_w x_nums Q) : PureOk Try.prog 12 ats_lawReady [(false, [.bool])] pre res :=
  PureOk.of' (fun W => @TT W) (fun W => @TT_ok W) mixed_ok TK12 1000 50 fun W s_Skills s_Instrs t_Tasks t_Allowed x_rg x_w x_nums hp =>
    (vc_lawReady W s_Skills s_Instrs t_Tasks t_Allowed x_rg x_w x_nums (fun o => o = res [[.l s_Skills.xs, .l s_Instrs.xs], [.l t_Tasks.xs, .i t_Allowed], [.l x_rg.xs, .i x_w, .l x_nums.xs]])).mpr (hyp_ W s_Skills s_Instrs t_Tasks t_Allowed x_rg x_w x_nums hp _ rfl)
theorem lv_ends {m : Bool} {rg : Dt} (h : Sp.RgOk rg) : Sp.LvOk (Sp.endsD m rg) := fun i hi => by
  rw [ends_len] at hi
  have := h i hi
  rw [ends_at]
  split <;> omega
theorem lv_any {rg nums : Dt} (h : Sp.RgOk rg) (hU : Sp.U16 nums) : Sp.LvOk (Sp.anyD rg nums rg.length) := fun i hi => by
  rw [any_len] at hi
  have h1 := h i hi
  have h2 := amg_in h1.2.1 (trn_in hU i).1
  rw [any_at hi]
  omega
theorem ready_law {sk is ts rg nums : Dt} {al w : Int} (h : Sp.readyE sk is ts al rg w = 0) (hU : Sp.U16 nums) :
    (Sp.chanceE sk is ts al (Sp.anyD rg nums rg.length) = 0 ∧ Sp.chanceE sk is ts al (Sp.endsD false rg) = 0 ∧ Sp.chanceE sk is ts al (Sp.endsD true rg) = 0) ∧
    Sp.chanceN sk is ts al (Sp.endsD false rg) = Sp.least sk is ts al rg w ∧ Sp.chanceN sk is ts al (Sp.endsD true rg) = Sp.most sk is ts al rg w ∧
    Sp.least sk is ts al rg w ≤ Sp.chanceN sk is ts al (Sp.anyD rg nums rg.length) ∧ Sp.chanceN sk is ts al (Sp.anyD rg nums rg.length) ≤ Sp.most sk is ts al rg w ∧
    Sp.isRdy sk is ts al rg w = decide (w * 1000 ^ (ts.length - 1) ≤ Sp.least sk is ts al rg w) := by
  obtain ⟨hS, hl, hR, hw⟩ := readyE_iff.1 h
  have c1 := chanceN_of (lv := Sp.anyD rg nums rg.length) hS (by rw [any_len, hl]) (lv_any hR hU)
  have c2 := chanceN_of (lv := Sp.endsD false rg) hS (by rw [ends_len, hl]) (lv_ends hR)
  have c3 := chanceN_of (lv := Sp.endsD true rg) hS (by rw [ends_len, hl]) (lv_ends hR)
  rw [ends_lo] at c2
  rw [ends_hi] at c3
  have eL : Sp.least sk is ts al rg w = Sp.chance ts al (Sp.rLo rg) := by rw [Sp.least, if_pos h]
  have eM : Sp.most sk is ts al rg w = Sp.chance ts al (Sp.rHi rg) := by rw [Sp.most, if_pos h]
  refine ⟨⟨c1.1, c2.1, c3.1⟩, by rw [eL]; exact c2.2, by rw [eM]; exact c3.2, ?_, ?_, ?_⟩
  · rw [eL, c1.2]
    exact chance_at hS.tin fun k hk => by
      rw [any_at (by omega)]
      exact (amg_in (hR k (by omega)).2.1 (trn_in hU k).1).1
  · rw [eM, c1.2]
    exact chance_at hS.tin fun k hk => by
      rw [any_at (by omega)]
      exact (amg_in (hR k (by omega)).2.1 (trn_in hU k).1).2
  · rw [Sp.isRdy, if_pos h, eL, Sp.readyP, if_pos h]
theorem vif_eq [InW] {b c : Bool} {A B : Prop} (e : b = c) (h : A) : Vif (b == c) A B := ⟨fun _ => h, fun x => by rw [e] at x; simp at x⟩
theorem ready_pure : PureOk Try.prog 12 ats_lawReady [(false, [.bool])] (WfD ats_lawReady) fun _ => [[.b true]] :=
  ok_lawReady fun W sk is ts al rg w nums hp Q h => by
    obtain ⟨hp1, hp⟩ := hp.head
    obtain ⟨hp2, hp⟩ := hp.head
    obtain ⟨hp3, _⟩ := hp.head
    have hn := school_names hp1
    obtain ⟨g1, hp3⟩ := WfL.head hp3
    obtain ⟨g2, hp3⟩ := WfL.head hp3
    obtain ⟨g3, hp3⟩ := WfL.head hp3
    have hU := u16_of g3
    unfold VC_lawReady
    refine ⟨trivial, vifn (fun e => vifn (fun _ => ?_) fun e2 => absurd e2 e) fun e => ⟨hn, ?_⟩⟩
    · rw [Sp.isRdy, Sp.least, Sp.most, if_neg e, if_neg e, if_neg e]
      exact vif (fun _ => vifd (fun _ => vifd (fun _ => ⟨trivial, h⟩) fun x => absurd rfl x) fun x => absurd rfl x) fun x => by cases x
    obtain ⟨hS, hl, hR, w0, w1⟩ := readyE_iff.1 e
    have e1 := chk_iff.2 hS.sch
    have t1 := hS.t1
    have n1 := hS.sch.n1
    have n5 := hS.sch.n5
    have l6 := hS.tin.l6
    refine vifn (fun e2 => absurd e1 e2) fun _ => vifn (fun e2 => absurd (show (rg.xs.length : Int) = sk.xs.length by omega) e2) fun _ => ⟨⟨by omega, by omega, by omega, hR, hU, rfl, rfl, rfl⟩, trivial, trivial, trivial, ?_⟩
    obtain ⟨⟨c1, c2, c3⟩, c4, c5, c6, c7, c8⟩ := ready_law e hU
    have hb := pow_le (n := ts.xs.length - 1) (by omega)
    have hpp := pow_pos (ts.xs.length - 1)
    have hm := ar_in (show 0 ≤ (1000 : Int) ^ (ts.xs.length - 1) by omega) hb w0 w1
    rw [Int.mul_comm] at hm
    refine vifn (fun x => absurd c1 x) fun _ => vifn (fun x => absurd c2 x) fun _ => vifn (fun x => absurd c3 x) fun _ => vifn (fun x => absurd c4 x) fun _ => vifn (fun x => absurd c5 x) fun _ => vifd (fun x => absurd x (by omega)) fun _ => vifd (fun x => absurd x (by omega)) fun _ => vifd (fun x => absurd x (by omega)) fun _ => vifd (fun x => absurd x (by omega)) fun _ => ar64 (by omega) ⟨⟨by omega, by omega⟩, ?_⟩
    rw [show ((ts.xs.length : Int) - 1).toNat = ts.xs.length - 1 by omega]
    refine ar64 (by omega) (vif_eq c8 (vifb (fun _ => ⟨trivial, h⟩) fun x => ?_))
    rw [c8, decide_eq_true_eq] at x
    exact vifd (fun _ => ⟨trivial, h⟩) fun y => absurd (by omega) y
end Go.Proofs.Ytdokbocmgdhmmaa
namespace Go.Proofs.Ytdokbocmgdhmmaa.skillReady
open Go.ChangeShapes Go.WideShapes Go.ChangeAt Go.RowKit
set_option linter.unusedVariables false
set_option maxRecDepth 100000
theorem own : ownKnob Try.prog.godebug = none := by kernel_rfl
theorem laid : laidOutB Try.prog = true := by kernel_rfl
theorem lifted (os : Os) (started : os.Started) (H : Type) (enc : TypeId × Value → H) :
    ReturnsInHanded {} Try.checked os 12 .any (Rows.skillReadySpec.pre6 enc Try.prog Try.f12 Rows.skillReadyRow.domain false) (Rows.skillReadySpec.post enc Try.prog Try.f12 false true false false) := by
  refine returnsInHanded_of_change (C := Try.checked) own started (by kernel_rfl) Try.func12
    (ChangeSpec.witness6 (enc := enc) (C := Try.checked) false ⟨#[], #[(.agg #[.slice none 0 0, .slice none 0 0]), (.agg #[.slice none 0 0, .int .i64 0]), (.agg #[.slice none 0 0, .int .i64 0, .slice none 0 0])], []⟩ 8 (by kernel_rfl) (by kernel_rfl) (by kernel_rfl) (by kernel_rfl)) ?_
  intro W base args ds gs before hval hW _ _
  exact law_end (f := Try.f12) (s := Rows.skillReadySpec) (by kernel_rfl) Try.underlying4 (by kernel_rfl) rfl laid (by kernel_rfl)
    (fun ds h => by match ds, (show ds.length = 3 from h) with | [_, _, _], _ => exact ⟨rfl, rfl, rfl⟩) ready_pure hval hW
theorem over : Rows.skillReadyRow.holds Try.pinned (OpenSpec.ofChange Rows.skillReadySpec) :=
  OpenClaim.holds_of_wide 12 Try.f12 rfl rfl rfl rfl rfl rfl rfl ⟨rfl, rfl, rfl, rfl, rfl⟩ rfl rfl rfl rfl rfl (by kernel_rfl) Try.func12 (by kernel_rfl)
    (of_decide_eq_true (by kernel_rfl)) (by unfold Func.isWrapper; first | (rw [if_pos (by decide +kernel)]; kernel_rfl) | (rw [if_neg (by decide +kernel)]; exact ⟨rfl, rfl⟩))
    (fun os started H enc _ => lifted os started H enc)
theorem proved : Rows.SkillReadySaid := over
end Go.Proofs.Ytdokbocmgdhmmaa.skillReady
