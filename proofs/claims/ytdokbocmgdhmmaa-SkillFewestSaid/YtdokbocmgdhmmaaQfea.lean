/-
  'SkillFewest': for every input the law returns true, and what is handed in reads as before. No condition.
-/
import Derived.Test.YtdokbocmgdhmmaaQg
import Derived.Test.YtdokbocmgdhmmaaRows
import Derived.WalkKit
import Derived.ProofKit
set_option linter.unusedVariables false
set_option linter.unusedSectionVars false
set_option linter.unusedSimpArgs false
namespace Go.Proofs.Ytdokbocmgdhmmaa
open Go.RowKit
set_option linter.unusedVariables false
set_option maxRecDepth 100000
set_option maxHeartbeats 1600000
namespace Sp
def sameI (a b : Dt) : Nat → Nat → Bool
  | _, 0 => true
  | i, n + 1 => (if (cel a i 0).int = (cel b i 0).int then true else false) && sameI a b (i + 1) n
end Sp
end Go.Proofs.Ytdokbocmgdhmmaa
namespace Go.Proofs.Ytdokbocmgdhmmaa
open Go.RowKit
set_option linter.unusedVariables false
set_option maxRecDepth 100000
set_option maxHeartbeats 1600000
namespace Sp
def othA (nums : Dt) (i left : Int) : Int := max 0 (min ((trn nums i).tmod 9) left)
def othR (nums : Dt) : Nat → Int → Int → Dt → Dt
  | 0, _, _, o => o
  | r + 1, i, left, o => othR nums r (i + 1) (left - othA nums i left) (o ++ [[.i (othA nums i left)]])
end Sp
noncomputable def TK22a : Tab Try.prog := ⟨[pc_turn], [], []⟩
def sp_psum [InW] (e : List Ed) (K : Nat → List Ed → Prop) : Prop := match e with
  | [.i f, .i i, .l p] => Pre (0 ≤ i ∧ i ≤ p.length ∧ Sp.PlOk p ∧ 0 ≤ f ∧ f ≤ 8 * i) (K 0 [.i (f + Sp.sumF p i.toNat (p.length - i.toNat)), .l p])
  | _ => False
noncomputable def lc_psum : LC where
  len := 173
  T := [(7, (.row 6)), (9, .int .i64), (10, .int .i64)]
  H := [(6, .arr 3 [.int .i64])]
  W := [6, 76, 77, 78, 79, 80, 81, 82, 83, 84, 85, 86, 87, 88, 89, 90, 91, 92, 93, 94, 95, 96, 97, 98, 99]
  outs := [⟨.exit 0, [(7, (.row 12)), (9, .int .i64)], [(12, .arr 3 [.int .i64])], [6, 10, 76, 77, 78, 79, 80, 81, 82, 83, 84, 85, 86, 87, 88, 89, 90, 91, 92, 93, 94, 95, 96, 97, 98, 99]⟩, ⟨.ret, [(6, (.lit (.bool false)))], [], [7, 9, 10, 76, 77, 78, 79, 80, 81, 82, 83, 84, 85, 86, 87, 88, 89, 90, 91, 92, 93, 94, 95, 96, 97, 98, 99]⟩]
  spec := sp_psum
def VCL_psum [W : InW] (f i : Int) (p : Dt) (A : List Ed → Prop) (K : Nat → List Ed → Prop) : Prop :=
  Vif (decide (i < (↑(p.length) : Int))) (Need (decide ((0 : Int) ≤ i) && decide (i < (↑(p.length) : Int))) (Need (decide (i.toNat < p.length)) (Vif (decide ((cel p i.toNat (0 : Nat)).int < (0 : Int))) (K (0+1 : Nat) []) (Need (decide ((0 : Int) ≤ i) && decide (i < (↑(p.length) : Int))) (Need (decide (i.toNat < p.length)) (Vif (decide ((8 : Int) < (cel p i.toNat (0 : Nat)).int)) (K (0+1 : Nat) []) (Need (decide ((0 : Int) ≤ i) && decide (i < (↑(p.length) : Int))) (Need (decide (i.toNat < p.length)) (Ar .i64 (f + (cel p i.toNat (0 : Nat)).int) fun z => Ar .i64 (i + (1 : Int)) fun z_1 => A [.i z, .i z_1, .l p]))))))))) (K (0 : Nat) [.i f, .l p])
theorem vcl_psum (W : InW) (f i p A K) : vcTop { cxT Try.prog TT TK22a 1000 50 with fn := 13 } 1000 (loopAt Try.prog 13 11) (tmOut 173 [(7, .rw 6), (9, .si .i64 f), (10, .si .i64 i)] [6, 76, 77, 78, 79, 80, 81, 82, 83, 84, 85, 86, 87, 88, 89, 90, 91, 92, 93, 94, 95, 96, 97, 98, 99]) [(6, .arr 3 [.int .i64] p)] (roundL lc_psum A K) = VCL_psum f i p A K := by kernel_rfl
def okLt_psum : Prop := ∀ (W : InW) (body a : Code), (Try.prog.funcs[13]?).bind (·.body) = some body → a ∈ loopsIn body → keyOf a = 11 → @LoopOk W Try.prog a (@loopRun W lc_psum)
theorem okl_psum (meas : [InW] → List Ed → Nat) (hyp_ : ∀ (W : InW) (f : Int) (i : Int) (p : Dt) (K : Nat → List Ed → Prop), sp_psum [.i f, .i i, .l p] K → ∀ A : List Ed → Prop, (∀ e, meas e < meas [.i f, .i i, .l p] → sp_psum e K → A e) → VCL_psum f i p A K) : okLt_psum :=
  LE.okOf' (fun W => @TT W) (fun W => @TT_ok W) mixed_ok TK22a 1000 50 (by kernel_rfl) lc_psum (fun W => @meas W) fun W f i p K hs =>
    (vcl_psum W f i p (fun e => meas e < meas [.i f, .i i, .l p] ∧ sp_psum e K) K).mpr (hyp_ W f i p K hs _ fun e h1 h2 => ⟨h1, h2⟩)
def sp_oth [InW] (e : List Ed) (K : Nat → List Ed → Prop) : Prop := match e with
  | [.i left, .i i, .ro _ sk, .ro _ is, .ro _ rg, .i w, .ro _ nums, .l other] => Pre (0 ≤ i ∧ i ≤ sk.xs.length ∧ sk.xs.length ≤ 5 ∧ Sp.U16 nums.xs ∧ -1 ≤ left ∧ left ≤ 1000 ∧ other.length = i)
     (K 0 [.ro _ sk, .ro _ is, .ro _ rg, .i w, .ro _ nums, .l (Sp.othR nums.xs (sk.xs.length - i.toNat) i left other)])
  | _ => False
noncomputable def lc_oth : LC where
  len := 173
  T := [(3, (.ptr 1 0)), (5, (.ptr 4 0)), (15, (.row 6)), (16, .int .i64), (17, .int .i64)]
  H := [(1, .blk 25 [.rs [.str, .int .i64, .int .i64, .int .i64, .int .i64], .rs [.str, .int .i64, .int .i64]]), (4, .blk 89 [.rs [.int .i64, .int .i64], .int .i64, .rs [.int .u16]]), (6, .arr 3 [.int .i64])]
  W := [18, 123, 124, 125, 126, 127, 128, 129, 130, 131, 132, 133, 134, 135, 136, 137, 138, 139, 140, 141, 142, 143, 144, 145]
  outs := [⟨.exit 2, [(3, (.ptr 1 0)), (5, (.ptr 4 0)), (15, (.row 12))], [(1, .blk 25 [.rs [.str, .int .i64, .int .i64, .int .i64, .int .i64], .rs [.str, .int .i64, .int .i64]]), (4, .blk 89 [.rs [.int .i64, .int .i64], .int .i64, .rs [.int .u16]]), (12, .arr 3 [.int .i64])], [16, 17, 18, 123, 124, 125, 126, 127, 128, 129, 130, 131, 132, 133, 134, 135, 136, 137, 138, 139, 140, 141, 142, 143, 144, 145]⟩]
  spec := sp_oth
def VCL_oth [W : InW] (left i : Int) (sk : Ro [.str, .int .i64, .int .i64, .int .i64, .int .i64]) (is : Ro [.str, .int .i64, .int .i64]) (rg : Ro [.int .i64, .int .i64]) (w : Int) (nums : Ro [.int .u16]) (other : Dt) (A : List Ed → Prop) (K : Nat → List Ed → Prop) : Prop :=
  Vif (decide (i < (↑(sk.xs.length) : Int))) (Pre ((0 : Int) ≤ i ∧ i ≤ (1000000000 : Int) ∧ Sp.U16 nums.xs) (Need (decide ((other.length + [[Cl.i (max (0 : Int) (min ((Sp.trn nums.xs i).tmod (9 : Int)) left))]].length) * (8 : Nat) ≤ (140737488355328 : Nat))) (Ar .i64 (left - max (0 : Int) (min ((Sp.trn nums.xs i).tmod (9 : Int)) left)) fun z => Ar .i64 (i + (1 : Int)) fun z_1 => A [.i z, .i z_1, .ro _ sk, .ro _ is, .ro _ rg, .i w, .ro _ nums, .l (other ++ [[Cl.i (max (0 : Int) (min ((Sp.trn nums.xs i).tmod (9 : Int)) left))]])]))) (K (0 : Nat) [.ro _ sk, .ro _ is, .ro _ rg, .i w, .ro _ nums, .l other])
theorem vcl_oth (W : InW) (left i sk is rg w nums other A K) : vcTop { cxT Try.prog TT TK22a 1000 50 with fn := 13 } 1000 (loopAt Try.prog 13 22) (tmOut 173 [(3, .ptr 1 0), (5, .ptr 4 0), (15, .rw 6), (16, .si .i64 left), (17, .si .i64 i)] [18, 123, 124, 125, 126, 127, 128, 129, 130, 131, 132, 133, 134, 135, 136, 137, 138, 139, 140, 141, 142, 143, 144, 145]) [(1, .blk 25 [.rs _ sk, .rs _ is]), (4, .blk 89 [.rs _ rg, .si .i64 w, .rs _ nums]), (6, .arr 3 [.int .i64] other)] (roundL lc_oth A K) = VCL_oth left i sk is rg w nums other A K := by kernel_rfl
def okLt_oth : Prop := ∀ (W : InW) (body a : Code), (Try.prog.funcs[13]?).bind (·.body) = some body → a ∈ loopsIn body → keyOf a = 22 → @LoopOk W Try.prog a (@loopRun W lc_oth)
theorem okl_oth (meas : [InW] → List Ed → Nat) (hyp_ : ∀ (W : InW) (left : Int) (i : Int) (sk : Ro [.str, .int .i64, .int .i64, .int .i64, .int .i64]) (is : Ro [.str, .int .i64, .int .i64]) (rg : Ro [.int .i64, .int .i64]) (w : Int) (nums : Ro [.int .u16]) (other : Dt) (K : Nat → List Ed → Prop), sp_oth [.i left, .i i, .ro _ sk, .ro _ is, .ro _ rg, .i w, .ro _ nums, .l other] K → ∀ A : List Ed → Prop, (∀ e, meas e < meas [.i left, .i i, .ro _ sk, .ro _ is, .ro _ rg, .i w, .ro _ nums, .l other] → sp_oth e K → A e) → VCL_oth left i sk is rg w nums other A K) : okLt_oth :=
  LE.okOf' (fun W => @TT W) (fun W => @TT_ok W) mixed_ok TK22a 1000 50 (by kernel_rfl) lc_oth (fun W => @meas W) fun W left i sk is rg w nums other K hs =>
    (vcl_oth W left i sk is rg w nums other (fun e => meas e < meas [.i left, .i i, .ro _ sk, .ro _ is, .ro _ rg, .i w, .ro _ nums, .l other] ∧ sp_oth e K) K).mpr (hyp_ W left i sk is rg w nums other K hs _ fun e h1 h2 => ⟨h1, h2⟩)
theorem okLpsum : okLt_psum := okl_psum (fun e => match e with | _ :: .i i :: .l p :: _ => (p.length - i).toNat | _ => 0) fun W f i p K hs A hA => by
  obtain ⟨⟨h0, h1, hP, f0, f1⟩, hk⟩ := hs
  unfold VCL_psum
  have l5 := hP.l5
  have p8 := hP.p8 i.toNat
  unfold Sp.fLv at p8
  refine vifd (fun e => ?_) fun e => ?_
  · have e1 : (i + 1).toNat = i.toNat + 1 := by omega
    rw [show p.length - i.toNat = (p.length - (i.toNat + 1)) + 1 by omega, Sp.sumF, ← Int.add_assoc] at hk
    exact need_in (by omega) (nedd (by omega) (vifd (fun x => absurd x (by omega)) fun _ => need_in (by omega) (nedd (by omega) (vifd (fun x => absurd x (by omega)) fun _ => need_in (by omega) (nedd (by omega) (ar64 (by omega) (ar64 (by omega) (hA _ (by show ((p.length : Int) - (i + 1)).toNat < ((p.length : Int) - i).toNat; omega) ⟨⟨by omega, by omega, hP, by omega, by omega⟩, by rw [e1]; exact hk⟩))))))))
  · rw [show p.length - i.toNat = 0 by omega, Sp.sumF, Int.add_zero] at hk
    exact hk
theorem othA_in {nums : Dt} (h : Sp.U16 nums) (i left : Int) : 0 ≤ Sp.othA nums i left ∧ Sp.othA nums i left ≤ 8 ∧ Sp.othA nums i left ≤ max 0 left := by
  have t := trn_in h i
  have e : (Sp.trn nums i).tmod 9 = Sp.trn nums i % 9 := Int.tmod_eq_emod_of_nonneg t.1
  unfold Sp.othA
  rw [e]
  omega
theorem okLoth : okLt_oth := okl_oth (fun e => match e with | _ :: .i i :: .ro _ sk :: _ => (sk.xs.length - i).toNat | _ => 0) fun W left i sk is rg w nums other K hs A hA => by
  obtain ⟨⟨h0, h1, h5, hU, l0, l1, ho⟩, hk⟩ := hs
  unfold VCL_oth
  have ha := othA_in hU i left
  refine vifd (fun e => ?_) fun e => ?_
  · rw [show sk.xs.length - i.toNat = (sk.xs.length - (i + 1).toNat) + 1 by omega, Sp.othR] at hk
    have hA' := hA [.i (left - Sp.othA nums.xs i left), .i (i + 1), .ro _ sk, .ro _ is, .ro _ rg, .i w, .ro _ nums, .l (other ++ [[.i (Sp.othA nums.xs i left)]])] (by show ((sk.xs.length : Int) - (i + 1)).toNat < ((sk.xs.length : Int) - i).toNat; omega) ⟨⟨by omega, by omega, h5, hU, by omega, by omega, by rw [List.length_append, List.length_singleton]; omega⟩, hk⟩
    clear hk hA
    have he : max 0 (min ((Sp.trn nums.xs i).tmod 9) left) = Sp.othA nums.xs i left := rfl
    rw [he]
    exact ⟨⟨by omega, by omega, hU⟩, nedd (by rw [List.length_singleton]; omega) (ar64 (by omega) (ar64 (by omega) hA'))⟩
  · rw [show sk.xs.length - i.toNat = 0 by omega] at hk
    exact hk
noncomputable def le_psum : LE Try.prog := ⟨13, 11, fun W => @loopRun W lc_psum, okLpsum⟩
noncomputable def le_oth : LE Try.prog := ⟨13, 22, fun W => @loopRun W lc_oth, okLoth⟩
noncomputable def TK22 : Tab Try.prog := ⟨[pc_Fewest, pc_Check, pc_Ready, pc_Raised, pc_Awake], [le_psum, le_oth], []⟩
def VC_lawFewest [W : InW] (s_Skills : Ro [.str, .int .i64, .int .i64, .int .i64, .int .i64]) (s_Instrs : Ro [.str, .int .i64, .int .i64]) (t_Tasks : Ro [.int .i64, .int .i64]) (t_Allowed : Int) (x_rg : Ro [.int .i64, .int .i64]) (x_w : Int) (x_nums : Ro [.int .u16]) (Q : DS → Prop) : Prop :=
  Pre True (Vif (!decide (Sp.fewE s_Skills.xs s_Instrs.xs t_Tasks.xs t_Allowed x_rg.xs x_w = (0 : Int))) (Vif (!decide (Sp.fewE s_Skills.xs s_Instrs.xs t_Tasks.xs t_Allowed x_rg.xs x_w = (9 : Int))) (Vif (!decide (Sp.fewE s_Skills.xs s_Instrs.xs t_Tasks.xs t_Allowed x_rg.xs x_w = (0 : Int))) (Vif (decide ((↑(List.length (Sp.fewD s_Skills.xs s_Instrs.xs t_Tasks.xs t_Allowed x_rg.xs x_w)) : Int) = (0 : Int))) (Pre True (Q [[Cl.b true]])) (Q [[Cl.b false]])) (Q [[Cl.b false]])) (Pre (Sp.NamesOk s_Skills.xs ∧ Sp.NamesOk s_Instrs.xs) (Vif (!decide (Sp.chkE s_Skills.xs s_Instrs.xs = (0 : Int))) (Vif (!decide (Sp.fewE s_Skills.xs s_Instrs.xs t_Tasks.xs t_Allowed x_rg.xs x_w = (0 : Int))) (Vif (decide ((↑(List.length (Sp.fewD s_Skills.xs s_Instrs.xs t_Tasks.xs t_Allowed x_rg.xs x_w)) : Int) = (0 : Int))) (Pre True (Q [[Cl.b true]])) (Q [[Cl.b false]])) (Q [[Cl.b false]])) (Vif (!decide ((↑(x_rg.xs.length) : Int) = (↑(s_Skills.xs.length) : Int))) (Vif (!decide (Sp.fewE s_Skills.xs s_Instrs.xs t_Tasks.xs t_Allowed x_rg.xs x_w = (0 : Int))) (Vif (decide ((↑(List.length (Sp.fewD s_Skills.xs s_Instrs.xs t_Tasks.xs t_Allowed x_rg.xs x_w)) : Int) = (0 : Int))) (Pre True (Q [[Cl.b true]])) (Q [[Cl.b false]])) (Q [[Cl.b false]])) (Ar .i64 ((↑(s_Skills.xs.length) : Int) * (8 : Int)) fun z => Ar .i64 (z + (1 : Int)) fun z => Vif (decide (Sp.fewE s_Skills.xs s_Instrs.xs t_Tasks.xs t_Allowed x_rg.xs x_w = (0 : Int))) (Vif (!decide ((↑(List.length (Sp.fewD s_Skills.xs s_Instrs.xs t_Tasks.xs t_Allowed x_rg.xs x_w)) : Int) = (↑(s_Skills.xs.length) : Int))) (Q [[Cl.b false]]) (Pre ((0 : Int) ≤ (0 : Int) ∧ (0 : Int) ≤ (↑(List.length (Sp.fewD s_Skills.xs s_Instrs.xs t_Tasks.xs t_Allowed x_rg.xs x_w)) : Int) ∧ Sp.PlOk (Sp.fewD s_Skills.xs s_Instrs.xs t_Tasks.xs t_Allowed x_rg.xs x_w) ∧ (0 : Int) ≤ (0 : Int) ∧ (0 : Int) ≤ (8 : Int) * (0 : Int)) (Pre (Sp.SchOk s_Skills.xs s_Instrs.xs ∧ x_rg.xs.length = s_Skills.xs.length ∧ List.length (Sp.fewD s_Skills.xs s_Instrs.xs t_Tasks.xs t_Allowed x_rg.xs x_w) = s_Skills.xs.length ∧ Sp.RgOk x_rg.xs ∧ Sp.PlOk (Sp.fewD s_Skills.xs s_Instrs.xs t_Tasks.xs t_Allowed x_rg.xs x_w)) (Pre True (Vif (!decide (Sp.readyE s_Skills.xs s_Instrs.xs t_Tasks.xs t_Allowed (Sp.raD s_Skills.xs x_rg.xs (Sp.fewD s_Skills.xs s_Instrs.xs t_Tasks.xs t_Allowed x_rg.xs x_w) (x_rg.xs.length)) x_w = (0 : Int))) (Q [[Cl.b false]]) (Vif (!Sp.isRdy s_Skills.xs s_Instrs.xs t_Tasks.xs t_Allowed (Sp.raD s_Skills.xs x_rg.xs (Sp.fewD s_Skills.xs s_Instrs.xs t_Tasks.xs t_Allowed x_rg.xs x_w) (x_rg.xs.length)) x_w) (Q [[Cl.b false]]) (Ar .i64 ((0 : Int) + Sp.sumF (Sp.fewD s_Skills.xs s_Instrs.xs t_Tasks.xs t_Allowed x_rg.xs x_w) (Int.toNat (0 : Int)) (List.length (Sp.fewD s_Skills.xs s_Instrs.xs t_Tasks.xs t_Allowed x_rg.xs x_w) - Int.toNat (0 : Int)) - (1 : Int)) fun z => Pre ((0 : Int) ≤ (0 : Int) ∧ (0 : Int) ≤ (↑(s_Skills.xs.length) : Int) ∧ s_Skills.xs.length ≤ (5 : Nat) ∧ Sp.U16 x_nums.xs ∧ (-1 : Int) ≤ z ∧ z ≤ (1000 : Int) ∧ (↑(0 : Nat) : Int) = (0 : Int)) (Vif (decide ((0 : Int) + Sp.sumF (Sp.fewD s_Skills.xs s_Instrs.xs t_Tasks.xs t_Allowed x_rg.xs x_w) (Int.toNat (0 : Int)) (List.length (Sp.fewD s_Skills.xs s_Instrs.xs t_Tasks.xs t_Allowed x_rg.xs x_w) - Int.toNat (0 : Int)) = (0 : Int))) (Pre True (Q [[Cl.b true]])) (Pre (Sp.SchOk s_Skills.xs s_Instrs.xs ∧ x_rg.xs.length = s_Skills.xs.length ∧ List.length (Sp.othR x_nums.xs (s_Skills.xs.length - Int.toNat (0 : Int)) (0 : Int) z []) = s_Skills.xs.length ∧ Sp.RgOk x_rg.xs ∧ Sp.PlOk (Sp.othR x_nums.xs (s_Skills.xs.length - Int.toNat (0 : Int)) (0 : Int) z [])) (Pre True (Vif (decide (Sp.readyE s_Skills.xs s_Instrs.xs t_Tasks.xs t_Allowed (Sp.raD s_Skills.xs x_rg.xs (Sp.othR x_nums.xs (s_Skills.xs.length - Int.toNat (0 : Int)) (0 : Int) z []) (x_rg.xs.length)) x_w = (0 : Int))) (Vif (!Sp.isRdy s_Skills.xs s_Instrs.xs t_Tasks.xs t_Allowed (Sp.raD s_Skills.xs x_rg.xs (Sp.othR x_nums.xs (s_Skills.xs.length - Int.toNat (0 : Int)) (0 : Int) z []) (x_rg.xs.length)) x_w) (Pre True (Q [[Cl.b true]])) (Q [[Cl.b false]])) (Q [[Cl.b false]])))))))))))) (Ar .i64 (z - (1 : Int)) fun z_1 => Pre ((0 : Int) ≤ (0 : Int) ∧ (0 : Int) ≤ (↑(s_Skills.xs.length) : Int) ∧ s_Skills.xs.length ≤ (5 : Nat) ∧ Sp.U16 x_nums.xs ∧ (-1 : Int) ≤ z_1 ∧ z_1 ≤ (1000 : Int) ∧ (↑(0 : Nat) : Int) = (0 : Int)) (Vif (decide (z = (0 : Int))) (Pre True (Q [[Cl.b true]])) (Pre (Sp.SchOk s_Skills.xs s_Instrs.xs ∧ x_rg.xs.length = s_Skills.xs.length ∧ List.length (Sp.othR x_nums.xs (s_Skills.xs.length - Int.toNat (0 : Int)) (0 : Int) z_1 []) = s_Skills.xs.length ∧ Sp.RgOk x_rg.xs ∧ Sp.PlOk (Sp.othR x_nums.xs (s_Skills.xs.length - Int.toNat (0 : Int)) (0 : Int) z_1 [])) (Pre True (Vif (decide (Sp.readyE s_Skills.xs s_Instrs.xs t_Tasks.xs t_Allowed (Sp.raD s_Skills.xs x_rg.xs (Sp.othR x_nums.xs (s_Skills.xs.length - Int.toNat (0 : Int)) (0 : Int) z_1 []) (x_rg.xs.length)) x_w = (0 : Int))) (Vif (!Sp.isRdy s_Skills.xs s_Instrs.xs t_Tasks.xs t_Allowed (Sp.raD s_Skills.xs x_rg.xs (Sp.othR x_nums.xs (s_Skills.xs.length - Int.toNat (0 : Int)) (0 : Int) z_1 []) (x_rg.xs.length)) x_w) (Pre True (Q [[Cl.b true]])) (Q [[Cl.b false]])) (Q [[Cl.b false]]))))))))))) (Pre (Sp.NamesOk s_Skills.xs ∧ Sp.NamesOk s_Instrs.xs) (Vif (!decide (Sp.chkE s_Skills.xs s_Instrs.xs = (0 : Int))) (Vif (!decide (Sp.fewE s_Skills.xs s_Instrs.xs t_Tasks.xs t_Allowed x_rg.xs x_w = (0 : Int))) (Vif (decide ((↑(List.length (Sp.fewD s_Skills.xs s_Instrs.xs t_Tasks.xs t_Allowed x_rg.xs x_w)) : Int) = (0 : Int))) (Pre True (Q [[Cl.b true]])) (Q [[Cl.b false]])) (Q [[Cl.b false]])) (Vif (!decide ((↑(x_rg.xs.length) : Int) = (↑(s_Skills.xs.length) : Int))) (Vif (!decide (Sp.fewE s_Skills.xs s_Instrs.xs t_Tasks.xs t_Allowed x_rg.xs x_w = (0 : Int))) (Vif (decide ((↑(List.length (Sp.fewD s_Skills.xs s_Instrs.xs t_Tasks.xs t_Allowed x_rg.xs x_w)) : Int) = (0 : Int))) (Pre True (Q [[Cl.b true]])) (Q [[Cl.b false]])) (Q [[Cl.b false]])) (Ar .i64 ((↑(s_Skills.xs.length) : Int) * (8 : Int)) fun z => Ar .i64 (z + (1 : Int)) fun z => Vif (decide (Sp.fewE s_Skills.xs s_Instrs.xs t_Tasks.xs t_Allowed x_rg.xs x_w = (0 : Int))) (Vif (!decide ((↑(List.length (Sp.fewD s_Skills.xs s_Instrs.xs t_Tasks.xs t_Allowed x_rg.xs x_w)) : Int) = (↑(s_Skills.xs.length) : Int))) (Q [[Cl.b false]]) (Pre ((0 : Int) ≤ (0 : Int) ∧ (0 : Int) ≤ (↑(List.length (Sp.fewD s_Skills.xs s_Instrs.xs t_Tasks.xs t_Allowed x_rg.xs x_w)) : Int) ∧ Sp.PlOk (Sp.fewD s_Skills.xs s_Instrs.xs t_Tasks.xs t_Allowed x_rg.xs x_w) ∧ (0 : Int) ≤ (0 : Int) ∧ (0 : Int) ≤ (8 : Int) * (0 : Int)) (Pre (Sp.SchOk s_Skills.xs s_Instrs.xs ∧ x_rg.xs.length = s_Skills.xs.length ∧ List.length (Sp.fewD s_Skills.xs s_Instrs.xs t_Tasks.xs t_Allowed x_rg.xs x_w) = s_Skills.xs.length ∧ Sp.RgOk x_rg.xs ∧ Sp.PlOk (Sp.fewD s_Skills.xs s_Instrs.xs t_Tasks.xs t_Allowed x_rg.xs x_w)) (Pre True (Vif (!decide (Sp.readyE s_Skills.xs s_Instrs.xs t_Tasks.xs t_Allowed (Sp.raD s_Skills.xs x_rg.xs (Sp.fewD s_Skills.xs s_Instrs.xs t_Tasks.xs t_Allowed x_rg.xs x_w) (x_rg.xs.length)) x_w = (0 : Int))) (Q [[Cl.b false]]) (Vif (!Sp.isRdy s_Skills.xs s_Instrs.xs t_Tasks.xs t_Allowed (Sp.raD s_Skills.xs x_rg.xs (Sp.fewD s_Skills.xs s_Instrs.xs t_Tasks.xs t_Allowed x_rg.xs x_w) (x_rg.xs.length)) x_w) (Q [[Cl.b false]]) (Ar .i64 ((0 : Int) + Sp.sumF (Sp.fewD s_Skills.xs s_Instrs.xs t_Tasks.xs t_Allowed x_rg.xs x_w) (Int.toNat (0 : Int)) (List.length (Sp.fewD s_Skills.xs s_Instrs.xs t_Tasks.xs t_Allowed x_rg.xs x_w) - Int.toNat (0 : Int)) - (1 : Int)) fun z => Pre ((0 : Int) ≤ (0 : Int) ∧ (0 : Int) ≤ (↑(s_Skills.xs.length) : Int) ∧ s_Skills.xs.length ≤ (5 : Nat) ∧ Sp.U16 x_nums.xs ∧ (-1 : Int) ≤ z ∧ z ≤ (1000 : Int) ∧ (↑(0 : Nat) : Int) = (0 : Int)) (Vif (decide ((0 : Int) + Sp.sumF (Sp.fewD s_Skills.xs s_Instrs.xs t_Tasks.xs t_Allowed x_rg.xs x_w) (Int.toNat (0 : Int)) (List.length (Sp.fewD s_Skills.xs s_Instrs.xs t_Tasks.xs t_Allowed x_rg.xs x_w) - Int.toNat (0 : Int)) = (0 : Int))) (Pre True (Q [[Cl.b true]])) (Pre (Sp.SchOk s_Skills.xs s_Instrs.xs ∧ x_rg.xs.length = s_Skills.xs.length ∧ List.length (Sp.othR x_nums.xs (s_Skills.xs.length - Int.toNat (0 : Int)) (0 : Int) z []) = s_Skills.xs.length ∧ Sp.RgOk x_rg.xs ∧ Sp.PlOk (Sp.othR x_nums.xs (s_Skills.xs.length - Int.toNat (0 : Int)) (0 : Int) z [])) (Pre True (Vif (decide (Sp.readyE s_Skills.xs s_Instrs.xs t_Tasks.xs t_Allowed (Sp.raD s_Skills.xs x_rg.xs (Sp.othR x_nums.xs (s_Skills.xs.length - Int.toNat (0 : Int)) (0 : Int) z []) (x_rg.xs.length)) x_w = (0 : Int))) (Vif (!Sp.isRdy s_Skills.xs s_Instrs.xs t_Tasks.xs t_Allowed (Sp.raD s_Skills.xs x_rg.xs (Sp.othR x_nums.xs (s_Skills.xs.length - Int.toNat (0 : Int)) (0 : Int) z []) (x_rg.xs.length)) x_w) (Pre True (Q [[Cl.b true]])) (Q [[Cl.b false]])) (Q [[Cl.b false]])))))))))))) (Ar .i64 (z - (1 : Int)) fun z_1 => Pre ((0 : Int) ≤ (0 : Int) ∧ (0 : Int) ≤ (↑(s_Skills.xs.length) : Int) ∧ s_Skills.xs.length ≤ (5 : Nat) ∧ Sp.U16 x_nums.xs ∧ (-1 : Int) ≤ z_1 ∧ z_1 ≤ (1000 : Int) ∧ (↑(0 : Nat) : Int) = (0 : Int)) (Vif (decide (z = (0 : Int))) (Pre True (Q [[Cl.b true]])) (Pre (Sp.SchOk s_Skills.xs s_Instrs.xs ∧ x_rg.xs.length = s_Skills.xs.length ∧ List.length (Sp.othR x_nums.xs (s_Skills.xs.length - Int.toNat (0 : Int)) (0 : Int) z_1 []) = s_Skills.xs.length ∧ Sp.RgOk x_rg.xs ∧ Sp.PlOk (Sp.othR x_nums.xs (s_Skills.xs.length - Int.toNat (0 : Int)) (0 : Int) z_1 [])) (Pre True (Vif (decide (Sp.readyE s_Skills.xs s_Instrs.xs t_Tasks.xs t_Allowed (Sp.raD s_Skills.xs x_rg.xs (Sp.othR x_nums.xs (s_Skills.xs.length - Int.toNat (0 : Int)) (0 : Int) z_1 []) (x_rg.xs.length)) x_w = (0 : Int))) (Vif (!Sp.isRdy s_Skills.xs s_Instrs.xs t_Tasks.xs t_Allowed (Sp.raD s_Skills.xs x_rg.xs (Sp.othR x_nums.xs (s_Skills.xs.length - Int.toNat (0 : Int)) (0 : Int) z_1 []) (x_rg.xs.length)) x_w) (Pre True (Q [[Cl.b true]])) (Q [[Cl.b false]])) (Q [[Cl.b false]])))))))))))
theorem vc_lawFewest (W : InW) (s_Skills s_Instrs t_Tasks t_Allowed x_rg x_w x_nums Q) : bodyK (cxT Try.prog TT TK22 1000 50) 1000 13 [.agg [.rs _ s_Skills, .rs _ s_Instrs], .agg [.rs _ t_Tasks, .si .i64 t_Allowed], .agg [.rs _ x_rg, .si .i64 x_w, .rs _ x_nums]] [] 0 (leafK [(false, [.bool])] Q) (fun _ _ _ _ => Stuck 421) = VC_lawFewest s_Skills s_Instrs t_Tasks t_Allowed x_rg x_w x_nums Q := by kernel_rfl
abbrev ats_lawFewest : List AT := [.agg [.sl [.str, .int .i64, .int .i64, .int .i64, .int .i64], .sl [.str, .int .i64, .int .i64]], .agg [.sl [.int .i64, .int .i64], .int .i64], .agg [.sl [.int .i64, .int .i64], .int .i64, .sl [.int .u16]]]
theorem ok_lawFewest {pre : DS → Prop} {res : DS → DS} (hyp_ : ∀ (W : InW) (s_Skills : Ro [.str, .int .i64, .int .i64, .int .i64, .int .i64]) (s_Instrs : Ro [.str, .int .i64, .int .i64]) (t_Tasks : Ro [.int .i64, .int .i64]) (t_Allowed : Int) (x_rg : Ro [.int .i64, .int .i64]) (x_w : Int) (x_nums : Ro [.int .u16]), pre [[.l s_Skills.xs, .l s_Instrs.xs], [.l t_Tasks.xs, .i t_Allowed], [.l x_rg.xs, .i x_w, .l x_nums.xs]] → ∀ Q : DS → Prop, Q (res [[.l s_Skills.xs, .l s_Instrs.xs], [.l t_Tasks.xs, .i t_Allowed], [.l x_rg.xs, .i x_w, .l x_nums.xs]]) → VC_lawFewest s_Skills s_Instrs t_Tasks t_Allowed x_rg x_w x_nums Q) : PureOk Try.prog 13 ats_lawFewest [(false, [.bool])] pre res :=
  PureOk.of' (fun W => @TT W) (fun W => @TT_ok W) mixed_ok TK22 1000 50 fun W s_Skills s_Instrs t_Tasks t_Allowed x_rg x_w x_nums hp =>
    (vc_lawFewest W s_Skills s_Instrs t_Tasks t_Allowed x_rg x_w x_nums (fun o => o = res [[.l s_Skills.xs, .l s_Instrs.xs], [.l t_Tasks.xs, .i t_Allowed], [.l x_rg.xs, .i x_w, .l x_nums.xs]])).mpr (hyp_ W s_Skills s_Instrs t_Tasks t_Allowed x_rg x_w x_nums hp _ rfl)
theorem errE_ne {f : Nat → Int} {c : Int} (hc : c ≠ 0) (h : ∀ k, f k ≠ c) (i n : Nat) : Sp.errE f i n ≠ c := by
  unfold Sp.errE
  split
  · exact h _
  · exact fun e => hc e.symm
theorem ready_ne {sk is ts rg : Dt} {al w : Int} (h : Sp.chkE sk is = 0) : Sp.readyE sk is ts al rg w ≠ 9 := by
  have h1 : Sp.testE sk.length ts al ≠ 9 := by
    unfold Sp.testE
    split
    · split
      · refine errE_ne (by decide) (fun k => ?_) 0 _
        unfold Sp.taskE
        split
        · split <;> decide
        · decide
      · decide
    · decide
  have h2 : Sp.rgsE sk.length rg ≠ 9 := by
    unfold Sp.rgsE
    split
    · refine errE_ne (by decide) (fun k => ?_) 0 _
      unfold Sp.rgE Sp.spanE
      split
      · split <;> decide
      · decide
    · decide
  unfold Sp.readyE Sp.strE
  rw [if_pos h]
  split
  · split
    · split <;> decide
    · exact h2
  · exact h1
theorem sumF_end {p : Dt} : ∀ (n i : Nat), Sp.sumF p i (n + 1) = Sp.sumF p i n + Sp.fLv p (i + n)
  | 0, i => by rw [Sp.sumF, Sp.sumF, Sp.sumF, Int.add_zero, Int.zero_add]; rfl
  | n + 1, i => by
    rw [Sp.sumF, sumF_end n (i + 1), Sp.sumF, show i + 1 + n = i + (n + 1) by omega]
    omega
theorem sumF_congr {p q : Dt} : ∀ (n i : Nat), (∀ j, j < i + n → Sp.fLv p j = Sp.fLv q j) → Sp.sumF p i n = Sp.sumF q i n
  | 0, _, _ => rfl
  | n + 1, i, h => by rw [Sp.sumF, Sp.sumF, h i (by omega), sumF_congr n (i + 1) fun j hj => h j (by omega)]
theorem app_old {o : Dt} {x : Int} {j : Nat} (h : j < o.length) : (o ++ [[Cl.i x]]).getD j [] = o.getD j [] := by
  rw [List.getD_eq_getElem?_getD, List.getD_eq_getElem?_getD, List.getElem?_append_left h]
theorem app_new {o : Dt} {x : Int} : (o ++ [[Cl.i x]]).getD o.length [] = [.i x] := by
  rw [List.getD_eq_getElem?_getD, List.getElem?_append_right (Nat.le_refl _), Nat.sub_self]; rfl
theorem fLv_old {o : Dt} {x : Int} {j : Nat} (h : j < o.length) : Sp.fLv (o ++ [[Cl.i x]]) j = Sp.fLv o j := by
  show (((o ++ [[Cl.i x]]).getD j []).getD 0 .z).int = _
  rw [app_old h]; rfl
theorem fLv_new {o : Dt} {x : Int} : Sp.fLv (o ++ [[Cl.i x]]) o.length = x := by
  show (((o ++ [[Cl.i x]]).getD o.length []).getD 0 .z).int = _
  rw [app_new]; rfl
theorem sumI_app {o : Dt} {x : Int} : Sp.sumI (o ++ [[.i x]]) = Sp.sumI o + x := by
  rw [Sp.sumI, List.length_append, List.length_singleton, sumF_end, Nat.zero_add, fLv_new, Sp.sumI, sumF_congr o.length 0 fun j hj => fLv_old (by omega)]
theorem oth_res {nums : Dt} (hU : Sp.U16 nums) {n : Nat} (n5 : n ≤ 5) : ∀ (r : Nat) (i left : Int) (o : Dt), o.length + r = n → (∀ j, j < o.length → ∃ a, o.getD j [] = [.i a] ∧ 0 ≤ a ∧ a ≤ 8) →
    Sp.Plan n (Sp.othR nums r i left o) ∧ Sp.sumI (Sp.othR nums r i left o) ≤ Sp.sumI o + max 0 left
  | 0, i, left, o, hl, ho => ⟨⟨hl, ⟨by show o.length ≤ 5; omega, fun j => by
      show 0 ≤ Sp.fLv o j ∧ Sp.fLv o j ≤ 8
      by_cases hj : j < o.length
      · obtain ⟨a, e, h0, h8⟩ := ho j hj
        have : Sp.fLv o j = a := by
          show ((o.getD j []).getD 0 .z).int = a
          rw [e]; rfl
        omega
      · unfold Sp.fLv; rw [fin_z (by omega)]; omega⟩, fun j hj => by obtain ⟨a, e, _⟩ := ho j hj; exact ⟨a, e⟩⟩, by show Sp.sumI o ≤ _; omega⟩
  | r + 1, i, left, o, hl, ho => by
    have ha := othA_in hU i left
    have ih := oth_res hU n5 r (i + 1) (left - Sp.othA nums i left) (o ++ [[.i (Sp.othA nums i left)]]) (by rw [List.length_append, List.length_singleton]; omega) fun j hj => by
      rw [List.length_append, List.length_singleton] at hj
      by_cases e : j < o.length
      · rw [app_old e]; exact ho j e
      · have e : j = o.length := by omega
        subst e
        rw [app_new]
        exact ⟨_, rfl, ha.1, ha.2.1⟩
    rw [sumI_app] at ih
    exact ⟨ih.1, Int.le_trans ih.2 (by omega)⟩
theorem ra_rlo {sk rg p : Dt} (h1 : rg.length = sk.length) (h2 : p.length = sk.length) : Sp.rLo (Sp.raD sk rg p rg.length) = Sp.raLo sk rg p := by
  rw [← ends_lo, ra_lo h1 h2]
theorem ra_ok {sk is rg ts p : Dt} {al w : Int} (hF : Sp.FwOk sk is rg ts al w) (hP : Sp.PlOk p) (hp : p.length = sk.length) : Sp.RgOk (Sp.raD sk rg p rg.length) := fun i hi => by
  rw [raD_len] at hi
  have hr := hF.rg i hi
  have hl := hF.len
  have hg := hF.str.sch.skG i (by omega)
  have p8 := hP.p8 i
  have e : (Sp.raD sk rg p rg.length).getD i [] = [.i (Sp.raLo sk rg p i), .i (Sp.raHi sk rg p i)] := by simp [Sp.raD, List.getD_eq_getElem?_getD, List.getElem?_range hi]
  have e1 : Sp.rLo (Sp.raD sk rg p rg.length) i = Sp.raLo sk rg p i := by
    show (((Sp.raD sk rg p rg.length).getD i []).getD 0 .z).int = _
    rw [e]; rfl
  have e2 : Sp.rHi (Sp.raD sk rg p rg.length) i = Sp.raHi sk rg p i := by
    show (((Sp.raD sk rg p rg.length).getD i []).getD 1 .z).int = _
    rw [e]; rfl
  have hm := Int.mul_le_mul_of_nonneg_left hg.2.1 p8.1
  have l1 := lev_in (Sp.rLo rg i + Sp.fLv p i * Sp.gLo sk i)
  have l2 := lev_in (Sp.rHi rg i + Sp.fLv p i * Sp.gHi sk i)
  rw [e1, e2]
  unfold Sp.raLo Sp.raHi
  refine ⟨l1.1, ?_, l2.2⟩
  unfold Sp.lev
  omega
theorem ra_rdy {sk is rg ts p : Dt} {al w : Int} (hF : Sp.FwOk sk is rg ts al w) (hP : Sp.PlOk p) (hp : p.length = sk.length) :
    Sp.readyE sk is ts al (Sp.raD sk rg p rg.length) w = 0 ∧ Sp.isRdy sk is ts al (Sp.raD sk rg p rg.length) w = Sp.okP sk rg ts al w p := by
  have e : Sp.readyE sk is ts al (Sp.raD sk rg p rg.length) w = 0 := readyE_iff.2 ⟨hF.str, by rw [raD_len]; exact hF.len, ra_ok hF hP hp, hF.w0, hF.w1⟩
  refine ⟨e, ?_⟩
  rw [Sp.isRdy, if_pos e, Sp.readyP, if_pos e, ra_rlo hF.len hp]
  rfl
theorem fewer_no {sk rg ts p : Dt} {al w : Int} (n1 : 1 ≤ sk.length) (n5 : sk.length ≤ 5) (hp : Sp.Plan sk.length p) (h : Sp.found sk rg ts al w = true → Sp.sumI p < Sp.sumI (Sp.best sk rg ts al w)) : Sp.okP sk rg ts al w p = false := by
  cases f : Sp.found sk rg ts al w with
  | true =>
    have hb := best_spec f
    have hs := h f
    cases c : Sp.okP sk rg ts al w p with
    | false => rfl
    | true =>
      have := hb.le p hp (cd_lt hp.ok _) c
      omega
  | false =>
    have hr := fe_res (ok := Sp.okP sk rg ts al w) n1 n5 (8 * sk.length + 1) 0 (by omega)
    have hs := sumF_nn hp.ok sk.length 0
    have e : Sp.sumI p = Sp.sumF p 0 sk.length := by rw [Sp.sumI, hp.len]
    rw [fe_best n1 n5] at hr
    exact (hr.1 f).2 p hp (by omega) (by omega)
theorem fewest_pure : PureOk Try.prog 13 ats_lawFewest [(false, [.bool])] (WfD ats_lawFewest) fun _ => [[.b true]] :=
  ok_lawFewest fun W sk is ts al rg w nums hp Q h => by
    obtain ⟨hp1, hp⟩ := hp.head
    obtain ⟨hp2, hp⟩ := hp.head
    obtain ⟨hp3, _⟩ := hp.head
    have hn := school_names hp1
    obtain ⟨g1, hp3⟩ := WfL.head hp3
    obtain ⟨g2, hp3⟩ := WfL.head hp3
    obtain ⟨g3, hp3⟩ := WfL.head hp3
    have hU := u16_of g3
    clear g1 g2 g3 hp hp1 hp2 hp3
    unfold VC_lawFewest
    have hE : Sp.fewE sk.xs is.xs ts.xs al rg.xs w = if Sp.readyE sk.xs is.xs ts.xs al rg.xs w = 0 then (if Sp.found sk.xs rg.xs ts.xs al w then 0 else 9) else Sp.readyE sk.xs is.xs ts.xs al rg.xs w := rfl
    have hD : Sp.fewE sk.xs is.xs ts.xs al rg.xs w ≠ 0 → Sp.fewD sk.xs is.xs ts.xs al rg.xs w = [] := fun e => by rw [Sp.fewD, if_neg e]
    have fin : ∀ (f : Int), Sp.FwOk sk.xs is.xs rg.xs ts.xs al w → 0 ≤ f → f ≤ 41 → (Sp.found sk.xs rg.xs ts.xs al w = true → f = Sp.sumI (Sp.best sk.xs rg.xs ts.xs al w)) →
        Pre ((0 : Int) ≤ 0 ∧ (0 : Int) ≤ ((sk.xs.length : Nat) : Int) ∧ sk.xs.length ≤ 5 ∧ Sp.U16 nums.xs ∧ -1 ≤ f - 1 ∧ f - 1 ≤ 1000 ∧ (((0 : Nat) : Int)) = 0) (Vif (decide (f = 0)) (Pre True (Q [[.b true]]))
          (Pre (Sp.SchOk sk.xs is.xs ∧ rg.xs.length = sk.xs.length ∧ List.length (Sp.othR nums.xs (sk.xs.length - Int.toNat 0) 0 (f - 1) []) = sk.xs.length ∧ Sp.RgOk rg.xs ∧ Sp.PlOk (Sp.othR nums.xs (sk.xs.length - Int.toNat 0) 0 (f - 1) []))
            (Pre True (Vif (decide (Sp.readyE sk.xs is.xs ts.xs al (Sp.raD sk.xs rg.xs (Sp.othR nums.xs (sk.xs.length - Int.toNat 0) 0 (f - 1) []) rg.xs.length) w = 0))
              (Vif (!Sp.isRdy sk.xs is.xs ts.xs al (Sp.raD sk.xs rg.xs (Sp.othR nums.xs (sk.xs.length - Int.toNat 0) 0 (f - 1) []) rg.xs.length) w) (Pre True (Q [[.b true]])) (Q [[.b false]])) (Q [[.b false]]))))) := fun f hF f0 f1 hs => by
      have n1 := hF.str.sch.n1
      have n5 := hF.str.sch.n5
      obtain ⟨o1, o2⟩ := oth_res hU n5 sk.xs.length 0 (f - 1) [] (by rw [List.length_nil]; omega) (fun j hj => by rw [List.length_nil] at hj; omega)
      rw [show Sp.sumI [] = 0 from rfl] at o2
      rw [show sk.xs.length - Int.toNat 0 = sk.xs.length from rfl]
      refine ⟨⟨by omega, by omega, n5, hU, by omega, by omega, rfl⟩, vifd (fun _ => ⟨trivial, h⟩) fun e0 => ⟨⟨hF.str.sch, hF.len, o1.len, hF.rg, o1.ok⟩, trivial, ?_⟩⟩
      obtain ⟨r1, r2⟩ := ra_rdy hF o1.ok o1.len
      have no := fewer_no (sk := sk.xs) (rg := rg.xs) (ts := ts.xs) (al := al) (w := w) n1 n5 o1 fun ff => by
        have := hs ff
        omega
      rw [r2, no]
      exact vifd (fun _ => vif (fun _ => ⟨trivial, h⟩) fun x => by cases x) fun x => absurd r1 x
    refine ⟨trivial, vifn (fun e => vifn (fun e9 => vifn (fun _ => vifd (fun _ => ⟨trivial, h⟩) fun x => absurd (by rw [hD e]; rfl) x) fun x => absurd x e) fun e9 => ⟨hn, ?_⟩) fun e => ⟨hn, ?_⟩⟩
    · refine vifn (fun _ => vifn (fun _ => vifd (fun _ => ⟨trivial, h⟩) fun x => absurd (by rw [hD e]; rfl) x) fun x => absurd x e) fun ec => vifn (fun _ => vifn (fun _ => vifd (fun _ => ⟨trivial, h⟩) fun x => absurd (by rw [hD e]; rfl) x) fun x => absurd x e) fun el => ?_
      have n5 := (chk_iff.1 ec).n5
      have n1 := (chk_iff.1 ec).n1
      have er : Sp.readyE sk.xs is.xs ts.xs al rg.xs w = 0 := Classical.byContradiction fun er => by
        rw [if_neg er] at hE
        exact ready_ne ec (hE.symm.trans e9)
      have hF := fw_iff.1 er
      have hf : Sp.found sk.xs rg.xs ts.xs al w = false := by
        cases f : Sp.found sk.xs rg.xs ts.xs al w with
        | false => rfl
        | true => rw [if_pos er, f, if_pos rfl] at hE; exact absurd hE e
      refine ar64 (by omega) (ar64 (by omega) (vifd (fun x => absurd x e) fun _ => ar64 (by omega) (fin _ hF (by omega) (by omega) fun x => ?_)))
      rw [hf] at x
      cases x
    · have er : Sp.readyE sk.xs is.xs ts.xs al rg.xs w = 0 := Classical.byContradiction fun er => by
        rw [if_neg er] at hE
        exact er (hE.symm.trans e)
      have hF := fw_iff.1 er
      have hf : Sp.found sk.xs rg.xs ts.xs al w = true := by
        cases f : Sp.found sk.xs rg.xs ts.xs al w with
        | true => rfl
        | false => rw [if_pos er, f, if_neg (by decide)] at hE; rw [e] at hE; exact absurd hE (by decide)
      have n5 := hF.str.sch.n5
      have n1 := hF.str.sch.n1
      have hb := best_spec hf
      have hl := hb.pl.len
      have hd : Sp.fewD sk.xs is.xs ts.xs al rg.xs w = Sp.best sk.xs rg.xs ts.xs al w := by rw [Sp.fewD, if_pos e]
      have hs := sumF_nn hb.pl.ok sk.xs.length 0
      have hi : Sp.sumI (Sp.best sk.xs rg.xs ts.xs al w) = Sp.sumF (Sp.best sk.xs rg.xs ts.xs al w) 0 sk.xs.length := by rw [Sp.sumI, hl]
      obtain ⟨r1, r2⟩ := ra_rdy hF hb.pl.ok hl
      rw [hb.ok] at r2
      refine vifn (fun x => absurd (chk_iff.2 hF.str.sch) x) fun _ => vifn (fun x => absurd (by rw [hF.len]) x) fun _ => ar64 (by omega) (ar64 (by omega) (vifd (fun _ => ?_) fun x => absurd e x))
      rw [hd, hl, r1, r2, show sk.xs.length - Int.toNat 0 = sk.xs.length from rfl, show Int.toNat 0 = 0 from rfl, Int.zero_add, ← hi]
      refine vifn (fun x => absurd rfl x) fun _ => ⟨⟨by omega, by omega, hb.pl.ok, by omega, by omega⟩, ⟨⟨hF.str.sch, hF.len, rfl, hF.rg, hb.pl.ok⟩, trivial, vifn (fun x => absurd rfl x) fun _ => vif (fun x => by cases x) fun _ => ar64 (by omega) (fin _ hF (by omega) (by omega) fun _ => rfl)⟩⟩
end Go.Proofs.Ytdokbocmgdhmmaa
namespace Go.Proofs.Ytdokbocmgdhmmaa.skillFewest
open Go.ChangeShapes Go.WideShapes Go.ChangeAt Go.RowKit
set_option linter.unusedVariables false
set_option maxRecDepth 100000
theorem own : ownKnob Try.prog.godebug = none := by kernel_rfl
theorem laid : laidOutB Try.prog = true := by kernel_rfl
theorem lifted (os : Os) (started : os.Started) (H : Type) (enc : TypeId × Value → H) :
    ReturnsInHanded {} Try.checked os 13 .any (Rows.skillFewestSpec.pre6 enc Try.prog Try.f13 Rows.skillFewestRow.domain false) (Rows.skillFewestSpec.post enc Try.prog Try.f13 false true false false) := by
  refine returnsInHanded_of_change (C := Try.checked) own started (by kernel_rfl) Try.func13
    (ChangeSpec.witness6 (enc := enc) (C := Try.checked) false ⟨#[], #[(.agg #[.slice none 0 0, .slice none 0 0]), (.agg #[.slice none 0 0, .int .i64 0]), (.agg #[.slice none 0 0, .int .i64 0, .slice none 0 0])], []⟩ 8 (by kernel_rfl) (by kernel_rfl) (by kernel_rfl) (by kernel_rfl)) ?_
  intro W base args ds gs before hval hW _ _
  exact law_end (f := Try.f13) (s := Rows.skillFewestSpec) (by kernel_rfl) Try.underlying4 (by kernel_rfl) rfl laid (by kernel_rfl)
    (fun ds h => by match ds, (show ds.length = 3 from h) with | [_, _, _], _ => exact ⟨rfl, rfl, rfl⟩) fewest_pure hval hW
theorem over : Rows.skillFewestRow.holds Try.pinned (OpenSpec.ofChange Rows.skillFewestSpec) :=
  OpenClaim.holds_of_wide 13 Try.f13 rfl rfl rfl rfl rfl rfl rfl ⟨rfl, rfl, rfl, rfl, rfl⟩ rfl rfl rfl rfl rfl (by kernel_rfl) Try.func13 (by kernel_rfl)
    (of_decide_eq_true (by kernel_rfl)) (by unfold Func.isWrapper; first | (rw [if_pos (by decide +kernel)]; kernel_rfl) | (rw [if_neg (by decide +kernel)]; exact ⟨rfl, rfl⟩))
    (fun os started H enc _ => lifted os started H enc)
theorem proved : Rows.SkillFewestSaid := over
end Go.Proofs.Ytdokbocmgdhmmaa.skillFewest
