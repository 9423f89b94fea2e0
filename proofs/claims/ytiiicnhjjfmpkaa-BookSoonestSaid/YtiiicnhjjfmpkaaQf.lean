/-
  A machine over abstract states, proved sound: the help of the proof of a law.
-/
import Derived.Test.YtiiicnhjjfmpkaaQe
set_option linter.unusedVariables false
set_option linter.unusedSectionVars false
set_option linter.unusedSimpArgs false
namespace Go.Proofs.Ytiiicnhjjfmpkaa
open Go.RowKit
set_option linter.unusedVariables false
set_option maxRecDepth 100000
def sp_errs [InW] (e : List Ed) (K : Nat → List Ed → Prop) : Prop := match e with
  | [.ro _ a, .ro _ b, .i i] => Pre (0 ≤ i ∧ i ≤ (a.xs.length : Int) ∧ a.xs.length = b.xs.length) (Vif (Sp.sameI a.xs b.xs i.toNat (a.xs.length - i.toNat)) (K 0 []) (K 1 []))
  | _ => False
def lc_errs : LC where
  len := 26
  T := [(0, .rs [.int .i64]), (1, .rs [.int .i64]), (5, .int .i64)]
  H := []
  W := [4, 11, 12, 13, 14, 15, 16, 17, 18, 19, 20, 21, 22, 23, 24, 25]
  outs := [⟨.exit 0, [], [], [0, 1, 4, 5, 11, 12, 13, 14, 15, 16, 17, 18, 19, 20, 21, 22, 23, 24, 25]⟩, ⟨.ret, [(4, (.lit (.bool false)))], [], [0, 1, 5, 11, 12, 13, 14, 15, 16, 17, 18, 19, 20, 21, 22, 23, 24, 25]⟩]
  spec := sp_errs
def VCL_errs [W : InW] (a : Ro [.int .i64]) (b : Ro [.int .i64]) (i : Int) (A : List Ed → Prop) (K : Nat → List Ed → Prop) : Prop :=
  Vif (decide (i < (↑(List.length a.xs) : Int))) (Need (decide ((0 : Int) ≤ i) && decide (i < (↑(List.length a.xs) : Int))) (Need (decide (i.toNat < List.length a.xs)) (Need (decide ((0 : Int) ≤ i) && decide (i < (↑(List.length b.xs) : Int))) (Need (decide (i.toNat < List.length b.xs)) (Vif (!decide ((cel a.xs i.toNat (0 : Nat)).int = (cel b.xs i.toNat (0 : Nat)).int)) (K ((0 : Nat) + (1 : Nat)) []) (Ar .i64 (i + (1 : Int)) fun z => A [.ro _ a, .ro _ b, .i z])))))) (K (0 : Nat) [])
theorem vcl_errs (W : InW) (a : Ro [.int .i64]) (b : Ro [.int .i64]) (i : Int) (A : List Ed → Prop) (K : Nat → List Ed → Prop) : vcTop { cxT Try.prog TT T25 1000 50 with fn := 23 } 1000 (loopAt Try.prog 23 5) (tmOut 26 [(0, .rs _ a), (1, .rs _ b), (5, .si .i64 i)] [4, 11, 12, 13, 14, 15, 16, 17, 18, 19, 20, 21, 22, 23, 24, 25]) [] (roundL lc_errs A K) = VCL_errs a b i A K := by kernel_rfl
def okLt_errs : Prop := ∀ (W : InW) (body a : Code), (Try.prog.funcs[23]?).bind (·.body) = some body → a ∈ loopsIn body → keyOf a = 5 → @LoopOk W Try.prog a (@loopRun W lc_errs)
theorem okl_errs (meas : [InW] → List Ed → Nat) (hyp_ : ∀ (W : InW) (a : Ro [.int .i64]) (b : Ro [.int .i64]) (i : Int) (K : Nat → List Ed → Prop), sp_errs [.ro _ a, .ro _ b, .i i] K → ∀ A : List Ed → Prop, (∀ e, meas e < meas [.ro _ a, .ro _ b, .i i] → sp_errs e K → A e) → VCL_errs a b i A K) : okLt_errs :=
  LE.okOf' (fun W => @TT W) (fun W => @TT_ok W) mixed_ok T25 1000 50 (by kernel_rfl) lc_errs (fun W => @meas W) fun W a b i K hs =>
    (vcl_errs W a b i (fun e => meas e < meas [.ro _ a, .ro _ b, .i i] ∧ sp_errs e K) K).mpr (hyp_ W a b i K hs _ fun e h1 h2 => ⟨h1, h2⟩)
theorem okLerrs : okLt_errs := okl_errs (fun e => match e with | .ro _ a :: _ :: .i i :: _ => ((a.xs.length : Int) - i).toNat | _ => 0) fun W a b i K hs A hA => by
  obtain ⟨⟨h0, h1, h2⟩, hk⟩ := hs
  unfold VCL_errs
  have hm := a.len
  simp only [maxLen] at hm
  have hlt : i < a.xs.length → ((a.xs.length : Int) - (i + 1)).toNat < ((a.xs.length : Int) - i).toNat := by omega
  refine vifd (fun e => ned (by simp; omega) (nedd (by omega) (ned (by simp; omega) (nedd (by omega) (vif (fun e2 => ?_) fun e2 => ar64 (by omega) (hA _ (hlt e) ⟨⟨by omega, by omega, h2⟩, ?_⟩)))))) fun e => ?_
  · rw [show a.xs.length - i.toNat = (a.xs.length - (i.toNat + 1)) + 1 by omega, Sp.sameI] at hk
    exact hk.2 (by rw [if_neg (by simpa using e2)]; rfl)
  · rw [show a.xs.length - i.toNat = (a.xs.length - (i.toNat + 1)) + 1 by omega, Sp.sameI, if_pos (by simpa using e2), Bool.true_and] at hk
    rw [show (i + 1).toNat = i.toNat + 1 by omega]
    exact hk
  · rw [show a.xs.length - i.toNat = 0 by omega] at hk
    exact hk.1 rfl
noncomputable def le_errs : LE Try.prog := ⟨23, 5, fun W => @loopRun W lc_errs, okLerrs⟩
noncomputable def T28 : Tab Try.prog := ⟨T25.pcs, [le_errs], []⟩
def VC_errs [W : InW] (a : Ro [.int .i64]) (b : Ro [.int .i64]) (Q : DS → Prop) : Prop :=
  Vif (!decide ((↑(List.length a.xs) : Int) = (↑(List.length b.xs) : Int))) (Q [[Cl.b false]]) (Pre ((0 : Int) ≤ (0 : Int) ∧ (0 : Int) ≤ (↑(List.length a.xs) : Int) ∧ List.length a.xs = List.length b.xs) (Vif (Sp.sameI a.xs b.xs (Int.toNat (0 : Int)) (List.length a.xs - Int.toNat (0 : Int))) (Q [[Cl.b true]]) (Q [[Cl.b false]])))
theorem vc_errs (W : InW) (a : Ro [.int .i64]) (b : Ro [.int .i64]) (Q : DS → Prop) : bodyK (cxT Try.prog TT T28 1000 50) 1000 23 [.rs _ a, .rs _ b] [] 0 (leafK [(false, [.bool])] Q) (fun _ _ _ _ => Stuck 421) = VC_errs a b Q := by kernel_rfl
abbrev ats_errs : List AT := [.one (.sl [.int .i64]), .one (.sl [.int .i64])]
theorem ok_errs {pre : DS → Prop} {res : DS → DS} (hyp_ : ∀ (W : InW) (a : Ro [.int .i64]) (b : Ro [.int .i64]), pre [[.l a.xs], [.l b.xs]] → ∀ Q : DS → Prop, Q (res [[.l a.xs], [.l b.xs]]) → VC_errs a b Q) : PureOk Try.prog 23 ats_errs [(false, [.bool])] pre res :=
  PureOk.of' (fun W => @TT W) (fun W => @TT_ok W) mixed_ok T28 1000 50 fun W a b hp =>
    (vc_errs W a b (fun o => o = res [[.l a.xs], [.l b.xs]])).mpr (hyp_ W a b hp _ rfl)
abbrev res_errs (ds : DS) : DS := match ds with | [[.l a], [.l b]] => [[.b (Sp.ints a b)]] | _ => []
theorem okerrs : PureOk Try.prog 23 ats_errs [(false, [.bool])] (fun _ => True) res_errs :=
  ok_errs fun W a b hp Q hh => by
    unfold VC_errs
    simp only [res_errs, Sp.ints] at hh
    rw [show Int.toNat 0 = 0 from rfl, Nat.sub_zero]
    refine vif (fun e => ?_) fun e => ?_
    · have e' : ¬ (a.xs.length : Int) = b.xs.length := by simpa using e
      rw [if_neg (by omega)] at hh; exact hh
    · have e0 : (a.xs.length : Int) = b.xs.length := by simpa using e
      have e' : a.xs.length = b.xs.length := by omega
      rw [if_pos e'] at hh
      refine ⟨⟨by omega, by omega, e'⟩, vif (fun e2 => ?_) fun e2 => ?_⟩
      · rw [e2] at hh; exact hh
      · rw [e2] at hh; exact hh
noncomputable def pc_errs : PC Try.prog := ⟨23, ats_errs, [(false, [.bool])], fun _ => True, res_errs, okerrs⟩
end Go.Proofs.Ytiiicnhjjfmpkaa
namespace Go.Proofs.Ytiiicnhjjfmpkaa
open Go.RowKit
set_option linter.unusedVariables false
set_option maxRecDepth 100000
theorem notT {b : Bool} (h : (!b) = true) : b = false := by cases b <;> simp_all
theorem notF {b : Bool} (h : (!b) = false) : b = true := by cases b <;> simp_all
theorem vifn [InW] {p : Prop} {_ : Decidable p} {A B : Prop} (h : ¬ p → A) (h2 : p → B) : Vif (!decide p) A B := ⟨fun e => h (of_decide_eq_false (notT e)), fun e => h2 (of_decide_eq_true (notF e))⟩
namespace Sp
def sameC (a b : Dt) (i : Nat) : Nat → Nat → Bool
  | _, 0 => true
  | k, w + 1 => decide ((cel a i k).int = (cel b i k).int) && sameC a b i (k + 1) w
def sameW (w : Nat) (a b : Dt) : Nat → Nat → Bool
  | _, 0 => true
  | i, n + 1 => sameC a b i 0 w && sameW w a b (i + 1) n
def rowsE (w : Nat) (a b : Dt) : Bool := decide (a.length = b.length) && sameW w a b 0 a.length
end Sp
def sp_rowsL (w : Nat) [InW] (e : List Ed) (K : Nat → List Ed → Prop) : Prop := match e with
  | [.ro _ a, .ro _ b, .i i] => Pre (0 ≤ i ∧ i ≤ (a.xs.length : Int) ∧ a.xs.length = b.xs.length) (Vif (Sp.sameW w a.xs b.xs i.toNat (a.xs.length - i.toNat)) (K 0 []) (K 1 []))
  | _ => False
def sp_lessL [InW] (e : List Ed) (K : Nat → List Ed → Prop) : Prop := sp_rowsL 5 e K
noncomputable def lc_lessL : LC where
  len := 26
  T := [(0, .rs Iv5), (1, .rs Iv5), (5, .int .i64)]
  H := []
  W := [4, 11, 12, 13, 14, 15, 16, 17, 18, 19, 20, 21, 22, 23, 24, 25]
  outs := [⟨.exit 0, [], [], [0, 1, 4, 5, 11, 12, 13, 14, 15, 16, 17, 18, 19, 20, 21, 22, 23, 24, 25]⟩, ⟨.ret, [(4, (.lit (.bool false)))], [], [0, 1, 5, 11, 12, 13, 14, 15, 16, 17, 18, 19, 20, 21, 22, 23, 24, 25]⟩]
  spec := sp_lessL
def VCL_lessL [W : InW] (a : Ro Iv5) (b : Ro Iv5) (i : Int) (A : List Ed → Prop) (K : Nat → List Ed → Prop) : Prop :=
  Vif (decide (i < (↑(List.length a.xs) : Int))) (Need (decide ((0 : Int) ≤ i) && decide (i < (↑(List.length a.xs) : Int))) (Need (decide (i.toNat < List.length a.xs)) (Need (decide ((0 : Int) ≤ i) && decide (i < (↑(List.length b.xs) : Int))) (Need (decide (i.toNat < List.length b.xs)) (Vif (!(decide ((cel a.xs i.toNat (0 : Nat)).int = (cel b.xs i.toNat (0 : Nat)).int) && (decide ((cel a.xs i.toNat ((0 : Nat) + (1 : Nat))).int = (cel b.xs i.toNat ((0 : Nat) + (1 : Nat))).int) && (decide ((cel a.xs i.toNat ((0 : Nat) + (1 : Nat) + (1 : Nat))).int = (cel b.xs i.toNat ((0 : Nat) + (1 : Nat) + (1 : Nat))).int) && (decide ((cel a.xs i.toNat ((0 : Nat) + (1 : Nat) + (1 : Nat) + (1 : Nat))).int = (cel b.xs i.toNat ((0 : Nat) + (1 : Nat) + (1 : Nat) + (1 : Nat))).int) && (decide ((cel a.xs i.toNat ((0 : Nat) + (1 : Nat) + (1 : Nat) + (1 : Nat) + (1 : Nat))).int = (cel b.xs i.toNat ((0 : Nat) + (1 : Nat) + (1 : Nat) + (1 : Nat) + (1 : Nat))).int) && true)))))) (K ((0 : Nat) + (1 : Nat)) []) (Ar .i64 (i + (1 : Int)) fun z => A [.ro _ a, .ro _ b, .i z])))))) (K (0 : Nat) [])
theorem vcl_lessL (W : InW) (a : Ro Iv5) (b : Ro Iv5) (i : Int) (A : List Ed → Prop) (K : Nat → List Ed → Prop) : vcTop { cxT Try.prog TT T25 1000 50 with fn := 52 } 1000 (loopAt Try.prog 52 5) (tmOut 26 [(0, .rs _ a), (1, .rs _ b), (5, .si .i64 i)] [4, 11, 12, 13, 14, 15, 16, 17, 18, 19, 20, 21, 22, 23, 24, 25]) [] (roundL lc_lessL A K) = VCL_lessL a b i A K := by kernel_rfl
def okLt_lessL : Prop := ∀ (W : InW) (body a : Code), (Try.prog.funcs[52]?).bind (·.body) = some body → a ∈ loopsIn body → keyOf a = 5 → @LoopOk W Try.prog a (@loopRun W lc_lessL)
theorem okl_lessL (meas : [InW] → List Ed → Nat) (hyp_ : ∀ (W : InW) (a : Ro Iv5) (b : Ro Iv5) (i : Int) (K : Nat → List Ed → Prop), sp_lessL [.ro _ a, .ro _ b, .i i] K → ∀ A : List Ed → Prop, (∀ e, meas e < meas [.ro _ a, .ro _ b, .i i] → sp_lessL e K → A e) → VCL_lessL a b i A K) : okLt_lessL :=
  LE.okOf' (fun W => @TT W) (fun W => @TT_ok W) mixed_ok T25 1000 50 (by kernel_rfl) lc_lessL (fun W => @meas W) fun W a b i K hs =>
    (vcl_lessL W a b i (fun e => meas e < meas [.ro _ a, .ro _ b, .i i] ∧ sp_lessL e K) K).mpr (hyp_ W a b i K hs _ fun e h1 h2 => ⟨h1, h2⟩)
theorem okLlessL : okLt_lessL := okl_lessL (fun e => match e with | .ro _ a :: _ :: .i i :: _ => ((a.xs.length : Int) - i).toNat | _ => 0) fun W a b i K hs A hA => by
  obtain ⟨⟨h0, h1, h2⟩, hk⟩ := hs
  unfold VCL_lessL
  have hm := a.len
  simp only [maxLen] at hm
  have hlt : i < a.xs.length → ((a.xs.length : Int) - (i + 1)).toNat < ((a.xs.length : Int) - i).toNat := by omega
  refine vifd (fun e => ned (by simp; omega) (nedd (by omega) (ned (by simp; omega) (nedd (by omega) (vif (fun e2 => ?_) fun e2 => ar64 (by omega) (hA _ (hlt e) ⟨⟨by omega, by omega, h2⟩, ?_⟩)))))) fun e => ?_
  · rw [show a.xs.length - i.toNat = (a.xs.length - (i.toNat + 1)) + 1 by omega, Sp.sameW] at hk
    exact hk.2 (by rw [show Sp.sameC a.xs b.xs i.toNat 0 5 = false from notT e2]; rfl)
  · rw [show a.xs.length - i.toNat = (a.xs.length - (i.toNat + 1)) + 1 by omega, Sp.sameW, show Sp.sameC a.xs b.xs i.toNat 0 5 = true from notF e2, Bool.true_and] at hk
    rw [show (i + 1).toNat = i.toNat + 1 by omega]
    exact hk
  · rw [show a.xs.length - i.toNat = 0 by omega] at hk
    exact hk.1 rfl
noncomputable def le_lessL : LE Try.prog := ⟨52, 5, fun W => @loopRun W lc_lessL, okLlessL⟩
noncomputable def TPi : Tab Try.prog := ⟨T25.pcs, [le_lessL], []⟩
def VC_lessons [W : InW] (a : Ro Iv5) (b : Ro Iv5) (Q : DS → Prop) : Prop :=
  Vif (!decide ((↑(List.length a.xs) : Int) = (↑(List.length b.xs) : Int))) (Q [[Cl.b false]]) (Pre ((0 : Int) ≤ (0 : Int) ∧ (0 : Int) ≤ (↑(List.length a.xs) : Int) ∧ List.length a.xs = List.length b.xs) (Vif (Sp.sameW (5 : Nat) a.xs b.xs (Int.toNat (0 : Int)) (List.length a.xs - Int.toNat (0 : Int))) (Q [[Cl.b true]]) (Q [[Cl.b false]])))
theorem vc_lessons (W : InW) (a : Ro Iv5) (b : Ro Iv5) (Q : DS → Prop) : bodyK (cxT Try.prog TT TPi 1000 50) 1000 52 [.rs _ a, .rs _ b] [] 0 (leafK [(false, [.bool])] Q) (fun _ _ _ _ => Stuck 421) = VC_lessons a b Q := by kernel_rfl
abbrev ats_lessons : List AT := [.one (.sl Iv5), .one (.sl Iv5)]
theorem ok_lessons {pre : DS → Prop} {res : DS → DS} (hyp_ : ∀ (W : InW) (a : Ro Iv5) (b : Ro Iv5), pre [[.l a.xs], [.l b.xs]] → ∀ Q : DS → Prop, Q (res [[.l a.xs], [.l b.xs]]) → VC_lessons a b Q) : PureOk Try.prog 52 ats_lessons [(false, [.bool])] pre res :=
  PureOk.of' (fun W => @TT W) (fun W => @TT_ok W) mixed_ok TPi 1000 50 fun W a b hp =>
    (vc_lessons W a b (fun o => o = res [[.l a.xs], [.l b.xs]])).mpr (hyp_ W a b hp _ rfl)
abbrev res_lessons (ds : DS) : DS := match ds with | [[.l a], [.l b]] => [[.b (Sp.rowsE 5 a b)]] | _ => []
theorem oklessons' : PureOk Try.prog 52 ats_lessons [(false, [.bool])] (fun _ => True) res_lessons :=
  ok_lessons fun W a b hp Q hh => by
    unfold VC_lessons
    simp only [res_lessons, Sp.rowsE] at hh
    rw [show Int.toNat 0 = 0 from rfl, Nat.sub_zero]
    refine vif (fun e => ?_) fun e => ?_
    · have e' : ¬ (a.xs.length : Int) = b.xs.length := by simpa using e
      rw [decide_eq_false (by omega)] at hh; exact hh
    · have e0 : (a.xs.length : Int) = b.xs.length := by simpa using e
      have e' : a.xs.length = b.xs.length := by omega
      rw [decide_eq_true e'] at hh
      refine ⟨⟨by omega, by omega, e'⟩, vif (fun e2 => ?_) fun e2 => ?_⟩
      · rw [e2] at hh; exact hh
      · rw [e2] at hh; exact hh
noncomputable def pc_lessons : PC Try.prog := ⟨52, ats_lessons, [(false, [.bool])], fun _ => True, res_lessons, oklessons'⟩
noncomputable def TPk : Tab Try.prog := ⟨[pc_lessons, pc_ints], [], []⟩
def VC_states [W : InW] (a_Ls : Ro Iv5) (a_Km : Ro [.int .i64]) (a_Si : Ro [.int .i64]) (a_Ac : Ro [.int .i64]) (b_Ls : Ro Iv5) (b_Km : Ro [.int .i64]) (b_Si : Ro [.int .i64]) (b_Ac : Ro [.int .i64]) (Q : DS → Prop) : Prop :=
  Pre True (Vif (Sp.rowsE (5 : Nat) a_Ls.xs b_Ls.xs) (Pre True (Vif (Sp.ints a_Km.xs b_Km.xs) (Pre True (Vif (Sp.ints a_Si.xs b_Si.xs) (Pre True (Q [[Cl.b (Sp.ints a_Ac.xs b_Ac.xs)]])) (Q [[Cl.b false]]))) (Q [[Cl.b false]]))) (Q [[Cl.b false]]))
theorem vc_states (W : InW) (a_Ls : Ro Iv5) (a_Km : Ro [.int .i64]) (a_Si : Ro [.int .i64]) (a_Ac : Ro [.int .i64]) (b_Ls : Ro Iv5) (b_Km : Ro [.int .i64]) (b_Si : Ro [.int .i64]) (b_Ac : Ro [.int .i64]) (Q : DS → Prop) : bodyK (cxT Try.prog TT TPk 1000 50) 1000 24 [.agg [.rs _ a_Ls, .rs _ a_Km, .rs _ a_Si, .rs _ a_Ac], .agg [.rs _ b_Ls, .rs _ b_Km, .rs _ b_Si, .rs _ b_Ac]] [] 0 (leafK [(false, [.bool])] Q) (fun _ _ _ _ => Stuck 421) = VC_states a_Ls a_Km a_Si a_Ac b_Ls b_Km b_Si b_Ac Q := by kernel_rfl
abbrev ats_states : List AT := [.agg [.sl Iv5, .sl [.int .i64], .sl [.int .i64], .sl [.int .i64]], .agg [.sl Iv5, .sl [.int .i64], .sl [.int .i64], .sl [.int .i64]]]
theorem ok_states {pre : DS → Prop} {res : DS → DS} (hyp_ : ∀ (W : InW) (a_Ls : Ro Iv5) (a_Km : Ro [.int .i64]) (a_Si : Ro [.int .i64]) (a_Ac : Ro [.int .i64]) (b_Ls : Ro Iv5) (b_Km : Ro [.int .i64]) (b_Si : Ro [.int .i64]) (b_Ac : Ro [.int .i64]), pre [[.l a_Ls.xs, .l a_Km.xs, .l a_Si.xs, .l a_Ac.xs], [.l b_Ls.xs, .l b_Km.xs, .l b_Si.xs, .l b_Ac.xs]] → ∀ Q : DS → Prop, Q (res [[.l a_Ls.xs, .l a_Km.xs, .l a_Si.xs, .l a_Ac.xs], [.l b_Ls.xs, .l b_Km.xs, .l b_Si.xs, .l b_Ac.xs]]) → VC_states a_Ls a_Km a_Si a_Ac b_Ls b_Km b_Si b_Ac Q) : PureOk Try.prog 24 ats_states [(false, [.bool])] pre res :=
  PureOk.of' (fun W => @TT W) (fun W => @TT_ok W) mixed_ok TPk 1000 50 fun W a_Ls a_Km a_Si a_Ac b_Ls b_Km b_Si b_Ac hp =>
    (vc_states W a_Ls a_Km a_Si a_Ac b_Ls b_Km b_Si b_Ac (fun o => o = res [[.l a_Ls.xs, .l a_Km.xs, .l a_Si.xs, .l a_Ac.xs], [.l b_Ls.xs, .l b_Km.xs, .l b_Si.xs, .l b_Ac.xs]])).mpr (hyp_ W a_Ls a_Km a_Si a_Ac b_Ls b_Km b_Si b_Ac hp _ rfl)
namespace Sp
def statesE (a b c d x y z w : Dt) : Bool := rowsE 5 a x && ints b y && ints c z && ints d w
end Sp
abbrev res_states (ds : DS) : DS := match ds with | [[.l a, .l b, .l c, .l d], [.l x, .l y, .l z, .l w]] => [[.b (Sp.statesE a b c d x y z w)]] | _ => []
theorem okstates : PureOk Try.prog 24 ats_states [(false, [.bool])] (fun _ => True) res_states :=
  ok_states fun W a b c d x y z w hp Q hh => by
    unfold VC_states
    simp only [res_states, Sp.statesE] at hh
    exact ⟨trivial, vif (fun e1 => ⟨trivial, vif (fun e2 => ⟨trivial, vif (fun e3 => ⟨trivial, by simpa [e1, e2, e3] using hh⟩) fun e3 => by simpa [e1, e2, e3] using hh⟩) fun e2 => by simpa [e1, e2] using hh⟩) fun e1 => by simpa [e1] using hh⟩
noncomputable def pc_states : PC Try.prog := ⟨24, ats_states, [(false, [.bool])], fun _ => True, res_states, okstates⟩
namespace Sp
def shR (nl nc : Nat) (ls : Dt) (j : Nat) : Bool :=
  inr (cel ls j 0).int 0 ((nl : Int) - 1) && (inr (cel ls j 1).int 0 ((nc : Int) - 1) && (inr (cel ls j 3).int 1 4 && inr (cel ls j 2).int 0 4800))
def shN (nl nc : Nat) (ls : Dt) : Nat → Nat → Bool
  | _, 0 => true
  | i, n + 1 => shR nl nc ls i && shN nl nc ls (i + 1) n
end Sp
def sp_shapL [InW] (e : List Ed) (K : Nat → List Ed → Prop) : Prop := match e with
  | [.i i, .ro _ rl, .ro _ rc, .i pr, .i ex, .i lo, .i hi, .ro _ rt, .ro _ ls, .ro _ km, .ro _ si, .ro _ ac] =>
    Pre (0 ≤ i ∧ i ≤ (ls.xs.length : Int)) (Vif (Sp.shN rl.xs.length rc.xs.length ls.xs i.toNat (ls.xs.length - i.toNat)) (K 0 []) (K 1 []))
  | _ => False
noncomputable def lc_shapL : LC where
  len := 89
  T := [(2, (.ptr 1 0)), (3, (.ptr 4 0)), (5, .int .i64)]
  H := [(1, .blk 28 [.rs [.str], .rs Ivs, .int .i64, .int .i64, .int .i64, .int .i64, .rs [.int .i64, .int .i64]]), (4, .blk 42 [.rs Iv5, .rs [.int .i64], .rs [.int .i64], .rs [.int .i64]])]
  W := [4, 6, 33, 34, 35, 36, 37, 38, 39, 40, 41, 42, 43, 44, 45, 46, 47, 48, 49, 50, 51, 52, 53, 54, 55, 56, 57, 58, 59, 60, 61, 62, 63, 64, 65, 66, 67, 68, 69, 70, 71, 72, 73, 74, 75, 76, 77, 78, 79, 80, 81, 82, 83, 84, 85, 86, 87, 88]
  outs := [⟨.exit 0, [], [], [2, 3, 4, 5, 6, 33, 34, 35, 36, 37, 38, 39, 40, 41, 42, 43, 44, 45, 46, 47, 48, 49, 50, 51, 52, 53, 54, 55, 56, 57, 58, 59, 60, 61, 62, 63, 64, 65, 66, 67, 68, 69, 70, 71, 72, 73, 74, 75, 76, 77, 78, 79, 80, 81, 82, 83, 84, 85, 86, 87, 88]⟩, ⟨.ret, [(4, (.lit (.bool false)))], [], [2, 3, 5, 6, 33, 34, 35, 36, 37, 38, 39, 40, 41, 42, 43, 44, 45, 46, 47, 48, 49, 50, 51, 52, 53, 54, 55, 56, 57, 58, 59, 60, 61, 62, 63, 64, 65, 66, 67, 68, 69, 70, 71, 72, 73, 74, 75, 76, 77, 78, 79, 80, 81, 82, 83, 84, 85, 86, 87, 88]⟩]
  spec := sp_shapL
def VCL_shapL [W : InW] (i : Int) (rl : Ro [.str]) (rc : Ro Ivs) (pr : Int) (ex : Int) (lo : Int) (hi : Int) (rt : Ro [.int .i64, .int .i64]) (ls : Ro Iv5) (km : Ro [.int .i64]) (si : Ro [.int .i64]) (ac : Ro [.int .i64]) (A : List Ed → Prop) (K : Nat → List Ed → Prop) : Prop :=
  Vif (decide (i < (↑(List.length ls.xs) : Int))) (Need (decide ((0 : Int) ≤ i) && decide (i < (↑(List.length ls.xs) : Int))) (Need (decide (i.toNat < List.length ls.xs)) (Vif (decide ((cel ls.xs i.toNat (0 : Nat)).int < (0 : Int))) (K ((0 : Nat) + (1 : Nat)) []) (Vif (decide ((↑(List.length rl.xs) : Int) ≤ (cel ls.xs i.toNat (0 : Nat)).int)) (K ((0 : Nat) + (1 : Nat)) []) (Vif (decide ((cel ls.xs i.toNat ((0 : Nat) + (1 : Nat))).int < (0 : Int))) (K ((0 : Nat) + (1 : Nat)) []) (Vif (decide ((↑(List.length rc.xs) : Int) ≤ (cel ls.xs i.toNat ((0 : Nat) + (1 : Nat))).int)) (K ((0 : Nat) + (1 : Nat)) []) (Vif (decide ((cel ls.xs i.toNat ((0 : Nat) + (1 : Nat) + (1 : Nat) + (1 : Nat))).int < (1 : Int))) (K ((0 : Nat) + (1 : Nat)) []) (Vif (decide ((4 : Int) < (cel ls.xs i.toNat ((0 : Nat) + (1 : Nat) + (1 : Nat) + (1 : Nat))).int)) (K ((0 : Nat) + (1 : Nat)) []) (Vif (decide ((cel ls.xs i.toNat ((0 : Nat) + (1 : Nat) + (1 : Nat))).int < (0 : Int))) (K ((0 : Nat) + (1 : Nat)) []) (Vif (decide ((4800 : Int) < (cel ls.xs i.toNat ((0 : Nat) + (1 : Nat) + (1 : Nat))).int)) (K ((0 : Nat) + (1 : Nat)) []) (Ar .i64 (i + (1 : Int)) fun z => A [.i z, .ro _ rl, .ro _ rc, .i pr, .i ex, .i lo, .i hi, .ro _ rt, .ro _ ls, .ro _ km, .ro _ si, .ro _ ac]))))))))))) (K (0 : Nat) [])
theorem vcl_shapL (W : InW) (i : Int) (rl : Ro [.str]) (rc : Ro Ivs) (pr : Int) (ex : Int) (lo : Int) (hi : Int) (rt : Ro [.int .i64, .int .i64]) (ls : Ro Iv5) (km : Ro [.int .i64]) (si : Ro [.int .i64]) (ac : Ro [.int .i64]) (A : List Ed → Prop) (K : Nat → List Ed → Prop) : vcTop { cxT Try.prog TT T25 1000 50 with fn := 34 } 1000 (loopAt Try.prog 34 5) (tmOut 89 [(2, .ptr 1 0), (3, .ptr 4 0), (5, .si .i64 i)] [4, 6, 33, 34, 35, 36, 37, 38, 39, 40, 41, 42, 43, 44, 45, 46, 47, 48, 49, 50, 51, 52, 53, 54, 55, 56, 57, 58, 59, 60, 61, 62, 63, 64, 65, 66, 67, 68, 69, 70, 71, 72, 73, 74, 75, 76, 77, 78, 79, 80, 81, 82, 83, 84, 85, 86, 87, 88]) [(1, .blk 28 [.rs _ rl, .rs _ rc, .si .i64 pr, .si .i64 ex, .si .i64 lo, .si .i64 hi, .rs _ rt]), (4, .blk 42 [.rs _ ls, .rs _ km, .rs _ si, .rs _ ac])] (roundL lc_shapL A K) = VCL_shapL i rl rc pr ex lo hi rt ls km si ac A K := by kernel_rfl
def okLt_shapL : Prop := ∀ (W : InW) (body a : Code), (Try.prog.funcs[34]?).bind (·.body) = some body → a ∈ loopsIn body → keyOf a = 5 → @LoopOk W Try.prog a (@loopRun W lc_shapL)
theorem okl_shapL (meas : [InW] → List Ed → Nat) (hyp_ : ∀ (W : InW) (i : Int) (rl : Ro [.str]) (rc : Ro Ivs) (pr : Int) (ex : Int) (lo : Int) (hi : Int) (rt : Ro [.int .i64, .int .i64]) (ls : Ro Iv5) (km : Ro [.int .i64]) (si : Ro [.int .i64]) (ac : Ro [.int .i64]) (K : Nat → List Ed → Prop), sp_shapL [.i i, .ro _ rl, .ro _ rc, .i pr, .i ex, .i lo, .i hi, .ro _ rt, .ro _ ls, .ro _ km, .ro _ si, .ro _ ac] K → ∀ A : List Ed → Prop, (∀ e, meas e < meas [.i i, .ro _ rl, .ro _ rc, .i pr, .i ex, .i lo, .i hi, .ro _ rt, .ro _ ls, .ro _ km, .ro _ si, .ro _ ac] → sp_shapL e K → A e) → VCL_shapL i rl rc pr ex lo hi rt ls km si ac A K) : okLt_shapL :=
  LE.okOf' (fun W => @TT W) (fun W => @TT_ok W) mixed_ok T25 1000 50 (by kernel_rfl) lc_shapL (fun W => @meas W) fun W i rl rc pr ex lo hi rt ls km si ac K hs =>
    (vcl_shapL W i rl rc pr ex lo hi rt ls km si ac (fun e => meas e < meas [.i i, .ro _ rl, .ro _ rc, .i pr, .i ex, .i lo, .i hi, .ro _ rt, .ro _ ls, .ro _ km, .ro _ si, .ro _ ac] ∧ sp_shapL e K) K).mpr (hyp_ W i rl rc pr ex lo hi rt ls km si ac K hs _ fun e h1 h2 => ⟨h1, h2⟩)
theorem Sp.shR_iff {nl nc : Nat} {ls : Dt} {j : Nat} : Sp.shR nl nc ls j = true ↔ (0 ≤ (cel ls j 0).int ∧ (cel ls j 0).int < nl) ∧ (0 ≤ (cel ls j 1).int ∧ (cel ls j 1).int < nc) ∧ (1 ≤ (cel ls j 3).int ∧ (cel ls j 3).int ≤ 4) ∧ (0 ≤ (cel ls j 2).int ∧ (cel ls j 2).int ≤ 4800) := by
  unfold Sp.shR
  simp only [Bool.and_eq_true, Sp.inr_iff]
  omega
theorem okLshapL : okLt_shapL := okl_shapL (fun e => match e with | .i i :: _ :: _ :: _ :: _ :: _ :: _ :: _ :: .ro _ ls :: _ => ((ls.xs.length : Int) - i).toNat | _ => 0) fun W i rl rc pr ex lo hi rt ls km si ac K hs A hA => by
  obtain ⟨⟨h0, h1⟩, hk⟩ := hs
  unfold VCL_shapL
  simp only [Nat.zero_add, Nat.reduceAdd]
  have hm := ls.len
  simp only [maxLen] at hm
  have hlt : i < ls.xs.length → ((ls.xs.length : Int) - (i + 1)).toNat < ((ls.xs.length : Int) - i).toNat := by omega
  refine vifd (fun e => ned (by simp; omega) (nedd (by omega) ?_)) fun e => ?_
  · rw [show ls.xs.length - i.toNat = (ls.xs.length - (i.toNat + 1)) + 1 by omega, Sp.shN] at hk
    have hb : ¬ ((0 ≤ (cel ls.xs i.toNat 0).int ∧ (cel ls.xs i.toNat 0).int < rl.xs.length) ∧ (0 ≤ (cel ls.xs i.toNat 1).int ∧ (cel ls.xs i.toNat 1).int < rc.xs.length) ∧ (1 ≤ (cel ls.xs i.toNat 3).int ∧ (cel ls.xs i.toNat 3).int ≤ 4) ∧ (0 ≤ (cel ls.xs i.toNat 2).int ∧ (cel ls.xs i.toNat 2).int ≤ 4800)) → K 1 [] := fun h => by
      rw [← Sp.shR_iff, Bool.not_eq_true] at h
      exact hk.2 (by rw [h]; rfl)
    refine vifd (fun _ => hb (by omega)) fun _ => vifd (fun _ => hb (by omega)) fun _ => vifd (fun _ => hb (by omega)) fun _ => vifd (fun _ => hb (by omega)) fun _ => vifd (fun _ => hb (by omega)) fun _ => vifd (fun _ => hb (by omega)) fun _ => vifd (fun _ => hb (by omega)) fun _ => vifd (fun _ => hb (by omega)) fun _ => ar64 (by omega) (hA _ (hlt e) ⟨⟨by omega, by omega⟩, ?_⟩)
    rw [Sp.shR_iff.2 (by omega), Bool.true_and] at hk
    rw [show (i + 1).toNat = i.toNat + 1 by omega]
    exact hk
  · rw [show ls.xs.length - i.toNat = 0 by omega] at hk
    exact hk.1 rfl
noncomputable def le_shapL : LE Try.prog := ⟨34, 5, fun W => @loopRun W lc_shapL, okLshapL⟩
noncomputable def TPl : Tab Try.prog := ⟨T25.pcs, [le_shapL], []⟩
def VC_shaped [W : InW] (s_Learners : Ro [.str]) (s_Cars : Ro Ivs) (s_Price : Int) (s_Excess : Int) (s_Lo : Int) (s_Hi : Int) (s_Terms : Ro [.int .i64, .int .i64]) (a_Ls : Ro Iv5) (a_Km : Ro [.int .i64]) (a_Si : Ro [.int .i64]) (a_Ac : Ro [.int .i64]) (Q : DS → Prop) : Prop :=
  Vif (!decide ((↑(List.length a_Km.xs) : Int) = (↑(List.length s_Cars.xs) : Int))) (Q [[Cl.b false]]) (Vif (!decide ((↑(List.length a_Si.xs) : Int) = (↑(List.length s_Cars.xs) : Int))) (Q [[Cl.b false]]) (Ar .i64 ((↑(List.length s_Learners.xs) : Int) + (4 : Int)) fun z => Vif (!decide ((↑(List.length a_Ac.xs) : Int) = z)) (Q [[Cl.b false]]) (Pre ((0 : Int) ≤ (0 : Int) ∧ (0 : Int) ≤ (↑(List.length a_Ls.xs) : Int)) (Vif (Sp.shN (List.length s_Learners.xs) (List.length s_Cars.xs) a_Ls.xs (Int.toNat (0 : Int)) (List.length a_Ls.xs - Int.toNat (0 : Int))) (Q [[Cl.b true]]) (Q [[Cl.b false]])))))
theorem vc_shaped (W : InW) (s_Learners : Ro [.str]) (s_Cars : Ro Ivs) (s_Price : Int) (s_Excess : Int) (s_Lo : Int) (s_Hi : Int) (s_Terms : Ro [.int .i64, .int .i64]) (a_Ls : Ro Iv5) (a_Km : Ro [.int .i64]) (a_Si : Ro [.int .i64]) (a_Ac : Ro [.int .i64]) (Q : DS → Prop) : bodyK (cxT Try.prog TT TPl 1000 50) 1000 34 [.agg [.rs _ s_Learners, .rs _ s_Cars, .si .i64 s_Price, .si .i64 s_Excess, .si .i64 s_Lo, .si .i64 s_Hi, .rs _ s_Terms], .agg [.rs _ a_Ls, .rs _ a_Km, .rs _ a_Si, .rs _ a_Ac]] [] 0 (leafK [(false, [.bool])] Q) (fun _ _ _ _ => Stuck 421) = VC_shaped s_Learners s_Cars s_Price s_Excess s_Lo s_Hi s_Terms a_Ls a_Km a_Si a_Ac Q := by kernel_rfl
abbrev ats_shaped : List AT := [.agg [.sl [.str], .sl Ivs, .int .i64, .int .i64, .int .i64, .int .i64, .sl [.int .i64, .int .i64]], .agg [.sl Iv5, .sl [.int .i64], .sl [.int .i64], .sl [.int .i64]]]
theorem ok_shaped {pre : DS → Prop} {res : DS → DS} (hyp_ : ∀ (W : InW) (s_Learners : Ro [.str]) (s_Cars : Ro Ivs) (s_Price : Int) (s_Excess : Int) (s_Lo : Int) (s_Hi : Int) (s_Terms : Ro [.int .i64, .int .i64]) (a_Ls : Ro Iv5) (a_Km : Ro [.int .i64]) (a_Si : Ro [.int .i64]) (a_Ac : Ro [.int .i64]), pre [[.l s_Learners.xs, .l s_Cars.xs, .i s_Price, .i s_Excess, .i s_Lo, .i s_Hi, .l s_Terms.xs], [.l a_Ls.xs, .l a_Km.xs, .l a_Si.xs, .l a_Ac.xs]] → ∀ Q : DS → Prop, Q (res [[.l s_Learners.xs, .l s_Cars.xs, .i s_Price, .i s_Excess, .i s_Lo, .i s_Hi, .l s_Terms.xs], [.l a_Ls.xs, .l a_Km.xs, .l a_Si.xs, .l a_Ac.xs]]) → VC_shaped s_Learners s_Cars s_Price s_Excess s_Lo s_Hi s_Terms a_Ls a_Km a_Si a_Ac Q) : PureOk Try.prog 34 ats_shaped [(false, [.bool])] pre res :=
  PureOk.of' (fun W => @TT W) (fun W => @TT_ok W) mixed_ok TPl 1000 50 fun W s_Learners s_Cars s_Price s_Excess s_Lo s_Hi s_Terms a_Ls a_Km a_Si a_Ac hp =>
    (vc_shaped W s_Learners s_Cars s_Price s_Excess s_Lo s_Hi s_Terms a_Ls a_Km a_Si a_Ac (fun o => o = res [[.l s_Learners.xs, .l s_Cars.xs, .i s_Price, .i s_Excess, .i s_Lo, .i s_Hi, .l s_Terms.xs], [.l a_Ls.xs, .l a_Km.xs, .l a_Si.xs, .l a_Ac.xs]])).mpr (hyp_ W s_Learners s_Cars s_Price s_Excess s_Lo s_Hi s_Terms a_Ls a_Km a_Si a_Ac hp _ rfl)
namespace Sp
def shapedE (nl nc : Nat) (ls km si ac : Dt) : Bool := decide (km.length = nc) && (decide (si.length = nc) && (decide (ac.length = nl + 4) && shN nl nc ls 0 ls.length))
end Sp
abbrev res_shaped (ds : DS) : DS := match ds with | [[.l rl, .l rc, .i pr, .i ex, .i lo, .i hi, .l rt], [.l a, .l b, .l c, .l d]] => [[.b (Sp.shapedE rl.length rc.length a b c d)]] | _ => []
abbrev pre_shaped (ds : DS) : Prop := match ds with | [[.l rl, .l rc, .i pr, .i ex, .i lo, .i hi, .l rt], [.l a, .l b, .l c, .l d]] => rl.length ≤ 1000 | _ => False
theorem okshaped : PureOk Try.prog 34 ats_shaped [(false, [.bool])] pre_shaped res_shaped :=
  ok_shaped fun W rl rc pr ex lo hi rt a b c d hp Q hh => by
    have hp' : rl.xs.length ≤ 1000 := hp
    unfold VC_shaped
    simp only [res_shaped, Sp.shapedE] at hh
    rw [show Int.toNat 0 = 0 from rfl, Nat.sub_zero]
    refine vif (fun e => ?_) fun e => vif (fun e2 => ?_) fun e2 => ar64 (by omega) (vif (fun e3 => ?_) fun e3 => ⟨by omega, ?_⟩)
    · have := of_decide_eq_false (notT e)
      rw [decide_eq_false (by omega)] at hh; exact hh
    · have := of_decide_eq_true (notF e)
      have := of_decide_eq_false (notT e2)
      rw [decide_eq_false (show ¬ c.xs.length = rc.xs.length by omega), Bool.false_and, Bool.and_false] at hh; exact hh
    · have := of_decide_eq_true (notF e)
      have := of_decide_eq_false (notT e3)
      rw [decide_eq_false (show ¬ d.xs.length = rl.xs.length + 4 by omega), Bool.false_and, Bool.and_false, Bool.and_false] at hh; exact hh
    · have := of_decide_eq_true (notF e)
      have := of_decide_eq_true (notF e2)
      have := of_decide_eq_true (notF e3)
      rw [decide_eq_true (show b.xs.length = rc.xs.length by omega), decide_eq_true (show c.xs.length = rc.xs.length by omega), decide_eq_true (show d.xs.length = rl.xs.length + 4 by omega), Bool.true_and, Bool.true_and, Bool.true_and] at hh
      exact vif (fun e => by rw [e] at hh; exact hh) fun e => by rw [e] at hh; exact hh
noncomputable def pc_shaped : PC Try.prog := ⟨34, ats_shaped, [(false, [.bool])], pre_shaped, res_shaped, okshaped⟩
end Go.Proofs.Ytiiicnhjjfmpkaa
namespace Go.Proofs.Ytiiicnhjjfmpkaa
set_option linter.unusedVariables false
end Go.Proofs.Ytiiicnhjjfmpkaa
namespace Go.Proofs.Ytiiicnhjjfmpkaa
open Go.RowKit
set_option linter.unusedVariables false
set_option maxRecDepth 100000
abbrev lIM1 (n : Int) : Pt := .lit (.int .i64 n)
abbrev vIM1 [W : InW] (n : Int) : AV := .v (.int .i64 n)
abbrev pM1xa : Nat × PI := (10, .row 65 11 6 [lIM1 0, lIM1 0, lIM1 0, lIM1 0, lIM1 0, lIM1 33, lIM1 2, lIM1 0, lIM1 0, lIM1 0, lIM1 0, lIM1 0, lIM1 0, lIM1 1, lIM1 0, lIM1 0, lIM1 34, lIM1 1, lIM1 0, lIM1 0, lIM1 0, lIM1 0, lIM1 0, lIM1 0, lIM1 1, lIM1 1, lIM1 0, lIM1 34, lIM1 1, lIM1 0, lIM1 0, lIM1 0, lIM1 0, lIM1 1, lIM1 5, lIM1 0, lIM1 0, lIM1 0, lIM1 0, lIM1 0, lIM1 0, lIM1 0, lIM1 0, lIM1 0, lIM1 3, lIM1 35, lIM1 0, lIM1 0, lIM1 1, lIM1 0, lIM1 0, lIM1 0, lIM1 0, lIM1 150, lIM1 0, lIM1 5, lIM1 36, lIM1 0, lIM1 0, lIM1 1, lIM1 0, lIM1 0, lIM1 0, lIM1 0, lIM1 0, lIM1 50000])
abbrev qM1xb [W : InW] : Nat × It := (10, .row 65 11 6 [vIM1 0, vIM1 0, vIM1 0, vIM1 0, vIM1 0, vIM1 33, vIM1 2, vIM1 0, vIM1 0, vIM1 0, vIM1 0, vIM1 0, vIM1 0, vIM1 1, vIM1 0, vIM1 0, vIM1 34, vIM1 1, vIM1 0, vIM1 0, vIM1 0, vIM1 0, vIM1 0, vIM1 0, vIM1 1, vIM1 1, vIM1 0, vIM1 34, vIM1 1, vIM1 0, vIM1 0, vIM1 0, vIM1 0, vIM1 1, vIM1 5, vIM1 0, vIM1 0, vIM1 0, vIM1 0, vIM1 0, vIM1 0, vIM1 0, vIM1 0, vIM1 0, vIM1 3, vIM1 35, vIM1 0, vIM1 0, vIM1 1, vIM1 0, vIM1 0, vIM1 0, vIM1 0, vIM1 150, vIM1 0, vIM1 5, vIM1 36, vIM1 0, vIM1 0, vIM1 1, vIM1 0, vIM1 0, vIM1 0, vIM1 0, vIM1 0, vIM1 50000])
abbrev pM1xc : Nat × PI := (10, .row 65 11 5 [lIM1 0, lIM1 0, lIM1 0, lIM1 0, lIM1 0, lIM1 33, lIM1 2, lIM1 0, lIM1 0, lIM1 0, lIM1 0, lIM1 0, lIM1 0, lIM1 1, lIM1 0, lIM1 0, lIM1 34, lIM1 1, lIM1 0, lIM1 0, lIM1 0, lIM1 0, lIM1 0, lIM1 0, lIM1 1, lIM1 1, lIM1 0, lIM1 34, lIM1 1, lIM1 0, lIM1 0, lIM1 0, lIM1 0, lIM1 2, lIM1 4, lIM1 0, lIM1 0, lIM1 0, lIM1 0, lIM1 0, lIM1 1, lIM1 1, lIM1 0, lIM1 0, lIM1 1, lIM1 5, lIM1 0, lIM1 0, lIM1 0, lIM1 0, lIM1 0, lIM1 0, lIM1 0, lIM1 0, lIM1 0])
abbrev qM1xd [W : InW] : Nat × It := (10, .row 65 11 5 [vIM1 0, vIM1 0, vIM1 0, vIM1 0, vIM1 0, vIM1 33, vIM1 2, vIM1 0, vIM1 0, vIM1 0, vIM1 0, vIM1 0, vIM1 0, vIM1 1, vIM1 0, vIM1 0, vIM1 34, vIM1 1, vIM1 0, vIM1 0, vIM1 0, vIM1 0, vIM1 0, vIM1 0, vIM1 1, vIM1 1, vIM1 0, vIM1 34, vIM1 1, vIM1 0, vIM1 0, vIM1 0, vIM1 0, vIM1 2, vIM1 4, vIM1 0, vIM1 0, vIM1 0, vIM1 0, vIM1 0, vIM1 1, vIM1 1, vIM1 0, vIM1 0, vIM1 1, vIM1 5, vIM1 0, vIM1 0, vIM1 0, vIM1 0, vIM1 0, vIM1 0, vIM1 0, vIM1 0, vIM1 0])
abbrev pM1xe : Nat × PI := (10, .row 65 11 4 [lIM1 0, lIM1 0, lIM1 0, lIM1 0, lIM1 0, lIM1 33, lIM1 2, lIM1 0, lIM1 0, lIM1 0, lIM1 0, lIM1 0, lIM1 0, lIM1 1, lIM1 0, lIM1 0, lIM1 34, lIM1 1, lIM1 0, lIM1 0, lIM1 0, lIM1 0, lIM1 0, lIM1 0, lIM1 1, lIM1 1, lIM1 0, lIM1 34, lIM1 1, lIM1 0, lIM1 0, lIM1 0, lIM1 0, lIM1 1, lIM1 5, lIM1 0, lIM1 0, lIM1 0, lIM1 0, lIM1 0, lIM1 0, lIM1 0, lIM1 0, lIM1 0])
abbrev qM1xf [W : InW] : Nat × It := (10, .row 65 11 4 [vIM1 0, vIM1 0, vIM1 0, vIM1 0, vIM1 0, vIM1 33, vIM1 2, vIM1 0, vIM1 0, vIM1 0, vIM1 0, vIM1 0, vIM1 0, vIM1 1, vIM1 0, vIM1 0, vIM1 34, vIM1 1, vIM1 0, vIM1 0, vIM1 0, vIM1 0, vIM1 0, vIM1 0, vIM1 1, vIM1 1, vIM1 0, vIM1 34, vIM1 1, vIM1 0, vIM1 0, vIM1 0, vIM1 0, vIM1 1, vIM1 5, vIM1 0, vIM1 0, vIM1 0, vIM1 0, vIM1 0, vIM1 0, vIM1 0, vIM1 0, vIM1 0])
abbrev pM1xg : Nat × PI := (4, .row 67 4 2 [.lit (Value.string { data := { toList := [ 109 , 105 , 110 , 105 ] } }), lIM1 0, lIM1 100, lIM1 2, .lit (Value.string { data := { toList := [ 118 , 97 , 110 ] } }), lIM1 500, lIM1 200, lIM1 0])
abbrev pM1xh : Nat × PI := (7, .row 67 4 2 [.lit (Value.string { data := { toList := [ 109 , 105 , 110 , 105 ] } }), lIM1 0, lIM1 100, lIM1 2, .lit (Value.string { data := { toList := [ 118 , 97 , 110 ] } }), lIM1 500, lIM1 200, lIM1 0])
abbrev qM1xi [W : InW] : Nat × It := (4, .row 67 4 2 [.v (Value.string { data := { toList := [ 109 , 105 , 110 , 105 ] } }), vIM1 0, vIM1 100, vIM1 2, .v (Value.string { data := { toList := [ 118 , 97 , 110 ] } }), vIM1 500, vIM1 200, vIM1 0])
abbrev qM1xj [W : InW] : Nat × It := (7, .row 67 4 2 [.v (Value.string { data := { toList := [ 109 , 105 , 110 , 105 ] } }), vIM1 0, vIM1 100, vIM1 2, .v (Value.string { data := { toList := [ 118 , 97 , 110 ] } }), vIM1 500, vIM1 200, vIM1 0])
abbrev pM1xba : Nat × PI := (1, .blk 95 [.sl 4 0 0 2, .sl 7 0 0 2, lIM1 4000, lIM1 30000, lIM1 8, lIM1 20, .sl 10 0 0 2, .sl 13 0 0 1, .sl 16 0 0 2, .sl 19 0 0 2, .sl 22 0 0 6, .mp 25, .lit (Value.slice none 0 0), lIM1 0, lIM1 1])
abbrev pM1xbb : Nat × PI := (1, .blk 95 [.sl 4 0 0 2, .sl 7 0 0 2, lIM1 4000, lIM1 30000, lIM1 8, lIM1 20, .sl 10 0 0 2, .sl 13 0 0 2, .sl 16 0 0 2, .sl 19 0 0 2, .sl 22 0 0 6, .mp 25, .lit (Value.slice none 0 0), lIM1 0, lIM1 2])
abbrev pM1xbc : Nat × PI := (1, .blk 95 [.sl 4 0 0 2, .sl 7 0 0 2, lIM1 4000, lIM1 30000, lIM1 8, lIM1 20, .sl 10 0 0 2, .sl 13 0 0 2, .sl 16 0 0 2, .sl 19 0 0 2, .sl 22 0 0 6, .mp 25, .lit (Value.slice none 0 0), lIM1 4, lIM1 3])
abbrev qM1xbd [W : InW] : Nat × It := (1, .blk 95 [.sl 4 0 0 2, .sl 7 0 0 2, vIM1 4000, vIM1 30000, vIM1 8, vIM1 20, .sl 10 0 0 2, .sl 13 0 0 2, .sl 16 0 0 2, .sl 19 0 0 2, .sl 22 0 0 6, .mp 25, .v (Value.slice none 0 0), vIM1 0, vIM1 2])
abbrev pM1xbe : Nat × PI := (1, .row 9 1 2 [.lit (Value.string { data := { toList := [ 97 , 110 , 110 ] } }), .lit (Value.string { data := { toList := [ 98 , 101 , 110 ] } })])
abbrev pM1xbf : Nat × PI := (4, .row 9 1 2 [.lit (Value.string { data := { toList := [ 97 , 110 , 110 ] } }), .lit (Value.string { data := { toList := [ 98 , 101 , 110 ] } })])
abbrev qM1xbg [W : InW] : Nat × It := (1, .row 9 1 2 [.v (Value.string { data := { toList := [ 97 , 110 , 110 ] } }), .v (Value.string { data := { toList := [ 98 , 101 , 110 ] } })])
abbrev qM1xbh [W : InW] : Nat × It := (4, .row 9 1 2 [.v (Value.string { data := { toList := [ 97 , 110 , 110 ] } }), .v (Value.string { data := { toList := [ 98 , 101 , 110 ] } })])
abbrev pM1xbi : Nat × PI := (22, .row 3 1 6 [lIM1 (Int.negSucc 3999), lIM1 (Int.negSucc 3999), lIM1 8000, lIM1 0, lIM1 0, lIM1 0])
abbrev pM1xbj : Nat × PI := (13, .row 63 5 2 [lIM1 0, lIM1 0, lIM1 33, lIM1 2, lIM1 0, lIM1 1, lIM1 1, lIM1 34, lIM1 1, lIM1 0])
abbrev pM1xca : Nat × PI := (13, .row 63 5 2 [lIM1 0, lIM1 0, lIM1 33, lIM1 2, lIM1 1, lIM1 1, lIM1 1, lIM1 34, lIM1 1, lIM1 0])
abbrev qM1xcb [W : InW] : Nat × It := (13, .row 63 5 2 [vIM1 0, vIM1 0, vIM1 33, vIM1 2, vIM1 0, vIM1 1, vIM1 1, vIM1 34, vIM1 1, vIM1 0])
abbrev pM1xcc : Nat × PI := (13, .row 63 5 2 [lIM1 0, lIM1 0, lIM1 33, lIM1 2, lIM1 1, lIM1 1, lIM1 1, lIM1 34, lIM1 1, lIM1 2])
abbrev pM1xcd : Nat × PI := (13, .row 63 5 2 [lIM1 0, lIM1 0, lIM1 57, lIM1 2, lIM1 0, lIM1 1, lIM1 1, lIM1 34, lIM1 1, lIM1 0])
abbrev pM1xce : Nat × PI := (22, .row 3 1 6 [lIM1 (Int.negSucc 3999), lIM1 0, lIM1 4000, lIM1 0, lIM1 0, lIM1 0])
abbrev pM1xcf : Nat × PI := (19, .row 3 1 6 [lIM1 0, lIM1 0, lIM1 0, lIM1 0, lIM1 0, lIM1 0])
abbrev pM1xcg : Nat × PI := (22, .row 3 1 6 [lIM1 0, lIM1 0, lIM1 0, lIM1 0, lIM1 0, lIM1 0])
abbrev qM1xch [W : InW] : Nat × It := (22, .row 3 1 6 [vIM1 0, vIM1 0, vIM1 0, vIM1 0, vIM1 0, vIM1 0])
def cc_mbxb : CC where
  g := 16
  args := [.agg [.sl 1 0 0 2, .sl 4 0 0 2, lIM1 4000, lIM1 30000, lIM1 8, lIM1 20, .sl 7 0 0 2]]
  H := [pM1xbe, pM1xg, (7, .row 85 2 2 [lIM1 48, lIM1 0, lIM1 24, lIM1 500])]
  outs := [⟨false, .tup [lIM1 0, lIM1 0, lIM1 0], [pM1xbe, pM1xg, (7, .row 85 2 2 [lIM1 48, lIM1 0, lIM1 24, lIM1 500])], false⟩]
  spec := fun _ K => K 0 []
noncomputable def TM_mbxb : Tab Try.prog := ⟨[], [], []⟩
theorem vc_mbxb (W : InW) (K : Nat → List Ed → Prop) : coreK (cxT Try.prog TT TM_mbxb 1000 50) 1000 16 [.agg [.sl 1 0 0 2, .sl 4 0 0 2, vIM1 4000, vIM1 30000, vIM1 8, vIM1 20, .sl 7 0 0 2]] [qM1xbg, qM1xi, (7, .row 85 2 2 [vIM1 48, vIM1 0, vIM1 24, vIM1 500])] (fun v h => outC cc_mbxb.H [] cc_mbxb.outs 0 false v h K) (fun v h => outC cc_mbxb.H [] cc_mbxb.outs 0 true v h K) = K 0 [] := by kernel_rfl
theorem ok_mbxb : ∀ W : InW, @CallC W Try.prog cc_mbxb :=
  CC.okOf (fun W => @TT W) (fun W => @TT_ok W) mixed_ok TM_mbxb 1000 50 cc_mbxb fun W K h => (vc_mbxb W K).mpr h
noncomputable def ce_mbxb : CE Try.prog := ceOf cc_mbxb ok_mbxb
def cc_mbxc : CC where
  g := 18
  args := [.agg [.sl 1 0 0 2, .sl 4 0 0 2, lIM1 4000, lIM1 30000, lIM1 8, lIM1 20, .sl 7 0 0 2], lIM1 2, lIM1 28]
  H := [pM1xbe, pM1xg, (7, .row 85 2 2 [lIM1 48, lIM1 0, lIM1 24, lIM1 500])]
  outs := [⟨false, .tup [lIM1 4000, lIM1 0], [pM1xbe, pM1xg, (7, .row 85 2 2 [lIM1 48, lIM1 0, lIM1 24, lIM1 500])], false⟩]
  spec := fun _ K => K 0 []
noncomputable def TM_mbxc : Tab Try.prog := ⟨[], [], [ce_mbxb]⟩
theorem vc_mbxc (W : InW) (K : Nat → List Ed → Prop) : coreK (cxT Try.prog TT TM_mbxc 1000 50) 1000 18 [.agg [.sl 1 0 0 2, .sl 4 0 0 2, vIM1 4000, vIM1 30000, vIM1 8, vIM1 20, .sl 7 0 0 2], vIM1 2, vIM1 28] [qM1xbg, qM1xi, (7, .row 85 2 2 [vIM1 48, vIM1 0, vIM1 24, vIM1 500])] (fun v h => outC cc_mbxc.H [] cc_mbxc.outs 0 false v h K) (fun v h => outC cc_mbxc.H [] cc_mbxc.outs 0 true v h K) = K 0 [] := by kernel_rfl
theorem ok_mbxc : ∀ W : InW, @CallC W Try.prog cc_mbxc :=
  CC.okOf (fun W => @TT W) (fun W => @TT_ok W) mixed_ok TM_mbxc 1000 50 cc_mbxc fun W K h => (vc_mbxc W K).mpr h
noncomputable def ce_mbxc : CE Try.prog := ceOf cc_mbxc ok_mbxc
def cc_mbxd : CC where
  g := 68
  args := [.ptr 1 0, lIM1 0, .agg [lIM1 0, lIM1 0, lIM1 0, lIM1 0, lIM1 0, lIM1 33, lIM1 2, lIM1 0, lIM1 0, lIM1 0, lIM1 0]]
  H := [(1, .blk 95 [.sl 4 0 0 2, .sl 7 0 0 2, lIM1 4000, lIM1 30000, lIM1 8, lIM1 20, .sl 10 0 0 2, .lit (Value.slice none 0 0), .sl 13 0 0 2, .sl 16 0 0 2, .sl 19 0 0 6, .mp 22, .lit (Value.slice none 0 0), lIM1 0, lIM1 0]), pM1xbf, pM1xh, (10, .row 85 2 2 [lIM1 48, lIM1 0, lIM1 24, lIM1 500]), (13, .row 3 1 2 [lIM1 0, lIM1 500]), (16, .row 3 1 2 [lIM1 0, lIM1 0]), pM1xcf, (22, .obj (OI.mpV [] 0))]
  outs := [⟨false, lIM1 0, [(1, .blk 95 [.sl 4 0 0 2, .sl 7 0 0 2, lIM1 4000, lIM1 30000, lIM1 8, lIM1 20, .sl 10 0 0 2, .sl 6 0 0 1, .sl 13 0 0 2, .sl 16 0 0 2, .sl 19 0 0 6, .mp 22, .lit (Value.slice none 0 0), lIM1 0, lIM1 0]), pM1xbf, pM1xh, (10, .row 85 2 2 [lIM1 48, lIM1 0, lIM1 24, lIM1 500]), (13, .row 3 1 2 [lIM1 0, lIM1 500]), (16, .row 3 1 2 [lIM1 0, lIM1 0]), pM1xcf, (22, .obj (OI.mpV [] 0)), (6, .row 63 5 1 [lIM1 0, lIM1 0, lIM1 33, lIM1 2, lIM1 0])], false⟩]
  spec := fun _ K => K 0 []
noncomputable def TM_mbxd : Tab Try.prog := ⟨[], [], [ce_mbxc, ce_mbxb]⟩
theorem vc_mbxd (W : InW) (K : Nat → List Ed → Prop) : coreK (cxT Try.prog TT TM_mbxd 1000 50) 1000 68 [.ptr 1 0, vIM1 0, .agg [vIM1 0, vIM1 0, vIM1 0, vIM1 0, vIM1 0, vIM1 33, vIM1 2, vIM1 0, vIM1 0, vIM1 0, vIM1 0]] [(1, .blk 95 [.sl 4 0 0 2, .sl 7 0 0 2, vIM1 4000, vIM1 30000, vIM1 8, vIM1 20, .sl 10 0 0 2, .v (Value.slice none 0 0), .sl 13 0 0 2, .sl 16 0 0 2, .sl 19 0 0 6, .mp 22, .v (Value.slice none 0 0), vIM1 0, vIM1 0]), qM1xbh, qM1xj, (10, .row 85 2 2 [vIM1 48, vIM1 0, vIM1 24, vIM1 500]), (13, .row 3 1 2 [vIM1 0, vIM1 500]), (16, .row 3 1 2 [vIM1 0, vIM1 0]), (19, .row 3 1 6 [vIM1 0, vIM1 0, vIM1 0, vIM1 0, vIM1 0, vIM1 0]), (22, .obj (OI.mpV [] 0))] (fun v h => outC cc_mbxd.H [] cc_mbxd.outs 0 false v h K) (fun v h => outC cc_mbxd.H [] cc_mbxd.outs 0 true v h K) = K 0 [] := by kernel_rfl
theorem ok_mbxd : ∀ W : InW, @CallC W Try.prog cc_mbxd :=
  CC.okOf (fun W => @TT W) (fun W => @TT_ok W) mixed_ok TM_mbxd 1000 50 cc_mbxd fun W K h => (vc_mbxd W K).mpr h
noncomputable def ce_mbxd : CE Try.prog := ceOf cc_mbxd ok_mbxd
def cc_mbxe : CC where
  g := 68
  args := [.ptr 1 0, lIM1 1, .agg [lIM1 0, lIM1 0, lIM1 1, lIM1 0, lIM1 0, lIM1 34, lIM1 1, lIM1 0, lIM1 0, lIM1 0, lIM1 0]]
  H := [(1, .blk 95 [.sl 4 0 0 2, .sl 7 0 0 2, lIM1 4000, lIM1 30000, lIM1 8, lIM1 20, .sl 10 0 0 2, .sl 13 0 0 1, .sl 16 0 0 2, .sl 19 0 0 2, .sl 22 0 0 6, .mp 25, .lit (Value.slice none 0 0), lIM1 0, lIM1 0]), pM1xbf, pM1xh, (10, .row 85 2 2 [lIM1 48, lIM1 0, lIM1 24, lIM1 500]), (13, .row 63 5 1 [lIM1 0, lIM1 0, lIM1 33, lIM1 2, lIM1 0]), (16, .row 3 1 2 [lIM1 0, lIM1 500]), (19, .row 3 1 2 [lIM1 0, lIM1 0]), pM1xcg, (25, .obj (OI.mpV [] 0))]
  outs := [⟨false, lIM1 5, [pM1xba, pM1xbf, pM1xh, (10, .row 85 2 2 [lIM1 48, lIM1 0, lIM1 24, lIM1 500]), (13, .row 63 5 1 [lIM1 0, lIM1 0, lIM1 33, lIM1 2, lIM1 0]), (16, .row 3 1 2 [lIM1 0, lIM1 500]), (19, .row 3 1 2 [lIM1 0, lIM1 0]), pM1xcg, (25, .obj (OI.mpV [] 0))], false⟩]
  spec := fun _ K => K 0 []
noncomputable def TM_mbxe : Tab Try.prog := ⟨[], [], [ce_mbxd, ce_mbxc, ce_mbxb]⟩
theorem vc_mbxe (W : InW) (K : Nat → List Ed → Prop) : coreK (cxT Try.prog TT TM_mbxe 1000 50) 1000 68 [.ptr 1 0, vIM1 1, .agg [vIM1 0, vIM1 0, vIM1 1, vIM1 0, vIM1 0, vIM1 34, vIM1 1, vIM1 0, vIM1 0, vIM1 0, vIM1 0]] [(1, .blk 95 [.sl 4 0 0 2, .sl 7 0 0 2, vIM1 4000, vIM1 30000, vIM1 8, vIM1 20, .sl 10 0 0 2, .sl 13 0 0 1, .sl 16 0 0 2, .sl 19 0 0 2, .sl 22 0 0 6, .mp 25, .v (Value.slice none 0 0), vIM1 0, vIM1 0]), qM1xbh, qM1xj, (10, .row 85 2 2 [vIM1 48, vIM1 0, vIM1 24, vIM1 500]), (13, .row 63 5 1 [vIM1 0, vIM1 0, vIM1 33, vIM1 2, vIM1 0]), (16, .row 3 1 2 [vIM1 0, vIM1 500]), (19, .row 3 1 2 [vIM1 0, vIM1 0]), qM1xch, (25, .obj (OI.mpV [] 0))] (fun v h => outC cc_mbxe.H [] cc_mbxe.outs 0 false v h K) (fun v h => outC cc_mbxe.H [] cc_mbxe.outs 0 true v h K) = K 0 [] := by kernel_rfl
theorem ok_mbxe : ∀ W : InW, @CallC W Try.prog cc_mbxe :=
  CC.okOf (fun W => @TT W) (fun W => @TT_ok W) mixed_ok TM_mbxe 1000 50 cc_mbxe fun W K h => (vc_mbxe W K).mpr h
noncomputable def ce_mbxe : CE Try.prog := ceOf cc_mbxe ok_mbxe
def cc_mbxf : CC where
  g := 68
  args := [.ptr 1 0, lIM1 2, .agg [lIM1 0, lIM1 0, lIM1 1, lIM1 1, lIM1 0, lIM1 34, lIM1 1, lIM1 0, lIM1 0, lIM1 0, lIM1 0]]
  H := [pM1xba, pM1xbf, pM1xh, (10, .row 85 2 2 [lIM1 48, lIM1 0, lIM1 24, lIM1 500]), (13, .row 63 5 1 [lIM1 0, lIM1 0, lIM1 33, lIM1 2, lIM1 0]), (16, .row 3 1 2 [lIM1 0, lIM1 500]), (19, .row 3 1 2 [lIM1 0, lIM1 0]), pM1xcg, (25, .obj (OI.mpV [] 0))]
  outs := [⟨false, lIM1 0, [(1, .blk 95 [.sl 4 0 0 2, .sl 7 0 0 2, lIM1 4000, lIM1 30000, lIM1 8, lIM1 20, .sl 10 0 0 2, .sl 6 0 0 2, .sl 16 0 0 2, .sl 19 0 0 2, .sl 22 0 0 6, .mp 25, .lit (Value.slice none 0 0), lIM1 0, lIM1 2]), pM1xbf, pM1xh, (10, .row 85 2 2 [lIM1 48, lIM1 0, lIM1 24, lIM1 500]), (16, .row 3 1 2 [lIM1 0, lIM1 500]), (19, .row 3 1 2 [lIM1 0, lIM1 0]), pM1xcg, (25, .obj (OI.mpV [] 0)), (6, .row 63 5 2 [lIM1 0, lIM1 0, lIM1 33, lIM1 2, lIM1 0, lIM1 1, lIM1 1, lIM1 34, lIM1 1, lIM1 0])], false⟩]
  spec := fun _ K => K 0 []
noncomputable def TM_mbxf : Tab Try.prog := ⟨[], [], [ce_mbxe, ce_mbxd, ce_mbxc, ce_mbxb]⟩
theorem vc_mbxf (W : InW) (K : Nat → List Ed → Prop) : coreK (cxT Try.prog TT TM_mbxf 1000 50) 1000 68 [.ptr 1 0, vIM1 2, .agg [vIM1 0, vIM1 0, vIM1 1, vIM1 1, vIM1 0, vIM1 34, vIM1 1, vIM1 0, vIM1 0, vIM1 0, vIM1 0]] [(1, .blk 95 [.sl 4 0 0 2, .sl 7 0 0 2, vIM1 4000, vIM1 30000, vIM1 8, vIM1 20, .sl 10 0 0 2, .sl 13 0 0 1, .sl 16 0 0 2, .sl 19 0 0 2, .sl 22 0 0 6, .mp 25, .v (Value.slice none 0 0), vIM1 0, vIM1 1]), qM1xbh, qM1xj, (10, .row 85 2 2 [vIM1 48, vIM1 0, vIM1 24, vIM1 500]), (13, .row 63 5 1 [vIM1 0, vIM1 0, vIM1 33, vIM1 2, vIM1 0]), (16, .row 3 1 2 [vIM1 0, vIM1 500]), (19, .row 3 1 2 [vIM1 0, vIM1 0]), qM1xch, (25, .obj (OI.mpV [] 0))] (fun v h => outC cc_mbxf.H [] cc_mbxf.outs 0 false v h K) (fun v h => outC cc_mbxf.H [] cc_mbxf.outs 0 true v h K) = K 0 [] := by kernel_rfl
theorem ok_mbxf : ∀ W : InW, @CallC W Try.prog cc_mbxf :=
  CC.okOf (fun W => @TT W) (fun W => @TT_ok W) mixed_ok TM_mbxf 1000 50 cc_mbxf fun W K h => (vc_mbxf W K).mpr h
noncomputable def ce_mbxf : CE Try.prog := ceOf cc_mbxf ok_mbxf
def cc_mbxg : CC where
  g := 68
  args := [.ptr 1 0, lIM1 3, .agg [lIM1 1, lIM1 5, lIM1 0, lIM1 0, lIM1 0, lIM1 0, lIM1 0, lIM1 0, lIM1 0, lIM1 0, lIM1 0]]
  H := [pM1xbb, pM1xbf, pM1xh, (10, .row 85 2 2 [lIM1 48, lIM1 0, lIM1 24, lIM1 500]), pM1xbj, (16, .row 3 1 2 [lIM1 0, lIM1 500]), (19, .row 3 1 2 [lIM1 0, lIM1 0]), pM1xcg, (25, .obj (OI.mpV [] 0))]
  outs := [⟨false, lIM1 0, [(1, .blk 95 [.sl 4 0 0 2, .sl 7 0 0 2, lIM1 4000, lIM1 30000, lIM1 8, lIM1 20, .sl 10 0 0 2, .sl 13 0 0 2, .sl 16 0 0 2, .sl 19 0 0 2, .sl 22 0 0 6, .mp 25, .sl 6 0 0 1, lIM1 5, lIM1 3]), pM1xbf, pM1xh, (10, .row 85 2 2 [lIM1 48, lIM1 0, lIM1 24, lIM1 500]), pM1xca, (16, .row 3 1 2 [lIM1 0, lIM1 500]), (19, .row 3 1 2 [lIM1 0, lIM1 0]), pM1xce, (25, .obj (OI.mpV [] 0)), (6, .row 61 4 1 [lIM1 3, lIM1 0, .lit (.int .i64 ↑2), lIM1 4000])], false⟩]
  spec := fun _ K => K 0 []
noncomputable def TM_mbxg : Tab Try.prog := ⟨[], [], [ce_mbxf, ce_mbxe, ce_mbxd, ce_mbxc, ce_mbxb]⟩
theorem vc_mbxg (W : InW) (K : Nat → List Ed → Prop) : coreK (cxT Try.prog TT TM_mbxg 1000 50) 1000 68 [.ptr 1 0, vIM1 3, .agg [vIM1 1, vIM1 5, vIM1 0, vIM1 0, vIM1 0, vIM1 0, vIM1 0, vIM1 0, vIM1 0, vIM1 0, vIM1 0]] [qM1xbd, qM1xbh, qM1xj, (10, .row 85 2 2 [vIM1 48, vIM1 0, vIM1 24, vIM1 500]), qM1xcb, (16, .row 3 1 2 [vIM1 0, vIM1 500]), (19, .row 3 1 2 [vIM1 0, vIM1 0]), qM1xch, (25, .obj (OI.mpV [] 0))] (fun v h => outC cc_mbxg.H [] cc_mbxg.outs 0 false v h K) (fun v h => outC cc_mbxg.H [] cc_mbxg.outs 0 true v h K) = K 0 [] := by kernel_rfl
theorem ok_mbxg : ∀ W : InW, @CallC W Try.prog cc_mbxg :=
  CC.okOf (fun W => @TT W) (fun W => @TT_ok W) mixed_ok TM_mbxg 1000 50 cc_mbxg fun W K h => (vc_mbxg W K).mpr h
noncomputable def ce_mbxg : CE Try.prog := ceOf cc_mbxg ok_mbxg
def cc_mbxh : CC where
  g := 68
  args := [.ptr 1 0, lIM1 4, .agg [lIM1 3, lIM1 35, lIM1 0, lIM1 0, lIM1 1, lIM1 0, lIM1 0, lIM1 0, lIM1 0, lIM1 150, lIM1 0]]
  H := [(1, .blk 95 [.sl 4 0 0 2, .sl 7 0 0 2, lIM1 4000, lIM1 30000, lIM1 8, lIM1 20, .sl 10 0 0 2, .sl 13 0 0 2, .sl 16 0 0 2, .sl 19 0 0 2, .sl 22 0 0 6, .mp 25, .sl 28 0 0 1, lIM1 5, lIM1 3]), pM1xbf, pM1xh, (10, .row 85 2 2 [lIM1 48, lIM1 0, lIM1 24, lIM1 500]), pM1xca, (16, .row 3 1 2 [lIM1 0, lIM1 500]), (19, .row 3 1 2 [lIM1 0, lIM1 0]), pM1xce, (25, .obj (OI.mpV [] 0)), (28, .row 61 4 1 [lIM1 3, lIM1 0, lIM1 2, lIM1 4000])]
  outs := [⟨false, lIM1 0, [(1, .blk 95 [.sl 4 0 0 2, .sl 7 0 0 2, lIM1 4000, lIM1 30000, lIM1 8, lIM1 20, .sl 10 0 0 2, .sl 13 0 0 2, .sl 16 0 0 2, .sl 19 0 0 2, .sl 22 0 0 6, .mp 25, .sl 6 0 0 2, lIM1 35, lIM1 4]), pM1xbf, pM1xh, (10, .row 85 2 2 [lIM1 48, lIM1 0, lIM1 24, lIM1 500]), pM1xcc, (16, .row 3 1 2 [lIM1 0, lIM1 650]), (19, .row 3 1 2 [lIM1 0, lIM1 150]), pM1xbi, (25, .obj (OI.mpV [] 0)), (6, .row 61 4 2 [lIM1 3, lIM1 0, lIM1 2, lIM1 4000, lIM1 4, lIM1 1, .lit (.int .i64 ↑2), lIM1 4000])], false⟩]
  spec := fun _ K => K 0 []
noncomputable def TM_mbxh : Tab Try.prog := ⟨[], [], [ce_mbxg, ce_mbxf, ce_mbxe, ce_mbxd, ce_mbxc, ce_mbxb]⟩
theorem vc_mbxh (W : InW) (K : Nat → List Ed → Prop) : coreK (cxT Try.prog TT TM_mbxh 1000 50) 1000 68 [.ptr 1 0, vIM1 4, .agg [vIM1 3, vIM1 35, vIM1 0, vIM1 0, vIM1 1, vIM1 0, vIM1 0, vIM1 0, vIM1 0, vIM1 150, vIM1 0]] [(1, .blk 95 [.sl 4 0 0 2, .sl 7 0 0 2, vIM1 4000, vIM1 30000, vIM1 8, vIM1 20, .sl 10 0 0 2, .sl 13 0 0 2, .sl 16 0 0 2, .sl 19 0 0 2, .sl 22 0 0 6, .mp 25, .sl 28 0 0 1, vIM1 5, vIM1 3]), qM1xbh, qM1xj, (10, .row 85 2 2 [vIM1 48, vIM1 0, vIM1 24, vIM1 500]), (13, .row 63 5 2 [vIM1 0, vIM1 0, vIM1 33, vIM1 2, vIM1 1, vIM1 1, vIM1 1, vIM1 34, vIM1 1, vIM1 0]), (16, .row 3 1 2 [vIM1 0, vIM1 500]), (19, .row 3 1 2 [vIM1 0, vIM1 0]), (22, .row 3 1 6 [vIM1 (Int.negSucc 3999), vIM1 0, vIM1 4000, vIM1 0, vIM1 0, vIM1 0]), (25, .obj (OI.mpV [] 0)), (28, .row 61 4 1 [vIM1 3, vIM1 0, vIM1 2, vIM1 4000])] (fun v h => outC cc_mbxh.H [] cc_mbxh.outs 0 false v h K) (fun v h => outC cc_mbxh.H [] cc_mbxh.outs 0 true v h K) = K 0 [] := by kernel_rfl
theorem ok_mbxh : ∀ W : InW, @CallC W Try.prog cc_mbxh :=
  CC.okOf (fun W => @TT W) (fun W => @TT_ok W) mixed_ok TM_mbxh 1000 50 cc_mbxh fun W K h => (vc_mbxh W K).mpr h
noncomputable def ce_mbxh : CE Try.prog := ceOf cc_mbxh ok_mbxh
def cc_mbxi : CC where
  g := 68
  args := [.ptr 1 0, lIM1 5, .agg [lIM1 5, lIM1 36, lIM1 0, lIM1 0, lIM1 1, lIM1 0, lIM1 0, lIM1 0, lIM1 0, lIM1 0, lIM1 50000]]
  H := [(1, .blk 95 [.sl 4 0 0 2, .sl 7 0 0 2, lIM1 4000, lIM1 30000, lIM1 8, lIM1 20, .sl 10 0 0 2, .sl 13 0 0 2, .sl 16 0 0 2, .sl 19 0 0 2, .sl 22 0 0 6, .mp 25, .sl 28 0 0 2, lIM1 35, lIM1 4]), pM1xbf, pM1xh, (10, .row 85 2 2 [lIM1 48, lIM1 0, lIM1 24, lIM1 500]), pM1xcc, (16, .row 3 1 2 [lIM1 0, lIM1 650]), (19, .row 3 1 2 [lIM1 0, lIM1 150]), pM1xbi, (25, .obj (OI.mpV [] 0)), (28, .row 61 4 2 [lIM1 3, lIM1 0, lIM1 2, lIM1 4000, lIM1 4, lIM1 1, lIM1 2, lIM1 4000])]
  outs := [⟨false, lIM1 0, [(1, .blk 95 [.sl 4 0 0 2, .sl 7 0 0 2, lIM1 4000, lIM1 30000, lIM1 8, lIM1 20, .sl 10 0 0 2, .sl 13 0 0 2, .sl 16 0 0 2, .sl 19 0 0 2, .sl 22 0 0 6, .mp 25, .sl 6 0 0 4, lIM1 36, lIM1 5]), pM1xbf, pM1xh, (10, .row 85 2 2 [lIM1 48, lIM1 0, lIM1 24, lIM1 500]), (13, .row 63 5 2 [lIM1 0, lIM1 0, lIM1 33, lIM1 2, lIM1 1, lIM1 1, lIM1 1, lIM1 34, lIM1 1, lIM1 3]), (16, .row 3 1 2 [lIM1 0, lIM1 650]), (19, .row 3 1 2 [lIM1 0, lIM1 150]), (22, .row 3 1 6 [lIM1 (Int.negSucc 3999), lIM1 (Int.negSucc 3999), lIM1 (Int.negSucc 21999), lIM1 50000, lIM1 (Int.negSucc 19999), lIM1 0]), (25, .obj (OI.mpV [] 0)), (6, .row 61 4 4 [lIM1 3, lIM1 0, lIM1 2, lIM1 4000, lIM1 4, lIM1 1, lIM1 2, lIM1 4000, lIM1 5, .lit (.int .i64 ↑2), lIM1 3, lIM1 30000, lIM1 5, lIM1 4, lIM1 3, lIM1 20000])], false⟩]
  spec := fun _ K => K 0 []
noncomputable def TM_mbxi : Tab Try.prog := ⟨[], [], [ce_mbxh, ce_mbxg, ce_mbxf, ce_mbxe, ce_mbxd, ce_mbxc, ce_mbxb]⟩
theorem vc_mbxi (W : InW) (K : Nat → List Ed → Prop) : coreK (cxT Try.prog TT TM_mbxi 1000 50) 1000 68 [.ptr 1 0, vIM1 5, .agg [vIM1 5, vIM1 36, vIM1 0, vIM1 0, vIM1 1, vIM1 0, vIM1 0, vIM1 0, vIM1 0, vIM1 0, vIM1 50000]] [(1, .blk 95 [.sl 4 0 0 2, .sl 7 0 0 2, vIM1 4000, vIM1 30000, vIM1 8, vIM1 20, .sl 10 0 0 2, .sl 13 0 0 2, .sl 16 0 0 2, .sl 19 0 0 2, .sl 22 0 0 6, .mp 25, .sl 28 0 0 2, vIM1 35, vIM1 4]), qM1xbh, qM1xj, (10, .row 85 2 2 [vIM1 48, vIM1 0, vIM1 24, vIM1 500]), (13, .row 63 5 2 [vIM1 0, vIM1 0, vIM1 33, vIM1 2, vIM1 1, vIM1 1, vIM1 1, vIM1 34, vIM1 1, vIM1 2]), (16, .row 3 1 2 [vIM1 0, vIM1 650]), (19, .row 3 1 2 [vIM1 0, vIM1 150]), (22, .row 3 1 6 [vIM1 (Int.negSucc 3999), vIM1 (Int.negSucc 3999), vIM1 8000, vIM1 0, vIM1 0, vIM1 0]), (25, .obj (OI.mpV [] 0)), (28, .row 61 4 2 [vIM1 3, vIM1 0, vIM1 2, vIM1 4000, vIM1 4, vIM1 1, vIM1 2, vIM1 4000])] (fun v h => outC cc_mbxi.H [] cc_mbxi.outs 0 false v h K) (fun v h => outC cc_mbxi.H [] cc_mbxi.outs 0 true v h K) = K 0 [] := by kernel_rfl
theorem ok_mbxi : ∀ W : InW, @CallC W Try.prog cc_mbxi :=
  CC.okOf (fun W => @TT W) (fun W => @TT_ok W) mixed_ok TM_mbxi 1000 50 cc_mbxi fun W K h => (vc_mbxi W K).mpr h
noncomputable def ce_mbxi : CE Try.prog := ceOf cc_mbxi ok_mbxi
def cc_mbxj : CC where
  g := 50
  args := [.agg [.sl 1 0 0 2, .sl 4 0 0 2, lIM1 4000, lIM1 30000, lIM1 8, lIM1 20, .sl 7 0 0 2], .sl 10 0 0 6]
  H := [pM1xbe, pM1xg, (7, .row 85 2 2 [lIM1 48, lIM1 0, lIM1 24, lIM1 500]), pM1xa]
  outs := [⟨false, .tup [.ptr 6 0, .sl 9 0 0 6, lIM1 0], [pM1xbe, pM1xg, (7, .row 85 2 2 [lIM1 48, lIM1 0, lIM1 24, lIM1 500]), pM1xa, (6, .blk 95 [.sl 1 0 0 2, .sl 4 0 0 2, lIM1 4000, lIM1 30000, lIM1 8, lIM1 20, .sl 7 0 0 2, .sl 12 0 0 2, .sl 15 0 0 2, .sl 18 0 0 2, .sl 21 0 0 6, .mp 24, .sl 27 0 0 4, lIM1 36, lIM1 5]), (9, .row 30 1 6 [lIM1 0, lIM1 5, lIM1 0, lIM1 0, lIM1 0, lIM1 0]), (12, .row 63 5 2 [lIM1 0, lIM1 0, lIM1 33, lIM1 2, lIM1 1, lIM1 1, lIM1 1, lIM1 34, lIM1 1, lIM1 3]), (15, .row 3 1 2 [lIM1 0, lIM1 650]), (18, .row 3 1 2 [lIM1 0, lIM1 150]), (21, .row 3 1 6 [lIM1 (Int.negSucc 3999), lIM1 (Int.negSucc 3999), lIM1 (Int.negSucc 21999), lIM1 50000, lIM1 (Int.negSucc 19999), lIM1 0]), (24, .obj (OI.mpV [] 0)), (27, .row 61 4 4 [lIM1 3, lIM1 0, lIM1 2, lIM1 4000, lIM1 4, lIM1 1, lIM1 2, lIM1 4000, lIM1 5, lIM1 2, lIM1 3, lIM1 30000, lIM1 5, lIM1 4, lIM1 3, lIM1 20000])], false⟩]
  spec := fun _ K => K 0 []
noncomputable def TM_mbxj : Tab Try.prog := ⟨[], [], [ce_mbxi, ce_mbxh, ce_mbxg, ce_mbxf, ce_mbxe, ce_mbxd, ce_mbxc, ce_mbxb]⟩
theorem vc_mbxj (W : InW) (K : Nat → List Ed → Prop) : coreK (cxT Try.prog TT TM_mbxj 1000 50) 1000 50 [.agg [.sl 1 0 0 2, .sl 4 0 0 2, vIM1 4000, vIM1 30000, vIM1 8, vIM1 20, .sl 7 0 0 2], .sl 10 0 0 6] [qM1xbg, qM1xi, (7, .row 85 2 2 [vIM1 48, vIM1 0, vIM1 24, vIM1 500]), qM1xb] (fun v h => outC cc_mbxj.H [] cc_mbxj.outs 0 false v h K) (fun v h => outC cc_mbxj.H [] cc_mbxj.outs 0 true v h K) = K 0 [] := by kernel_rfl
theorem ok_mbxj : ∀ W : InW, @CallC W Try.prog cc_mbxj :=
  CC.okOf (fun W => @TT W) (fun W => @TT_ok W) mixed_ok TM_mbxj 1000 50 cc_mbxj fun W K h => (vc_mbxj W K).mpr h
noncomputable def ce_mbxj : CE Try.prog := ceOf cc_mbxj ok_mbxj
def cc_mbxba : CC where
  g := 21
  args := [.agg [.sl 1 0 0 2, .sl 4 0 0 2, lIM1 4000, lIM1 30000, lIM1 8, lIM1 20, .sl 7 0 0 2], .sl 10 0 0 6]
  H := [pM1xbe, pM1xg, (7, .row 85 2 2 [lIM1 48, lIM1 0, lIM1 24, lIM1 500]), pM1xa]
  outs := [⟨false, .tup [.sl 6 0 0 6, .agg [.sl 9 0 0 2, .sl 12 0 0 2, .sl 15 0 0 2, .sl 18 0 0 6], lIM1 0], [pM1xbe, pM1xg, (7, .row 85 2 2 [lIM1 48, lIM1 0, lIM1 24, lIM1 500]), pM1xa, (6, .row 30 1 6 [lIM1 0, lIM1 5, lIM1 0, lIM1 0, lIM1 0, lIM1 0]), (9, .row 63 5 2 [lIM1 0, lIM1 0, lIM1 33, lIM1 2, lIM1 1, lIM1 1, lIM1 1, lIM1 34, lIM1 1, lIM1 3]), (12, .row 3 1 2 [lIM1 0, lIM1 650]), (15, .row 3 1 2 [lIM1 0, lIM1 150]), (18, .row 3 1 6 [lIM1 (Int.negSucc 3999), lIM1 (Int.negSucc 3999), lIM1 (Int.negSucc 21999), lIM1 50000, lIM1 (Int.negSucc 19999), lIM1 0])], false⟩]
  spec := fun _ K => K 0 []
noncomputable def TM_mbxba : Tab Try.prog := ⟨[], [], [ce_mbxj, ce_mbxi, ce_mbxh, ce_mbxg, ce_mbxf, ce_mbxe, ce_mbxd, ce_mbxc, ce_mbxb]⟩
theorem vc_mbxba (W : InW) (K : Nat → List Ed → Prop) : coreK (cxT Try.prog TT TM_mbxba 1000 50) 1000 21 [.agg [.sl 1 0 0 2, .sl 4 0 0 2, vIM1 4000, vIM1 30000, vIM1 8, vIM1 20, .sl 7 0 0 2], .sl 10 0 0 6] [qM1xbg, qM1xi, (7, .row 85 2 2 [vIM1 48, vIM1 0, vIM1 24, vIM1 500]), qM1xb] (fun v h => outC cc_mbxba.H [] cc_mbxba.outs 0 false v h K) (fun v h => outC cc_mbxba.H [] cc_mbxba.outs 0 true v h K) = K 0 [] := by kernel_rfl
theorem ok_mbxba : ∀ W : InW, @CallC W Try.prog cc_mbxba :=
  CC.okOf (fun W => @TT W) (fun W => @TT_ok W) mixed_ok TM_mbxba 1000 50 cc_mbxba fun W K h => (vc_mbxba W K).mpr h
noncomputable def ce_mbxba : CE Try.prog := ceOf cc_mbxba ok_mbxba
def cc_mbxbb : CC where
  g := 50
  args := [.agg [.sl 1 0 0 2, .sl 4 0 0 2, lIM1 4000, lIM1 30000, lIM1 8, lIM1 20, .sl 7 0 0 2], .sl 10 0 0 4]
  H := [pM1xbe, pM1xg, (7, .row 85 2 2 [lIM1 48, lIM1 0, lIM1 24, lIM1 500]), pM1xe]
  outs := [⟨false, .tup [.ptr 6 0, .sl 9 0 0 4, lIM1 0], [pM1xbe, pM1xg, (7, .row 85 2 2 [lIM1 48, lIM1 0, lIM1 24, lIM1 500]), pM1xe, (6, .blk 95 [.sl 1 0 0 2, .sl 4 0 0 2, lIM1 4000, lIM1 30000, lIM1 8, lIM1 20, .sl 7 0 0 2, .sl 12 0 0 2, .sl 15 0 0 2, .sl 18 0 0 2, .sl 21 0 0 6, .mp 24, .sl 27 0 0 1, lIM1 5, lIM1 3]), (9, .row 30 1 4 [lIM1 0, lIM1 5, lIM1 0, lIM1 0]), (12, .row 63 5 2 [lIM1 0, lIM1 0, lIM1 33, lIM1 2, lIM1 1, lIM1 1, lIM1 1, lIM1 34, lIM1 1, lIM1 0]), (15, .row 3 1 2 [lIM1 0, lIM1 500]), (18, .row 3 1 2 [lIM1 0, lIM1 0]), (21, .row 3 1 6 [lIM1 (Int.negSucc 3999), lIM1 0, lIM1 4000, lIM1 0, lIM1 0, lIM1 0]), (24, .obj (OI.mpV [] 0)), (27, .row 61 4 1 [lIM1 3, lIM1 0, lIM1 2, lIM1 4000])], false⟩]
  spec := fun _ K => K 0 []
noncomputable def TM_mbxbb : Tab Try.prog := ⟨[], [], [ce_mbxba, ce_mbxj, ce_mbxi, ce_mbxh, ce_mbxg, ce_mbxf, ce_mbxe, ce_mbxd, ce_mbxc, ce_mbxb]⟩
theorem vc_mbxbb (W : InW) (K : Nat → List Ed → Prop) : coreK (cxT Try.prog TT TM_mbxbb 1000 50) 1000 50 [.agg [.sl 1 0 0 2, .sl 4 0 0 2, vIM1 4000, vIM1 30000, vIM1 8, vIM1 20, .sl 7 0 0 2], .sl 10 0 0 4] [qM1xbg, qM1xi, (7, .row 85 2 2 [vIM1 48, vIM1 0, vIM1 24, vIM1 500]), qM1xf] (fun v h => outC cc_mbxbb.H [] cc_mbxbb.outs 0 false v h K) (fun v h => outC cc_mbxbb.H [] cc_mbxbb.outs 0 true v h K) = K 0 [] := by kernel_rfl
theorem ok_mbxbb : ∀ W : InW, @CallC W Try.prog cc_mbxbb :=
  CC.okOf (fun W => @TT W) (fun W => @TT_ok W) mixed_ok TM_mbxbb 1000 50 cc_mbxbb fun W K h => (vc_mbxbb W K).mpr h
noncomputable def ce_mbxbb : CE Try.prog := ceOf cc_mbxbb ok_mbxbb
def cc_mbxbc : CC where
  g := 25
  args := [.agg [.sl 1 0 0 2, .sl 4 0 0 2, lIM1 4000, lIM1 30000, lIM1 8, lIM1 20, .sl 7 0 0 2], .sl 10 0 0 4]
  H := [pM1xbe, pM1xg, (7, .row 85 2 2 [lIM1 48, lIM1 0, lIM1 24, lIM1 500]), pM1xe]
  outs := [⟨false, .tup [.sl 6 0 0 1, lIM1 0], [pM1xbe, pM1xg, (7, .row 85 2 2 [lIM1 48, lIM1 0, lIM1 24, lIM1 500]), pM1xe, (6, .row 61 4 1 [lIM1 3, lIM1 0, lIM1 2, lIM1 4000])], false⟩]
  spec := fun _ K => K 0 []
noncomputable def TM_mbxbc : Tab Try.prog := ⟨[], [], [ce_mbxbb, ce_mbxba, ce_mbxj, ce_mbxi, ce_mbxh, ce_mbxg, ce_mbxf, ce_mbxe, ce_mbxd, ce_mbxc, ce_mbxb]⟩
theorem vc_mbxbc (W : InW) (K : Nat → List Ed → Prop) : coreK (cxT Try.prog TT TM_mbxbc 1000 50) 1000 25 [.agg [.sl 1 0 0 2, .sl 4 0 0 2, vIM1 4000, vIM1 30000, vIM1 8, vIM1 20, .sl 7 0 0 2], .sl 10 0 0 4] [qM1xbg, qM1xi, (7, .row 85 2 2 [vIM1 48, vIM1 0, vIM1 24, vIM1 500]), qM1xf] (fun v h => outC cc_mbxbc.H [] cc_mbxbc.outs 0 false v h K) (fun v h => outC cc_mbxbc.H [] cc_mbxbc.outs 0 true v h K) = K 0 [] := by kernel_rfl
theorem ok_mbxbc : ∀ W : InW, @CallC W Try.prog cc_mbxbc :=
  CC.okOf (fun W => @TT W) (fun W => @TT_ok W) mixed_ok TM_mbxbc 1000 50 cc_mbxbc fun W K h => (vc_mbxbc W K).mpr h
noncomputable def ce_mbxbc : CE Try.prog := ceOf cc_mbxbc ok_mbxbc
def cc_mbxbd : CC where
  g := 28
  args := [.agg [.sl 1 0 0 2, .sl 4 0 0 2, lIM1 4000, lIM1 30000, lIM1 8, lIM1 20, .sl 7 0 0 2], .sl 10 0 0 4, lIM1 1, lIM1 0, lIM1 43, lIM1 2]
  H := [pM1xbe, pM1xg, (7, .row 85 2 2 [lIM1 48, lIM1 0, lIM1 24, lIM1 500]), pM1xe]
  outs := [⟨false, .tup [lIM1 56, lIM1 0], [pM1xbe, pM1xg, (7, .row 85 2 2 [lIM1 48, lIM1 0, lIM1 24, lIM1 500]), pM1xe], false⟩]
  spec := fun _ K => K 0 []
noncomputable def TM_mbxbd : Tab Try.prog := ⟨[], [], [ce_mbxbc, ce_mbxbb, ce_mbxba, ce_mbxj, ce_mbxi, ce_mbxh, ce_mbxg, ce_mbxf, ce_mbxe, ce_mbxd, ce_mbxc, ce_mbxb]⟩
theorem vc_mbxbd (W : InW) (K : Nat → List Ed → Prop) : coreK (cxT Try.prog TT TM_mbxbd 1000 50) 1000 28 [.agg [.sl 1 0 0 2, .sl 4 0 0 2, vIM1 4000, vIM1 30000, vIM1 8, vIM1 20, .sl 7 0 0 2], .sl 10 0 0 4, vIM1 1, vIM1 0, vIM1 43, vIM1 2] [qM1xbg, qM1xi, (7, .row 85 2 2 [vIM1 48, vIM1 0, vIM1 24, vIM1 500]), qM1xf] (fun v h => outC cc_mbxbd.H [] cc_mbxbd.outs 0 false v h K) (fun v h => outC cc_mbxbd.H [] cc_mbxbd.outs 0 true v h K) = K 0 [] := by kernel_rfl
theorem ok_mbxbd : ∀ W : InW, @CallC W Try.prog cc_mbxbd :=
  CC.okOf (fun W => @TT W) (fun W => @TT_ok W) mixed_ok TM_mbxbd 1000 50 cc_mbxbd fun W K h => (vc_mbxbd W K).mpr h
noncomputable def ce_mbxbd : CE Try.prog := ceOf cc_mbxbd ok_mbxbd
def cc_mbxbe : CC where
  g := 68
  args := [.ptr 1 0, lIM1 3, .agg [lIM1 2, lIM1 4, lIM1 0, lIM1 0, lIM1 0, lIM1 0, lIM1 0, lIM1 1, lIM1 1, lIM1 0, lIM1 0]]
  H := [pM1xbb, pM1xbf, pM1xh, (10, .row 85 2 2 [lIM1 48, lIM1 0, lIM1 24, lIM1 500]), pM1xbj, (16, .row 3 1 2 [lIM1 0, lIM1 500]), (19, .row 3 1 2 [lIM1 0, lIM1 0]), pM1xcg, (25, .obj (OI.mpV [] 0))]
  outs := [⟨false, lIM1 0, [pM1xbc, pM1xbf, pM1xh, (10, .row 85 2 2 [lIM1 48, lIM1 0, lIM1 24, lIM1 500]), pM1xcd, (16, .row 3 1 2 [lIM1 0, lIM1 500]), (19, .row 3 1 2 [lIM1 0, lIM1 0]), pM1xcg, (25, .obj (OI.mpV [{ key := .int .i64 1 , val := .int .i64 ( Int.ofNat ( 1 + 1 ) ) , born := 0 }] 1))], false⟩]
  spec := fun _ K => K 0 []
noncomputable def TM_mbxbe : Tab Try.prog := ⟨[], [], [ce_mbxbd, ce_mbxbc, ce_mbxbb, ce_mbxba, ce_mbxj, ce_mbxi, ce_mbxh, ce_mbxg, ce_mbxf, ce_mbxe, ce_mbxd, ce_mbxc, ce_mbxb]⟩
theorem vc_mbxbe (W : InW) (K : Nat → List Ed → Prop) : coreK (cxT Try.prog TT TM_mbxbe 1000 50) 1000 68 [.ptr 1 0, vIM1 3, .agg [vIM1 2, vIM1 4, vIM1 0, vIM1 0, vIM1 0, vIM1 0, vIM1 0, vIM1 1, vIM1 1, vIM1 0, vIM1 0]] [qM1xbd, qM1xbh, qM1xj, (10, .row 85 2 2 [vIM1 48, vIM1 0, vIM1 24, vIM1 500]), qM1xcb, (16, .row 3 1 2 [vIM1 0, vIM1 500]), (19, .row 3 1 2 [vIM1 0, vIM1 0]), qM1xch, (25, .obj (OI.mpV [] 0))] (fun v h => outC cc_mbxbe.H [] cc_mbxbe.outs 0 false v h K) (fun v h => outC cc_mbxbe.H [] cc_mbxbe.outs 0 true v h K) = K 0 [] := by kernel_rfl
theorem ok_mbxbe : ∀ W : InW, @CallC W Try.prog cc_mbxbe :=
  CC.okOf (fun W => @TT W) (fun W => @TT_ok W) mixed_ok TM_mbxbe 1000 50 cc_mbxbe fun W K h => (vc_mbxbe W K).mpr h
noncomputable def ce_mbxbe : CE Try.prog := ceOf cc_mbxbe ok_mbxbe
def cc_mbxbf : CC where
  g := 68
  args := [.ptr 1 0, lIM1 4, .agg [lIM1 1, lIM1 5, lIM1 0, lIM1 0, lIM1 0, lIM1 0, lIM1 0, lIM1 0, lIM1 0, lIM1 0, lIM1 0]]
  H := [pM1xbc, pM1xbf, pM1xh, (10, .row 85 2 2 [lIM1 48, lIM1 0, lIM1 24, lIM1 500]), pM1xcd, (16, .row 3 1 2 [lIM1 0, lIM1 500]), (19, .row 3 1 2 [lIM1 0, lIM1 0]), pM1xcg, (25, .obj (OI.mpV [{ key := .int .i64 1 , val := .int .i64 ( Int.ofNat ( 1 + 1 ) ) , born := 0 }] 1))]
  outs := [⟨false, lIM1 0, [(1, .blk 95 [.sl 4 0 0 2, .sl 7 0 0 2, lIM1 4000, lIM1 30000, lIM1 8, lIM1 20, .sl 10 0 0 2, .sl 13 0 0 2, .sl 16 0 0 2, .sl 19 0 0 2, .sl 22 0 0 6, .mp 25, .lit (Value.slice none 0 0), lIM1 5, lIM1 4]), pM1xbf, pM1xh, (10, .row 85 2 2 [lIM1 48, lIM1 0, lIM1 24, lIM1 500]), (13, .row 63 5 2 [lIM1 0, lIM1 0, lIM1 57, lIM1 2, lIM1 1, lIM1 1, lIM1 1, lIM1 34, lIM1 1, lIM1 0]), (16, .row 3 1 2 [lIM1 0, lIM1 500]), (19, .row 3 1 2 [lIM1 0, lIM1 0]), pM1xcg, (25, .obj (OI.mpV [{ key := .int .i64 1 , val := .int .i64 ( Int.ofNat ( 1 + 1 ) ) , born := 0 }] 1))], false⟩]
  spec := fun _ K => K 0 []
noncomputable def TM_mbxbf : Tab Try.prog := ⟨[], [], [ce_mbxbe, ce_mbxbd, ce_mbxbc, ce_mbxbb, ce_mbxba, ce_mbxj, ce_mbxi, ce_mbxh, ce_mbxg, ce_mbxf, ce_mbxe, ce_mbxd, ce_mbxc, ce_mbxb]⟩
theorem vc_mbxbf (W : InW) (K : Nat → List Ed → Prop) : coreK (cxT Try.prog TT TM_mbxbf 1000 50) 1000 68 [.ptr 1 0, vIM1 4, .agg [vIM1 1, vIM1 5, vIM1 0, vIM1 0, vIM1 0, vIM1 0, vIM1 0, vIM1 0, vIM1 0, vIM1 0, vIM1 0]] [(1, .blk 95 [.sl 4 0 0 2, .sl 7 0 0 2, vIM1 4000, vIM1 30000, vIM1 8, vIM1 20, .sl 10 0 0 2, .sl 13 0 0 2, .sl 16 0 0 2, .sl 19 0 0 2, .sl 22 0 0 6, .mp 25, .v (Value.slice none 0 0), vIM1 4, vIM1 3]), qM1xbh, qM1xj, (10, .row 85 2 2 [vIM1 48, vIM1 0, vIM1 24, vIM1 500]), (13, .row 63 5 2 [vIM1 0, vIM1 0, vIM1 57, vIM1 2, vIM1 0, vIM1 1, vIM1 1, vIM1 34, vIM1 1, vIM1 0]), (16, .row 3 1 2 [vIM1 0, vIM1 500]), (19, .row 3 1 2 [vIM1 0, vIM1 0]), qM1xch, (25, .obj (OI.mpV [{ key := .int .i64 1 , val := .int .i64 ( Int.ofNat ( 1 + 1 ) ) , born := 0 }] 1))] (fun v h => outC cc_mbxbf.H [] cc_mbxbf.outs 0 false v h K) (fun v h => outC cc_mbxbf.H [] cc_mbxbf.outs 0 true v h K) = K 0 [] := by kernel_rfl
theorem ok_mbxbf : ∀ W : InW, @CallC W Try.prog cc_mbxbf :=
  CC.okOf (fun W => @TT W) (fun W => @TT_ok W) mixed_ok TM_mbxbf 1000 50 cc_mbxbf fun W K h => (vc_mbxbf W K).mpr h
noncomputable def ce_mbxbf : CE Try.prog := ceOf cc_mbxbf ok_mbxbf
def cc_mbxbg : CC where
  g := 50
  args := [.agg [.sl 1 0 0 2, .sl 4 0 0 2, lIM1 4000, lIM1 30000, lIM1 8, lIM1 20, .sl 7 0 0 2], .sl 10 0 0 5]
  H := [pM1xbe, pM1xg, (7, .row 85 2 2 [lIM1 48, lIM1 0, lIM1 24, lIM1 500]), pM1xc]
  outs := [⟨false, .tup [.ptr 6 0, .sl 9 0 0 5, lIM1 0], [pM1xbe, pM1xg, (7, .row 85 2 2 [lIM1 48, lIM1 0, lIM1 24, lIM1 500]), pM1xc, (6, .blk 95 [.sl 1 0 0 2, .sl 4 0 0 2, lIM1 4000, lIM1 30000, lIM1 8, lIM1 20, .sl 7 0 0 2, .sl 12 0 0 2, .sl 15 0 0 2, .sl 18 0 0 2, .sl 21 0 0 6, .mp 24, .lit (Value.slice none 0 0), lIM1 5, lIM1 4]), (9, .row 30 1 5 [lIM1 0, lIM1 5, lIM1 0, lIM1 0, lIM1 0]), (12, .row 63 5 2 [lIM1 0, lIM1 0, lIM1 57, lIM1 2, lIM1 1, lIM1 1, lIM1 1, lIM1 34, lIM1 1, lIM1 0]), (15, .row 3 1 2 [lIM1 0, lIM1 500]), (18, .row 3 1 2 [lIM1 0, lIM1 0]), (21, .row 3 1 6 [lIM1 0, lIM1 0, lIM1 0, lIM1 0, lIM1 0, lIM1 0]), (24, .obj (OI.mpV [{ key := .int .i64 1 , val := .int .i64 ( Int.ofNat ( 1 + 1 ) ) , born := 0 }] 1))], false⟩]
  spec := fun _ K => K 0 []
noncomputable def TM_mbxbg : Tab Try.prog := ⟨[], [], [ce_mbxbf, ce_mbxbe, ce_mbxbd, ce_mbxbc, ce_mbxbb, ce_mbxba, ce_mbxj, ce_mbxi, ce_mbxh, ce_mbxg, ce_mbxf, ce_mbxe, ce_mbxd, ce_mbxc, ce_mbxb]⟩
theorem vc_mbxbg (W : InW) (K : Nat → List Ed → Prop) : coreK (cxT Try.prog TT TM_mbxbg 1000 50) 1000 50 [.agg [.sl 1 0 0 2, .sl 4 0 0 2, vIM1 4000, vIM1 30000, vIM1 8, vIM1 20, .sl 7 0 0 2], .sl 10 0 0 5] [qM1xbg, qM1xi, (7, .row 85 2 2 [vIM1 48, vIM1 0, vIM1 24, vIM1 500]), qM1xd] (fun v h => outC cc_mbxbg.H [] cc_mbxbg.outs 0 false v h K) (fun v h => outC cc_mbxbg.H [] cc_mbxbg.outs 0 true v h K) = K 0 [] := by kernel_rfl
theorem ok_mbxbg : ∀ W : InW, @CallC W Try.prog cc_mbxbg :=
  CC.okOf (fun W => @TT W) (fun W => @TT_ok W) mixed_ok TM_mbxbg 1000 50 cc_mbxbg fun W K h => (vc_mbxbg W K).mpr h
noncomputable def ce_mbxbg : CE Try.prog := ceOf cc_mbxbg ok_mbxbg
def cc_mbxbh : CC where
  g := 21
  args := [.agg [.sl 1 0 0 2, .sl 4 0 0 2, lIM1 4000, lIM1 30000, lIM1 8, lIM1 20, .sl 7 0 0 2], .sl 10 0 0 5]
  H := [pM1xbe, pM1xg, (7, .row 85 2 2 [lIM1 48, lIM1 0, lIM1 24, lIM1 500]), pM1xc]
  outs := [⟨false, .tup [.sl 6 0 0 5, .agg [.sl 9 0 0 2, .sl 12 0 0 2, .sl 15 0 0 2, .sl 18 0 0 6], lIM1 0], [pM1xbe, pM1xg, (7, .row 85 2 2 [lIM1 48, lIM1 0, lIM1 24, lIM1 500]), pM1xc, (6, .row 30 1 5 [lIM1 0, lIM1 5, lIM1 0, lIM1 0, lIM1 0]), (9, .row 63 5 2 [lIM1 0, lIM1 0, lIM1 57, lIM1 2, lIM1 1, lIM1 1, lIM1 1, lIM1 34, lIM1 1, lIM1 0]), (12, .row 3 1 2 [lIM1 0, lIM1 500]), (15, .row 3 1 2 [lIM1 0, lIM1 0]), (18, .row 3 1 6 [lIM1 0, lIM1 0, lIM1 0, lIM1 0, lIM1 0, lIM1 0])], false⟩]
  spec := fun _ K => K 0 []
noncomputable def TM_mbxbh : Tab Try.prog := ⟨[], [], [ce_mbxbg, ce_mbxbf, ce_mbxbe, ce_mbxbd, ce_mbxbc, ce_mbxbb, ce_mbxba, ce_mbxj, ce_mbxi, ce_mbxh, ce_mbxg, ce_mbxf, ce_mbxe, ce_mbxd, ce_mbxc, ce_mbxb]⟩
theorem vc_mbxbh (W : InW) (K : Nat → List Ed → Prop) : coreK (cxT Try.prog TT TM_mbxbh 1000 50) 1000 21 [.agg [.sl 1 0 0 2, .sl 4 0 0 2, vIM1 4000, vIM1 30000, vIM1 8, vIM1 20, .sl 7 0 0 2], .sl 10 0 0 5] [qM1xbg, qM1xi, (7, .row 85 2 2 [vIM1 48, vIM1 0, vIM1 24, vIM1 500]), qM1xd] (fun v h => outC cc_mbxbh.H [] cc_mbxbh.outs 0 false v h K) (fun v h => outC cc_mbxbh.H [] cc_mbxbh.outs 0 true v h K) = K 0 [] := by kernel_rfl
theorem ok_mbxbh : ∀ W : InW, @CallC W Try.prog cc_mbxbh :=
  CC.okOf (fun W => @TT W) (fun W => @TT_ok W) mixed_ok TM_mbxbh 1000 50 cc_mbxbh fun W K h => (vc_mbxbh W K).mpr h
noncomputable def ce_mbxbh : CE Try.prog := ceOf cc_mbxbh ok_mbxbh
def cc_mbxbi : CC where
  g := 16
  args := [.agg [.lit (Value.slice none 0 0), .lit (Value.slice none 0 0), lIM1 0, lIM1 0, lIM1 0, lIM1 0, .lit (Value.slice none 0 0)]]
  H := []
  outs := [⟨false, .tup [lIM1 1, lIM1 0, lIM1 3], [], false⟩]
  spec := fun _ K => K 0 []
noncomputable def TM_mbxbi : Tab Try.prog := ⟨[], [], [ce_mbxbh, ce_mbxbg, ce_mbxbf, ce_mbxbe, ce_mbxbd, ce_mbxbc, ce_mbxbb, ce_mbxba, ce_mbxj, ce_mbxi, ce_mbxh, ce_mbxg, ce_mbxf, ce_mbxe, ce_mbxd, ce_mbxc, ce_mbxb]⟩
theorem vc_mbxbi (W : InW) (K : Nat → List Ed → Prop) : coreK (cxT Try.prog TT TM_mbxbi 1000 50) 1000 16 [.agg [.v (Value.slice none 0 0), .v (Value.slice none 0 0), vIM1 0, vIM1 0, vIM1 0, vIM1 0, .v (Value.slice none 0 0)]] [] (fun v h => outC cc_mbxbi.H [] cc_mbxbi.outs 0 false v h K) (fun v h => outC cc_mbxbi.H [] cc_mbxbi.outs 0 true v h K) = K 0 [] := by kernel_rfl
theorem ok_mbxbi : ∀ W : InW, @CallC W Try.prog cc_mbxbi :=
  CC.okOf (fun W => @TT W) (fun W => @TT_ok W) mixed_ok TM_mbxbi 1000 50 cc_mbxbi fun W K h => (vc_mbxbi W K).mpr h
noncomputable def ce_mbxbi : CE Try.prog := ceOf cc_mbxbi ok_mbxbi
def cc_mbxbj : CC where
  g := 18
  args := [.agg [.lit (Value.slice none 0 0), .lit (Value.slice none 0 0), lIM1 0, lIM1 0, lIM1 0, lIM1 0, .lit (Value.slice none 0 0)], lIM1 1, lIM1 1]
  H := []
  outs := [⟨false, .tup [lIM1 0, lIM1 3], [], false⟩]
  spec := fun _ K => K 0 []
noncomputable def TM_mbxbj : Tab Try.prog := ⟨[], [], [ce_mbxbi, ce_mbxbh, ce_mbxbg, ce_mbxbf, ce_mbxbe, ce_mbxbd, ce_mbxbc, ce_mbxbb, ce_mbxba, ce_mbxj, ce_mbxi, ce_mbxh, ce_mbxg, ce_mbxf, ce_mbxe, ce_mbxd, ce_mbxc, ce_mbxb]⟩
theorem vc_mbxbj (W : InW) (K : Nat → List Ed → Prop) : coreK (cxT Try.prog TT TM_mbxbj 1000 50) 1000 18 [.agg [.v (Value.slice none 0 0), .v (Value.slice none 0 0), vIM1 0, vIM1 0, vIM1 0, vIM1 0, .v (Value.slice none 0 0)], vIM1 1, vIM1 1] [] (fun v h => outC cc_mbxbj.H [] cc_mbxbj.outs 0 false v h K) (fun v h => outC cc_mbxbj.H [] cc_mbxbj.outs 0 true v h K) = K 0 [] := by kernel_rfl
theorem ok_mbxbj : ∀ W : InW, @CallC W Try.prog cc_mbxbj :=
  CC.okOf (fun W => @TT W) (fun W => @TT_ok W) mixed_ok TM_mbxbj 1000 50 cc_mbxbj fun W K h => (vc_mbxbj W K).mpr h
noncomputable def ce_mbxbj : CE Try.prog := ceOf cc_mbxbj ok_mbxbj
def cc_mbxca : CC where
  g := 20
  args := []
  H := []
  outs := [⟨false, .lit (Value.bool true), [], false⟩]
  spec := fun _ K => K 0 []
noncomputable def TM_mbxca : Tab Try.prog := ⟨[], [], [ce_mbxbj, ce_mbxbi, ce_mbxbh, ce_mbxbg, ce_mbxbf, ce_mbxbe, ce_mbxbd, ce_mbxbc, ce_mbxbb, ce_mbxba, ce_mbxj, ce_mbxi, ce_mbxh, ce_mbxg, ce_mbxf, ce_mbxe, ce_mbxd, ce_mbxc, ce_mbxb]⟩
theorem vc_mbxca (W : InW) (K : Nat → List Ed → Prop) : coreK (cxT Try.prog TT TM_mbxca 1000 50) 1000 20 [] [] (fun v h => outC cc_mbxca.H [] cc_mbxca.outs 0 false v h K) (fun v h => outC cc_mbxca.H [] cc_mbxca.outs 0 true v h K) = K 0 [] := by kernel_rfl
theorem ok_mbxca : ∀ W : InW, @CallC W Try.prog cc_mbxca :=
  CC.okOf (fun W => @TT W) (fun W => @TT_ok W) mixed_ok TM_mbxca 1000 50 cc_mbxca fun W K h => (vc_mbxca W K).mpr h
abbrev cc_M1 : CC := cc_mbxca
theorem ok_M1 : ∀ W : InW, @CallC W Try.prog cc_M1 := ok_mbxca
end Go.Proofs.Ytiiicnhjjfmpkaa
namespace Go.Proofs.Ytiiicnhjjfmpkaa
noncomputable def pc_Awake : PC Try.prog := ⟨20, [], [(false, [.bool])], fun _ => True, fun _ => [[.b true]], pure_of_closed ok_M1 rfl rfl rfl fun _ _ _ => rfl⟩
end Go.Proofs.Ytiiicnhjjfmpkaa
namespace Go.Proofs.Ytiiicnhjjfmpkaa
open Go.RowKit
set_option linter.unusedVariables false
set_option maxRecDepth 100000
theorem WfC.str_le {c : Cl} (h : WfC .str c) : c.str.size ≤ maxLen := by cases h; assumption
theorem WfC.cell {ts : List Ty} {xs : Dt} (h : WfC (.sl ts) (.l xs)) {i k : Nat} {t : Ty} (hi : i < xs.length) (ht : ts[k]? = some t) : WfC t (cel xs i k) := by
  cases h with
  | sl _ _ _ _ h => exact h i k t hi ht
theorem names_ok {ts : List Ty} {xs : Dt} (h : WfC (.sl (.str :: ts)) (.l xs)) : Sp.NamesOk xs := fun i => by
  by_cases hi : i < xs.length
  · have := (h.cell hi (k := 0) rfl).str_le
    simp only [maxLen] at this
    show (cel xs i 0).str.size ≤ _
    omega
  · have : cel xs i 0 = .z := by simp [cel, List.getD_eq_getElem?_getD, List.getElem?_eq_none (Nat.le_of_not_lt hi)]
    show (cel xs i 0).str.size ≤ _
    rw [this]; decide
theorem school_names {rl rc : Dt} {pr ex lo hi : Int} {rt : Dt} (h : WfL [.sl [.str], .sl Ivs, .int .i64, .int .i64, .int .i64, .int .i64, .sl [.int .i64, .int .i64]] [.l rl, .l rc, .i pr, .i ex, .i lo, .i hi, .l rt]) : Sp.NamesOk rl ∧ Sp.NamesOk rc := by
  cases h with
  | cons h1 h =>
    cases h with
    | cons h2 h => exact ⟨names_ok h1, names_ok h2⟩
end Go.Proofs.Ytiiicnhjjfmpkaa
namespace Go.Proofs.Ytiiicnhjjfmpkaa
open Go.RowKit
set_option linter.unusedVariables false
set_option maxRecDepth 100000
noncomputable def TK12 : Tab Try.prog := ⟨[pc_Check], [], []⟩
def VC_valid [W : InW] (s_Learners : Ro [.str]) (s_Cars : Ro Ivs) (s_Price : Int) (s_Excess : Int) (s_Lo : Int) (s_Hi : Int) (s_Terms : Ro [.int .i64, .int .i64]) (Q : DS → Prop) : Prop :=
  Pre (Sp.NamesOk s_Learners.xs ∧ Sp.NamesOk s_Cars.xs) (Q [[Cl.b (decide (Sp.chkE s_Learners.xs s_Cars.xs s_Price s_Excess s_Lo s_Hi s_Terms.xs = (0 : Int)))]])
theorem vc_valid (W : InW) (s_Learners : Ro [.str]) (s_Cars : Ro Ivs) (s_Price : Int) (s_Excess : Int) (s_Lo : Int) (s_Hi : Int) (s_Terms : Ro [.int .i64, .int .i64]) (Q : DS → Prop) : bodyK (cxT Try.prog TT TK12 1000 50) 1000 33 [.agg [.rs _ s_Learners, .rs _ s_Cars, .si .i64 s_Price, .si .i64 s_Excess, .si .i64 s_Lo, .si .i64 s_Hi, .rs _ s_Terms]] [] 0 (leafK [(false, [.bool])] Q) (fun _ _ _ _ => Stuck 421) = VC_valid s_Learners s_Cars s_Price s_Excess s_Lo s_Hi s_Terms Q := by kernel_rfl
abbrev ats_valid : List AT := [.agg [.sl [.str], .sl Ivs, .int .i64, .int .i64, .int .i64, .int .i64, .sl [.int .i64, .int .i64]]]
theorem ok_valid {pre : DS → Prop} {res : DS → DS} (hyp_ : ∀ (W : InW) (s_Learners : Ro [.str]) (s_Cars : Ro Ivs) (s_Price : Int) (s_Excess : Int) (s_Lo : Int) (s_Hi : Int) (s_Terms : Ro [.int .i64, .int .i64]), pre [[.l s_Learners.xs, .l s_Cars.xs, .i s_Price, .i s_Excess, .i s_Lo, .i s_Hi, .l s_Terms.xs]] → ∀ Q : DS → Prop, Q (res [[.l s_Learners.xs, .l s_Cars.xs, .i s_Price, .i s_Excess, .i s_Lo, .i s_Hi, .l s_Terms.xs]]) → VC_valid s_Learners s_Cars s_Price s_Excess s_Lo s_Hi s_Terms Q) : PureOk Try.prog 33 ats_valid [(false, [.bool])] pre res :=
  PureOk.of' (fun W => @TT W) (fun W => @TT_ok W) mixed_ok TK12 1000 50 fun W s_Learners s_Cars s_Price s_Excess s_Lo s_Hi s_Terms hp =>
    (vc_valid W s_Learners s_Cars s_Price s_Excess s_Lo s_Hi s_Terms (fun o => o = res [[.l s_Learners.xs, .l s_Cars.xs, .i s_Price, .i s_Excess, .i s_Lo, .i s_Hi, .l s_Terms.xs]])).mpr (hyp_ W s_Learners s_Cars s_Price s_Excess s_Lo s_Hi s_Terms hp _ rfl)
abbrev res_valid (ds : DS) : DS := match ds with | [[.l rl, .l rc, .i pr, .i ex, .i lo, .i hi, .l rt]] => [[.b (decide (Sp.chkE rl rc pr ex lo hi rt = 0))]] | _ => []
theorem okvalid : PureOk Try.prog 33 ats_valid [(false, [.bool])] pre_Check res_valid :=
  ok_valid fun W rl rc pr ex lo hi rt hp Q h => by
    unfold VC_valid
    exact ⟨hp, h⟩
noncomputable def pc_valid : PC Try.prog := ⟨33, ats_valid, [(false, [.bool])], pre_Check, res_valid, okvalid⟩
theorem u16_le {n : Int} (h : WfC (.int .u16) (.i n)) : 0 ≤ n ∧ n ≤ 65535 := by cases h with | int _ _ h => exact bounds_u16 h
end Go.Proofs.Ytiiicnhjjfmpkaa
