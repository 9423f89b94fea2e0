/-
  A machine over abstract states, proved sound: the help of the proof of a law.
-/
import Derived.Test.YtdokbocmgdhmmaaQe
set_option linter.unusedVariables false
set_option linter.unusedSectionVars false
set_option linter.unusedSimpArgs false
namespace Go.Proofs.Ytdokbocmgdhmmaa
noncomputable def pc_Awake : PC Try.prog := ⟨24, [], [(false, [.bool])], fun _ => True, fun _ => [[.b true]], pure_of_closed ok_M1 rfl rfl rfl fun _ _ _ => rfl⟩
end Go.Proofs.Ytdokbocmgdhmmaa
namespace Go.Proofs.Ytdokbocmgdhmmaa
open Go.RowKit
set_option linter.unusedVariables false
set_option maxRecDepth 100000
theorem WfC.str_le {c : Cl} (h : WfC .str c) : c.str.size ≤ maxLen := by cases h; assumption
theorem WfC.cell {ts : List Ty} {xs : Dt} (h : WfC (.sl ts) (.l xs)) {i k : Nat} {t : Ty} (hi : i < xs.length) (ht : ts[k]? = some t) : WfC t (cel xs i k) := by
  cases h with
  | sl _ _ _ _ h => exact h i k t hi ht
theorem names_ok {ts : List Ty} {xs : Dt} (h : WfC (.sl (.str :: ts)) (.l xs)) : Sp.NamesOk xs := fun i => by
  by_cases hi : i < xs.length
  · have := (h.cell hi (k := 0) rfl).str_le
    simp only [maxLen] at this
    show (cel xs i 0).str.size ≤ _
    omega
  · have : cel xs i 0 = .z := by simp [cel, List.getD_eq_getElem?_getD, List.getElem?_eq_none (Nat.le_of_not_lt hi)]
    show (cel xs i 0).str.size ≤ _
    rw [this]; decide
theorem school_names {sk is : Dt} (h : WfL [.sl [.str, .int .i64, .int .i64, .int .i64, .int .i64], .sl [.str, .int .i64, .int .i64]] [.l sk, .l is]) : Sp.NamesOk sk ∧ Sp.NamesOk is := by
  cases h with
  | cons h1 h =>
    cases h with
    | cons h2 h => exact ⟨names_ok h1, names_ok h2⟩
end Go.Proofs.Ytdokbocmgdhmmaa
namespace Go.Proofs.Ytdokbocmgdhmmaa
open Go.RowKit
set_option linter.unusedVariables false
theorem cel_set (xs : Dt) (i j k : Nat) (r : List Cl) : cel (xs.set i r) j k = if i = j ∧ i < xs.length then r.getD k .z else cel xs j k := by
  unfold cel
  simp only [List.getD_eq_getElem?_getD, List.getElem?_set]
  by_cases h : i = j
  · subst h
    by_cases h2 : i < xs.length
    · simp [h2]
    · simp [h2, List.getElem?_eq_none (Nat.le_of_not_lt h2)]
  · simp [h]
theorem tm_in {n m : Int} (h : 0 ≤ n) (hm : 0 < m) : 0 ≤ n.tmod m ∧ n.tmod m < m := ⟨Int.tmod_nonneg _ h, Int.tmod_lt_of_pos _ hm⟩
theorem WfL.head {t : Ty} {ts : List Ty} {c : Cl} {cs : List Cl} (h : WfL (t :: ts) (c :: cs)) : WfC t c ∧ WfL ts cs := by
  cases h with
  | cons h hs => exact ⟨h, hs⟩
theorem WfD.head {a : AT} {ats : List AT} {d : List Cl} {ds : DS} (h : WfD (a :: ats) (d :: ds)) : WfA a d ∧ WfD ats ds := by
  obtain ⟨d', ds', e, h1, h2⟩ := h
  cases e
  exact ⟨h1, h2⟩
theorem vifq [InW] {p q : Prop} {_ : Decidable p} {_ : Decidable q} {A B : Prop} (h : ¬ (p ↔ q) → A) (h2 : (p ↔ q) → B) : Vif (!(decide p == decide q)) A B :=
  ⟨fun e => h (by simpa using notT e), fun e => h2 (by simpa using notF e)⟩
theorem vifq0 [InW] {p : Prop} {_ : Decidable p} {A B : Prop} (h : p → A) (h2 : ¬ p → B) : Vif (!(decide p == false)) A B :=
  ⟨fun e => h (by simpa using e), fun e => h2 (by simpa using e)⟩
theorem vifq1 [InW] {p : Prop} {_ : Decidable p} {A B : Prop} (h : p → A) (h2 : ¬ p → B) : Vif (!(false == decide p)) A B :=
  ⟨fun e => h (by simpa using e), fun e => h2 (by simpa using e)⟩
end Go.Proofs.Ytdokbocmgdhmmaa
namespace Go.Proofs.Ytdokbocmgdhmmaa
open Go.RowKit
set_option linter.unusedVariables false
set_option maxRecDepth 100000
set_option maxHeartbeats 1600000
abbrev tyTask : List Ty := [.int .i64, .int .i64]
namespace Sp
def tSk (ts : Dt) (i : Nat) : Int := (cel ts i 0).int
def tLv (ts : Dt) (i : Nat) : Int := (cel ts i 1).int
def taskE (n : Int) (ts : Dt) (i : Nat) : Int := if inr (tSk ts i) 0 (n - 1) then (if inr (tLv ts i) 0 1000 then 0 else 7) else 4
def errE (f : Nat → Int) (i n : Nat) : Int := if hasE f i n then f (idxE f i n) else 0
def testE (n : Int) (ts : Dt) (al : Int) : Int := if inr ts.length 1 6 then (if inr al 0 (ts.length - 1) then errE (taskE n ts) 0 ts.length else 7) else 3
def strE (sk is ts : Dt) (al : Int) : Int := if chkE sk is = 0 then testE sk.length ts al else chkE sk is
def rgE (rg : Dt) (i : Nat) : Int := spanE (cel rg i 0).int (cel rg i 1).int 0 1000
def rgsE (n : Int) (rg : Dt) : Int := if (rg.length : Int) = n then errE (rgE rg) 0 rg.length else 3
end Sp
theorem errE_step {f : Nat → Int} {i n : Nat} : (f i ≠ 0 → Sp.errE f i (n + 1) = f i) ∧ (f i = 0 → Sp.errE f i (n + 1) = Sp.errE f (i + 1) n) := by
  unfold Sp.errE
  rw [show Sp.hasE f i (n + 1) = (!decide (f i = 0) || Sp.hasE f (i + 1) n) from rfl, show Sp.idxE f i (n + 1) = (if f i = 0 then Sp.idxE f (i + 1) n else i) from rfl]
  refine ⟨fun e => ?_, fun e => ?_⟩
  · rw [if_pos (by simp only [e, decide_false, Bool.not_false, Bool.true_or]), if_neg e]
  · rw [if_pos e, show (!decide (f i = 0) || Sp.hasE f (i + 1) n) = Sp.hasE f (i + 1) n by simp only [e, decide_true, Bool.not_true, Bool.false_or]]
noncomputable def Tf : Tab Try.prog := ⟨[pc_in, pc_out, pc_odd, pc_rspan, pc_bCheck, pc_Check], [], []⟩
def sp_str [InW] (e : List Ed) (K : Nat → List Ed → Prop) : Prop := match e with
  | [.ro _ ts, .i n, .i i, .ro _ sk, .ro _ is] => Pre (n = (ts.xs.length : Int) ∧ 0 ≤ i ∧ i ≤ n) (Vif (decide (Sp.errE (Sp.taskE sk.xs.length ts.xs) i.toNat (ts.xs.length - i.toNat) = 0)) (K 0 []) (K 1 [.i (Sp.errE (Sp.taskE sk.xs.length ts.xs) i.toNat (ts.xs.length - i.toNat))]))
  | _ => False
noncomputable def lc_str : LC where
  len := 56
  T := [(2, (.ptr 1 0)), (35, .rs tyTask), (36, .int .i64), (37, .int .i64)]
  H := [(1, .blk 25 [.rs [.str, .int .i64, .int .i64, .int .i64, .int .i64], .rs [.str, .int .i64, .int .i64]])]
  W := [4, 10, 38, 39, 40, 41, 42, 43, 44, 45, 46, 47, 48, 49, 50, 51, 52, 53, 54, 55]
  outs := [⟨.exit 1, [], [], [2, 4, 10, 35, 36, 37, 38, 39, 40, 41, 42, 43, 44, 45, 46, 47, 48, 49, 50, 51, 52, 53, 54, 55]⟩, ⟨.ret, [(4, .int .i64)], [], [2, 10, 35, 36, 37, 38, 39, 40, 41, 42, 43, 44, 45, 46, 47, 48, 49, 50, 51, 52, 53, 54, 55]⟩]
  spec := sp_str
def VCL_str [W : InW] (ts : Ro tyTask) (n i : Int) (sk : Ro [.str, .int .i64, .int .i64, .int .i64, .int .i64]) (is : Ro [.str, .int .i64, .int .i64]) (A : List Ed → Prop) (K : Nat → List Ed → Prop) : Prop :=
  Vif (decide (i < n)) (Need (decide ((0 : Int) ≤ i) && decide (i < (↑(ts.xs.length) : Int))) (Need (decide (i.toNat < ts.xs.length)) (Ar .i64 ((↑(sk.xs.length) : Int) - (1 : Int)) fun z => Pre True (Vif (Sp.out (0 : Int) z [[Cl.i (cel ts.xs i.toNat (0 : Nat)).int]]) (K (0+1 : Nat) [.i (4 : Int)]) (Pre True (Vif (Sp.out (0 : Int) (1000 : Int) [[Cl.i (cel ts.xs i.toNat (0+1 : Nat)).int]]) (K (0+1 : Nat) [.i (7 : Int)]) (Ar .i64 (i + (1 : Int)) fun z => A [.ro _ ts, .i n, .i z, .ro _ sk, .ro _ is]))))))) (K (0 : Nat) [])
theorem vcl_str (W : InW) (ts n i sk is A K) : vcTop { cxT Try.prog TT Tf 1000 50 with fn := 74 } 1000 (loopAt Try.prog 74 11) (tmOut 56 [(2, .ptr 1 0), (35, .rs _ ts), (36, .si .i64 n), (37, .si .i64 i)] [4, 10, 38, 39, 40, 41, 42, 43, 44, 45, 46, 47, 48, 49, 50, 51, 52, 53, 54, 55]) [(1, .blk 25 [.rs _ sk, .rs _ is])] (roundL lc_str A K) = VCL_str ts n i sk is A K := by kernel_rfl
def okLt_str : Prop := ∀ (W : InW) (body a : Code), (Try.prog.funcs[74]?).bind (·.body) = some body → a ∈ loopsIn body → keyOf a = 11 → @LoopOk W Try.prog a (@loopRun W lc_str)
theorem okl_str (meas : [InW] → List Ed → Nat) (hyp_ : ∀ (W : InW) (ts : Ro tyTask) (n : Int) (i : Int) (sk : Ro [.str, .int .i64, .int .i64, .int .i64, .int .i64]) (is : Ro [.str, .int .i64, .int .i64]) (K : Nat → List Ed → Prop), sp_str [.ro _ ts, .i n, .i i, .ro _ sk, .ro _ is] K → ∀ A : List Ed → Prop, (∀ e, meas e < meas [.ro _ ts, .i n, .i i, .ro _ sk, .ro _ is] → sp_str e K → A e) → VCL_str ts n i sk is A K) : okLt_str :=
  LE.okOf' (fun W => @TT W) (fun W => @TT_ok W) mixed_ok Tf 1000 50 (by kernel_rfl) lc_str (fun W => @meas W) fun W ts n i sk is K hs =>
    (vcl_str W ts n i sk is (fun e => meas e < meas [.ro _ ts, .i n, .i i, .ro _ sk, .ro _ is] ∧ sp_str e K) K).mpr (hyp_ W ts n i sk is K hs _ fun e h1 h2 => ⟨h1, h2⟩)
def sp_tst [InW] (e : List Ed) (K : Nat → List Ed → Prop) : Prop := match e with
  | [.i n, .i i, .ro _ sk, .ro _ is, .ro _ ts, .i al] => Pre (n = (ts.xs.length : Int) ∧ 0 ≤ i ∧ i ≤ n) (Vif (decide (Sp.errE (Sp.taskE sk.xs.length ts.xs) i.toNat (ts.xs.length - i.toNat) = 0)) (K 0 []) (K 1 [.i (Sp.errE (Sp.taskE sk.xs.length ts.xs) i.toNat (ts.xs.length - i.toNat))]))
  | _ => False
noncomputable def lc_tst : LC where
  len := 44
  T := [(2, (.ptr 1 0)), (3, (.ptr 4 0)), (5, .int .i64), (6, .int .i64)]
  H := [(1, .blk 25 [.rs [.str, .int .i64, .int .i64, .int .i64, .int .i64], .rs [.str, .int .i64, .int .i64]]), (4, .blk 48 [.rs tyTask, .int .i64])]
  W := [4, 19, 20, 21, 22, 23, 24, 25, 26, 27, 28, 29, 30, 31, 32, 33, 34, 35, 36, 37, 38, 39, 40, 41, 42, 43]
  outs := [⟨.exit 0, [], [], [2, 3, 4, 5, 6, 19, 20, 21, 22, 23, 24, 25, 26, 27, 28, 29, 30, 31, 32, 33, 34, 35, 36, 37, 38, 39, 40, 41, 42, 43]⟩, ⟨.ret, [(4, .int .i64)], [], [2, 3, 5, 6, 19, 20, 21, 22, 23, 24, 25, 26, 27, 28, 29, 30, 31, 32, 33, 34, 35, 36, 37, 38, 39, 40, 41, 42, 43]⟩]
  spec := sp_tst
def VCL_tst [W : InW] (n i : Int) (sk : Ro [.str, .int .i64, .int .i64, .int .i64, .int .i64]) (is : Ro [.str, .int .i64, .int .i64]) (ts : Ro tyTask) (al : Int) (A : List Ed → Prop) (K : Nat → List Ed → Prop) : Prop :=
  Vif (decide (i < n)) (Need (decide ((0 : Int) ≤ i) && decide (i < (↑(ts.xs.length) : Int))) (Need (decide (i.toNat < ts.xs.length)) (Ar .i64 ((↑(sk.xs.length) : Int) - (1 : Int)) fun z => Pre True (Vif (!Sp.inr (cel ts.xs i.toNat (0 : Nat)).int (0 : Int) z) (K (0+1 : Nat) [.i (4 : Int)]) (Need (decide ((0 : Int) ≤ i) && decide (i < (↑(ts.xs.length) : Int))) (Need (decide (i.toNat < ts.xs.length)) (Pre True (Vif (!Sp.inr (cel ts.xs i.toNat (0+1 : Nat)).int (0 : Int) (1000 : Int)) (K (0+1 : Nat) [.i (7 : Int)]) (Ar .i64 (i + (1 : Int)) fun z => A [.i n, .i z, .ro _ sk, .ro _ is, .ro _ ts, .i al]))))))))) (K (0 : Nat) [])
theorem vcl_tst (W : InW) (n i sk is ts al A K) : vcTop { cxT Try.prog TT Tf 1000 50 with fn := 77 } 1000 (loopAt Try.prog 77 8) (tmOut 44 [(2, .ptr 1 0), (3, .ptr 4 0), (5, .si .i64 n), (6, .si .i64 i)] [4, 19, 20, 21, 22, 23, 24, 25, 26, 27, 28, 29, 30, 31, 32, 33, 34, 35, 36, 37, 38, 39, 40, 41, 42, 43]) [(1, .blk 25 [.rs _ sk, .rs _ is]), (4, .blk 48 [.rs _ ts, .si .i64 al])] (roundL lc_tst A K) = VCL_tst n i sk is ts al A K := by kernel_rfl
def okLt_tst : Prop := ∀ (W : InW) (body a : Code), (Try.prog.funcs[77]?).bind (·.body) = some body → a ∈ loopsIn body → keyOf a = 8 → @LoopOk W Try.prog a (@loopRun W lc_tst)
theorem okl_tst (meas : [InW] → List Ed → Nat) (hyp_ : ∀ (W : InW) (n : Int) (i : Int) (sk : Ro [.str, .int .i64, .int .i64, .int .i64, .int .i64]) (is : Ro [.str, .int .i64, .int .i64]) (ts : Ro tyTask) (al : Int) (K : Nat → List Ed → Prop), sp_tst [.i n, .i i, .ro _ sk, .ro _ is, .ro _ ts, .i al] K → ∀ A : List Ed → Prop, (∀ e, meas e < meas [.i n, .i i, .ro _ sk, .ro _ is, .ro _ ts, .i al] → sp_tst e K → A e) → VCL_tst n i sk is ts al A K) : okLt_tst :=
  LE.okOf' (fun W => @TT W) (fun W => @TT_ok W) mixed_ok Tf 1000 50 (by kernel_rfl) lc_tst (fun W => @meas W) fun W n i sk is ts al K hs =>
    (vcl_tst W n i sk is ts al (fun e => meas e < meas [.i n, .i i, .ro _ sk, .ro _ is, .ro _ ts, .i al] ∧ sp_tst e K) K).mpr (hyp_ W n i sk is ts al K hs _ fun e h1 h2 => ⟨h1, h2⟩)
theorem okLstr : okLt_str := okl_str (fun e => match e with | _ :: .i n :: .i i :: _ => (n - i).toNat | _ => 0) fun W ts n i sk is K hs A hA => by
  obtain ⟨⟨rfl, h0, h1⟩, hk⟩ := hs
  unfold VCL_str
  have hm := ts.len
  have hm2 := sk.len
  simp only [maxLen] at hm hm2
  simp only [Nat.zero_add, Nat.reduceAdd, out1]
  refine vifd (fun e => ?_) fun e => ?_
  · rw [show ts.xs.length - i.toNat = (ts.xs.length - (i.toNat + 1)) + 1 by omega] at hk
    have ez : (i + 1).toNat = i.toNat + 1 := by omega
    have st := errE_step (f := Sp.taskE sk.xs.length ts.xs) (i := i.toNat) (n := ts.xs.length - (i.toNat + 1))
    have bad : ∀ n, Sp.taskE sk.xs.length ts.xs i.toNat = n → n ≠ 0 → K 1 [.i n] := fun n hn h => by
      have := st.1 (by omega)
      rw [this, hn] at hk
      exact hk.2 (by simp [h])
    have hA' : Sp.taskE sk.xs.length ts.xs i.toNat = 0 → A [.ro _ ts, .i ts.xs.length, .i (i + 1), .ro _ sk, .ro _ is] := fun f => hA _ (by show ((ts.xs.length : Int) - (i + 1)).toNat < ((ts.xs.length : Int) - i).toNat; omega) ⟨⟨rfl, by omega, by omega⟩, by rw [ez, ← st.2 f]; exact hk⟩
    have eS := Lib.hid (show Sp.taskE sk.xs.length ts.xs i.toNat = if Sp.inr (cel ts.xs i.toNat 0).int 0 (sk.xs.length - 1) then (if Sp.inr (cel ts.xs i.toNat 1).int 0 1000 then 0 else 7) else 4 from rfl)
    clear hk hA st
    repeat' (first | omega | with_reducible refine vifd (fun _ => ?_) fun _ => ?_ | with_reducible refine vifn (fun _ => ?_) fun _ => ?_ | with_reducible refine vifq (fun _ => ?_) fun _ => ?_ | with_reducible refine vifq0 (fun _ => ?_) fun _ => ?_ | with_reducible refine vifq1 (fun _ => ?_) fun _ => ?_ | with_reducible refine vifb (fun _ => ?_) fun _ => ?_ | with_reducible refine vif (fun _ => ?_) fun _ => ?_ | (with_reducible refine nedd ?_ ?_; omega) | (with_reducible refine ned ?_ ?_; simp only [Bool.and_eq_true, decide_eq_true_eq]; omega) | (with_reducible refine ar64 ?_ ?_; omega) | (with_reducible refine pre_of ?_ ?_; (first | trivial | omega | assumption | (refine ⟨?_, ?_⟩ <;> first | trivial | omega | assumption) | (refine ⟨?_, ?_, ?_⟩ <;> first | trivial | omega | assumption) | (refine ⟨?_, ?_, ?_, ?_⟩ <;> first | trivial | omega | assumption))))
    all_goals first | exact bad _ (by rw [eS.out]; simp_all) (by omega) | exact hA' (by rw [eS.out]; simp_all)
  · rw [show ts.xs.length - i.toNat = 0 by omega] at hk
    exact hk.1 rfl
theorem okLtst : okLt_tst := okl_tst (fun e => match e with | .i n :: .i i :: _ => (n - i).toNat | _ => 0) fun W n i sk is ts al K hs A hA => by
  obtain ⟨⟨rfl, h0, h1⟩, hk⟩ := hs
  unfold VCL_tst
  have hm := ts.len
  have hm2 := sk.len
  simp only [maxLen] at hm hm2
  simp only [Nat.zero_add, Nat.reduceAdd]
  refine vifd (fun e => ?_) fun e => ?_
  · rw [show ts.xs.length - i.toNat = (ts.xs.length - (i.toNat + 1)) + 1 by omega] at hk
    have ez : (i + 1).toNat = i.toNat + 1 := by omega
    have st := errE_step (f := Sp.taskE sk.xs.length ts.xs) (i := i.toNat) (n := ts.xs.length - (i.toNat + 1))
    have bad : ∀ n, Sp.taskE sk.xs.length ts.xs i.toNat = n → n ≠ 0 → K 1 [.i n] := fun n hn h => by
      have := st.1 (by omega)
      rw [this, hn] at hk
      exact hk.2 (by simp [h])
    have hA' : Sp.taskE sk.xs.length ts.xs i.toNat = 0 → A [.i ts.xs.length, .i (i + 1), .ro _ sk, .ro _ is, .ro _ ts, .i al] := fun f => hA _ (by show ((ts.xs.length : Int) - (i + 1)).toNat < ((ts.xs.length : Int) - i).toNat; omega) ⟨⟨rfl, by omega, by omega⟩, by rw [ez, ← st.2 f]; exact hk⟩
    have eS := Lib.hid (show Sp.taskE sk.xs.length ts.xs i.toNat = if Sp.inr (cel ts.xs i.toNat 0).int 0 (sk.xs.length - 1) then (if Sp.inr (cel ts.xs i.toNat 1).int 0 1000 then 0 else 7) else 4 from rfl)
    clear hk hA st
    repeat' (first | omega | with_reducible refine vifd (fun _ => ?_) fun _ => ?_ | with_reducible refine vifn (fun _ => ?_) fun _ => ?_ | with_reducible refine vifq (fun _ => ?_) fun _ => ?_ | with_reducible refine vifq0 (fun _ => ?_) fun _ => ?_ | with_reducible refine vifq1 (fun _ => ?_) fun _ => ?_ | with_reducible refine vifb (fun _ => ?_) fun _ => ?_ | with_reducible refine vif (fun _ => ?_) fun _ => ?_ | (with_reducible refine nedd ?_ ?_; omega) | (with_reducible refine ned ?_ ?_; simp only [Bool.and_eq_true, decide_eq_true_eq]; omega) | (with_reducible refine ar64 ?_ ?_; omega) | (with_reducible refine pre_of ?_ ?_; (first | trivial | omega | assumption | (refine ⟨?_, ?_⟩ <;> first | trivial | omega | assumption) | (refine ⟨?_, ?_, ?_⟩ <;> first | trivial | omega | assumption) | (refine ⟨?_, ?_, ?_, ?_⟩ <;> first | trivial | omega | assumption))))
    all_goals first | exact bad _ (by rw [eS.out]; simp_all) (by omega) | exact hA' (by rw [eS.out]; simp_all)
  · rw [show ts.xs.length - i.toNat = 0 by omega] at hk
    exact hk.1 rfl
noncomputable def le_str : LE Try.prog := ⟨74, 11, fun W => @loopRun W lc_str, okLstr⟩
noncomputable def le_tst : LE Try.prog := ⟨77, 8, fun W => @loopRun W lc_tst, okLtst⟩
noncomputable def Tg : Tab Try.prog := ⟨Tf.pcs, [le_str, le_tst], []⟩
def VC_strange [W : InW] (s_Skills : Ro [.str, .int .i64, .int .i64, .int .i64, .int .i64]) (s_Instrs : Ro [.str, .int .i64, .int .i64]) (t_Tasks : Ro tyTask) (t_Allowed : Int) (Q : DS → Prop) : Prop :=
  Pre True (Vif (!decide (Sp.chkE s_Skills.xs s_Instrs.xs = (0 : Int))) (Q [[Cl.i (Sp.chkE s_Skills.xs s_Instrs.xs)]]) (Pre True (Vif (Sp.out (1 : Int) (6 : Int) [[Cl.i (↑(t_Tasks.xs.length) : Int)]]) (Q [[Cl.i (3 : Int)]]) (Ar .i64 ((↑(t_Tasks.xs.length) : Int) - (1 : Int)) fun z => Pre True (Vif (Sp.out (0 : Int) z [[Cl.i t_Allowed]]) (Q [[Cl.i (7 : Int)]]) (Pre ((↑(t_Tasks.xs.length) : Int) = (↑(t_Tasks.xs.length) : Int) ∧ (0 : Int) ≤ (0 : Int) ∧ (0 : Int) ≤ (↑(t_Tasks.xs.length) : Int)) (Vif (decide (Sp.errE (Sp.taskE (↑(s_Skills.xs.length) : Int) t_Tasks.xs) (Int.toNat (0 : Int)) (t_Tasks.xs.length - Int.toNat (0 : Int)) = (0 : Int))) (Q [[Cl.i (0 : Int)]]) (Q [[Cl.i (Sp.errE (Sp.taskE (↑(s_Skills.xs.length) : Int) t_Tasks.xs) (Int.toNat (0 : Int)) (t_Tasks.xs.length - Int.toNat (0 : Int)))]]))))))))
theorem vc_strange (W : InW) (s_Skills s_Instrs t_Tasks t_Allowed Q) : bodyK (cxT Try.prog TT Tg 1000 50) 1000 74 [.agg [.rs _ s_Skills, .rs _ s_Instrs], .agg [.rs _ t_Tasks, .si .i64 t_Allowed]] [] 0 (leafK [(false, [.int .i64])] Q) (fun _ _ _ _ => Stuck 421) = VC_strange s_Skills s_Instrs t_Tasks t_Allowed Q := by kernel_rfl
abbrev ats_strange : List AT := [.agg [.sl [.str, .int .i64, .int .i64, .int .i64, .int .i64], .sl [.str, .int .i64, .int .i64]], .agg [.sl tyTask, .int .i64]]
theorem ok_strange {pre : DS → Prop} {res : DS → DS} (hyp_ : ∀ (W : InW) (s_Skills : Ro [.str, .int .i64, .int .i64, .int .i64, .int .i64]) (s_Instrs : Ro [.str, .int .i64, .int .i64]) (t_Tasks : Ro tyTask) (t_Allowed : Int), pre [[.l s_Skills.xs, .l s_Instrs.xs], [.l t_Tasks.xs, .i t_Allowed]] → ∀ Q : DS → Prop, Q (res [[.l s_Skills.xs, .l s_Instrs.xs], [.l t_Tasks.xs, .i t_Allowed]]) → VC_strange s_Skills s_Instrs t_Tasks t_Allowed Q) : PureOk Try.prog 74 ats_strange [(false, [.int .i64])] pre res :=
  PureOk.of' (fun W => @TT W) (fun W => @TT_ok W) mixed_ok Tg 1000 50 fun W s_Skills s_Instrs t_Tasks t_Allowed hp =>
    (vc_strange W s_Skills s_Instrs t_Tasks t_Allowed (fun o => o = res [[.l s_Skills.xs, .l s_Instrs.xs], [.l t_Tasks.xs, .i t_Allowed]])).mpr (hyp_ W s_Skills s_Instrs t_Tasks t_Allowed hp _ rfl)
def VC_test [W : InW] (s_Skills : Ro [.str, .int .i64, .int .i64, .int .i64, .int .i64]) (s_Instrs : Ro [.str, .int .i64, .int .i64]) (t_Tasks : Ro tyTask) (t_Allowed : Int) (Q : DS → Prop) : Prop :=
  Pre True (Vif (!Sp.inr (↑(t_Tasks.xs.length) : Int) (1 : Int) (6 : Int)) (Q [[Cl.i (3 : Int)]]) (Ar .i64 ((↑(t_Tasks.xs.length) : Int) - (1 : Int)) fun z => Pre True (Vif (!Sp.inr t_Allowed (0 : Int) z) (Q [[Cl.i (7 : Int)]]) (Pre ((↑(t_Tasks.xs.length) : Int) = (↑(t_Tasks.xs.length) : Int) ∧ (0 : Int) ≤ (0 : Int) ∧ (0 : Int) ≤ (↑(t_Tasks.xs.length) : Int)) (Vif (decide (Sp.errE (Sp.taskE (↑(s_Skills.xs.length) : Int) t_Tasks.xs) (Int.toNat (0 : Int)) (t_Tasks.xs.length - Int.toNat (0 : Int)) = (0 : Int))) (Q [[Cl.i (0 : Int)]]) (Q [[Cl.i (Sp.errE (Sp.taskE (↑(s_Skills.xs.length) : Int) t_Tasks.xs) (Int.toNat (0 : Int)) (t_Tasks.xs.length - Int.toNat (0 : Int)))]]))))))
theorem vc_test (W : InW) (s_Skills s_Instrs t_Tasks t_Allowed Q) : bodyK (cxT Try.prog TT Tg 1000 50) 1000 77 [.agg [.rs _ s_Skills, .rs _ s_Instrs], .agg [.rs _ t_Tasks, .si .i64 t_Allowed]] [] 0 (leafK [(false, [.int .i64])] Q) (fun _ _ _ _ => Stuck 421) = VC_test s_Skills s_Instrs t_Tasks t_Allowed Q := by kernel_rfl
abbrev ats_test : List AT := [.agg [.sl [.str, .int .i64, .int .i64, .int .i64, .int .i64], .sl [.str, .int .i64, .int .i64]], .agg [.sl tyTask, .int .i64]]
theorem ok_test {pre : DS → Prop} {res : DS → DS} (hyp_ : ∀ (W : InW) (s_Skills : Ro [.str, .int .i64, .int .i64, .int .i64, .int .i64]) (s_Instrs : Ro [.str, .int .i64, .int .i64]) (t_Tasks : Ro tyTask) (t_Allowed : Int), pre [[.l s_Skills.xs, .l s_Instrs.xs], [.l t_Tasks.xs, .i t_Allowed]] → ∀ Q : DS → Prop, Q (res [[.l s_Skills.xs, .l s_Instrs.xs], [.l t_Tasks.xs, .i t_Allowed]]) → VC_test s_Skills s_Instrs t_Tasks t_Allowed Q) : PureOk Try.prog 77 ats_test [(false, [.int .i64])] pre res :=
  PureOk.of' (fun W => @TT W) (fun W => @TT_ok W) mixed_ok Tg 1000 50 fun W s_Skills s_Instrs t_Tasks t_Allowed hp =>
    (vc_test W s_Skills s_Instrs t_Tasks t_Allowed (fun o => o = res [[.l s_Skills.xs, .l s_Instrs.xs], [.l t_Tasks.xs, .i t_Allowed]])).mpr (hyp_ W s_Skills s_Instrs t_Tasks t_Allowed hp _ rfl)
abbrev res_strange (ds : DS) : DS := match ds with | [[.l sk, .l is], [.l ts, .i al]] => [[.i (Sp.strE sk is ts al)]] | _ => []
abbrev res_test (ds : DS) : DS := match ds with | [[.l sk, .l is], [.l ts, .i al]] => [[.i (Sp.testE sk.length ts al)]] | _ => []
theorem okstrange : PureOk Try.prog 74 ats_strange [(false, [.int .i64])] (fun _ => True) res_strange :=
  ok_strange fun W sk is ts al _ Q h => by
    unfold VC_strange
    have hm := ts.len
    simp only [maxLen] at hm
    simp only [res_strange, Sp.strE, Sp.testE] at h
    simp only [out1, show Int.toNat 0 = 0 from rfl, Nat.sub_zero]
    repeat' (first | omega | with_reducible refine vifd (fun _ => ?_) fun _ => ?_ | with_reducible refine vifn (fun _ => ?_) fun _ => ?_ | with_reducible refine vifq (fun _ => ?_) fun _ => ?_ | with_reducible refine vifq0 (fun _ => ?_) fun _ => ?_ | with_reducible refine vifq1 (fun _ => ?_) fun _ => ?_ | with_reducible refine vifb (fun _ => ?_) fun _ => ?_ | with_reducible refine vif (fun _ => ?_) fun _ => ?_ | (with_reducible refine nedd ?_ ?_; omega) | (with_reducible refine ned ?_ ?_; simp only [Bool.and_eq_true, decide_eq_true_eq]; omega) | (with_reducible refine ar64 ?_ ?_; omega) | (with_reducible refine pre_of ?_ ?_; (first | trivial | omega | assumption | (refine ⟨?_, ?_⟩ <;> first | trivial | omega | assumption) | (refine ⟨?_, ?_, ?_⟩ <;> first | trivial | omega | assumption) | (refine ⟨?_, ?_, ?_, ?_⟩ <;> first | trivial | omega | assumption))))
    all_goals ((repeat' split at h) <;> first | exact h | omega | (simp_all; done) | (simp_all; omega))
theorem oktest : PureOk Try.prog 77 ats_test [(false, [.int .i64])] (fun _ => True) res_test :=
  ok_test fun W sk is ts al _ Q h => by
    unfold VC_test
    have hm := ts.len
    simp only [maxLen] at hm
    simp only [res_test, Sp.testE] at h
    simp only [show Int.toNat 0 = 0 from rfl, Nat.sub_zero]
    repeat' (first | omega | with_reducible refine vifd (fun _ => ?_) fun _ => ?_ | with_reducible refine vifn (fun _ => ?_) fun _ => ?_ | with_reducible refine vifq (fun _ => ?_) fun _ => ?_ | with_reducible refine vifq0 (fun _ => ?_) fun _ => ?_ | with_reducible refine vifq1 (fun _ => ?_) fun _ => ?_ | with_reducible refine vifb (fun _ => ?_) fun _ => ?_ | with_reducible refine vif (fun _ => ?_) fun _ => ?_ | (with_reducible refine nedd ?_ ?_; omega) | (with_reducible refine ned ?_ ?_; simp only [Bool.and_eq_true, decide_eq_true_eq]; omega) | (with_reducible refine ar64 ?_ ?_; omega) | (with_reducible refine pre_of ?_ ?_; (first | trivial | omega | assumption | (refine ⟨?_, ?_⟩ <;> first | trivial | omega | assumption) | (refine ⟨?_, ?_, ?_⟩ <;> first | trivial | omega | assumption) | (refine ⟨?_, ?_, ?_, ?_⟩ <;> first | trivial | omega | assumption))))
    all_goals ((repeat' split at h) <;> first | exact h | omega | (simp_all; done) | (simp_all; omega))
noncomputable def pc_strange : PC Try.prog := ⟨74, ats_strange, [(false, [.int .i64])], fun _ => True, res_strange, okstrange⟩
noncomputable def pc_test : PC Try.prog := ⟨77, ats_test, [(false, [.int .i64])], fun _ => True, res_test, oktest⟩
end Go.Proofs.Ytdokbocmgdhmmaa
namespace Go.Proofs.Ytdokbocmgdhmmaa
open Go.RowKit
set_option linter.unusedVariables false
set_option maxRecDepth 100000
set_option maxHeartbeats 1600000
namespace Sp
def cf : List Int → Nat → Int
  | [], 0 => 1
  | [], _ + 1 => 0
  | p :: ps, 0 => p * cf ps 0
  | p :: ps, j + 1 => p * cf ps (j + 1) + (1000 - p) * cf ps j
def passL : List Int → Int → Int
  | [], a => if a < 0 then 0 else 1
  | p :: ps, a => if a < 0 then 0 else p * passL ps a + (1000 - p) * passL ps (a - 1)
def partsD (d : List Int) (n : Nat) : Dt := (List.range (n + 1)).map fun j => [.i (cf d j)]
def stepD (parts : Dt) (p : Int) (i : Nat) : Dt := (List.range parts.length).map fun j => if 1 ≤ j ∧ j ≤ i then [.i ((cel parts j 0).int * p + (cel parts (j - 1) 0).int * (1000 - p))] else parts.getD j []
def sumP (parts : Dt) : Nat → Nat → Int
  | _, 0 => 0
  | i, n + 1 => (cel parts i 0).int + sumP parts (i + 1) n
def PartsIn (parts : Dt) (i : Nat) : Prop := ∀ j, j ≤ i → 0 ≤ (cel parts j 0).int ∧ (cel parts j 0).int ≤ 1000000000000000
def Probs (d : List Int) : Prop := ∀ p ∈ d, 0 ≤ p ∧ p ≤ 1000
def NonNeg (parts : Dt) : Prop := ∀ j, 0 ≤ (cel parts j 0).int
def SumIn (parts : Dt) (s : Int) (i n : Nat) : Prop := 0 ≤ s ∧ s + sumP parts i n ≤ 2000000000000000000
end Sp
theorem mix_in {p x y M : Int} (h0 : 0 ≤ p) (h1 : p ≤ 1000) (x0 : 0 ≤ x) (x1 : x ≤ M) (y0 : 0 ≤ y) (y1 : y ≤ M) : 0 ≤ p * x ∧ 0 ≤ (1000 - p) * y ∧ p * x + (1000 - p) * y ≤ 1000 * M := by
  have a := Int.mul_le_mul_of_nonneg_left x1 h0
  have b := Int.mul_le_mul_of_nonneg_left y1 (show 0 ≤ 1000 - p by omega)
  have c : p * M + (1000 - p) * M = 1000 * M := by rw [← Int.add_mul]; congr 1; omega
  exact ⟨Int.mul_nonneg h0 x0, Int.mul_nonneg (by omega) y0, by omega⟩
theorem cf_in : ∀ {d : List Int}, Sp.Probs d → ∀ j, 0 ≤ Sp.cf d j ∧ Sp.cf d j ≤ 1000 ^ d.length
  | [], _, 0 => by simp [Sp.cf]
  | [], _, j + 1 => by simp [Sp.cf]
  | p :: d, h, 0 => by
    have h1 := h p (by simp)
    have h2 := cf_in (d := d) (fun q hq => h q (by simp [hq])) 0
    have h3 := mix_in h1.1 h1.2 h2.1 h2.2 (Int.le_refl 0) (by omega)
    simp only [Sp.cf, List.length_cons, Int.pow_succ]
    rw [Int.mul_comm (1000 ^ d.length) 1000]
    omega
  | p :: d, h, j + 1 => by
    have h1 := h p (by simp)
    have h2 := cf_in (d := d) (fun q hq => h q (by simp [hq])) (j + 1)
    have h4 := cf_in (d := d) (fun q hq => h q (by simp [hq])) j
    have h3 := mix_in h1.1 h1.2 h2.1 h2.2 h4.1 h4.2
    simp only [Sp.cf, List.length_cons, Int.pow_succ]
    rw [Int.mul_comm (1000 ^ d.length) 1000]
    omega
def sumC (d : List Int) : Nat → Int
  | 0 => 0
  | m + 1 => sumC d m + Sp.cf d m
theorem sumC_cons (p : Int) (d : List Int) : ∀ m, sumC (p :: d) (m + 1) = p * sumC d (m + 1) + (1000 - p) * sumC d m
  | 0 => by simp [sumC, Sp.cf]
  | m + 1 => by
    have h := sumC_cons p d m
    rw [show sumC (p :: d) (m + 2) = sumC (p :: d) (m + 1) + Sp.cf (p :: d) (m + 1) from rfl, h, show sumC d (m + 2) = sumC d (m + 1) + Sp.cf d (m + 1) from rfl, show sumC d (m + 1) = sumC d m + Sp.cf d m from rfl, show Sp.cf (p :: d) (m + 1) = p * Sp.cf d (m + 1) + (1000 - p) * Sp.cf d m from rfl]
    simp only [Int.mul_add]
    omega
theorem passL_neg {d : List Int} {a : Int} (h : a < 0) : Sp.passL d a = 0 := by
  cases d <;> simp [Sp.passL, h]
theorem sumC_pass : ∀ (d : List Int) (m : Nat), sumC d m = Sp.passL d ((m : Int) - 1)
  | d, 0 => by rw [passL_neg (by omega)]; rfl
  | [], m + 1 => by
    have : ∀ k, sumC [] (k + 1) = 1 := fun k => by
      induction k with
      | zero => rfl
      | succ k ih => rw [show sumC [] (k + 2) = sumC [] (k + 1) + Sp.cf [] (k + 1) from rfl, ih]; rfl
    rw [this, Sp.passL, if_neg (by omega)]
  | p :: d, m + 1 => by
    rw [sumC_cons, sumC_pass d (m + 1), sumC_pass d m, Sp.passL, if_neg (by omega)]
    rw [show ((m + 1 : Nat) : Int) - 1 - 1 = (m : Int) - 1 by omega]
theorem passL_in : ∀ {d : List Int}, Sp.Probs d → ∀ a, 0 ≤ Sp.passL d a ∧ Sp.passL d a ≤ 1000 ^ d.length
  | [], _, a => by
    unfold Sp.passL
    split <;> simp
  | p :: d, h, a => by
    have h1 := h p (by simp)
    have h2 := passL_in (d := d) (fun q hq => h q (by simp [hq])) a
    have h4 := passL_in (d := d) (fun q hq => h q (by simp [hq])) (a - 1)
    have h3 := mix_in h1.1 h1.2 h2.1 h2.2 h4.1 h4.2
    unfold Sp.passL
    simp only [List.length_cons, Int.pow_succ]
    rw [Int.mul_comm (1000 ^ d.length) 1000]
    split <;> omega
theorem partsD_len (d : List Int) (n : Nat) : (Sp.partsD d n).length = n + 1 := by simp [Sp.partsD]
theorem partsD_cel {d : List Int} {n j : Nat} (h : j ≤ n) : (cel (Sp.partsD d n) j 0).int = Sp.cf d j := by
  simp [Sp.partsD, cel, List.getElem?_range (show j < n + 1 by omega), Cl.int]
theorem dt_ext {a b : Dt} (h : a.length = b.length) (hj : ∀ j, j < a.length → a.getD j [] = b.getD j []) : a = b := by
  apply List.ext_getElem h
  intro j h1 h2
  have := hj j h1
  simpa [List.getD_eq_getElem?_getD, List.getElem?_eq_getElem h1, List.getElem?_eq_getElem h2] using this
theorem stepD_len (parts : Dt) (p : Int) (i : Nat) : (Sp.stepD parts p i).length = parts.length := by simp [Sp.stepD]
theorem stepD_at {parts : Dt} {p : Int} {i j : Nat} (h : j < parts.length) : (Sp.stepD parts p i).getD j [] = if 1 ≤ j ∧ j ≤ i then [.i ((cel parts j 0).int * p + (cel parts (j - 1) 0).int * (1000 - p))] else parts.getD j [] := by
  simp [Sp.stepD, List.getD_eq_getElem?_getD, List.getElem?_range h]
theorem stepD_zero (parts : Dt) (p : Int) : Sp.stepD parts p 0 = parts :=
  dt_ext (stepD_len _ _ _) fun j hj => by rw [stepD_at (by rwa [stepD_len] at hj), if_neg (by omega)]
theorem getD_set {xs : Dt} {i : Nat} {r : List Cl} (j : Nat) : (xs.set i r).getD j [] = if i = j ∧ i < xs.length then r else xs.getD j [] := by
  simp only [List.getD_eq_getElem?_getD, List.getElem?_set]
  by_cases h : i = j
  · subst h
    by_cases h2 : i < xs.length
    · simp [h2]
    · simp [h2, List.getElem?_eq_none (Nat.le_of_not_lt h2)]
  · simp [h]
theorem stepD_set {parts : Dt} {p : Int} {i : Nat} (h1 : 1 ≤ i) (h2 : i < parts.length) : Sp.stepD (parts.set i [.i ((cel parts i 0).int * p + (cel parts (i - 1) 0).int * (1000 - p))]) p (i - 1) = Sp.stepD parts p i :=
  dt_ext (by simp [stepD_len]) fun j hj => by
    have hj' : j < parts.length := by simpa [stepD_len] using hj
    rw [stepD_at (by simpa using hj'), stepD_at hj']
    by_cases c : 1 ≤ j ∧ j ≤ i - 1
    · rw [if_pos c, if_pos (by omega), cel_set, if_neg (by omega), cel_set, if_neg (by omega)]
    · rw [if_neg c, getD_set]
      by_cases e : i = j
      · subst e; rw [if_pos ⟨rfl, h2⟩, if_pos (by omega)]
      · rw [if_neg (fun x => e x.1), if_neg (by omega)]
theorem partsD_step {d : List Int} {p : Int} {n : Nat} : (Sp.stepD (Sp.partsD d n) p n).set 0 [.i ((cel (Sp.stepD (Sp.partsD d n) p n) 0 0).int * p)] = Sp.partsD (p :: d) n :=
  dt_ext (by simp [stepD_len, partsD_len]) fun j hj => by
    have hj' : j ≤ n := by simp [stepD_len, partsD_len] at hj; omega
    have hr : (Sp.partsD (p :: d) n).getD j [] = [.i (Sp.cf (p :: d) j)] := by simp [Sp.partsD, List.getElem?_range (show j < n + 1 by omega)]
    rw [hr, getD_set]
    have hc : (cel (Sp.stepD (Sp.partsD d n) p n) 0 0).int = Sp.cf d 0 := by
      unfold cel
      rw [stepD_at (by rw [partsD_len]; omega), if_neg (by omega)]
      exact partsD_cel (Nat.zero_le n)
    by_cases e : 0 = j
    · subst e
      rw [if_pos ⟨rfl, by rw [stepD_len, partsD_len]; omega⟩, hc]
      simp only [Sp.cf, Int.mul_comm]
    · rw [if_neg (fun x => e x.1), stepD_at (by rw [partsD_len]; omega), if_pos (by omega), partsD_cel hj', partsD_cel (by omega)]
      obtain ⟨k, rfl⟩ : ∃ k, j = k + 1 := ⟨j - 1, by omega⟩
      simp only [Sp.cf, Nat.add_sub_cancel, Int.mul_comm]
theorem partsD_zero (n : Nat) : (List.replicate (n + 1) [Cl.i 0]).set 0 [.i 1] = Sp.partsD [] n :=
  dt_ext (by simp [partsD_len]) fun j hj => by
    have hj' : j < n + 1 := by simpa using hj
    have hr : (Sp.partsD [] n).getD j [] = [.i (Sp.cf [] j)] := by simp [Sp.partsD, List.getElem?_range hj']
    rw [hr, getD_set]
    by_cases e : 0 = j
    · subst e; rw [if_pos ⟨rfl, by simp⟩]; rfl
    · rw [if_neg (fun x => e x.1)]
      obtain ⟨k, rfl⟩ : ∃ k, j = k + 1 := ⟨j - 1, by omega⟩
      rw [List.getD_eq_getElem?_getD, List.getElem?_replicate, if_pos hj']
      rfl
theorem sumP_parts {d : List Int} {n : Nat} : ∀ (m i : Nat), i + m ≤ n + 1 → Sp.sumP (Sp.partsD d n) i m = sumC d (i + m) - sumC d i
  | 0, i, _ => by simp [Sp.sumP]
  | m + 1, i, h => by
    rw [Sp.sumP, sumP_parts m (i + 1) (by omega), partsD_cel (by omega), show i + 1 + m = i + (m + 1) by omega, show sumC d (i + 1) = sumC d i + Sp.cf d i from rfl]
    omega
theorem sumP_nn {parts : Dt} (h : Sp.NonNeg parts) : ∀ (n i : Nat), 0 ≤ Sp.sumP parts i n
  | 0, i => Int.le_refl 0
  | n + 1, i => by
    have := h i
    have := sumP_nn h n (i + 1)
    unfold Sp.sumP
    omega
noncomputable def Th : Tab Try.prog := ⟨[pc_lev], [], []⟩
def sp_inn [InW] (e : List Ed) (K : Nat → List Ed → Prop) : Prop := match e with
  | [.i p, .i i, .l parts] => Pre (0 ≤ p ∧ p ≤ 1000 ∧ 0 ≤ i ∧ i < parts.length ∧ parts.length ≤ 7 ∧ Sp.PartsIn parts i.toNat) (K 0 [.i p, .l (Sp.stepD parts p i.toNat)])
  | _ => False
noncomputable def lc_inn : LC where
  len := 82
  T := [(5, (.row 6)), (8, .int .i64), (9, .int .i64)]
  H := [(6, .arr 3 [.int .i64])]
  W := [38, 39, 40, 41, 42, 43, 44, 45, 46, 47, 48, 49, 50, 51, 52, 53, 54, 55, 56, 57, 58, 59]
  outs := [⟨.exit 2, [(5, (.row 12)), (8, .int .i64)], [(12, .arr 3 [.int .i64])], [9, 38, 39, 40, 41, 42, 43, 44, 45, 46, 47, 48, 49, 50, 51, 52, 53, 54, 55, 56, 57, 58, 59]⟩]
  spec := sp_inn
def VCL_inn [W : InW] (p i : Int) (parts : Dt) (A : List Ed → Prop) (K : Nat → List Ed → Prop) : Prop :=
  Vif (decide ((0 : Int) < i)) (Need (decide ((0 : Int) ≤ i) && decide (i < (↑(parts.length) : Int))) (Need (decide (i.toNat < parts.length)) (Ar .i64 ((cel parts i.toNat (0 : Nat)).int * p) fun z => Ar .i64 (i - (1 : Int)) fun z_1 => Need (decide ((0 : Int) ≤ z_1) && decide (z_1 < (↑(parts.length) : Int))) (Need (decide (z_1.toNat < parts.length)) (Ar .i64 ((1000 : Int) - p) fun z_2 => Ar .i64 ((cel parts z_1.toNat (0 : Nat)).int * z_2) fun z_3 => Ar .i64 (z + z_3) fun z => Need (decide ((0 : Int) ≤ i) && decide (i < (↑(parts.length) : Int))) (Need (decide (i.toNat < parts.length)) (Ar .i64 (i - (1 : Int)) fun z_4 => A [.i p, .i z_4, .l (List.set parts i.toNat [Cl.i z])]))))))) (K (0 : Nat) [.i p, .l parts])
theorem vcl_inn (W : InW) (p i parts A K) : vcTop { cxT Try.prog TT Th 1000 50 with fn := 75 } 1000 (loopAt Try.prog 75 9) (tmOut 82 [(5, .rw 6), (8, .si .i64 p), (9, .si .i64 i)] [38, 39, 40, 41, 42, 43, 44, 45, 46, 47, 48, 49, 50, 51, 52, 53, 54, 55, 56, 57, 58, 59]) [(6, .arr 3 [.int .i64] parts)] (roundL lc_inn A K) = VCL_inn p i parts A K := by kernel_rfl
def okLt_inn : Prop := ∀ (W : InW) (body a : Code), (Try.prog.funcs[75]?).bind (·.body) = some body → a ∈ loopsIn body → keyOf a = 9 → @LoopOk W Try.prog a (@loopRun W lc_inn)
theorem okl_inn (meas : [InW] → List Ed → Nat) (hyp_ : ∀ (W : InW) (p : Int) (i : Int) (parts : Dt) (K : Nat → List Ed → Prop), sp_inn [.i p, .i i, .l parts] K → ∀ A : List Ed → Prop, (∀ e, meas e < meas [.i p, .i i, .l parts] → sp_inn e K → A e) → VCL_inn p i parts A K) : okLt_inn :=
  LE.okOf' (fun W => @TT W) (fun W => @TT_ok W) mixed_ok Th 1000 50 (by kernel_rfl) lc_inn (fun W => @meas W) fun W p i parts K hs =>
    (vcl_inn W p i parts (fun e => meas e < meas [.i p, .i i, .l parts] ∧ sp_inn e K) K).mpr (hyp_ W p i parts K hs _ fun e h1 h2 => ⟨h1, h2⟩)
def sp_sum [InW] (e : List Ed) (K : Nat → List Ed → Prop) : Prop := match e with
  | [.i s, .i l, .i n, .i m, .i i, .l parts] => Pre (m = n ∧ l = 0 ∧ 0 ≤ i ∧ i ≤ n ∧ n ≤ parts.length ∧ parts.length ≤ 7 ∧ Sp.NonNeg parts ∧ Sp.SumIn parts s i.toNat (n - i).toNat) (K 0 [.i (s + Sp.sumP parts i.toNat (n - i).toNat)])
  | _ => False
noncomputable def lc_sum : LC where
  len := 82
  T := [(4, .int .i64), (71, (.rwp 7 1)), (72, .int .i64), (73, .int .i64)]
  H := [(7, .arr 3 [.int .i64])]
  W := [11, 74, 75, 76, 77, 78, 79, 80]
  outs := [⟨.exit 4, [(4, .int .i64)], [], [11, 71, 72, 73, 74, 75, 76, 77, 78, 79, 80]⟩]
  spec := sp_sum
def VCL_sum [W : InW] (s : Int) (l n : Nat) (m i : Int) (parts : Dt) (A : List Ed → Prop) (K : Nat → List Ed → Prop) : Prop :=
  Vif (decide (i < m)) (Need (decide ((0 : Int) ≤ i) && decide (i < (↑n : Int)) && decide (l + n ≤ parts.length)) (Need (decide (l + i.toNat < parts.length)) (Ar .i64 (s + (cel parts (l + i.toNat) (0 : Nat)).int) fun z => Ar .i64 (i + (1 : Int)) fun z_1 => A [.i z, .i (↑l : Int), .i (↑n : Int), .i m, .i z_1, .l parts]))) (K (0 : Nat) [.i s])
theorem vcl_sum (W : InW) (s l n m i parts A K) : vcTop { cxT Try.prog TT Th 1000 50 with fn := 75 } 1000 (loopAt Try.prog 75 15) (tmOut 82 [(4, .si .i64 s), (71, .rwp 7 1 l n), (72, .si .i64 m), (73, .si .i64 i)] [11, 74, 75, 76, 77, 78, 79, 80]) [(7, .arr 3 [.int .i64] parts)] (roundL lc_sum A K) = VCL_sum s l n m i parts A K := by kernel_rfl
def okLt_sum : Prop := ∀ (W : InW) (body a : Code), (Try.prog.funcs[75]?).bind (·.body) = some body → a ∈ loopsIn body → keyOf a = 15 → @LoopOk W Try.prog a (@loopRun W lc_sum)
theorem okl_sum (meas : [InW] → List Ed → Nat) (hyp_ : ∀ (W : InW) (s : Int) (l n : Nat) (m : Int) (i : Int) (parts : Dt) (K : Nat → List Ed → Prop), sp_sum [.i s, .i l, .i n, .i m, .i i, .l parts] K → ∀ A : List Ed → Prop, (∀ e, meas e < meas [.i s, .i l, .i n, .i m, .i i, .l parts] → sp_sum e K → A e) → VCL_sum s l n m i parts A K) : okLt_sum :=
  LE.okOf' (fun W => @TT W) (fun W => @TT_ok W) mixed_ok Th 1000 50 (by kernel_rfl) lc_sum (fun W => @meas W) fun W s l n m i parts K hs =>
    (vcl_sum W s l n m i parts (fun e => meas e < meas [.i s, .i l, .i n, .i m, .i i, .l parts] ∧ sp_sum e K) K).mpr (hyp_ W s l n m i parts K hs _ fun e h1 h2 => ⟨h1, h2⟩)
theorem ar_in {x y : Int} (h1 : 0 ≤ x) (h2 : x ≤ 1000000000000000) (h3 : 0 ≤ y) (h4 : y ≤ 1000) : 0 ≤ x * y ∧ x * y ≤ 1000000000000000000 := by
  have := Int.mul_le_mul h2 h4 h3 (by omega)
  exact ⟨Int.mul_nonneg h1 h3, by omega⟩
theorem okLinn : okLt_inn := okl_inn (fun e => match e with | [_, .i i, _] => i.toNat | _ => 0) fun W p i parts K hs A hA => by
  obtain ⟨⟨p0, p1, h0, h1, h7, hp⟩, hk⟩ := hs
  unfold VCL_inn
  refine vifd (fun e => ?_) fun e => ?_
  · have a1 := hp i.toNat (Nat.le_refl _)
    have a2 := hp (i - 1).toNat (by omega)
    have b1 := ar_in a1.1 a1.2 p0 p1
    have b2 := ar_in a2.1 a2.2 (show 0 ≤ 1000 - p by omega) (by omega)
    have e1 : (i - 1).toNat = i.toNat - 1 := by omega
    have hA' : A [.i p, .i (i - 1), .l (parts.set i.toNat [.i ((cel parts i.toNat 0).int * p + (cel parts (i - 1).toNat 0).int * (1000 - p))])] := hA _ (by show (i - 1).toNat < i.toNat; omega) ⟨⟨p0, p1, by omega, by simp; omega, by simpa using h7, fun j hj => by rw [cel_set, if_neg (by omega)]; exact hp j (by omega)⟩, by
      rw [e1, stepD_set (by omega) (by omega)]
      exact hk⟩
    clear hA hk hp
    repeat' (first | omega | with_reducible refine vifd (fun _ => ?_) fun _ => ?_ | with_reducible refine vifn (fun _ => ?_) fun _ => ?_ | with_reducible refine vifq (fun _ => ?_) fun _ => ?_ | with_reducible refine vifq0 (fun _ => ?_) fun _ => ?_ | with_reducible refine vifq1 (fun _ => ?_) fun _ => ?_ | with_reducible refine vifb (fun _ => ?_) fun _ => ?_ | with_reducible refine vif (fun _ => ?_) fun _ => ?_ | (with_reducible refine nedd ?_ ?_; omega) | (with_reducible refine ned ?_ ?_; simp only [Bool.and_eq_true, decide_eq_true_eq]; omega) | (with_reducible refine ar64 ?_ ?_; omega) | (with_reducible refine pre_of ?_ ?_; (first | trivial | omega | assumption | (refine ⟨?_, ?_⟩ <;> first | trivial | omega | assumption) | (refine ⟨?_, ?_, ?_⟩ <;> first | trivial | omega | assumption) | (refine ⟨?_, ?_, ?_, ?_⟩ <;> first | trivial | omega | assumption))))
    all_goals exact hA'
  · have e0 : i.toNat = 0 := by omega
    rw [e0, stepD_zero] at hk
    exact hk
theorem okLsum : okLt_sum := okl_sum (fun e => match e with | [_, _, .i n, _, .i i, _] => (n - i).toNat | _ => 0) fun W s l n m i parts K hs A hA => by
  obtain ⟨⟨rfl, hl, h0, h1, h2, h7, h3, h4⟩, hk⟩ := hs
  unfold VCL_sum
  have hl : l = 0 := by omega
  subst hl
  simp only [Nat.zero_add]
  refine vifd (fun e => ?_) fun e => ?_
  · have a1 := h3 i.toNat
    have e1 : (i + 1).toNat = i.toNat + 1 := by omega
    rw [show ((n : Int) - i).toNat = ((n : Int) - (i + 1)).toNat + 1 by omega] at hk h4
    have h4' := h4
    obtain ⟨g1, g2⟩ := h4'
    unfold Sp.sumP at hk g2
    have a2 := sumP_nn h3 ((n : Int) - (i + 1)).toNat (i.toNat + 1)
    have hA' : A [.i (s + (cel parts i.toNat 0).int), .i (0 : Nat), .i n, .i n, .i (i + 1), .l parts] := hA _ (by show ((n : Int) - (i + 1)).toNat < ((n : Int) - i).toNat; omega) ⟨⟨rfl, rfl, by omega, by omega, h2, h7, h3, ⟨by omega, by rw [e1]; omega⟩⟩, by rw [e1, Int.add_assoc]; exact hk⟩
    clear hA hk h3 h4
    repeat' (first | omega | with_reducible refine vifd (fun _ => ?_) fun _ => ?_ | with_reducible refine vifn (fun _ => ?_) fun _ => ?_ | with_reducible refine vifq (fun _ => ?_) fun _ => ?_ | with_reducible refine vifq0 (fun _ => ?_) fun _ => ?_ | with_reducible refine vifq1 (fun _ => ?_) fun _ => ?_ | with_reducible refine vifb (fun _ => ?_) fun _ => ?_ | with_reducible refine vif (fun _ => ?_) fun _ => ?_ | (with_reducible refine nedd ?_ ?_; omega) | (with_reducible refine ned ?_ ?_; simp only [Bool.and_eq_true, decide_eq_true_eq]; omega) | (with_reducible refine ar64 ?_ ?_; omega) | (with_reducible refine pre_of ?_ ?_; (first | trivial | omega | assumption | (refine ⟨?_, ?_⟩ <;> first | trivial | omega | assumption) | (refine ⟨?_, ?_, ?_⟩ <;> first | trivial | omega | assumption) | (refine ⟨?_, ?_, ?_, ?_⟩ <;> first | trivial | omega | assumption))))
    all_goals exact hA'
  · rw [show ((n : Int) - i).toNat = 0 by omega] at hk
    unfold Sp.sumP at hk
    rw [Int.add_zero] at hk
    exact hk
noncomputable def le_inn : LE Try.prog := ⟨75, 9, fun W => @loopRun W lc_inn, okLinn⟩
noncomputable def le_sum : LE Try.prog := ⟨75, 15, fun W => @loopRun W lc_sum, okLsum⟩
end Go.Proofs.Ytdokbocmgdhmmaa
namespace Go.Proofs.Ytdokbocmgdhmmaa
open Go.RowKit
set_option linter.unusedVariables false
set_option maxRecDepth 100000
set_option maxHeartbeats 1600000
namespace Sp
def fLv (lv : Dt) (k : Nat) : Int := (cel lv k 0).int
def rLo (rg : Dt) (k : Nat) : Int := (cel rg k 0).int
def rHi (rg : Dt) (k : Nat) : Int := (cel rg k 1).int
def prob (ts : Dt) (f : Nat → Int) (i : Nat) : Int := lev (500 + f (tSk ts i).toNat - tLv ts i)
def done (ts : Dt) (f : Nat → Int) : Nat → List Int
  | 0 => []
  | n + 1 => prob ts f n :: done ts f n
structure TsIn (ts : Dt) (n : Nat) : Prop where
  l6 : ts.length ≤ 6
  sk : ∀ i, i < ts.length → 0 ≤ tSk ts i ∧ tSk ts i < n
  lv : ∀ i, i < ts.length → 0 ≤ tLv ts i ∧ tLv ts i ≤ 1000
def FIn (f : Nat → Int) : Prop := ∀ k, -1000000 ≤ f k ∧ f k ≤ 1000000
def chance (ts : Dt) (al : Int) (f : Nat → Int) : Int := passL (done ts f ts.length) al
end Sp
theorem done_len (ts : Dt) (f : Nat → Int) : ∀ n, (Sp.done ts f n).length = n
  | 0 => rfl
  | n + 1 => by simp [Sp.done, done_len ts f n]
theorem lev_in (n : Int) : 0 ≤ Sp.lev n ∧ Sp.lev n ≤ 1000 := by unfold Sp.lev; omega
theorem done_in (ts : Dt) (f : Nat → Int) : ∀ n, Sp.Probs (Sp.done ts f n)
  | 0 => fun p hp => by simp [Sp.done] at hp
  | n + 1 => fun p hp => by
    rcases List.mem_cons.1 (show p ∈ Sp.prob ts f n :: Sp.done ts f n from hp) with rfl | hp
    · exact lev_in _
    · exact done_in ts f n p hp
theorem pow_le {n : Nat} (h : n ≤ 5) : (1000 : Int) ^ n ≤ 1000000000000000 := by
  match n, h with
  | 0, _ => decide
  | 1, _ => decide
  | 2, _ => decide
  | 3, _ => decide
  | 4, _ => decide
  | 5, _ => decide
theorem pow_le6 {n : Nat} (h : n ≤ 6) : (1000 : Int) ^ n ≤ 1000000000000000000 := by
  match n, h with
  | 0, _ => decide
  | 1, _ => decide
  | 2, _ => decide
  | 3, _ => decide
  | 4, _ => decide
  | 5, _ => decide
  | 6, _ => decide
theorem parts_in {ts : Dt} {f : Nat → Int} {i n j : Nat} (h : i ≤ 5) (hj : j ≤ n) : Sp.PartsIn (Sp.partsD (Sp.done ts f i) n) j := fun k hk => by
  rw [partsD_cel (by omega)]
  have h1 := cf_in (done_in ts f i) k
  rw [done_len] at h1
  have := pow_le h
  omega
theorem cel_none {xs : Dt} {i k : Nat} (h : xs.length ≤ i) : cel xs i k = .z := by simp [cel, List.getD_eq_getElem?_getD, List.getElem?_eq_none h]
theorem parts_nn {ts : Dt} {f : Nat → Int} {i n : Nat} : Sp.NonNeg (Sp.partsD (Sp.done ts f i) n) := fun j => by
  by_cases h : j ≤ n
  · rw [partsD_cel h]; exact (cf_in (done_in ts f i) j).1
  · rw [cel_none (by rw [partsD_len]; omega)]; exact Int.le_refl 0
noncomputable def TiA : Tab Try.prog := ⟨[pc_lev], [le_inn, le_sum], []⟩
def sp_outA [InW] (e : List Ed) (K : Nat → List Ed → Prop) : Prop := match e with
  | [.ro _ ts, .i n, .i i, .ro _ lv, .l parts] => Pre (n = (ts.xs.length : Int) ∧ 0 ≤ i ∧ i ≤ n ∧ Sp.TsIn ts.xs lv.xs.length ∧ Sp.FIn (Sp.fLv lv.xs) ∧ parts = Sp.partsD (Sp.done ts.xs (Sp.fLv lv.xs) i.toNat) ts.xs.length) (K 0 [.ro _ lv, .l (Sp.partsD (Sp.done ts.xs (Sp.fLv lv.xs) ts.xs.length) ts.xs.length)])
  | _ => False
noncomputable def lc_outA : LC where
  len := 82
  T := [(1, (.fn (.func 76) [] [(.ptr 4 0)])), (5, (.row 6)), (20, .rs [.int .i64, .int .i64]), (21, .int .i64), (22, .int .i64)]
  H := [(4, .blk 49 [.rs [.int .i64]]), (6, .arr 3 [.int .i64])]
  W := [7, 8, 9, 23, 24, 25, 26, 27, 28, 29, 30, 31, 32, 33, 34, 35, 36, 37, 38, 39, 40, 41, 42, 43, 44, 45, 46, 47, 48, 49, 50, 51, 52, 53, 54, 55, 56, 57, 58, 59, 60, 61, 62, 63, 64, 65, 66]
  outs := [⟨.exit 0, [(1, (.fn (.func 76) [] [(.ptr 4 0)])), (5, (.row 12))], [(4, .blk 49 [.rs [.int .i64]]), (12, .arr 3 [.int .i64])], [7, 8, 9, 20, 21, 22, 23, 24, 25, 26, 27, 28, 29, 30, 31, 32, 33, 34, 35, 36, 37, 38, 39, 40, 41, 42, 43, 44, 45, 46, 47, 48, 49, 50, 51, 52, 53, 54, 55, 56, 57, 58, 59, 60, 61, 62, 63, 64, 65, 66]⟩]
  spec := sp_outA
def VCL_outA [W : InW] (ts : Ro [.int .i64, .int .i64]) (n i : Int) (lv : Ro [.int .i64]) (parts : Dt) (A : List Ed → Prop) (K : Nat → List Ed → Prop) : Prop :=
  Vif (decide (i < n)) (Need (decide ((0 : Int) ≤ i) && decide (i < (↑(ts.xs.length) : Int))) (Need (decide (i.toNat < ts.xs.length)) (Need (decide ((0 : Int) ≤ (cel ts.xs i.toNat (0 : Nat)).int) && decide ((cel ts.xs i.toNat (0 : Nat)).int < (↑(lv.xs.length) : Int))) (Need (decide ((cel ts.xs i.toNat (0 : Nat)).int.toNat < lv.xs.length)) (Ar .i64 ((500 : Int) + (cel lv.xs (cel ts.xs i.toNat (0 : Nat)).int.toNat (0 : Nat)).int) fun z => Ar .i64 (z - (cel ts.xs i.toNat (0+1 : Nat)).int) fun z => Pre True (Ar .i64 ((↑(parts.length) : Int) - (1 : Int)) fun z_1 => Pre ((0 : Int) ≤ Sp.lev z ∧ Sp.lev z ≤ (1000 : Int) ∧ (0 : Int) ≤ z_1 ∧ z_1 < (↑(parts.length) : Int) ∧ parts.length ≤ (7 : Nat) ∧ Sp.PartsIn parts z_1.toNat) (Need (decide ((0 : Int) ≤ (0 : Int)) && decide ((0 : Int) < (↑(List.length (Sp.stepD parts (Sp.lev z) z_1.toNat)) : Int))) (Need (decide (Int.toNat (0 : Int) < List.length (Sp.stepD parts (Sp.lev z) z_1.toNat))) (Ar .i64 ((cel (Sp.stepD parts (Sp.lev z) z_1.toNat) (Int.toNat (0 : Int)) (0 : Nat)).int * Sp.lev z) fun z_2 => Need (decide ((0 : Int) ≤ (0 : Int)) && decide ((0 : Int) < (↑(List.length (Sp.stepD parts (Sp.lev z) z_1.toNat)) : Int))) (Need (decide (Int.toNat (0 : Int) < List.length (Sp.stepD parts (Sp.lev z) z_1.toNat))) (Ar .i64 (i + (1 : Int)) fun z_3 => A [.ro _ ts, .i n, .i z_3, .ro _ lv, .l (List.set (Sp.stepD parts (Sp.lev z) z_1.toNat) (Int.toNat (0 : Int)) [Cl.i z_2])]))))))))))) (K (0 : Nat) [.ro _ lv, .l parts])
theorem vcl_outA (W : InW) (ts n i lv parts A K) : vcTop { cxT Try.prog TT TiA 1000 50 with fn := 75 } 1000 (loopAt Try.prog 75 5) (tmOut 82 [(1, .fn (.func 76) [] [.ptr 4 0]), (5, .rw 6), (20, .rs _ ts), (21, .si .i64 n), (22, .si .i64 i)] [7, 8, 9, 23, 24, 25, 26, 27, 28, 29, 30, 31, 32, 33, 34, 35, 36, 37, 38, 39, 40, 41, 42, 43, 44, 45, 46, 47, 48, 49, 50, 51, 52, 53, 54, 55, 56, 57, 58, 59, 60, 61, 62, 63, 64, 65, 66]) [(4, .blk 49 [.rs _ lv]), (6, .arr 3 [.int .i64] parts)] (roundL lc_outA A K) = VCL_outA ts n i lv parts A K := by kernel_rfl
def okLt_outA : Prop := ∀ (W : InW) (body a : Code), (Try.prog.funcs[75]?).bind (·.body) = some body → a ∈ loopsIn body → keyOf a = 5 → @LoopOk W Try.prog a (@loopRun W lc_outA)
theorem okl_outA (meas : [InW] → List Ed → Nat) (hyp_ : ∀ (W : InW) (ts : Ro [.int .i64, .int .i64]) (n : Int) (i : Int) (lv : Ro [.int .i64]) (parts : Dt) (K : Nat → List Ed → Prop), sp_outA [.ro _ ts, .i n, .i i, .ro _ lv, .l parts] K → ∀ A : List Ed → Prop, (∀ e, meas e < meas [.ro _ ts, .i n, .i i, .ro _ lv, .l parts] → sp_outA e K → A e) → VCL_outA ts n i lv parts A K) : okLt_outA :=
  LE.okOf' (fun W => @TT W) (fun W => @TT_ok W) mixed_ok TiA 1000 50 (by kernel_rfl) lc_outA (fun W => @meas W) fun W ts n i lv parts K hs =>
    (vcl_outA W ts n i lv parts (fun e => meas e < meas [.ro _ ts, .i n, .i i, .ro _ lv, .l parts] ∧ sp_outA e K) K).mpr (hyp_ W ts n i lv parts K hs _ fun e h1 h2 => ⟨h1, h2⟩)
theorem okLoutA : okLt_outA := okl_outA (fun e => match e with | _ :: .i n :: .i i :: _ => (n - i).toNat | _ => 0) fun W ts n i lv parts K hs A hA => by
  obtain ⟨⟨rfl, h0, h1, hT, hF, rfl⟩, hk⟩ := hs
  unfold VCL_outA
  simp only [Nat.zero_add, Nat.reduceAdd, partsD_len]
  have h6 := hT.l6
  refine vifd (fun e => ?_) fun e => ?_
  · have t1 := hT.sk i.toNat (by omega)
    have t2 := hT.lv i.toNat (by omega)
    have t3 := hF (Sp.tSk ts.xs i.toNat).toNat
    have e1 : (i + 1).toNat = i.toNat + 1 := by omega
    have hA' : A [.ro _ ts, .i ts.xs.length, .i (i + 1), .ro _ lv, .l (Sp.partsD (Sp.done ts.xs (Sp.fLv lv.xs) (i.toNat + 1)) ts.xs.length)] := hA _ (by show ((ts.xs.length : Int) - (i + 1)).toNat < ((ts.xs.length : Int) - i).toNat; omega) ⟨⟨rfl, by omega, by omega, hT, hF, by rw [e1]⟩, hk⟩
    have hp := lev_in (500 + Sp.fLv lv.xs (Sp.tSk ts.xs i.toNat).toNat - Sp.tLv ts.xs i.toNat)
    have hq := parts_in (ts := ts.xs) (f := Sp.fLv lv.xs) (i := i.toNat) (n := ts.xs.length) (j := ts.xs.length) (by omega) (Nat.le_refl _)
    have hst := partsD_step (d := Sp.done ts.xs (Sp.fLv lv.xs) i.toNat) (p := Sp.prob ts.xs (Sp.fLv lv.xs) i.toNat) (n := ts.xs.length)
    have hc0 : (cel (Sp.stepD (Sp.partsD (Sp.done ts.xs (Sp.fLv lv.xs) i.toNat) ts.xs.length) (Sp.prob ts.xs (Sp.fLv lv.xs) i.toNat) ts.xs.length) 0 0).int = Sp.cf (Sp.done ts.xs (Sp.fLv lv.xs) i.toNat) 0 := by
      unfold cel
      rw [stepD_at (by rw [partsD_len]; omega), if_neg (by omega)]
      exact partsD_cel (Nat.zero_le _)
    have hc1 := cf_in (done_in ts.xs (Sp.fLv lv.xs) i.toNat) 0
    rw [done_len] at hc1
    have hc2 := pow_le (n := i.toNat) (by omega)
    have hc3 := ar_in hc1.1 (by omega) hp.1 hp.2
    rw [show Sp.done ts.xs (Sp.fLv lv.xs) (i.toNat + 1) = Sp.prob ts.xs (Sp.fLv lv.xs) i.toNat :: Sp.done ts.xs (Sp.fLv lv.xs) i.toNat from rfl, ← hst, hc0] at hA'
    clear hA hk hT hF hst
    unfold Sp.tSk at t1
    unfold Sp.tLv at t2
    unfold Sp.tSk Sp.fLv at t3
    have hP : Sp.lev (500 + (cel lv.xs (cel ts.xs i.toNat 0).int.toNat 0).int - (cel ts.xs i.toNat 1).int) = Sp.prob ts.xs (Sp.fLv lv.xs) i.toNat := rfl
    rw [show Sp.lev (500 + Sp.fLv lv.xs (Sp.tSk ts.xs i.toNat).toNat - Sp.tLv ts.xs i.toNat) = Sp.prob ts.xs (Sp.fLv lv.xs) i.toNat from rfl] at hp hc3
    refine ned (by simp; omega) (nedd (by omega) (ned (by simp; omega) (nedd (by omega) (ar64 (by omega) (ar64 (by omega) ⟨trivial, ?_⟩)))))
    rw [hP, show ((ts.xs.length + 1 : Nat) : Int) - 1 = ts.xs.length by omega]
    refine ar64 (by omega) ?_
    simp only [Int.toNat_natCast, stepD_len, partsD_len, show Int.toNat 0 = 0 from rfl, hc0]
    exact ⟨⟨hp.1, hp.2, by omega, by omega, by omega, hq⟩, ned (by simp) (nedd (by omega) (ar64 (by omega) (ned (by simp) (nedd (by omega) (ar64 (by omega) hA')))))⟩
  · have e0 : i.toNat = ts.xs.length := by omega
    rw [e0]
    exact hk
noncomputable def le_outA : LE Try.prog := ⟨75, 5, fun W => @loopRun W lc_outA, okLoutA⟩
noncomputable def TjA : Tab Try.prog := ⟨[], [le_outA, le_sum], []⟩
def sp_chA [InW] (e : List Ed) (K : Nat → List Ed → Prop) : Prop := match e with
  | [.ro _ ts, .i al, .ro _ lv] => Pre (Sp.TsIn ts.xs lv.xs.length ∧ Sp.FIn (Sp.fLv lv.xs) ∧ 0 ≤ al ∧ al ≤ ts.xs.length) (K 0 [.i (Sp.chance ts.xs al (Sp.fLv lv.xs))])
  | _ => False
noncomputable def cc_chA : CC where
  g := 75
  args := [.agg [.rs [.int .i64, .int .i64], .int .i64], (.fn (.func 76) [] [(.ptr 1 0)])]
  H := [(1, .blk 49 [.rs [.int .i64]])]
  outs := [⟨false, .int .i64, [], true⟩]
  spec := sp_chA
def VCC_chA [W : InW] (ts : Ro [.int .i64, .int .i64]) (al : Int) (lv : Ro [.int .i64]) (K : Nat → List Ed → Prop) : Prop :=
  Ar .i64 ((↑(ts.xs.length) : Int) + (1 : Int)) fun z => Need (decide (z = z) && decide ((0 : Int) ≤ z) && decide ((8 : Nat) * z.toNat ≤ (281474976710656 : Nat))) (Need (decide ((0 : Int) ≤ (0 : Int)) && decide ((0 : Int) < (↑(List.replicate z.toNat (zeroCls [Ty.int IntKind.i64])).length : Int))) (Need (decide (Int.toNat (0 : Int) < (List.replicate z.toNat (zeroCls [Ty.int IntKind.i64])).length)) (Pre ((↑(ts.xs.length) : Int) = (↑(ts.xs.length) : Int) ∧ (0 : Int) ≤ (0 : Int) ∧ (0 : Int) ≤ (↑(ts.xs.length) : Int) ∧ Sp.TsIn ts.xs (lv.xs.length) ∧ Sp.FIn (Sp.fLv lv.xs) ∧ (List.replicate z.toNat (zeroCls [Ty.int IntKind.i64])).set (Int.toNat (0 : Int)) [Cl.i (1 : Int)] = Sp.partsD (Sp.done ts.xs (Sp.fLv lv.xs) (Int.toNat (0 : Int))) (ts.xs.length)) (Ar .i64 (al + (1 : Int)) fun z => Need (decide ((0 : Int) ≤ z)) (Need (decide ((0 : Nat) ≤ z.toNat) && decide (z.toNat ≤ List.length (Sp.partsD (Sp.done ts.xs (Sp.fLv lv.xs) (ts.xs.length)) (ts.xs.length)))) (Pre ((↑(z.toNat - (0 : Nat)) : Int) = (↑(z.toNat - (0 : Nat)) : Int) ∧ (↑(0 : Nat) : Int) = (0 : Int) ∧ (0 : Int) ≤ (0 : Int) ∧ (0 : Int) ≤ (↑(z.toNat - (0 : Nat)) : Int) ∧ (↑(z.toNat - (0 : Nat)) : Int) ≤ (↑(List.length (Sp.partsD (Sp.done ts.xs (Sp.fLv lv.xs) (ts.xs.length)) (ts.xs.length))) : Int) ∧ List.length (Sp.partsD (Sp.done ts.xs (Sp.fLv lv.xs) (ts.xs.length)) (ts.xs.length)) ≤ (7 : Nat) ∧ Sp.NonNeg (Sp.partsD (Sp.done ts.xs (Sp.fLv lv.xs) (ts.xs.length)) (ts.xs.length)) ∧ Sp.SumIn (Sp.partsD (Sp.done ts.xs (Sp.fLv lv.xs) (ts.xs.length)) (ts.xs.length)) (0 : Int) (Int.toNat (0 : Int)) ((↑(z.toNat - (0 : Nat)) : Int) - (0 : Int)).toNat) ([Ed.ro [Ty.int IntKind.i64] (rsK._proof_1 [Ty.int IntKind.i64] [Ty.int IntKind.i64] rfl ▸ rsK._proof_1 [Ty.int IntKind.i64] [Ty.int IntKind.i64] rfl ▸ lv)] ++ [] ++ [] = [Ed.ro _ lv] ∧ K (0 : Nat) [Ed.i ((0 : Int) + Sp.sumP (Sp.partsD (Sp.done ts.xs (Sp.fLv lv.xs) (ts.xs.length)) (ts.xs.length)) (Int.toNat (0 : Int)) ((↑(z.toNat - (0 : Nat)) : Int) - (0 : Int)).toNat)])))))))
theorem vcc_chA (W : InW) (ts al lv K) : coreK (cxT Try.prog TT TjA 1000 50) 1000 75 [.agg [.rs _ ts, .si .i64 al], .fn (.func 76) [] [.ptr 1 0]] [(1, .blk 49 [.rs _ lv])] (fun v h => outC cc_chA.H [.ro _ lv] cc_chA.outs 0 false v h K) (fun v h => outC cc_chA.H [.ro _ lv] cc_chA.outs 0 true v h K) = VCC_chA ts al lv K := by kernel_rfl
theorem okc_chA (hyp_ : ∀ (W : InW) (ts : Ro [.int .i64, .int .i64]) (al : Int) (lv : Ro [.int .i64]) (K : Nat → List Ed → Prop), sp_chA [.ro _ ts, .i al, .ro _ lv] K → VCC_chA ts al lv K) : ∀ W : InW, @CallC W Try.prog cc_chA :=
  CC.okOf (fun W => @TT W) (fun W => @TT_ok W) mixed_ok TjA 1000 50 cc_chA fun W ts al lv K hs => (vcc_chA W ts al lv K).mpr (hyp_ W ts al lv K hs)
theorem okCchA : ∀ W : InW, @CallC W Try.prog cc_chA := okc_chA fun W ts al lv K hs => by
  obtain ⟨⟨hT, hF, h0, h1⟩, hk⟩ := hs
  unfold VCC_chA
  have h6 := hT.l6
  have hs := sumP_parts (d := Sp.done ts.xs (Sp.fLv lv.xs) ts.xs.length) (n := ts.xs.length) (al.toNat + 1) 0 (by omega)
  rw [sumC_pass, sumC_pass, passL_neg (a := ((0 : Nat) : Int) - 1) (by omega), Int.sub_zero, show ((0 + (al.toNat + 1) : Nat) : Int) - 1 = al by omega] at hs
  have hb := passL_in (done_in ts.xs (Sp.fLv lv.xs) ts.xs.length) al
  rw [done_len] at hb
  have hb2 := pow_le6 h6
  refine ar64 (by omega) ?_
  simp only [show ((ts.xs.length : Int) + 1).toNat = ts.xs.length + 1 by omega, List.length_replicate, partsD_len, show Int.toNat 0 = 0 from rfl, Nat.sub_zero, Int.sub_zero, Int.toNat_natCast]
  refine ned (by simp; omega) (ned (by simp) (nedd (by omega) ⟨⟨trivial, by omega, by omega, hT, hF, partsD_zero _⟩, ar64 (by omega) (nedd (by omega) ?_)⟩))
  rw [show (al + 1).toNat = al.toNat + 1 by omega, hs]
  refine ned (by simp; omega) ⟨⟨trivial, rfl, by omega, by omega, by omega, by omega, parts_nn, ⟨by omega, by rw [hs]; omega⟩⟩, ⟨rfl, ?_⟩⟩
  rw [Int.zero_add]
  exact hk
noncomputable def TiB : Tab Try.prog := ⟨[pc_lev], [le_inn, le_sum], []⟩
def sp_outB [InW] (e : List Ed) (K : Nat → List Ed → Prop) : Prop := match e with
  | [.ro _ ts, .i n, .i i, .ro _ rg, .l parts] => Pre (n = (ts.xs.length : Int) ∧ 0 ≤ i ∧ i ≤ n ∧ Sp.TsIn ts.xs rg.xs.length ∧ Sp.FIn (Sp.rLo rg.xs) ∧ parts = Sp.partsD (Sp.done ts.xs (Sp.rLo rg.xs) i.toNat) ts.xs.length) (K 0 [.ro _ rg, .l (Sp.partsD (Sp.done ts.xs (Sp.rLo rg.xs) ts.xs.length) ts.xs.length)])
  | _ => False
noncomputable def lc_outB : LC where
  len := 82
  T := [(1, (.fn (.func 80) [] [(.ptr 4 0)])), (5, (.row 6)), (20, .rs [.int .i64, .int .i64]), (21, .int .i64), (22, .int .i64)]
  H := [(4, .blk 37 [.rs [.int .i64, .int .i64]]), (6, .arr 3 [.int .i64])]
  W := [7, 8, 9, 23, 24, 25, 26, 27, 28, 29, 30, 31, 32, 33, 34, 35, 36, 37, 38, 39, 40, 41, 42, 43, 44, 45, 46, 47, 48, 49, 50, 51, 52, 53, 54, 55, 56, 57, 58, 59, 60, 61, 62, 63, 64, 65, 66]
  outs := [⟨.exit 0, [(1, (.fn (.func 80) [] [(.ptr 4 0)])), (5, (.row 12))], [(4, .blk 37 [.rs [.int .i64, .int .i64]]), (12, .arr 3 [.int .i64])], [7, 8, 9, 20, 21, 22, 23, 24, 25, 26, 27, 28, 29, 30, 31, 32, 33, 34, 35, 36, 37, 38, 39, 40, 41, 42, 43, 44, 45, 46, 47, 48, 49, 50, 51, 52, 53, 54, 55, 56, 57, 58, 59, 60, 61, 62, 63, 64, 65, 66]⟩]
  spec := sp_outB
def VCL_outB [W : InW] (ts : Ro [.int .i64, .int .i64]) (n i : Int) (rg : Ro [.int .i64, .int .i64]) (parts : Dt) (A : List Ed → Prop) (K : Nat → List Ed → Prop) : Prop :=
  Vif (decide (i < n)) (Need (decide ((0 : Int) ≤ i) && decide (i < (↑(ts.xs.length) : Int))) (Need (decide (i.toNat < ts.xs.length)) (Need (decide ((0 : Int) ≤ (cel ts.xs i.toNat (0 : Nat)).int) && decide ((cel ts.xs i.toNat (0 : Nat)).int < (↑(rg.xs.length) : Int))) (Need (decide ((cel ts.xs i.toNat (0 : Nat)).int.toNat < rg.xs.length)) (Ar .i64 ((500 : Int) + (cel rg.xs (cel ts.xs i.toNat (0 : Nat)).int.toNat (0 : Nat)).int) fun z => Ar .i64 (z - (cel ts.xs i.toNat (0+1 : Nat)).int) fun z => Pre True (Ar .i64 ((↑(parts.length) : Int) - (1 : Int)) fun z_1 => Pre ((0 : Int) ≤ Sp.lev z ∧ Sp.lev z ≤ (1000 : Int) ∧ (0 : Int) ≤ z_1 ∧ z_1 < (↑(parts.length) : Int) ∧ parts.length ≤ (7 : Nat) ∧ Sp.PartsIn parts z_1.toNat) (Need (decide ((0 : Int) ≤ (0 : Int)) && decide ((0 : Int) < (↑(List.length (Sp.stepD parts (Sp.lev z) z_1.toNat)) : Int))) (Need (decide (Int.toNat (0 : Int) < List.length (Sp.stepD parts (Sp.lev z) z_1.toNat))) (Ar .i64 ((cel (Sp.stepD parts (Sp.lev z) z_1.toNat) (Int.toNat (0 : Int)) (0 : Nat)).int * Sp.lev z) fun z_2 => Need (decide ((0 : Int) ≤ (0 : Int)) && decide ((0 : Int) < (↑(List.length (Sp.stepD parts (Sp.lev z) z_1.toNat)) : Int))) (Need (decide (Int.toNat (0 : Int) < List.length (Sp.stepD parts (Sp.lev z) z_1.toNat))) (Ar .i64 (i + (1 : Int)) fun z_3 => A [.ro _ ts, .i n, .i z_3, .ro _ rg, .l (List.set (Sp.stepD parts (Sp.lev z) z_1.toNat) (Int.toNat (0 : Int)) [Cl.i z_2])]))))))))))) (K (0 : Nat) [.ro _ rg, .l parts])
theorem vcl_outB (W : InW) (ts n i rg parts A K) : vcTop { cxT Try.prog TT TiB 1000 50 with fn := 75 } 1000 (loopAt Try.prog 75 5) (tmOut 82 [(1, .fn (.func 80) [] [.ptr 4 0]), (5, .rw 6), (20, .rs _ ts), (21, .si .i64 n), (22, .si .i64 i)] [7, 8, 9, 23, 24, 25, 26, 27, 28, 29, 30, 31, 32, 33, 34, 35, 36, 37, 38, 39, 40, 41, 42, 43, 44, 45, 46, 47, 48, 49, 50, 51, 52, 53, 54, 55, 56, 57, 58, 59, 60, 61, 62, 63, 64, 65, 66]) [(4, .blk 37 [.rs _ rg]), (6, .arr 3 [.int .i64] parts)] (roundL lc_outB A K) = VCL_outB ts n i rg parts A K := by kernel_rfl
def okLt_outB : Prop := ∀ (W : InW) (body a : Code), (Try.prog.funcs[75]?).bind (·.body) = some body → a ∈ loopsIn body → keyOf a = 5 → @LoopOk W Try.prog a (@loopRun W lc_outB)
theorem okl_outB (meas : [InW] → List Ed → Nat) (hyp_ : ∀ (W : InW) (ts : Ro [.int .i64, .int .i64]) (n : Int) (i : Int) (rg : Ro [.int .i64, .int .i64]) (parts : Dt) (K : Nat → List Ed → Prop), sp_outB [.ro _ ts, .i n, .i i, .ro _ rg, .l parts] K → ∀ A : List Ed → Prop, (∀ e, meas e < meas [.ro _ ts, .i n, .i i, .ro _ rg, .l parts] → sp_outB e K → A e) → VCL_outB ts n i rg parts A K) : okLt_outB :=
  LE.okOf' (fun W => @TT W) (fun W => @TT_ok W) mixed_ok TiB 1000 50 (by kernel_rfl) lc_outB (fun W => @meas W) fun W ts n i rg parts K hs =>
    (vcl_outB W ts n i rg parts (fun e => meas e < meas [.ro _ ts, .i n, .i i, .ro _ rg, .l parts] ∧ sp_outB e K) K).mpr (hyp_ W ts n i rg parts K hs _ fun e h1 h2 => ⟨h1, h2⟩)
theorem okLoutB : okLt_outB := okl_outB (fun e => match e with | _ :: .i n :: .i i :: _ => (n - i).toNat | _ => 0) fun W ts n i rg parts K hs A hA => by
  obtain ⟨⟨rfl, h0, h1, hT, hF, rfl⟩, hk⟩ := hs
  unfold VCL_outB
  simp only [Nat.zero_add, Nat.reduceAdd, partsD_len]
  have h6 := hT.l6
  refine vifd (fun e => ?_) fun e => ?_
  · have t1 := hT.sk i.toNat (by omega)
    have t2 := hT.lv i.toNat (by omega)
    have t3 := hF (Sp.tSk ts.xs i.toNat).toNat
    have e1 : (i + 1).toNat = i.toNat + 1 := by omega
    have hA' : A [.ro _ ts, .i ts.xs.length, .i (i + 1), .ro _ rg, .l (Sp.partsD (Sp.done ts.xs (Sp.rLo rg.xs) (i.toNat + 1)) ts.xs.length)] := hA _ (by show ((ts.xs.length : Int) - (i + 1)).toNat < ((ts.xs.length : Int) - i).toNat; omega) ⟨⟨rfl, by omega, by omega, hT, hF, by rw [e1]⟩, hk⟩
    have hp := lev_in (500 + Sp.rLo rg.xs (Sp.tSk ts.xs i.toNat).toNat - Sp.tLv ts.xs i.toNat)
    have hq := parts_in (ts := ts.xs) (f := Sp.rLo rg.xs) (i := i.toNat) (n := ts.xs.length) (j := ts.xs.length) (by omega) (Nat.le_refl _)
    have hst := partsD_step (d := Sp.done ts.xs (Sp.rLo rg.xs) i.toNat) (p := Sp.prob ts.xs (Sp.rLo rg.xs) i.toNat) (n := ts.xs.length)
    have hc0 : (cel (Sp.stepD (Sp.partsD (Sp.done ts.xs (Sp.rLo rg.xs) i.toNat) ts.xs.length) (Sp.prob ts.xs (Sp.rLo rg.xs) i.toNat) ts.xs.length) 0 0).int = Sp.cf (Sp.done ts.xs (Sp.rLo rg.xs) i.toNat) 0 := by
      unfold cel
      rw [stepD_at (by rw [partsD_len]; omega), if_neg (by omega)]
      exact partsD_cel (Nat.zero_le _)
    have hc1 := cf_in (done_in ts.xs (Sp.rLo rg.xs) i.toNat) 0
    rw [done_len] at hc1
    have hc2 := pow_le (n := i.toNat) (by omega)
    have hc3 := ar_in hc1.1 (by omega) hp.1 hp.2
    rw [show Sp.done ts.xs (Sp.rLo rg.xs) (i.toNat + 1) = Sp.prob ts.xs (Sp.rLo rg.xs) i.toNat :: Sp.done ts.xs (Sp.rLo rg.xs) i.toNat from rfl, ← hst, hc0] at hA'
    clear hA hk hT hF hst
    unfold Sp.tSk at t1
    unfold Sp.tLv at t2
    unfold Sp.tSk Sp.rLo at t3
    have hP : Sp.lev (500 + (cel rg.xs (cel ts.xs i.toNat 0).int.toNat 0).int - (cel ts.xs i.toNat 1).int) = Sp.prob ts.xs (Sp.rLo rg.xs) i.toNat := rfl
    rw [show Sp.lev (500 + Sp.rLo rg.xs (Sp.tSk ts.xs i.toNat).toNat - Sp.tLv ts.xs i.toNat) = Sp.prob ts.xs (Sp.rLo rg.xs) i.toNat from rfl] at hp hc3
    refine ned (by simp; omega) (nedd (by omega) (ned (by simp; omega) (nedd (by omega) (ar64 (by omega) (ar64 (by omega) ⟨trivial, ?_⟩)))))
    rw [hP, show ((ts.xs.length + 1 : Nat) : Int) - 1 = ts.xs.length by omega]
    refine ar64 (by omega) ?_
    simp only [Int.toNat_natCast, stepD_len, partsD_len, show Int.toNat 0 = 0 from rfl, hc0]
    exact ⟨⟨hp.1, hp.2, by omega, by omega, by omega, hq⟩, ned (by simp) (nedd (by omega) (ar64 (by omega) (ned (by simp) (nedd (by omega) (ar64 (by omega) hA')))))⟩
  · have e0 : i.toNat = ts.xs.length := by omega
    rw [e0]
    exact hk
noncomputable def le_outB : LE Try.prog := ⟨75, 5, fun W => @loopRun W lc_outB, okLoutB⟩
noncomputable def TjB : Tab Try.prog := ⟨[], [le_outB, le_sum], []⟩
def sp_chB [InW] (e : List Ed) (K : Nat → List Ed → Prop) : Prop := match e with
  | [.ro _ ts, .i al, .ro _ rg] => Pre (Sp.TsIn ts.xs rg.xs.length ∧ Sp.FIn (Sp.rLo rg.xs) ∧ 0 ≤ al ∧ al ≤ ts.xs.length) (K 0 [.i (Sp.chance ts.xs al (Sp.rLo rg.xs))])
  | _ => False
noncomputable def cc_chB : CC where
  g := 75
  args := [.agg [.rs [.int .i64, .int .i64], .int .i64], (.fn (.func 80) [] [(.ptr 1 0)])]
  H := [(1, .blk 37 [.rs [.int .i64, .int .i64]])]
  outs := [⟨false, .int .i64, [], true⟩]
  spec := sp_chB
def VCC_chB [W : InW] (ts : Ro [.int .i64, .int .i64]) (al : Int) (rg : Ro [.int .i64, .int .i64]) (K : Nat → List Ed → Prop) : Prop :=
  Ar .i64 ((↑(ts.xs.length) : Int) + (1 : Int)) fun z => Need (decide (z = z) && decide ((0 : Int) ≤ z) && decide ((8 : Nat) * z.toNat ≤ (281474976710656 : Nat))) (Need (decide ((0 : Int) ≤ (0 : Int)) && decide ((0 : Int) < (↑(List.replicate z.toNat (zeroCls [Ty.int IntKind.i64])).length : Int))) (Need (decide (Int.toNat (0 : Int) < (List.replicate z.toNat (zeroCls [Ty.int IntKind.i64])).length)) (Pre ((↑(ts.xs.length) : Int) = (↑(ts.xs.length) : Int) ∧ (0 : Int) ≤ (0 : Int) ∧ (0 : Int) ≤ (↑(ts.xs.length) : Int) ∧ Sp.TsIn ts.xs (rg.xs.length) ∧ Sp.FIn (Sp.rLo rg.xs) ∧ (List.replicate z.toNat (zeroCls [Ty.int IntKind.i64])).set (Int.toNat (0 : Int)) [Cl.i (1 : Int)] = Sp.partsD (Sp.done ts.xs (Sp.rLo rg.xs) (Int.toNat (0 : Int))) (ts.xs.length)) (Ar .i64 (al + (1 : Int)) fun z => Need (decide ((0 : Int) ≤ z)) (Need (decide ((0 : Nat) ≤ z.toNat) && decide (z.toNat ≤ List.length (Sp.partsD (Sp.done ts.xs (Sp.rLo rg.xs) (ts.xs.length)) (ts.xs.length)))) (Pre ((↑(z.toNat - (0 : Nat)) : Int) = (↑(z.toNat - (0 : Nat)) : Int) ∧ (↑(0 : Nat) : Int) = (0 : Int) ∧ (0 : Int) ≤ (0 : Int) ∧ (0 : Int) ≤ (↑(z.toNat - (0 : Nat)) : Int) ∧ (↑(z.toNat - (0 : Nat)) : Int) ≤ (↑(List.length (Sp.partsD (Sp.done ts.xs (Sp.rLo rg.xs) (ts.xs.length)) (ts.xs.length))) : Int) ∧ List.length (Sp.partsD (Sp.done ts.xs (Sp.rLo rg.xs) (ts.xs.length)) (ts.xs.length)) ≤ (7 : Nat) ∧ Sp.NonNeg (Sp.partsD (Sp.done ts.xs (Sp.rLo rg.xs) (ts.xs.length)) (ts.xs.length)) ∧ Sp.SumIn (Sp.partsD (Sp.done ts.xs (Sp.rLo rg.xs) (ts.xs.length)) (ts.xs.length)) (0 : Int) (Int.toNat (0 : Int)) ((↑(z.toNat - (0 : Nat)) : Int) - (0 : Int)).toNat) ([Ed.ro [Ty.int IntKind.i64, Ty.int IntKind.i64] (rsK._proof_1 [Ty.int IntKind.i64, Ty.int IntKind.i64] [Ty.int IntKind.i64, Ty.int IntKind.i64] rfl ▸ rsK._proof_1 [Ty.int IntKind.i64, Ty.int IntKind.i64] [Ty.int IntKind.i64, Ty.int IntKind.i64] rfl ▸ rg)] ++ [] ++ [] = [Ed.ro _ rg] ∧ K (0 : Nat) [Ed.i ((0 : Int) + Sp.sumP (Sp.partsD (Sp.done ts.xs (Sp.rLo rg.xs) (ts.xs.length)) (ts.xs.length)) (Int.toNat (0 : Int)) ((↑(z.toNat - (0 : Nat)) : Int) - (0 : Int)).toNat)])))))))
theorem vcc_chB (W : InW) (ts al rg K) : coreK (cxT Try.prog TT TjB 1000 50) 1000 75 [.agg [.rs _ ts, .si .i64 al], .fn (.func 80) [] [.ptr 1 0]] [(1, .blk 37 [.rs _ rg])] (fun v h => outC cc_chB.H [.ro _ rg] cc_chB.outs 0 false v h K) (fun v h => outC cc_chB.H [.ro _ rg] cc_chB.outs 0 true v h K) = VCC_chB ts al rg K := by kernel_rfl
theorem okc_chB (hyp_ : ∀ (W : InW) (ts : Ro [.int .i64, .int .i64]) (al : Int) (rg : Ro [.int .i64, .int .i64]) (K : Nat → List Ed → Prop), sp_chB [.ro _ ts, .i al, .ro _ rg] K → VCC_chB ts al rg K) : ∀ W : InW, @CallC W Try.prog cc_chB :=
  CC.okOf (fun W => @TT W) (fun W => @TT_ok W) mixed_ok TjB 1000 50 cc_chB fun W ts al rg K hs => (vcc_chB W ts al rg K).mpr (hyp_ W ts al rg K hs)
theorem okCchB : ∀ W : InW, @CallC W Try.prog cc_chB := okc_chB fun W ts al rg K hs => by
  obtain ⟨⟨hT, hF, h0, h1⟩, hk⟩ := hs
  unfold VCC_chB
  have h6 := hT.l6
  have hs := sumP_parts (d := Sp.done ts.xs (Sp.rLo rg.xs) ts.xs.length) (n := ts.xs.length) (al.toNat + 1) 0 (by omega)
  rw [sumC_pass, sumC_pass, passL_neg (a := ((0 : Nat) : Int) - 1) (by omega), Int.sub_zero, show ((0 + (al.toNat + 1) : Nat) : Int) - 1 = al by omega] at hs
  have hb := passL_in (done_in ts.xs (Sp.rLo rg.xs) ts.xs.length) al
  rw [done_len] at hb
  have hb2 := pow_le6 h6
  refine ar64 (by omega) ?_
  simp only [show ((ts.xs.length : Int) + 1).toNat = ts.xs.length + 1 by omega, List.length_replicate, partsD_len, show Int.toNat 0 = 0 from rfl, Nat.sub_zero, Int.sub_zero, Int.toNat_natCast]
  refine ned (by simp; omega) (ned (by simp) (nedd (by omega) ⟨⟨trivial, by omega, by omega, hT, hF, partsD_zero _⟩, ar64 (by omega) (nedd (by omega) ?_)⟩))
  rw [show (al + 1).toNat = al.toNat + 1 by omega, hs]
  refine ned (by simp; omega) ⟨⟨trivial, rfl, by omega, by omega, by omega, by omega, parts_nn, ⟨by omega, by rw [hs]; omega⟩⟩, ⟨rfl, ?_⟩⟩
  rw [Int.zero_add]
  exact hk
noncomputable def TiC : Tab Try.prog := ⟨[pc_lev], [le_inn, le_sum], []⟩
def sp_outC [InW] (e : List Ed) (K : Nat → List Ed → Prop) : Prop := match e with
  | [.ro _ ts, .i n, .i i, .ro _ rg, .l parts] => Pre (n = (ts.xs.length : Int) ∧ 0 ≤ i ∧ i ≤ n ∧ Sp.TsIn ts.xs rg.xs.length ∧ Sp.FIn (Sp.rHi rg.xs) ∧ parts = Sp.partsD (Sp.done ts.xs (Sp.rHi rg.xs) i.toNat) ts.xs.length) (K 0 [.ro _ rg, .l (Sp.partsD (Sp.done ts.xs (Sp.rHi rg.xs) ts.xs.length) ts.xs.length)])
  | _ => False
noncomputable def lc_outC : LC where
  len := 82
  T := [(1, (.fn (.func 81) [] [(.ptr 4 0)])), (5, (.row 6)), (20, .rs [.int .i64, .int .i64]), (21, .int .i64), (22, .int .i64)]
  H := [(4, .blk 37 [.rs [.int .i64, .int .i64]]), (6, .arr 3 [.int .i64])]
  W := [7, 8, 9, 23, 24, 25, 26, 27, 28, 29, 30, 31, 32, 33, 34, 35, 36, 37, 38, 39, 40, 41, 42, 43, 44, 45, 46, 47, 48, 49, 50, 51, 52, 53, 54, 55, 56, 57, 58, 59, 60, 61, 62, 63, 64, 65, 66]
  outs := [⟨.exit 0, [(1, (.fn (.func 81) [] [(.ptr 4 0)])), (5, (.row 12))], [(4, .blk 37 [.rs [.int .i64, .int .i64]]), (12, .arr 3 [.int .i64])], [7, 8, 9, 20, 21, 22, 23, 24, 25, 26, 27, 28, 29, 30, 31, 32, 33, 34, 35, 36, 37, 38, 39, 40, 41, 42, 43, 44, 45, 46, 47, 48, 49, 50, 51, 52, 53, 54, 55, 56, 57, 58, 59, 60, 61, 62, 63, 64, 65, 66]⟩]
  spec := sp_outC
def VCL_outC [W : InW] (ts : Ro [.int .i64, .int .i64]) (n i : Int) (rg : Ro [.int .i64, .int .i64]) (parts : Dt) (A : List Ed → Prop) (K : Nat → List Ed → Prop) : Prop :=
  Vif (decide (i < n)) (Need (decide ((0 : Int) ≤ i) && decide (i < (↑(ts.xs.length) : Int))) (Need (decide (i.toNat < ts.xs.length)) (Need (decide ((0 : Int) ≤ (cel ts.xs i.toNat (0 : Nat)).int) && decide ((cel ts.xs i.toNat (0 : Nat)).int < (↑(rg.xs.length) : Int))) (Need (decide ((cel ts.xs i.toNat (0 : Nat)).int.toNat < rg.xs.length)) (Ar .i64 ((500 : Int) + (cel rg.xs (cel ts.xs i.toNat (0 : Nat)).int.toNat (0+1 : Nat)).int) fun z => Ar .i64 (z - (cel ts.xs i.toNat (0+1 : Nat)).int) fun z => Pre True (Ar .i64 ((↑(parts.length) : Int) - (1 : Int)) fun z_1 => Pre ((0 : Int) ≤ Sp.lev z ∧ Sp.lev z ≤ (1000 : Int) ∧ (0 : Int) ≤ z_1 ∧ z_1 < (↑(parts.length) : Int) ∧ parts.length ≤ (7 : Nat) ∧ Sp.PartsIn parts z_1.toNat) (Need (decide ((0 : Int) ≤ (0 : Int)) && decide ((0 : Int) < (↑(List.length (Sp.stepD parts (Sp.lev z) z_1.toNat)) : Int))) (Need (decide (Int.toNat (0 : Int) < List.length (Sp.stepD parts (Sp.lev z) z_1.toNat))) (Ar .i64 ((cel (Sp.stepD parts (Sp.lev z) z_1.toNat) (Int.toNat (0 : Int)) (0 : Nat)).int * Sp.lev z) fun z_2 => Need (decide ((0 : Int) ≤ (0 : Int)) && decide ((0 : Int) < (↑(List.length (Sp.stepD parts (Sp.lev z) z_1.toNat)) : Int))) (Need (decide (Int.toNat (0 : Int) < List.length (Sp.stepD parts (Sp.lev z) z_1.toNat))) (Ar .i64 (i + (1 : Int)) fun z_3 => A [.ro _ ts, .i n, .i z_3, .ro _ rg, .l (List.set (Sp.stepD parts (Sp.lev z) z_1.toNat) (Int.toNat (0 : Int)) [Cl.i z_2])]))))))))))) (K (0 : Nat) [.ro _ rg, .l parts])
theorem vcl_outC (W : InW) (ts n i rg parts A K) : vcTop { cxT Try.prog TT TiC 1000 50 with fn := 75 } 1000 (loopAt Try.prog 75 5) (tmOut 82 [(1, .fn (.func 81) [] [.ptr 4 0]), (5, .rw 6), (20, .rs _ ts), (21, .si .i64 n), (22, .si .i64 i)] [7, 8, 9, 23, 24, 25, 26, 27, 28, 29, 30, 31, 32, 33, 34, 35, 36, 37, 38, 39, 40, 41, 42, 43, 44, 45, 46, 47, 48, 49, 50, 51, 52, 53, 54, 55, 56, 57, 58, 59, 60, 61, 62, 63, 64, 65, 66]) [(4, .blk 37 [.rs _ rg]), (6, .arr 3 [.int .i64] parts)] (roundL lc_outC A K) = VCL_outC ts n i rg parts A K := by kernel_rfl
def okLt_outC : Prop := ∀ (W : InW) (body a : Code), (Try.prog.funcs[75]?).bind (·.body) = some body → a ∈ loopsIn body → keyOf a = 5 → @LoopOk W Try.prog a (@loopRun W lc_outC)
theorem okl_outC (meas : [InW] → List Ed → Nat) (hyp_ : ∀ (W : InW) (ts : Ro [.int .i64, .int .i64]) (n : Int) (i : Int) (rg : Ro [.int .i64, .int .i64]) (parts : Dt) (K : Nat → List Ed → Prop), sp_outC [.ro _ ts, .i n, .i i, .ro _ rg, .l parts] K → ∀ A : List Ed → Prop, (∀ e, meas e < meas [.ro _ ts, .i n, .i i, .ro _ rg, .l parts] → sp_outC e K → A e) → VCL_outC ts n i rg parts A K) : okLt_outC :=
  LE.okOf' (fun W => @TT W) (fun W => @TT_ok W) mixed_ok TiC 1000 50 (by kernel_rfl) lc_outC (fun W => @meas W) fun W ts n i rg parts K hs =>
    (vcl_outC W ts n i rg parts (fun e => meas e < meas [.ro _ ts, .i n, .i i, .ro _ rg, .l parts] ∧ sp_outC e K) K).mpr (hyp_ W ts n i rg parts K hs _ fun e h1 h2 => ⟨h1, h2⟩)
theorem okLoutC : okLt_outC := okl_outC (fun e => match e with | _ :: .i n :: .i i :: _ => (n - i).toNat | _ => 0) fun W ts n i rg parts K hs A hA => by
  obtain ⟨⟨rfl, h0, h1, hT, hF, rfl⟩, hk⟩ := hs
  unfold VCL_outC
  simp only [Nat.zero_add, Nat.reduceAdd, partsD_len]
  have h6 := hT.l6
  refine vifd (fun e => ?_) fun e => ?_
  · have t1 := hT.sk i.toNat (by omega)
    have t2 := hT.lv i.toNat (by omega)
    have t3 := hF (Sp.tSk ts.xs i.toNat).toNat
    have e1 : (i + 1).toNat = i.toNat + 1 := by omega
    have hA' : A [.ro _ ts, .i ts.xs.length, .i (i + 1), .ro _ rg, .l (Sp.partsD (Sp.done ts.xs (Sp.rHi rg.xs) (i.toNat + 1)) ts.xs.length)] := hA _ (by show ((ts.xs.length : Int) - (i + 1)).toNat < ((ts.xs.length : Int) - i).toNat; omega) ⟨⟨rfl, by omega, by omega, hT, hF, by rw [e1]⟩, hk⟩
    have hp := lev_in (500 + Sp.rHi rg.xs (Sp.tSk ts.xs i.toNat).toNat - Sp.tLv ts.xs i.toNat)
    have hq := parts_in (ts := ts.xs) (f := Sp.rHi rg.xs) (i := i.toNat) (n := ts.xs.length) (j := ts.xs.length) (by omega) (Nat.le_refl _)
    have hst := partsD_step (d := Sp.done ts.xs (Sp.rHi rg.xs) i.toNat) (p := Sp.prob ts.xs (Sp.rHi rg.xs) i.toNat) (n := ts.xs.length)
    have hc0 : (cel (Sp.stepD (Sp.partsD (Sp.done ts.xs (Sp.rHi rg.xs) i.toNat) ts.xs.length) (Sp.prob ts.xs (Sp.rHi rg.xs) i.toNat) ts.xs.length) 0 0).int = Sp.cf (Sp.done ts.xs (Sp.rHi rg.xs) i.toNat) 0 := by
      unfold cel
      rw [stepD_at (by rw [partsD_len]; omega), if_neg (by omega)]
      exact partsD_cel (Nat.zero_le _)
    have hc1 := cf_in (done_in ts.xs (Sp.rHi rg.xs) i.toNat) 0
    rw [done_len] at hc1
    have hc2 := pow_le (n := i.toNat) (by omega)
    have hc3 := ar_in hc1.1 (by omega) hp.1 hp.2
    rw [show Sp.done ts.xs (Sp.rHi rg.xs) (i.toNat + 1) = Sp.prob ts.xs (Sp.rHi rg.xs) i.toNat :: Sp.done ts.xs (Sp.rHi rg.xs) i.toNat from rfl, ← hst, hc0] at hA'
    clear hA hk hT hF hst
    unfold Sp.tSk at t1
    unfold Sp.tLv at t2
    unfold Sp.tSk Sp.rHi at t3
    have hP : Sp.lev (500 + (cel rg.xs (cel ts.xs i.toNat 0).int.toNat 1).int - (cel ts.xs i.toNat 1).int) = Sp.prob ts.xs (Sp.rHi rg.xs) i.toNat := rfl
    rw [show Sp.lev (500 + Sp.rHi rg.xs (Sp.tSk ts.xs i.toNat).toNat - Sp.tLv ts.xs i.toNat) = Sp.prob ts.xs (Sp.rHi rg.xs) i.toNat from rfl] at hp hc3
    refine ned (by simp; omega) (nedd (by omega) (ned (by simp; omega) (nedd (by omega) (ar64 (by omega) (ar64 (by omega) ⟨trivial, ?_⟩)))))
    rw [hP, show ((ts.xs.length + 1 : Nat) : Int) - 1 = ts.xs.length by omega]
    refine ar64 (by omega) ?_
    simp only [Int.toNat_natCast, stepD_len, partsD_len, show Int.toNat 0 = 0 from rfl, hc0]
    exact ⟨⟨hp.1, hp.2, by omega, by omega, by omega, hq⟩, ned (by simp) (nedd (by omega) (ar64 (by omega) (ned (by simp) (nedd (by omega) (ar64 (by omega) hA')))))⟩
  · have e0 : i.toNat = ts.xs.length := by omega
    rw [e0]
    exact hk
noncomputable def le_outC : LE Try.prog := ⟨75, 5, fun W => @loopRun W lc_outC, okLoutC⟩
noncomputable def TjC : Tab Try.prog := ⟨[], [le_outC, le_sum], []⟩
def sp_chC [InW] (e : List Ed) (K : Nat → List Ed → Prop) : Prop := match e with
  | [.ro _ ts, .i al, .ro _ rg] => Pre (Sp.TsIn ts.xs rg.xs.length ∧ Sp.FIn (Sp.rHi rg.xs) ∧ 0 ≤ al ∧ al ≤ ts.xs.length) (K 0 [.i (Sp.chance ts.xs al (Sp.rHi rg.xs))])
  | _ => False
noncomputable def cc_chC : CC where
  g := 75
  args := [.agg [.rs [.int .i64, .int .i64], .int .i64], (.fn (.func 81) [] [(.ptr 1 0)])]
  H := [(1, .blk 37 [.rs [.int .i64, .int .i64]])]
  outs := [⟨false, .int .i64, [], true⟩]
  spec := sp_chC
def VCC_chC [W : InW] (ts : Ro [.int .i64, .int .i64]) (al : Int) (rg : Ro [.int .i64, .int .i64]) (K : Nat → List Ed → Prop) : Prop :=
  Ar .i64 ((↑(ts.xs.length) : Int) + (1 : Int)) fun z => Need (decide (z = z) && decide ((0 : Int) ≤ z) && decide ((8 : Nat) * z.toNat ≤ (281474976710656 : Nat))) (Need (decide ((0 : Int) ≤ (0 : Int)) && decide ((0 : Int) < (↑(List.replicate z.toNat (zeroCls [Ty.int IntKind.i64])).length : Int))) (Need (decide (Int.toNat (0 : Int) < (List.replicate z.toNat (zeroCls [Ty.int IntKind.i64])).length)) (Pre ((↑(ts.xs.length) : Int) = (↑(ts.xs.length) : Int) ∧ (0 : Int) ≤ (0 : Int) ∧ (0 : Int) ≤ (↑(ts.xs.length) : Int) ∧ Sp.TsIn ts.xs (rg.xs.length) ∧ Sp.FIn (Sp.rHi rg.xs) ∧ (List.replicate z.toNat (zeroCls [Ty.int IntKind.i64])).set (Int.toNat (0 : Int)) [Cl.i (1 : Int)] = Sp.partsD (Sp.done ts.xs (Sp.rHi rg.xs) (Int.toNat (0 : Int))) (ts.xs.length)) (Ar .i64 (al + (1 : Int)) fun z => Need (decide ((0 : Int) ≤ z)) (Need (decide ((0 : Nat) ≤ z.toNat) && decide (z.toNat ≤ List.length (Sp.partsD (Sp.done ts.xs (Sp.rHi rg.xs) (ts.xs.length)) (ts.xs.length)))) (Pre ((↑(z.toNat - (0 : Nat)) : Int) = (↑(z.toNat - (0 : Nat)) : Int) ∧ (↑(0 : Nat) : Int) = (0 : Int) ∧ (0 : Int) ≤ (0 : Int) ∧ (0 : Int) ≤ (↑(z.toNat - (0 : Nat)) : Int) ∧ (↑(z.toNat - (0 : Nat)) : Int) ≤ (↑(List.length (Sp.partsD (Sp.done ts.xs (Sp.rHi rg.xs) (ts.xs.length)) (ts.xs.length))) : Int) ∧ List.length (Sp.partsD (Sp.done ts.xs (Sp.rHi rg.xs) (ts.xs.length)) (ts.xs.length)) ≤ (7 : Nat) ∧ Sp.NonNeg (Sp.partsD (Sp.done ts.xs (Sp.rHi rg.xs) (ts.xs.length)) (ts.xs.length)) ∧ Sp.SumIn (Sp.partsD (Sp.done ts.xs (Sp.rHi rg.xs) (ts.xs.length)) (ts.xs.length)) (0 : Int) (Int.toNat (0 : Int)) ((↑(z.toNat - (0 : Nat)) : Int) - (0 : Int)).toNat) ([Ed.ro [Ty.int IntKind.i64, Ty.int IntKind.i64] (rsK._proof_1 [Ty.int IntKind.i64, Ty.int IntKind.i64] [Ty.int IntKind.i64, Ty.int IntKind.i64] rfl ▸ rsK._proof_1 [Ty.int IntKind.i64, Ty.int IntKind.i64] [Ty.int IntKind.i64, Ty.int IntKind.i64] rfl ▸ rg)] ++ [] ++ [] = [Ed.ro _ rg] ∧ K (0 : Nat) [Ed.i ((0 : Int) + Sp.sumP (Sp.partsD (Sp.done ts.xs (Sp.rHi rg.xs) (ts.xs.length)) (ts.xs.length)) (Int.toNat (0 : Int)) ((↑(z.toNat - (0 : Nat)) : Int) - (0 : Int)).toNat)])))))))
theorem vcc_chC (W : InW) (ts al rg K) : coreK (cxT Try.prog TT TjC 1000 50) 1000 75 [.agg [.rs _ ts, .si .i64 al], .fn (.func 81) [] [.ptr 1 0]] [(1, .blk 37 [.rs _ rg])] (fun v h => outC cc_chC.H [.ro _ rg] cc_chC.outs 0 false v h K) (fun v h => outC cc_chC.H [.ro _ rg] cc_chC.outs 0 true v h K) = VCC_chC ts al rg K := by kernel_rfl
theorem okc_chC (hyp_ : ∀ (W : InW) (ts : Ro [.int .i64, .int .i64]) (al : Int) (rg : Ro [.int .i64, .int .i64]) (K : Nat → List Ed → Prop), sp_chC [.ro _ ts, .i al, .ro _ rg] K → VCC_chC ts al rg K) : ∀ W : InW, @CallC W Try.prog cc_chC :=
  CC.okOf (fun W => @TT W) (fun W => @TT_ok W) mixed_ok TjC 1000 50 cc_chC fun W ts al rg K hs => (vcc_chC W ts al rg K).mpr (hyp_ W ts al rg K hs)
theorem okCchC : ∀ W : InW, @CallC W Try.prog cc_chC := okc_chC fun W ts al rg K hs => by
  obtain ⟨⟨hT, hF, h0, h1⟩, hk⟩ := hs
  unfold VCC_chC
  have h6 := hT.l6
  have hs := sumP_parts (d := Sp.done ts.xs (Sp.rHi rg.xs) ts.xs.length) (n := ts.xs.length) (al.toNat + 1) 0 (by omega)
  rw [sumC_pass, sumC_pass, passL_neg (a := ((0 : Nat) : Int) - 1) (by omega), Int.sub_zero, show ((0 + (al.toNat + 1) : Nat) : Int) - 1 = al by omega] at hs
  have hb := passL_in (done_in ts.xs (Sp.rHi rg.xs) ts.xs.length) al
  rw [done_len] at hb
  have hb2 := pow_le6 h6
  refine ar64 (by omega) ?_
  simp only [show ((ts.xs.length : Int) + 1).toNat = ts.xs.length + 1 by omega, List.length_replicate, partsD_len, show Int.toNat 0 = 0 from rfl, Nat.sub_zero, Int.sub_zero, Int.toNat_natCast]
  refine ned (by simp; omega) (ned (by simp) (nedd (by omega) ⟨⟨trivial, by omega, by omega, hT, hF, partsD_zero _⟩, ar64 (by omega) (nedd (by omega) ?_)⟩))
  rw [show (al + 1).toNat = al.toNat + 1 by omega, hs]
  refine ned (by simp; omega) ⟨⟨trivial, rfl, by omega, by omega, by omega, by omega, parts_nn, ⟨by omega, by rw [hs]; omega⟩⟩, ⟨rfl, ?_⟩⟩
  rw [Int.zero_add]
  exact hk
end Go.Proofs.Ytdokbocmgdhmmaa
namespace Go.Proofs.Ytdokbocmgdhmmaa
open Go.RowKit
set_option linter.unusedVariables false
set_option maxRecDepth 100000
set_option maxHeartbeats 1600000
namespace Sp
def pF (ts : Dt) (f : Nat → Int) : Nat → Nat → List Int
  | _, 0 => []
  | i, n + 1 => prob ts f i :: pF ts f (i + 1) n
def readyE (sk is ts : Dt) (al : Int) (rg : Dt) (w : Int) : Int := if strE sk is ts al = 0 then (if rgsE sk.length rg = 0 then (if inr w 0 1000 then 0 else 7) else rgsE sk.length rg) else strE sk is ts al
def readyP (sk is ts : Dt) (al : Int) (rg : Dt) (w : Int) : Int := if readyE sk is ts al rg w = 0 then w * 1000 ^ (ts.length - 1) else 0
def endsD (most : Bool) (rg : Dt) : Dt := rg.map fun r => [.i (if most then (r.getD 1 .z).int else (r.getD 0 .z).int)]
end Sp
abbrev pre_passed (n : Nat) (ds : DS) : Prop := match ds with | [[.l ts, _], [.l lv], [.i fr], [.i a]] => 0 ≤ fr ∧ fr ≤ ts.length ∧ (ts.length : Int) < fr + n ∧ Sp.TsIn ts lv.length ∧ Sp.FIn (Sp.fLv lv) ∧ Sp.Small a | _ => False
abbrev res_passed (ds : DS) : DS := match ds with | [[.l ts, _], [.l lv], [.i fr], [.i a]] => [[.i (Sp.passL (Sp.pF ts (Sp.fLv lv) fr.toNat (ts.length - fr.toNat)) a)]] | _ => []
abbrev at_passed : List AT := [.agg [.sl [.int .i64, .int .i64], .int .i64], .one (.sl [.int .i64]), .one (.int .i64), .one (.int .i64)]
def PassedOk (n : Nat) : Prop := PureOk Try.prog 78 at_passed [(false, [.int .i64])] (pre_passed n) res_passed
noncomputable def Tk (n : Nat) (h : PassedOk n) : Tab Try.prog := ⟨[pc_Within, ⟨78, at_passed, [(false, [.int .i64])], pre_passed n, res_passed, h⟩], [], []⟩
def VC_passed [W : InW] (n : Nat) (t_Tasks : Ro [.int .i64, .int .i64]) (t_Allowed : Int) (lv : Ro [.int .i64]) (fr a : Int) (Q : DS → Prop) : Prop :=
  Vif (decide (a < (0 : Int))) (Q [[Cl.i (0 : Int)]]) (Vif (decide (fr = (↑(t_Tasks.xs.length) : Int))) (Q [[Cl.i (1 : Int)]]) (Need (decide ((0 : Int) ≤ fr) && decide (fr < (↑(t_Tasks.xs.length) : Int))) (Need (decide (fr.toNat < t_Tasks.xs.length)) (Need (decide ((0 : Int) ≤ (cel t_Tasks.xs fr.toNat (0 : Nat)).int) && decide ((cel t_Tasks.xs fr.toNat (0 : Nat)).int < (↑(lv.xs.length) : Int))) (Need (decide ((cel t_Tasks.xs fr.toNat (0 : Nat)).int.toNat < lv.xs.length)) (Ar .i64 ((500 : Int) + (cel lv.xs (cel t_Tasks.xs fr.toNat (0 : Nat)).int.toNat (0 : Nat)).int) fun z => Ar .i64 (z - (cel t_Tasks.xs fr.toNat (0+1 : Nat)).int) fun z => Pre True (Ar .i64 (fr + (1 : Int)) fun z_1 => Pre ((0 : Int) ≤ z_1 ∧ z_1 ≤ (↑(t_Tasks.xs.length) : Int) ∧ (↑(t_Tasks.xs.length) : Int) < z_1 + (↑n : Int) ∧ Sp.TsIn t_Tasks.xs (lv.xs.length) ∧ Sp.FIn (Sp.fLv lv.xs) ∧ Sp.Small a) (Ar .i64 (Sp.lev z * Sp.passL (Sp.pF t_Tasks.xs (Sp.fLv lv.xs) z_1.toNat (t_Tasks.xs.length - z_1.toNat)) a) fun z_2 => Ar .i64 ((1000 : Int) - Sp.lev z) fun z => Ar .i64 (fr + (1 : Int)) fun z_3 => Ar .i64 (a - (1 : Int)) fun z_4 => Pre ((0 : Int) ≤ z_3 ∧ z_3 ≤ (↑(t_Tasks.xs.length) : Int) ∧ (↑(t_Tasks.xs.length) : Int) < z_3 + (↑n : Int) ∧ Sp.TsIn t_Tasks.xs (lv.xs.length) ∧ Sp.FIn (Sp.fLv lv.xs) ∧ Sp.Small z_4) (Ar .i64 (z * Sp.passL (Sp.pF t_Tasks.xs (Sp.fLv lv.xs) z_3.toNat (t_Tasks.xs.length - z_3.toNat)) z_4) fun z => Ar .i64 (z_2 + z) fun z => Q [[Cl.i z]])))))))))
theorem vc_passed (W : InW) (n h t_Tasks t_Allowed lv fr a Q) : bodyK (cxT Try.prog TT (Tk n h) 1000 50) 1000 78 [.agg [.rs _ t_Tasks, .si .i64 t_Allowed], .rs _ lv, .si .i64 fr, .si .i64 a] [] 0 (leafK [(false, [.int .i64])] Q) (fun _ _ _ _ => Stuck 421) = VC_passed n t_Tasks t_Allowed lv fr a Q := by kernel_rfl
abbrev ats_passed : List AT := [.agg [.sl [.int .i64, .int .i64], .int .i64], .one (.sl [.int .i64]), .one (.int .i64), .one (.int .i64)]
theorem ok_passed (n : Nat) (h : PassedOk n) {pre : DS → Prop} {res : DS → DS} (hyp_ : ∀ (W : InW) (t_Tasks : Ro [.int .i64, .int .i64]) (t_Allowed : Int) (lv : Ro [.int .i64]) (fr : Int) (a : Int), pre [[.l t_Tasks.xs, .i t_Allowed], [.l lv.xs], [.i fr], [.i a]] → ∀ Q : DS → Prop, Q (res [[.l t_Tasks.xs, .i t_Allowed], [.l lv.xs], [.i fr], [.i a]]) → VC_passed n t_Tasks t_Allowed lv fr a Q) : PureOk Try.prog 78 ats_passed [(false, [.int .i64])] pre res :=
  PureOk.of' (fun W => @TT W) (fun W => @TT_ok W) mixed_ok (Tk n h) 1000 50 fun W t_Tasks t_Allowed lv fr a hp =>
    (vc_passed W n h t_Tasks t_Allowed lv fr a (fun o => o = res [[.l t_Tasks.xs, .i t_Allowed], [.l lv.xs], [.i fr], [.i a]])).mpr (hyp_ W t_Tasks t_Allowed lv fr a hp _ rfl)
theorem passed_0 : PassedOk 0 := fun W args ds _ hp => by
  exfalso
  unfold pre_passed at hp
  split at hp
  · omega
  · exact hp
theorem pF_in (ts : Dt) (f : Nat → Int) : ∀ n i, Sp.Probs (Sp.pF ts f i n)
  | 0, i => fun p hp => by simp [Sp.pF] at hp
  | n + 1, i => fun p hp => by
    rcases List.mem_cons.1 (show p ∈ Sp.prob ts f i :: Sp.pF ts f (i + 1) n from hp) with rfl | hp
    · exact lev_in _
    · exact pF_in ts f n (i + 1) p hp
theorem pF_len (ts : Dt) (f : Nat → Int) : ∀ n i, (Sp.pF ts f i n).length = n
  | 0, i => rfl
  | n + 1, i => by simp [Sp.pF, pF_len ts f n]
theorem passed_s (n : Nat) (h : PassedOk n) : PassedOk (n + 1) :=
  ok_passed n h fun W ts al lv fr a hp Q hQ => by
    obtain ⟨h0, h1, h2, hT, hF, ha⟩ := hp
    unfold VC_passed
    have h6 := hT.l6
    have ha' := ha
    unfold Sp.Small at ha'
    simp only [res_passed] at hQ
    refine vifd (fun e => ?_) fun e => vifd (fun e2 => ?_) fun e2 => ?_
    · rwa [passL_neg e] at hQ
    · rw [show ts.xs.length - fr.toNat = 0 by omega] at hQ
      unfold Sp.pF Sp.passL at hQ
      rwa [if_neg e] at hQ
    · have t1 := hT.sk fr.toNat (by omega)
      have t2 := hT.lv fr.toNat (by omega)
      have t3 := hF (Sp.tSk ts.xs fr.toNat).toNat
      have e1 : (fr + 1).toNat = fr.toNat + 1 := by omega
      rw [show ts.xs.length - fr.toNat = (ts.xs.length - (fr.toNat + 1)) + 1 by omega] at hQ
      unfold Sp.pF Sp.passL at hQ
      rw [if_neg e] at hQ
      have b1 := passL_in (pF_in ts.xs (Sp.fLv lv.xs) (ts.xs.length - (fr.toNat + 1)) (fr.toNat + 1)) a
      have b2 := passL_in (pF_in ts.xs (Sp.fLv lv.xs) (ts.xs.length - (fr.toNat + 1)) (fr.toNat + 1)) (a - 1)
      rw [pF_len] at b1 b2
      have b3 := pow_le (n := ts.xs.length - (fr.toNat + 1)) (by omega)
      have b4 := lev_in (500 + Sp.fLv lv.xs (Sp.tSk ts.xs fr.toNat).toNat - Sp.tLv ts.xs fr.toNat)
      have hP : Sp.lev (500 + (cel lv.xs (cel ts.xs fr.toNat 0).int.toNat 0).int - (cel ts.xs fr.toNat 1).int) = Sp.prob ts.xs (Sp.fLv lv.xs) fr.toNat := rfl
      rw [show Sp.lev (500 + Sp.fLv lv.xs (Sp.tSk ts.xs fr.toNat).toNat - Sp.tLv ts.xs fr.toNat) = Sp.prob ts.xs (Sp.fLv lv.xs) fr.toNat from rfl] at b4
      unfold Sp.tSk at t1
      unfold Sp.tLv at t2
      unfold Sp.tSk Sp.fLv at t3
      have c1 := ar_in b1.1 (by omega) b4.1 b4.2
      have c2 := ar_in b2.1 (by omega) (show 0 ≤ 1000 - Sp.prob ts.xs (Sp.fLv lv.xs) fr.toNat by omega) (by omega)
      rw [Int.mul_comm] at c1 c2
      simp only [Nat.zero_add, Nat.reduceAdd]
      refine ned (by simp; omega) (nedd (by omega) (ned (by simp; omega) (nedd (by omega) (ar64 (by omega) (ar64 (by omega) ⟨trivial, ?_⟩)))))
      rw [hP]
      refine ar64 (by omega) ⟨⟨by omega, by omega, by omega, hT, hF, ha⟩, ?_⟩
      rw [e1]
      refine ar64 (by omega) (ar64 (by omega) (ar64 (by omega) (ar64 (by omega) ⟨⟨by omega, by omega, by omega, hT, hF, by unfold Sp.Small; omega⟩, ?_⟩)))
      rw [e1]
      exact ar64 (by omega) (ar64 (by omega) hQ)
theorem passed_all : ∀ n, PassedOk n
  | 0 => passed_0
  | n + 1 => passed_s n (passed_all n)
theorem pass_swap (p q : Int) (l : List Int) (a : Int) : Sp.passL (p :: q :: l) a = Sp.passL (q :: p :: l) a := by
  unfold Sp.passL
  by_cases h : a < 0
  · rw [if_pos h, if_pos h]
  · rw [if_neg h, if_neg h]
    unfold Sp.passL
    rw [if_neg h, if_neg h]
    generalize Sp.passL l a = x
    by_cases h1 : a - 1 < 0
    · rw [if_pos h1, if_pos h1]
      rw [passL_neg h1]
      simp only [Int.mul_zero, Int.add_zero]
      rw [← Int.mul_assoc, ← Int.mul_assoc, Int.mul_comm p q]
    · rw [if_neg h1, if_neg h1]
      generalize Sp.passL l (a - 1) = y
      generalize Sp.passL l (a - 1 - 1) = z
      simp only [Int.mul_add, Int.sub_mul, Int.mul_sub]
      rw [Int.mul_left_comm q p x, Int.mul_left_comm q p y, Int.mul_left_comm q p z]
      simp only [Int.mul_left_comm p 1000, Int.mul_left_comm q 1000]
      omega
theorem pass_cons (p : Int) {l m : List Int} (h : ∀ a, Sp.passL l a = Sp.passL m a) (a : Int) : Sp.passL (p :: l) a = Sp.passL (p :: m) a := by
  unfold Sp.passL
  rw [h, h]
theorem pass_perm {l m : List Int} (h : l.Perm m) : ∀ a, Sp.passL l a = Sp.passL m a := by
  induction h with
  | nil => exact fun _ => rfl
  | cons p _ ih => exact pass_cons p ih
  | swap p q l => exact pass_swap q p l
  | trans _ _ h1 h2 => exact fun a => (h1 a).trans (h2 a)
theorem pF_snoc (ts : Dt) (f : Nat → Int) : ∀ n i, Sp.pF ts f i (n + 1) = Sp.pF ts f i n ++ [Sp.prob ts f (i + n)]
  | 0, i => rfl
  | n + 1, i => by
    rw [show Sp.pF ts f i (n + 1 + 1) = Sp.prob ts f i :: Sp.pF ts f (i + 1) (n + 1) from rfl, pF_snoc ts f n (i + 1), show i + 1 + n = i + (n + 1) by omega]
    rfl
theorem done_perm (ts : Dt) (f : Nat → Int) : ∀ n, (Sp.done ts f n).Perm (Sp.pF ts f 0 n)
  | 0 => List.Perm.refl _
  | n + 1 => by
    rw [pF_snoc, Nat.zero_add]
    exact (List.Perm.cons _ (done_perm ts f n)).trans (List.perm_append_singleton _ _).symm
theorem chance_pF (ts : Dt) (al : Int) (f : Nat → Int) : Sp.chance ts al f = Sp.passL (Sp.pF ts f 0 ts.length) al := pass_perm (done_perm ts f _) al
noncomputable def pc_passed : PC Try.prog := ⟨78, at_passed, [(false, [.int .i64])], pre_passed 7, res_passed, passed_all 7⟩
def sp_rgd [InW] (e : List Ed) (K : Nat → List Ed → Prop) : Prop := match e with
  | [.ro _ rg, .i n, .i i] => Pre (n = (rg.xs.length : Int) ∧ 0 ≤ i ∧ i ≤ n) (Vif (decide (Sp.errE (Sp.rgE rg.xs) i.toNat (rg.xs.length - i.toNat) = 0)) (K 0 []) (K 1 [.i (Sp.errE (Sp.rgE rg.xs) i.toNat (rg.xs.length - i.toNat))]))
  | _ => False
noncomputable def lc_rgd : LC where
  len := 26
  T := [(14, .rs [.int .i64, .int .i64]), (15, .int .i64), (16, .int .i64)]
  H := []
  W := [4, 6, 7, 17, 18, 19, 20, 21, 22, 23, 24, 25]
  outs := [⟨.exit 0, [], [], [4, 6, 7, 14, 15, 16, 17, 18, 19, 20, 21, 22, 23, 24, 25]⟩, ⟨.ret, [(4, .int .i64)], [], [6, 7, 14, 15, 16, 17, 18, 19, 20, 21, 22, 23, 24, 25]⟩]
  spec := sp_rgd
def VCL_rgd [W : InW] (rg : Ro [.int .i64, .int .i64]) (n i : Int) (A : List Ed → Prop) (K : Nat → List Ed → Prop) : Prop :=
  Vif (decide (i < n)) (Need (decide ((0 : Int) ≤ i) && decide (i < (↑(rg.xs.length) : Int))) (Need (decide (i.toNat < rg.xs.length)) (Pre True (Vif (!decide (Sp.spanE (cel rg.xs i.toNat (0 : Nat)).int (cel rg.xs i.toNat (0+1 : Nat)).int (0 : Int) (1000 : Int) = (0 : Int))) (K (0+1 : Nat) [.i (Sp.spanE (cel rg.xs i.toNat (0 : Nat)).int (cel rg.xs i.toNat (0+1 : Nat)).int (0 : Int) (1000 : Int))]) (Ar .i64 (i + (1 : Int)) fun z => A [.ro _ rg, .i n, .i z]))))) (K (0 : Nat) [])
theorem vcl_rgd (W : InW) (rg n i A K) : vcTop { cxT Try.prog TT Tf 1000 50 with fn := 96 } 1000 (loopAt Try.prog 96 5) (tmOut 26 [(14, .rs _ rg), (15, .si .i64 n), (16, .si .i64 i)] [4, 6, 7, 17, 18, 19, 20, 21, 22, 23, 24, 25]) [] (roundL lc_rgd A K) = VCL_rgd rg n i A K := by kernel_rfl
def okLt_rgd : Prop := ∀ (W : InW) (body a : Code), (Try.prog.funcs[96]?).bind (·.body) = some body → a ∈ loopsIn body → keyOf a = 5 → @LoopOk W Try.prog a (@loopRun W lc_rgd)
theorem okl_rgd (meas : [InW] → List Ed → Nat) (hyp_ : ∀ (W : InW) (rg : Ro [.int .i64, .int .i64]) (n : Int) (i : Int) (K : Nat → List Ed → Prop), sp_rgd [.ro _ rg, .i n, .i i] K → ∀ A : List Ed → Prop, (∀ e, meas e < meas [.ro _ rg, .i n, .i i] → sp_rgd e K → A e) → VCL_rgd rg n i A K) : okLt_rgd :=
  LE.okOf' (fun W => @TT W) (fun W => @TT_ok W) mixed_ok Tf 1000 50 (by kernel_rfl) lc_rgd (fun W => @meas W) fun W rg n i K hs =>
    (vcl_rgd W rg n i (fun e => meas e < meas [.ro _ rg, .i n, .i i] ∧ sp_rgd e K) K).mpr (hyp_ W rg n i K hs _ fun e h1 h2 => ⟨h1, h2⟩)
def sp_rgr [InW] (e : List Ed) (K : Nat → List Ed → Prop) : Prop := match e with
  | [.ro _ rg, .i i] => Pre (0 ≤ i ∧ i ≤ rg.xs.length) (Vif (decide (Sp.errE (Sp.rgE rg.xs) i.toNat (rg.xs.length - i.toNat) = 0)) (K 0 []) (K 1 [.i (Sp.errE (Sp.rgE rg.xs) i.toNat (rg.xs.length - i.toNat))]))
  | _ => False
noncomputable def lc_rgr : LC where
  len := 27
  T := [(1, .rs [.int .i64, .int .i64]), (5, .int .i64)]
  H := []
  W := [4, 6, 13, 14, 15, 16, 17, 18, 19, 20, 21, 22, 23, 24, 25, 26]
  outs := [⟨.exit 0, [], [], [1, 4, 5, 6, 13, 14, 15, 16, 17, 18, 19, 20, 21, 22, 23, 24, 25, 26]⟩, ⟨.ret, [(4, .int .i64)], [], [1, 5, 6, 13, 14, 15, 16, 17, 18, 19, 20, 21, 22, 23, 24, 25, 26]⟩]
  spec := sp_rgr
def VCL_rgr [W : InW] (rg : Ro [.int .i64, .int .i64]) (i : Int) (A : List Ed → Prop) (K : Nat → List Ed → Prop) : Prop :=
  Vif (decide (i < (↑(rg.xs.length) : Int))) (Need (decide ((0 : Int) ≤ i) && decide (i < (↑(rg.xs.length) : Int))) (Need (decide (i.toNat < rg.xs.length)) (Pre True (Vif (!decide (Sp.spanE (cel rg.xs i.toNat (0 : Nat)).int (cel rg.xs i.toNat (0+1 : Nat)).int (0 : Int) (1000 : Int) = (0 : Int))) (K (0+1 : Nat) [.i (Sp.spanE (cel rg.xs i.toNat (0 : Nat)).int (cel rg.xs i.toNat (0+1 : Nat)).int (0 : Int) (1000 : Int))]) (Ar .i64 (i + (1 : Int)) fun z => A [.ro _ rg, .i z]))))) (K (0 : Nat) [])
theorem vcl_rgr (W : InW) (rg i A K) : vcTop { cxT Try.prog TT Tf 1000 50 with fn := 102 } 1000 (loopAt Try.prog 102 5) (tmOut 27 [(1, .rs _ rg), (5, .si .i64 i)] [4, 6, 13, 14, 15, 16, 17, 18, 19, 20, 21, 22, 23, 24, 25, 26]) [] (roundL lc_rgr A K) = VCL_rgr rg i A K := by kernel_rfl
def okLt_rgr : Prop := ∀ (W : InW) (body a : Code), (Try.prog.funcs[102]?).bind (·.body) = some body → a ∈ loopsIn body → keyOf a = 5 → @LoopOk W Try.prog a (@loopRun W lc_rgr)
theorem okl_rgr (meas : [InW] → List Ed → Nat) (hyp_ : ∀ (W : InW) (rg : Ro [.int .i64, .int .i64]) (i : Int) (K : Nat → List Ed → Prop), sp_rgr [.ro _ rg, .i i] K → ∀ A : List Ed → Prop, (∀ e, meas e < meas [.ro _ rg, .i i] → sp_rgr e K → A e) → VCL_rgr rg i A K) : okLt_rgr :=
  LE.okOf' (fun W => @TT W) (fun W => @TT_ok W) mixed_ok Tf 1000 50 (by kernel_rfl) lc_rgr (fun W => @meas W) fun W rg i K hs =>
    (vcl_rgr W rg i (fun e => meas e < meas [.ro _ rg, .i i] ∧ sp_rgr e K) K).mpr (hyp_ W rg i K hs _ fun e h1 h2 => ⟨h1, h2⟩)
theorem okLrgd : okLt_rgd := okl_rgd (fun e => match e with | _ :: .i n :: .i i :: _ => (n - i).toNat | _ => 0) fun W rg n i K hs A hA => by
  obtain ⟨⟨rfl, h0, h1⟩, hk⟩ := hs
  unfold VCL_rgd
  have hm := rg.len
  simp only [maxLen] at hm
  simp only [Nat.zero_add, Nat.reduceAdd]
  refine vifd (fun e => ?_) fun e => ?_
  · rw [show rg.xs.length - i.toNat = (rg.xs.length - (i.toNat + 1)) + 1 by omega] at hk
    have ez : (i + 1).toNat = i.toNat + 1 := by omega
    have st := errE_step (f := Sp.rgE rg.xs) (i := i.toNat) (n := rg.xs.length - (i.toNat + 1))
    have hE : Sp.spanE (cel rg.xs i.toNat 0).int (cel rg.xs i.toNat 1).int 0 1000 = Sp.rgE rg.xs i.toNat := rfl
    refine ned (by simp; omega) (nedd (by omega) ⟨trivial, ?_⟩)
    rw [hE]
    refine vifn (fun e2 => ?_) fun e2 => ar64 (by omega) (hA _ (by show ((rg.xs.length : Int) - (i + 1)).toNat < ((rg.xs.length : Int) - i).toNat; omega) ⟨⟨rfl, by omega, by omega⟩, by rw [ez, ← st.2 e2]; exact hk⟩)
    rw [st.1 e2] at hk
    exact hk.2 (by simp [e2])
  · rw [show rg.xs.length - i.toNat = 0 by omega] at hk
    exact hk.1 rfl
theorem okLrgr : okLt_rgr := okl_rgr (fun e => match e with | .ro _ rg :: .i i :: _ => (rg.xs.length - i).toNat | _ => 0) fun W rg i K hs A hA => by
  obtain ⟨⟨h0, h1⟩, hk⟩ := hs
  unfold VCL_rgr
  have hm := rg.len
  simp only [maxLen] at hm
  simp only [Nat.zero_add, Nat.reduceAdd]
  refine vifd (fun e => ?_) fun e => ?_
  · rw [show rg.xs.length - i.toNat = (rg.xs.length - (i.toNat + 1)) + 1 by omega] at hk
    have ez : (i + 1).toNat = i.toNat + 1 := by omega
    have st := errE_step (f := Sp.rgE rg.xs) (i := i.toNat) (n := rg.xs.length - (i.toNat + 1))
    have hE : Sp.spanE (cel rg.xs i.toNat 0).int (cel rg.xs i.toNat 1).int 0 1000 = Sp.rgE rg.xs i.toNat := rfl
    refine ned (by simp; omega) (nedd (by omega) ⟨trivial, ?_⟩)
    rw [hE]
    refine vifn (fun e2 => ?_) fun e2 => ar64 (by omega) (hA _ (by show ((rg.xs.length : Int) - (i + 1)).toNat < ((rg.xs.length : Int) - i).toNat; omega) ⟨⟨by omega, by omega⟩, by rw [ez, ← st.2 e2]; exact hk⟩)
    rw [st.1 e2] at hk
    exact hk.2 (by simp [e2])
  · rw [show rg.xs.length - i.toNat = 0 by omega] at hk
    exact hk.1 rfl
noncomputable def le_rgd : LE Try.prog := ⟨96, 5, fun W => @loopRun W lc_rgd, okLrgd⟩
noncomputable def le_rgr : LE Try.prog := ⟨102, 5, fun W => @loopRun W lc_rgr, okLrgr⟩
noncomputable def Tl : Tab Try.prog := ⟨Tf.pcs, [le_rgd, le_rgr], []⟩
def VC_ranged [W : InW] (s_Skills : Ro [.str, .int .i64, .int .i64, .int .i64, .int .i64]) (s_Instrs : Ro [.str, .int .i64, .int .i64]) (rg : Ro [.int .i64, .int .i64]) (Q : DS → Prop) : Prop :=
  Vif (!decide ((↑(rg.xs.length) : Int) = (↑(s_Skills.xs.length) : Int))) (Q [[Cl.i (3 : Int)]]) (Pre ((↑(rg.xs.length) : Int) = (↑(rg.xs.length) : Int) ∧ (0 : Int) ≤ (0 : Int) ∧ (0 : Int) ≤ (↑(rg.xs.length) : Int)) (Vif (decide (Sp.errE (Sp.rgE rg.xs) (Int.toNat (0 : Int)) (rg.xs.length - Int.toNat (0 : Int)) = (0 : Int))) (Q [[Cl.i (0 : Int)]]) (Q [[Cl.i (Sp.errE (Sp.rgE rg.xs) (Int.toNat (0 : Int)) (rg.xs.length - Int.toNat (0 : Int)))]])))
theorem vc_ranged (W : InW) (s_Skills s_Instrs rg Q) : bodyK (cxT Try.prog TT Tl 1000 50) 1000 96 [.agg [.rs _ s_Skills, .rs _ s_Instrs], .rs _ rg] [] 0 (leafK [(false, [.int .i64])] Q) (fun _ _ _ _ => Stuck 421) = VC_ranged s_Skills s_Instrs rg Q := by kernel_rfl
abbrev ats_ranged : List AT := [.agg [.sl [.str, .int .i64, .int .i64, .int .i64, .int .i64], .sl [.str, .int .i64, .int .i64]], .one (.sl [.int .i64, .int .i64])]
theorem ok_ranged {pre : DS → Prop} {res : DS → DS} (hyp_ : ∀ (W : InW) (s_Skills : Ro [.str, .int .i64, .int .i64, .int .i64, .int .i64]) (s_Instrs : Ro [.str, .int .i64, .int .i64]) (rg : Ro [.int .i64, .int .i64]), pre [[.l s_Skills.xs, .l s_Instrs.xs], [.l rg.xs]] → ∀ Q : DS → Prop, Q (res [[.l s_Skills.xs, .l s_Instrs.xs], [.l rg.xs]]) → VC_ranged s_Skills s_Instrs rg Q) : PureOk Try.prog 96 ats_ranged [(false, [.int .i64])] pre res :=
  PureOk.of' (fun W => @TT W) (fun W => @TT_ok W) mixed_ok Tl 1000 50 fun W s_Skills s_Instrs rg hp =>
    (vc_ranged W s_Skills s_Instrs rg (fun o => o = res [[.l s_Skills.xs, .l s_Instrs.xs], [.l rg.xs]])).mpr (hyp_ W s_Skills s_Instrs rg hp _ rfl)
def VC_ranges [W : InW] (s_Skills : Ro [.str, .int .i64, .int .i64, .int .i64, .int .i64]) (s_Instrs : Ro [.str, .int .i64, .int .i64]) (rg : Ro [.int .i64, .int .i64]) (Q : DS → Prop) : Prop :=
  Vif (!decide ((↑(rg.xs.length) : Int) = (↑(s_Skills.xs.length) : Int))) (Q [[Cl.i (3 : Int)]]) (Pre ((0 : Int) ≤ (0 : Int) ∧ (0 : Int) ≤ (↑(rg.xs.length) : Int)) (Vif (decide (Sp.errE (Sp.rgE rg.xs) (Int.toNat (0 : Int)) (rg.xs.length - Int.toNat (0 : Int)) = (0 : Int))) (Q [[Cl.i (0 : Int)]]) (Q [[Cl.i (Sp.errE (Sp.rgE rg.xs) (Int.toNat (0 : Int)) (rg.xs.length - Int.toNat (0 : Int)))]])))
theorem vc_ranges (W : InW) (s_Skills s_Instrs rg Q) : bodyK (cxT Try.prog TT Tl 1000 50) 1000 102 [.agg [.rs _ s_Skills, .rs _ s_Instrs], .rs _ rg] [] 0 (leafK [(false, [.int .i64])] Q) (fun _ _ _ _ => Stuck 421) = VC_ranges s_Skills s_Instrs rg Q := by kernel_rfl
abbrev ats_ranges : List AT := [.agg [.sl [.str, .int .i64, .int .i64, .int .i64, .int .i64], .sl [.str, .int .i64, .int .i64]], .one (.sl [.int .i64, .int .i64])]
theorem ok_ranges {pre : DS → Prop} {res : DS → DS} (hyp_ : ∀ (W : InW) (s_Skills : Ro [.str, .int .i64, .int .i64, .int .i64, .int .i64]) (s_Instrs : Ro [.str, .int .i64, .int .i64]) (rg : Ro [.int .i64, .int .i64]), pre [[.l s_Skills.xs, .l s_Instrs.xs], [.l rg.xs]] → ∀ Q : DS → Prop, Q (res [[.l s_Skills.xs, .l s_Instrs.xs], [.l rg.xs]]) → VC_ranges s_Skills s_Instrs rg Q) : PureOk Try.prog 102 ats_ranges [(false, [.int .i64])] pre res :=
  PureOk.of' (fun W => @TT W) (fun W => @TT_ok W) mixed_ok Tl 1000 50 fun W s_Skills s_Instrs rg hp =>
    (vc_ranges W s_Skills s_Instrs rg (fun o => o = res [[.l s_Skills.xs, .l s_Instrs.xs], [.l rg.xs]])).mpr (hyp_ W s_Skills s_Instrs rg hp _ rfl)
abbrev res_ranged (ds : DS) : DS := match ds with | [[.l sk, _], [.l rg]] => [[.i (Sp.rgsE sk.length rg)]] | _ => []
theorem okranged : PureOk Try.prog 96 ats_ranged [(false, [.int .i64])] (fun _ => True) res_ranged :=
  ok_ranged fun W sk is rg _ Q h => by
    unfold VC_ranged
    simp only [res_ranged, Sp.rgsE] at h
    simp only [show Int.toNat 0 = 0 from rfl, Nat.sub_zero]
    repeat' (first | omega | with_reducible refine vifd (fun _ => ?_) fun _ => ?_ | with_reducible refine vifn (fun _ => ?_) fun _ => ?_ | with_reducible refine vifq (fun _ => ?_) fun _ => ?_ | with_reducible refine vifq0 (fun _ => ?_) fun _ => ?_ | with_reducible refine vifq1 (fun _ => ?_) fun _ => ?_ | with_reducible refine vifb (fun _ => ?_) fun _ => ?_ | with_reducible refine vif (fun _ => ?_) fun _ => ?_ | (with_reducible refine nedd ?_ ?_; omega) | (with_reducible refine ned ?_ ?_; simp only [Bool.and_eq_true, decide_eq_true_eq]; omega) | (with_reducible refine ar64 ?_ ?_; omega) | (with_reducible refine pre_of ?_ ?_; (first | trivial | omega | assumption | (refine ⟨?_, ?_⟩ <;> first | trivial | omega | assumption) | (refine ⟨?_, ?_, ?_⟩ <;> first | trivial | omega | assumption) | (refine ⟨?_, ?_, ?_, ?_⟩ <;> first | trivial | omega | assumption))))
    all_goals ((repeat' split at h) <;> first | exact h | omega | (simp_all; done) | (simp_all; omega))
theorem okranges : PureOk Try.prog 102 ats_ranges [(false, [.int .i64])] (fun _ => True) res_ranged :=
  ok_ranges fun W sk is rg _ Q h => by
    unfold VC_ranges
    simp only [res_ranged, Sp.rgsE] at h
    simp only [show Int.toNat 0 = 0 from rfl, Nat.sub_zero]
    repeat' (first | omega | with_reducible refine vifd (fun _ => ?_) fun _ => ?_ | with_reducible refine vifn (fun _ => ?_) fun _ => ?_ | with_reducible refine vifq (fun _ => ?_) fun _ => ?_ | with_reducible refine vifq0 (fun _ => ?_) fun _ => ?_ | with_reducible refine vifq1 (fun _ => ?_) fun _ => ?_ | with_reducible refine vifb (fun _ => ?_) fun _ => ?_ | with_reducible refine vif (fun _ => ?_) fun _ => ?_ | (with_reducible refine nedd ?_ ?_; omega) | (with_reducible refine ned ?_ ?_; simp only [Bool.and_eq_true, decide_eq_true_eq]; omega) | (with_reducible refine ar64 ?_ ?_; omega) | (with_reducible refine pre_of ?_ ?_; (first | trivial | omega | assumption | (refine ⟨?_, ?_⟩ <;> first | trivial | omega | assumption) | (refine ⟨?_, ?_, ?_⟩ <;> first | trivial | omega | assumption) | (refine ⟨?_, ?_, ?_, ?_⟩ <;> first | trivial | omega | assumption))))
    all_goals ((repeat' split at h) <;> first | exact h | omega | (simp_all; done) | (simp_all; omega))
noncomputable def pc_ranged : PC Try.prog := ⟨96, ats_ranged, [(false, [.int .i64])], fun _ => True, res_ranged, okranged⟩
noncomputable def pc_ranges : PC Try.prog := ⟨102, ats_ranges, [(false, [.int .i64])], fun _ => True, res_ranged, okranges⟩
end Go.Proofs.Ytdokbocmgdhmmaa
namespace Go.Proofs.Ytdokbocmgdhmmaa
open Go.RowKit
set_option linter.unusedVariables false
set_option maxRecDepth 100000
set_option maxHeartbeats 1600000
namespace Sp
structure StrOk (sk is ts : Dt) (al : Int) : Prop where
  sch : SchOk sk is
  t1 : 1 ≤ ts.length
  tin : TsIn ts sk.length
  a0 : 0 ≤ al
  a1 : al < ts.length
def RgOk (rg : Dt) : Prop := ∀ i, i < rg.length → 0 ≤ rLo rg i ∧ rLo rg i ≤ rHi rg i ∧ rHi rg i ≤ 1000
end Sp
theorem fin_z {xs : Dt} {k j : Nat} (h : xs.length ≤ k) : (cel xs k j).int = 0 := by rw [cel_none h]; rfl
theorem fin_lo {rg : Dt} (h : Sp.RgOk rg) : Sp.FIn (Sp.rLo rg) := fun k => by
  by_cases hk : k < rg.length
  · have := h k hk; omega
  · unfold Sp.rLo; rw [fin_z (by omega)]; omega
theorem fin_hi {rg : Dt} (h : Sp.RgOk rg) : Sp.FIn (Sp.rHi rg) := fun k => by
  by_cases hk : k < rg.length
  · have := h k hk; omega
  · unfold Sp.rHi; rw [fin_z (by omega)]; omega
theorem errE_no {f : Nat → Int} {n : Nat} (h : Sp.errE f 0 n = 0) : ∀ k, k < n → f k = 0 := by
  unfold Sp.errE at h
  by_cases e : Sp.hasE f 0 n = true
  · rw [if_pos e] at h; exact absurd h (hasE_at e)
  · exact fun k hk => hasE_no (Bool.not_eq_true _ ▸ e) k (by omega) (by omega)
theorem errE_of {f : Nat → Int} {n : Nat} (h : ∀ k, k < n → f k = 0) : Sp.errE f 0 n = 0 := by
  unfold Sp.errE
  rw [hasE_of fun k _ hk => h k (by omega)]
  rfl
theorem taskE_iff {n : Int} {ts : Dt} {i : Nat} : Sp.taskE n ts i = 0 ↔ (0 ≤ Sp.tSk ts i ∧ Sp.tSk ts i < n) ∧ 0 ≤ Sp.tLv ts i ∧ Sp.tLv ts i ≤ 1000 := by
  unfold Sp.taskE
  by_cases h : Sp.inr (Sp.tSk ts i) 0 (n - 1) = true
  · rw [if_pos h]
    by_cases h2 : Sp.inr (Sp.tLv ts i) 0 1000 = true
    · rw [if_pos h2]; rw [inr_iff] at h h2; omega
    · rw [if_neg h2]; rw [inr_iff] at h h2; omega
  · rw [if_neg h]; rw [inr_iff] at h; omega
theorem str_iff {sk is ts : Dt} {al : Int} : Sp.strE sk is ts al = 0 ↔ Sp.StrOk sk is ts al := by
  unfold Sp.strE
  by_cases h : Sp.chkE sk is = 0
  · rw [if_pos h]
    have hS := chk_iff.1 h
    unfold Sp.testE
    by_cases h2 : Sp.inr ts.length 1 6 = true
    · rw [if_pos h2]
      rw [inr_iff] at h2
      by_cases h3 : Sp.inr al 0 (ts.length - 1) = true
      · rw [if_pos h3]
        rw [inr_iff] at h3
        exact ⟨fun e => ⟨hS, by omega, ⟨by omega, fun i hi => (taskE_iff.1 (errE_no e i hi)).1, fun i hi => (taskE_iff.1 (errE_no e i hi)).2⟩, by omega, by omega⟩, fun e => errE_of fun k hk => taskE_iff.2 ⟨e.tin.sk k hk, e.tin.lv k hk⟩⟩
      · rw [if_neg h3]
        rw [inr_iff] at h3
        exact ⟨fun e => by omega, fun e => by have := e.a0; have := e.a1; omega⟩
    · rw [if_neg h2]
      rw [inr_iff] at h2
      exact ⟨fun e => by omega, fun e => by have := e.t1; have := e.tin.l6; omega⟩
  · rw [if_neg h]
    exact ⟨fun e => absurd e h, fun e => absurd (chk_iff.2 e.sch) h⟩
theorem rgE_iff {rg : Dt} {i : Nat} : Sp.rgE rg i = 0 ↔ 0 ≤ Sp.rLo rg i ∧ Sp.rLo rg i ≤ Sp.rHi rg i ∧ Sp.rHi rg i ≤ 1000 := by
  unfold Sp.rgE Sp.spanE
  rw [show (cel rg i 0).int = Sp.rLo rg i from rfl, show (cel rg i 1).int = Sp.rHi rg i from rfl]
  by_cases h : (Sp.inr (Sp.rLo rg i) 0 1000 && Sp.inr (Sp.rHi rg i) 0 1000) = true
  · rw [if_pos h]
    simp only [Bool.and_eq_true, inr_iff] at h
    split <;> omega
  · rw [if_neg h]
    simp only [Bool.and_eq_true, inr_iff] at h
    omega
theorem rgs_iff {n : Nat} {rg : Dt} : Sp.rgsE n rg = 0 ↔ rg.length = n ∧ Sp.RgOk rg := by
  unfold Sp.rgsE
  by_cases h : (rg.length : Int) = n
  · rw [if_pos h]
    exact ⟨fun e => ⟨by omega, fun i hi => rgE_iff.1 (errE_no e i hi)⟩, fun e => errE_of fun k hk => rgE_iff.2 (e.2 k hk)⟩
  · rw [if_neg h]
    exact ⟨fun e => by omega, fun e => by omega⟩
theorem readyE_iff {sk is ts rg : Dt} {al w : Int} : Sp.readyE sk is ts al rg w = 0 ↔ Sp.StrOk sk is ts al ∧ rg.length = sk.length ∧ Sp.RgOk rg ∧ 0 ≤ w ∧ w ≤ 1000 := by
  unfold Sp.readyE
  by_cases h : Sp.strE sk is ts al = 0
  · rw [if_pos h]
    have hS := str_iff.1 h
    by_cases h2 : Sp.rgsE sk.length rg = 0
    · rw [if_pos h2]
      have hR := rgs_iff.1 h2
      by_cases h3 : Sp.inr w 0 1000 = true
      · rw [if_pos h3]
        exact ⟨fun _ => ⟨hS, hR.1, hR.2, inr_iff.1 h3⟩, fun _ => rfl⟩
      · rw [if_neg h3]
        rw [inr_iff] at h3
        exact ⟨fun e => by omega, fun e => absurd e.2.2.2 h3⟩
    · rw [if_neg h2]
      exact ⟨fun e => absurd e h2, fun e => absurd (rgs_iff.2 ⟨e.2.1, e.2.2.1⟩) h2⟩
  · rw [if_neg h]
    exact ⟨fun e => absurd e h, fun e => absurd (str_iff.2 e.1) h⟩
theorem TsIn.eq {ts : Dt} {n m : Nat} (h : Sp.TsIn ts n) (e : m = n) : Sp.TsIn ts m := e ▸ h
end Go.Proofs.Ytdokbocmgdhmmaa
namespace Go.Proofs.Ytdokbocmgdhmmaa
open Go.RowKit
set_option linter.unusedVariables false
set_option maxRecDepth 100000
set_option maxHeartbeats 1600000
namespace Sp
def isRdy (sk is ts : Dt) (al : Int) (rg : Dt) (w : Int) : Bool := if readyE sk is ts al rg w = 0 then decide (readyP sk is ts al rg w ≤ chance ts al (rLo rg)) else false
def least (sk is ts : Dt) (al : Int) (rg : Dt) (w : Int) : Int := if readyE sk is ts al rg w = 0 then chance ts al (rLo rg) else 0
def most (sk is ts : Dt) (al : Int) (rg : Dt) (w : Int) : Int := if readyE sk is ts al rg w = 0 then chance ts al (rHi rg) else 0
end Sp
noncomputable def To0 : Tab Try.prog := ⟨[pc_in], [], []⟩
def sp_rdy [InW] (e : List Ed) (K : Nat → List Ed → Prop) : Prop := match e with
  | [.i w, .i m, .i i] => Pre (0 ≤ i ∧ i ≤ m ∧ m ≤ 6 ∧ 0 ≤ w ∧ w * 1000 ^ (m - i).toNat ≤ 1000000000000000000) (K 0 [.i (w * 1000 ^ (m - i).toNat)])
  | _ => False
noncomputable def lc_rdy : LC where
  len := 35
  T := [(3, .int .i64), (28, .int .i64), (29, .int .i64)]
  H := []
  W := [30, 31, 32, 33]
  outs := [⟨.exit 0, [(3, .int .i64)], [], [28, 29, 30, 31, 32, 33]⟩]
  spec := sp_rdy
def VCL_rdy [W : InW] (w m i : Int) (A : List Ed → Prop) (K : Nat → List Ed → Prop) : Prop :=
  Vif (decide (i < m)) (Ar .i64 (w * (1000 : Int)) fun z => Ar .i64 (i + (1 : Int)) fun z_1 => A [.i z, .i m, .i z_1]) (K (0 : Nat) [.i w])
theorem vcl_rdy (W : InW) (w m i A K) : vcTop { cxT Try.prog TT To0 1000 50 with fn := 79 } 1000 (loopAt Try.prog 79 11) (tmOut 35 [(3, .si .i64 w), (28, .si .i64 m), (29, .si .i64 i)] [30, 31, 32, 33]) [] (roundL lc_rdy A K) = VCL_rdy w m i A K := by kernel_rfl
def okLt_rdy : Prop := ∀ (W : InW) (body a : Code), (Try.prog.funcs[79]?).bind (·.body) = some body → a ∈ loopsIn body → keyOf a = 11 → @LoopOk W Try.prog a (@loopRun W lc_rdy)
theorem okl_rdy (meas : [InW] → List Ed → Nat) (hyp_ : ∀ (W : InW) (w : Int) (m : Int) (i : Int) (K : Nat → List Ed → Prop), sp_rdy [.i w, .i m, .i i] K → ∀ A : List Ed → Prop, (∀ e, meas e < meas [.i w, .i m, .i i] → sp_rdy e K → A e) → VCL_rdy w m i A K) : okLt_rdy :=
  LE.okOf' (fun W => @TT W) (fun W => @TT_ok W) mixed_ok To0 1000 50 (by kernel_rfl) lc_rdy (fun W => @meas W) fun W w m i K hs =>
    (vcl_rdy W w m i (fun e => meas e < meas [.i w, .i m, .i i] ∧ sp_rdy e K) K).mpr (hyp_ W w m i K hs _ fun e h1 h2 => ⟨h1, h2⟩)
def sp_pow [InW] (e : List Ed) (K : Nat → List Ed → Prop) : Prop := match e with
  | [.i n, .i x, .i i] => Pre (0 ≤ i ∧ i ≤ n ∧ n ≤ 6 ∧ 0 ≤ x ∧ x * 1000 ^ (n - i).toNat ≤ 1000000000000000000) (K 0 [.i (x * 1000 ^ (n - i).toNat)])
  | _ => False
noncomputable def lc_pow : LC where
  len := 13
  T := [(0, .int .i64), (3, .int .i64), (4, .int .i64)]
  H := []
  W := [5, 6, 7, 8, 9, 10, 11]
  outs := [⟨.exit 0, [(3, .int .i64)], [], [0, 4, 5, 6, 7, 8, 9, 10, 11]⟩]
  spec := sp_pow
def VCL_pow [W : InW] (n x i : Int) (A : List Ed → Prop) (K : Nat → List Ed → Prop) : Prop :=
  Vif (decide (i < n)) (Ar .i64 ((1000 : Int) * x) fun z => Ar .i64 (i + (1 : Int)) fun z_1 => A [.i n, .i z, .i z_1]) (K (0 : Nat) [.i x])
theorem vcl_pow (W : InW) (n x i A K) : vcTop { cxT Try.prog TT To0 1000 50 with fn := 49 } 1000 (loopAt Try.prog 49 4) (tmOut 13 [(0, .si .i64 n), (3, .si .i64 x), (4, .si .i64 i)] [5, 6, 7, 8, 9, 10, 11]) [] (roundL lc_pow A K) = VCL_pow n x i A K := by kernel_rfl
def okLt_pow : Prop := ∀ (W : InW) (body a : Code), (Try.prog.funcs[49]?).bind (·.body) = some body → a ∈ loopsIn body → keyOf a = 4 → @LoopOk W Try.prog a (@loopRun W lc_pow)
theorem okl_pow (meas : [InW] → List Ed → Nat) (hyp_ : ∀ (W : InW) (n : Int) (x : Int) (i : Int) (K : Nat → List Ed → Prop), sp_pow [.i n, .i x, .i i] K → ∀ A : List Ed → Prop, (∀ e, meas e < meas [.i n, .i x, .i i] → sp_pow e K → A e) → VCL_pow n x i A K) : okLt_pow :=
  LE.okOf' (fun W => @TT W) (fun W => @TT_ok W) mixed_ok To0 1000 50 (by kernel_rfl) lc_pow (fun W => @meas W) fun W n x i K hs =>
    (vcl_pow W n x i (fun e => meas e < meas [.i n, .i x, .i i] ∧ sp_pow e K) K).mpr (hyp_ W n x i K hs _ fun e h1 h2 => ⟨h1, h2⟩)
def sp_ends [InW] (e : List Ed) (K : Nat → List Ed → Prop) : Prop := match e with
  | [.ro _ rg, .b most, .i i, .l out] => Pre (0 ≤ i ∧ i ≤ rg.xs.length ∧ rg.xs.length ≤ 1000 ∧ out = Sp.endsD most (rg.xs.take i.toNat)) (K 0 [.l (Sp.endsD most rg.xs)])
  | _ => False
noncomputable def lc_ends : LC where
  len := 31
  T := [(0, .rs [.int .i64, .int .i64]), (1, .bool), (5, (.row 6)), (6, .int .i64)]
  H := [(6, .arr 3 [.int .i64])]
  W := [7, 8, 9, 10, 11, 12, 13, 14, 15, 16, 17, 18, 19, 20, 21, 22, 23, 24, 25, 26, 27, 28, 29]
  outs := [⟨.exit 0, [(5, (.row 12))], [(12, .arr 3 [.int .i64])], [0, 1, 6, 7, 8, 9, 10, 11, 12, 13, 14, 15, 16, 17, 18, 19, 20, 21, 22, 23, 24, 25, 26, 27, 28, 29]⟩]
  spec := sp_ends
def VCL_ends [W : InW] (rg : Ro [.int .i64, .int .i64]) (most : Bool) (i : Int) (out : Dt) (A : List Ed → Prop) (K : Nat → List Ed → Prop) : Prop :=
  Vif (decide (i < (↑(rg.xs.length) : Int))) (Vif most (Need (decide ((0 : Int) ≤ i) && decide (i < (↑(rg.xs.length) : Int))) (Need (decide (i.toNat < rg.xs.length)) (Need (decide ((out.length + [[Cl.i (cel rg.xs i.toNat (0+1 : Nat)).int]].length) * (8 : Nat) ≤ (140737488355328 : Nat))) (Ar .i64 (i + (1 : Int)) fun z => A [.ro _ rg, .b most, .i z, .l (out ++ [[Cl.i (cel rg.xs i.toNat (0+1 : Nat)).int]])])))) (Need (decide ((0 : Int) ≤ i) && decide (i < (↑(rg.xs.length) : Int))) (Need (decide (i.toNat < rg.xs.length)) (Need (decide ((out.length + [[Cl.i (cel rg.xs i.toNat (0 : Nat)).int]].length) * (8 : Nat) ≤ (140737488355328 : Nat))) (Ar .i64 (i + (1 : Int)) fun z => A [.ro _ rg, .b most, .i z, .l (out ++ [[Cl.i (cel rg.xs i.toNat (0 : Nat)).int]])]))))) (K (0 : Nat) [.l out])
theorem vcl_ends (W : InW) (rg most i out A K) : vcTop { cxT Try.prog TT To0 1000 50 with fn := 83 } 1000 (loopAt Try.prog 83 4) (tmOut 31 [(0, .rs _ rg), (1, .sb most), (5, .rw 6), (6, .si .i64 i)] [7, 8, 9, 10, 11, 12, 13, 14, 15, 16, 17, 18, 19, 20, 21, 22, 23, 24, 25, 26, 27, 28, 29]) [(6, .arr 3 [.int .i64] out)] (roundL lc_ends A K) = VCL_ends rg most i out A K := by kernel_rfl
def okLt_ends : Prop := ∀ (W : InW) (body a : Code), (Try.prog.funcs[83]?).bind (·.body) = some body → a ∈ loopsIn body → keyOf a = 4 → @LoopOk W Try.prog a (@loopRun W lc_ends)
theorem okl_ends (meas : [InW] → List Ed → Nat) (hyp_ : ∀ (W : InW) (rg : Ro [.int .i64, .int .i64]) (most : Bool) (i : Int) (out : Dt) (K : Nat → List Ed → Prop), sp_ends [.ro _ rg, .b most, .i i, .l out] K → ∀ A : List Ed → Prop, (∀ e, meas e < meas [.ro _ rg, .b most, .i i, .l out] → sp_ends e K → A e) → VCL_ends rg most i out A K) : okLt_ends :=
  LE.okOf' (fun W => @TT W) (fun W => @TT_ok W) mixed_ok To0 1000 50 (by kernel_rfl) lc_ends (fun W => @meas W) fun W rg most i out K hs =>
    (vcl_ends W rg most i out (fun e => meas e < meas [.ro _ rg, .b most, .i i, .l out] ∧ sp_ends e K) K).mpr (hyp_ W rg most i out K hs _ fun e h1 h2 => ⟨h1, h2⟩)
theorem pow_pos (n : Nat) : (1 : Int) ≤ 1000 ^ n := by
  induction n with
  | zero => decide
  | succ n ih => rw [Int.pow_succ]; omega
theorem pow_step {w m : Int} {n : Nat} (h : 0 ≤ w) (hw : w * 1000 ^ (n + 1) ≤ m) : 0 ≤ w * 1000 ∧ w * 1000 ≤ m ∧ w * 1000 ^ (n + 1) = w * 1000 * 1000 ^ n := by
  have e : w * 1000 ^ (n + 1) = w * 1000 * 1000 ^ n := by rw [Int.pow_succ, Int.mul_comm (1000 ^ n), Int.mul_assoc]
  have a := Int.mul_le_mul_of_nonneg_left (pow_pos n) (show 0 ≤ w * 1000 by omega)
  rw [Int.mul_one] at a
  exact ⟨by omega, by omega, e⟩
theorem okLrdy : okLt_rdy := okl_rdy (fun e => match e with | [_, .i m, .i i] => (m - i).toNat | _ => 0) fun W w m i K hs A hA => by
  obtain ⟨⟨h0, h1, h6, h2, h3⟩, hk⟩ := hs
  unfold VCL_rdy
  refine vifd (fun e => ?_) fun e => ?_
  · rw [show (m - i).toNat = (m - (i + 1)).toNat + 1 by omega] at hk h3
    have p := pow_step h2 h3
    rw [p.2.2] at hk h3
    have hA' := hA [.i (w * 1000), .i m, .i (i + 1)] (by show (m - (i + 1)).toNat < (m - i).toNat; omega) ⟨⟨by omega, by omega, h6, p.1, h3⟩, hk⟩
    clear hA hk h3
    repeat' (first | omega | with_reducible refine vifd (fun _ => ?_) fun _ => ?_ | with_reducible refine vifn (fun _ => ?_) fun _ => ?_ | with_reducible refine vifq (fun _ => ?_) fun _ => ?_ | with_reducible refine vifq0 (fun _ => ?_) fun _ => ?_ | with_reducible refine vifq1 (fun _ => ?_) fun _ => ?_ | with_reducible refine vifb (fun _ => ?_) fun _ => ?_ | with_reducible refine vif (fun _ => ?_) fun _ => ?_ | (with_reducible refine nedd ?_ ?_; omega) | (with_reducible refine ned ?_ ?_; simp only [Bool.and_eq_true, decide_eq_true_eq]; omega) | (with_reducible refine ar64 ?_ ?_; omega) | (with_reducible refine pre_of ?_ ?_; (first | trivial | omega | assumption | (refine ⟨?_, ?_⟩ <;> first | trivial | omega | assumption) | (refine ⟨?_, ?_, ?_⟩ <;> first | trivial | omega | assumption) | (refine ⟨?_, ?_, ?_, ?_⟩ <;> first | trivial | omega | assumption))))
    all_goals exact hA'
  · rw [show (m - i).toNat = 0 by omega, Int.pow_zero, Int.mul_one] at hk
    exact hk
theorem okLpow : okLt_pow := okl_pow (fun e => match e with | [.i m, _, .i i] => (m - i).toNat | _ => 0) fun W n x i K hs A hA => by
  obtain ⟨⟨h0, h1, h6, h2, h3⟩, hk⟩ := hs
  unfold VCL_pow
  refine vifd (fun e => ?_) fun e => ?_
  · rw [show (n - i).toNat = (n - (i + 1)).toNat + 1 by omega] at hk h3
    have p := pow_step h2 h3
    rw [p.2.2] at hk h3
    have hA' := hA [.i n, .i (x * 1000), .i (i + 1)] (by show (n - (i + 1)).toNat < (n - i).toNat; omega) ⟨⟨by omega, by omega, h6, p.1, h3⟩, hk⟩
    rw [Int.mul_comm x 1000] at hA' p
    clear hA hk h3
    repeat' (first | omega | with_reducible refine vifd (fun _ => ?_) fun _ => ?_ | with_reducible refine vifn (fun _ => ?_) fun _ => ?_ | with_reducible refine vifq (fun _ => ?_) fun _ => ?_ | with_reducible refine vifq0 (fun _ => ?_) fun _ => ?_ | with_reducible refine vifq1 (fun _ => ?_) fun _ => ?_ | with_reducible refine vifb (fun _ => ?_) fun _ => ?_ | with_reducible refine vif (fun _ => ?_) fun _ => ?_ | (with_reducible refine nedd ?_ ?_; omega) | (with_reducible refine ned ?_ ?_; simp only [Bool.and_eq_true, decide_eq_true_eq]; omega) | (with_reducible refine ar64 ?_ ?_; omega) | (with_reducible refine pre_of ?_ ?_; (first | trivial | omega | assumption | (refine ⟨?_, ?_⟩ <;> first | trivial | omega | assumption) | (refine ⟨?_, ?_, ?_⟩ <;> first | trivial | omega | assumption) | (refine ⟨?_, ?_, ?_, ?_⟩ <;> first | trivial | omega | assumption))))
    all_goals exact hA'
  · rw [show (n - i).toNat = 0 by omega, Int.pow_zero, Int.mul_one] at hk
    exact hk
theorem ends_succ {most : Bool} {rg : Dt} {i : Nat} (h : i < rg.length) : Sp.endsD most (rg.take i) ++ [[.i (if most then (cel rg i 1).int else (cel rg i 0).int)]] = Sp.endsD most (rg.take (i + 1)) := by
  unfold Sp.endsD
  rw [List.take_succ_eq_append_getElem h, List.map_append]
  congr 1
  simp [cel, List.getD_eq_getElem?_getD, List.getElem?_eq_getElem h]
theorem ends_len (most : Bool) (rg : Dt) : (Sp.endsD most rg).length = rg.length := by simp [Sp.endsD]
theorem okLends : okLt_ends := okl_ends (fun e => match e with | .ro _ rg :: _ :: .i i :: _ => (rg.xs.length - i).toNat | _ => 0) fun W rg most i out K hs A hA => by
  obtain ⟨⟨h0, h1, h6, rfl⟩, hk⟩ := hs
  unfold VCL_ends
  have hm := rg.len
  simp only [maxLen] at hm
  refine vifd (fun e => ?_) fun e => ?_
  · have e1 : (i + 1).toNat = i.toNat + 1 := by omega
    have st := ends_succ (most := most) (rg := rg.xs) (i := i.toNat) (by omega)
    have hl := ends_len most (rg.xs.take i.toNat)
    rw [List.length_take] at hl
    have hA' := hA [.ro _ rg, .b most, .i (i + 1), .l (Sp.endsD most (rg.xs.take (i.toNat + 1)))] (by show ((rg.xs.length : Int) - (i + 1)).toNat < ((rg.xs.length : Int) - i).toNat; omega) ⟨⟨by omega, by omega, h6, by rw [e1]⟩, hk⟩
    rw [← st] at hA'
    clear hA hk st
    cases most
    all_goals
      simp only [if_true, if_false, Bool.false_eq_true] at hA'
      simp only [List.length_singleton, hl, Nat.zero_add]
      repeat' (first | omega | with_reducible refine vifd (fun _ => ?_) fun _ => ?_ | with_reducible refine vifn (fun _ => ?_) fun _ => ?_ | with_reducible refine vifq (fun _ => ?_) fun _ => ?_ | with_reducible refine vifq0 (fun _ => ?_) fun _ => ?_ | with_reducible refine vifq1 (fun _ => ?_) fun _ => ?_ | with_reducible refine vifb (fun _ => ?_) fun _ => ?_ | with_reducible refine vif (fun _ => ?_) fun _ => ?_ | (with_reducible refine nedd ?_ ?_; omega) | (with_reducible refine ned ?_ ?_; simp only [Bool.and_eq_true, decide_eq_true_eq]; omega) | (with_reducible refine ar64 ?_ ?_; omega) | (with_reducible refine pre_of ?_ ?_; (first | trivial | omega | assumption | (refine ⟨?_, ?_⟩ <;> first | trivial | omega | assumption) | (refine ⟨?_, ?_, ?_⟩ <;> first | trivial | omega | assumption) | (refine ⟨?_, ?_, ?_, ?_⟩ <;> first | trivial | omega | assumption))))
      all_goals first | exact hA' | contradiction
  · rw [show i.toNat = rg.xs.length by omega, List.take_length]
    exact hk
noncomputable def le_rdy : LE Try.prog := ⟨79, 11, fun W => @loopRun W lc_rdy, okLrdy⟩
noncomputable def le_pow : LE Try.prog := ⟨49, 4, fun W => @loopRun W lc_pow, okLpow⟩
noncomputable def le_ends : LE Try.prog := ⟨83, 4, fun W => @loopRun W lc_ends, okLends⟩
noncomputable def To1 : Tab Try.prog := ⟨[pc_out, pc_strange, pc_ranged], [le_rdy, le_pow, le_ends], []⟩
def VC_ready [W : InW] (s_Skills : Ro [.str, .int .i64, .int .i64, .int .i64, .int .i64]) (s_Instrs : Ro [.str, .int .i64, .int .i64]) (t_Tasks : Ro [.int .i64, .int .i64]) (t_Allowed : Int) (rg : Ro [.int .i64, .int .i64]) (w : Int) (Q : DS → Prop) : Prop :=
  Pre True (Vif (!decide (Sp.strE s_Skills.xs s_Instrs.xs t_Tasks.xs t_Allowed = (0 : Int))) (Q [[Cl.i (0 : Int)], [Cl.i (Sp.strE s_Skills.xs s_Instrs.xs t_Tasks.xs t_Allowed)]]) (Pre True (Vif (!decide (Sp.rgsE (↑(s_Skills.xs.length) : Int) rg.xs = (0 : Int))) (Q [[Cl.i (0 : Int)], [Cl.i (Sp.rgsE (↑(s_Skills.xs.length) : Int) rg.xs)]]) (Pre True (Vif (Sp.out (0 : Int) (1000 : Int) [[Cl.i w]]) (Q [[Cl.i (0 : Int)], [Cl.i (7 : Int)]]) (Need (decide ((1 : Nat) ≤ t_Tasks.xs.length) && decide (t_Tasks.xs.length ≤ t_Tasks.xs.length)) (Pre ((0 : Int) ≤ (0 : Int) ∧ (0 : Int) ≤ (↑(List.drop ((1 : Nat)) (List.take (t_Tasks.xs.length) t_Tasks.xs)).length : Int) ∧ (↑(List.drop ((1 : Nat)) (List.take (t_Tasks.xs.length) t_Tasks.xs)).length : Int) ≤ (6 : Int) ∧ (0 : Int) ≤ w ∧ w * (1000 : Int) ^ ((↑(List.drop ((1 : Nat)) (List.take (t_Tasks.xs.length) t_Tasks.xs)).length : Int) - (0 : Int)).toNat ≤ (1000000000000000000 : Int)) (Q [[Cl.i (w * (1000 : Int) ^ ((↑(List.drop ((1 : Nat)) (List.take (t_Tasks.xs.length) t_Tasks.xs)).length : Int) - (0 : Int)).toNat)], [Cl.i (0 : Int)]]))))))))
theorem vc_ready (W : InW) (s_Skills s_Instrs t_Tasks t_Allowed rg w Q) : bodyK (cxT Try.prog TT To1 1000 50) 1000 79 [.agg [.rs _ s_Skills, .rs _ s_Instrs], .agg [.rs _ t_Tasks, .si .i64 t_Allowed], .rs _ rg, .si .i64 w] [] 0 (leafK [(false, [.int .i64]), (false, [.int .i64])] Q) (fun _ _ _ _ => Stuck 421) = VC_ready s_Skills s_Instrs t_Tasks t_Allowed rg w Q := by kernel_rfl
abbrev ats_ready : List AT := [.agg [.sl [.str, .int .i64, .int .i64, .int .i64, .int .i64], .sl [.str, .int .i64, .int .i64]], .agg [.sl [.int .i64, .int .i64], .int .i64], .one (.sl [.int .i64, .int .i64]), .one (.int .i64)]
theorem ok_ready {pre : DS → Prop} {res : DS → DS} (hyp_ : ∀ (W : InW) (s_Skills : Ro [.str, .int .i64, .int .i64, .int .i64, .int .i64]) (s_Instrs : Ro [.str, .int .i64, .int .i64]) (t_Tasks : Ro [.int .i64, .int .i64]) (t_Allowed : Int) (rg : Ro [.int .i64, .int .i64]) (w : Int), pre [[.l s_Skills.xs, .l s_Instrs.xs], [.l t_Tasks.xs, .i t_Allowed], [.l rg.xs], [.i w]] → ∀ Q : DS → Prop, Q (res [[.l s_Skills.xs, .l s_Instrs.xs], [.l t_Tasks.xs, .i t_Allowed], [.l rg.xs], [.i w]]) → VC_ready s_Skills s_Instrs t_Tasks t_Allowed rg w Q) : PureOk Try.prog 79 ats_ready [(false, [.int .i64]), (false, [.int .i64])] pre res :=
  PureOk.of' (fun W => @TT W) (fun W => @TT_ok W) mixed_ok To1 1000 50 fun W s_Skills s_Instrs t_Tasks t_Allowed rg w hp =>
    (vc_ready W s_Skills s_Instrs t_Tasks t_Allowed rg w (fun o => o = res [[.l s_Skills.xs, .l s_Instrs.xs], [.l t_Tasks.xs, .i t_Allowed], [.l rg.xs], [.i w]])).mpr (hyp_ W s_Skills s_Instrs t_Tasks t_Allowed rg w hp _ rfl)
abbrev res_ready (ds : DS) : DS := match ds with | [[.l sk, .l is], [.l ts, .i al], [.l rg], [.i w]] => [[.i (Sp.readyP sk is ts al rg w)], [.i (Sp.readyE sk is ts al rg w)]] | _ => []
abbrev res_tested (ds : DS) : DS := match ds with | [[.l sk, .l is], [.l ts, .i al], [.l rg], [.i w]] => [[.i (Sp.readyE sk is ts al rg w)]] | _ => []
abbrev pre_tested (ds : DS) : Prop := match ds with | [[.l sk, .l is], _, _, _] => Sp.NamesOk sk ∧ Sp.NamesOk is | _ => False
abbrev pre_Power (ds : DS) : Prop := match ds with | [[.i n]] => 0 ≤ n ∧ n ≤ 6 | _ => False
abbrev res_Power (ds : DS) : DS := match ds with | [[.i n]] => [[.i (1000 ^ n.toNat)]] | _ => []
abbrev pre_ends (ds : DS) : Prop := match ds with | [[.l rg], _] => rg.length ≤ 1000 | _ => False
abbrev res_ends (ds : DS) : DS := match ds with | [[.l rg], [.b most]] => [[.l (Sp.endsD most rg)]] | _ => []
def VC_Power [W : InW] (n : Int) (Q : DS → Prop) : Prop :=
  Pre ((0 : Int) ≤ (0 : Int) ∧ (0 : Int) ≤ n ∧ n ≤ (6 : Int) ∧ (0 : Int) ≤ (1 : Int) ∧ (1 : Int) * (1000 : Int) ^ (n - (0 : Int)).toNat ≤ (1000000000000000000 : Int)) (Q [[Cl.i ((1 : Int) * (1000 : Int) ^ (n - (0 : Int)).toNat)]])
theorem vc_Power (W : InW) (n Q) : bodyK (cxT Try.prog TT To1 1000 50) 1000 49 [.si .i64 n] [] 0 (leafK [(false, [.int .i64])] Q) (fun _ _ _ _ => Stuck 421) = VC_Power n Q := by kernel_rfl
abbrev ats_Power : List AT := [.one (.int .i64)]
theorem ok_Power {pre : DS → Prop} {res : DS → DS} (hyp_ : ∀ (W : InW) (n : Int), pre [[.i n]] → ∀ Q : DS → Prop, Q (res [[.i n]]) → VC_Power n Q) : PureOk Try.prog 49 ats_Power [(false, [.int .i64])] pre res :=
  PureOk.of' (fun W => @TT W) (fun W => @TT_ok W) mixed_ok To1 1000 50 fun W n hp =>
    (vc_Power W n (fun o => o = res [[.i n]])).mpr (hyp_ W n hp _ rfl)
def VC_ends [W : InW] (rg : Ro [.int .i64, .int .i64]) (most : Bool) (Q : DS → Prop) : Prop :=
  Pre ((0 : Int) ≤ (0 : Int) ∧ (0 : Int) ≤ (↑(rg.xs.length) : Int) ∧ rg.xs.length ≤ (1000 : Nat) ∧ [] = Sp.endsD most (List.take (Int.toNat (0 : Int)) rg.xs)) (Q [[Cl.l (Sp.endsD most rg.xs)]])
theorem vc_ends (W : InW) (rg most Q) : bodyK (cxT Try.prog TT To1 1000 50) 1000 83 [.rs _ rg, .sb most] [] 0 (leafK [(false, [.row 3 [.int .i64]])] Q) (fun _ _ _ _ => Stuck 421) = VC_ends rg most Q := by kernel_rfl
abbrev ats_ends : List AT := [.one (.sl [.int .i64, .int .i64]), .one (.bool)]
theorem ok_ends {pre : DS → Prop} {res : DS → DS} (hyp_ : ∀ (W : InW) (rg : Ro [.int .i64, .int .i64]) (most : Bool), pre [[.l rg.xs], [.b most]] → ∀ Q : DS → Prop, Q (res [[.l rg.xs], [.b most]]) → VC_ends rg most Q) : PureOk Try.prog 83 ats_ends [(false, [.row 3 [.int .i64]])] pre res :=
  PureOk.of' (fun W => @TT W) (fun W => @TT_ok W) mixed_ok To1 1000 50 fun W rg most hp =>
    (vc_ends W rg most (fun o => o = res [[.l rg.xs], [.b most]])).mpr (hyp_ W rg most hp _ rfl)
noncomputable def To2 : Tab Try.prog := ⟨[pc_in, pc_Check, pc_test, pc_ranges], [], []⟩
def VC_tested [W : InW] (s_Skills : Ro [.str, .int .i64, .int .i64, .int .i64, .int .i64]) (s_Instrs : Ro [.str, .int .i64, .int .i64]) (t_Tasks : Ro [.int .i64, .int .i64]) (t_Allowed : Int) (rg : Ro [.int .i64, .int .i64]) (w : Int) (Q : DS → Prop) : Prop :=
  Pre (Sp.NamesOk s_Skills.xs ∧ Sp.NamesOk s_Instrs.xs) (Vif (decide (Sp.chkE s_Skills.xs s_Instrs.xs = (0 : Int))) (Pre True (Vif (decide (Sp.testE (↑(s_Skills.xs.length) : Int) t_Tasks.xs t_Allowed = (0 : Int))) (Pre True (Vif (decide (Sp.rgsE (↑(s_Skills.xs.length) : Int) rg.xs = (0 : Int))) (Pre True (Vif (!Sp.inr w (0 : Int) (1000 : Int)) (Q [[Cl.i (7 : Int)]]) (Q [[Cl.i (Sp.rgsE (↑(s_Skills.xs.length) : Int) rg.xs)]]))) (Q [[Cl.i (Sp.rgsE (↑(s_Skills.xs.length) : Int) rg.xs)]]))) (Vif (decide (Sp.testE (↑(s_Skills.xs.length) : Int) t_Tasks.xs t_Allowed = (0 : Int))) (Pre True (Vif (!Sp.inr w (0 : Int) (1000 : Int)) (Q [[Cl.i (7 : Int)]]) (Q [[Cl.i (Sp.testE (↑(s_Skills.xs.length) : Int) t_Tasks.xs t_Allowed)]]))) (Q [[Cl.i (Sp.testE (↑(s_Skills.xs.length) : Int) t_Tasks.xs t_Allowed)]])))) (Vif (decide (Sp.chkE s_Skills.xs s_Instrs.xs = (0 : Int))) (Pre True (Vif (decide (Sp.rgsE (↑(s_Skills.xs.length) : Int) rg.xs = (0 : Int))) (Pre True (Vif (!Sp.inr w (0 : Int) (1000 : Int)) (Q [[Cl.i (7 : Int)]]) (Q [[Cl.i (Sp.rgsE (↑(s_Skills.xs.length) : Int) rg.xs)]]))) (Q [[Cl.i (Sp.rgsE (↑(s_Skills.xs.length) : Int) rg.xs)]]))) (Vif (decide (Sp.chkE s_Skills.xs s_Instrs.xs = (0 : Int))) (Pre True (Vif (!Sp.inr w (0 : Int) (1000 : Int)) (Q [[Cl.i (7 : Int)]]) (Q [[Cl.i (Sp.chkE s_Skills.xs s_Instrs.xs)]]))) (Q [[Cl.i (Sp.chkE s_Skills.xs s_Instrs.xs)]]))))
theorem vc_tested (W : InW) (s_Skills s_Instrs t_Tasks t_Allowed rg w Q) : bodyK (cxT Try.prog TT To2 1000 50) 1000 82 [.agg [.rs _ s_Skills, .rs _ s_Instrs], .agg [.rs _ t_Tasks, .si .i64 t_Allowed], .rs _ rg, .si .i64 w] [] 0 (leafK [(false, [.int .i64])] Q) (fun _ _ _ _ => Stuck 421) = VC_tested s_Skills s_Instrs t_Tasks t_Allowed rg w Q := by kernel_rfl
abbrev ats_tested : List AT := [.agg [.sl [.str, .int .i64, .int .i64, .int .i64, .int .i64], .sl [.str, .int .i64, .int .i64]], .agg [.sl [.int .i64, .int .i64], .int .i64], .one (.sl [.int .i64, .int .i64]), .one (.int .i64)]
theorem ok_tested {pre : DS → Prop} {res : DS → DS} (hyp_ : ∀ (W : InW) (s_Skills : Ro [.str, .int .i64, .int .i64, .int .i64, .int .i64]) (s_Instrs : Ro [.str, .int .i64, .int .i64]) (t_Tasks : Ro [.int .i64, .int .i64]) (t_Allowed : Int) (rg : Ro [.int .i64, .int .i64]) (w : Int), pre [[.l s_Skills.xs, .l s_Instrs.xs], [.l t_Tasks.xs, .i t_Allowed], [.l rg.xs], [.i w]] → ∀ Q : DS → Prop, Q (res [[.l s_Skills.xs, .l s_Instrs.xs], [.l t_Tasks.xs, .i t_Allowed], [.l rg.xs], [.i w]]) → VC_tested s_Skills s_Instrs t_Tasks t_Allowed rg w Q) : PureOk Try.prog 82 ats_tested [(false, [.int .i64])] pre res :=
  PureOk.of' (fun W => @TT W) (fun W => @TT_ok W) mixed_ok To2 1000 50 fun W s_Skills s_Instrs t_Tasks t_Allowed rg w hp =>
    (vc_tested W s_Skills s_Instrs t_Tasks t_Allowed rg w (fun o => o = res [[.l s_Skills.xs, .l s_Instrs.xs], [.l t_Tasks.xs, .i t_Allowed], [.l rg.xs], [.i w]])).mpr (hyp_ W s_Skills s_Instrs t_Tasks t_Allowed rg w hp _ rfl)
theorem okready : PureOk Try.prog 79 ats_ready [(false, [.int .i64]), (false, [.int .i64])] (fun _ => True) res_ready :=
  ok_ready fun W sk is ts al rg w _ Q h => by
    unfold VC_ready
    simp only [res_ready] at h
    have key := Lib.hid (readyE_iff (sk := sk.xs) (is := is.xs) (ts := ts.xs) (al := al) (rg := rg.xs) (w := w))
    refine ⟨trivial, vifn (fun e1 => ?_) fun e1 => ⟨trivial, vifn (fun e2 => ?_) fun e2 => ⟨trivial, vif (fun e3 => ?_) fun e3 => ?_⟩⟩⟩
    · rw [Sp.readyP, Sp.readyE, if_neg e1, if_neg e1] at h; exact h
    · rw [Sp.readyP, Sp.readyE, if_pos e1, if_neg e2, if_neg e2] at h; exact h
    · rw [out1] at e3
      rw [Sp.readyP, Sp.readyE, if_pos e1, if_pos e2, if_neg (show ¬ Sp.inr w 0 1000 = true by rw [notT e3]; decide), if_neg (show ¬ (7 : Int) = 0 by decide)] at h; exact h
    · rw [out1] at e3
      have e : Sp.readyE sk.xs is.xs ts.xs al rg.xs w = 0 := by rw [Sp.readyE, if_pos e1, if_pos e2, if_pos (notF e3)]
      have k := key.out.1 e
      have t1 := k.1.t1
      have l6 := k.1.tin.l6
      have hb := pow_le (n := ts.xs.length - 1) (by omega)
      have hp := pow_pos (ts.xs.length - 1)
      have hm := ar_in (show 0 ≤ (1000 : Int) ^ (ts.xs.length - 1) by omega) hb k.2.2.2.1 k.2.2.2.2
      rw [Int.mul_comm] at hm
      have hl : ((List.drop 1 (List.take ts.xs.length ts.xs)).length : Int) = (ts.xs.length : Int) - 1 := by simp only [List.length_drop, List.length_take]; omega
      rw [hl, show ((ts.xs.length : Int) - 1 - 0).toNat = ts.xs.length - 1 by omega]
      refine ned (by simp only [Bool.and_eq_true, decide_eq_true_eq]; omega) ⟨⟨by omega, by omega, by omega, k.2.2.2.1, hm.2⟩, ?_⟩
      rw [Sp.readyP, e, if_pos rfl] at h
      exact h
theorem okPower : PureOk Try.prog 49 ats_Power [(false, [.int .i64])] pre_Power res_Power :=
  ok_Power fun W n hp Q h => by
    obtain ⟨h0, h1⟩ := hp
    unfold VC_Power
    simp only [res_Power] at h
    rw [Int.sub_zero, Int.one_mul]
    have := pow_le6 (n := n.toNat) (by omega)
    exact ⟨⟨by omega, by omega, by omega, by omega, this⟩, h⟩
theorem okends : PureOk Try.prog 83 ats_ends [(false, [.row 3 [.int .i64]])] pre_ends res_ends :=
  ok_ends fun W rg most hp Q h => by
    unfold VC_ends
    exact ⟨⟨by omega, by omega, hp, rfl⟩, h⟩
theorem oktested : PureOk Try.prog 82 ats_tested [(false, [.int .i64])] pre_tested res_tested :=
  ok_tested fun W sk is ts al rg w hp Q h => by
    unfold VC_tested
    simp only [res_tested] at h
    refine ⟨hp, vifd (fun e1 => ⟨trivial, vifd (fun e2 => ⟨trivial, vifd (fun e3 => ⟨trivial, vifb (fun e4 => ?_) fun e4 => ?_⟩) fun e3 => ?_⟩) fun e2 => vifd (fun e => absurd e e2) fun _ => ?_⟩) fun e1 => vifd (fun e => absurd e e1) fun _ => vifd (fun e => absurd e e1) fun _ => ?_⟩
    · have es : Sp.strE sk.xs is.xs ts.xs al = 0 := by rw [Sp.strE, if_pos e1]; exact e2
      rw [Sp.readyE, if_pos es, if_pos e3, if_neg (show ¬ Sp.inr w 0 1000 = true by rw [e4]; decide)] at h; exact h
    · have es : Sp.strE sk.xs is.xs ts.xs al = 0 := by rw [Sp.strE, if_pos e1]; exact e2
      rw [Sp.readyE, if_pos es, if_pos e3, if_pos e4] at h; rw [e3]; exact h
    · have es : Sp.strE sk.xs is.xs ts.xs al = 0 := by rw [Sp.strE, if_pos e1]; exact e2
      rw [Sp.readyE, if_pos es, if_neg e3] at h; exact h
    · have es : Sp.strE sk.xs is.xs ts.xs al = Sp.testE sk.xs.length ts.xs al := by rw [Sp.strE, if_pos e1]
      rw [Sp.readyE, if_neg (by rw [es]; exact e2), es] at h; exact h
    · have es : Sp.strE sk.xs is.xs ts.xs al = Sp.chkE sk.xs is.xs := by rw [Sp.strE, if_neg e1]
      rw [Sp.readyE, if_neg (by rw [es]; exact e1), es] at h; exact h
noncomputable def pc_ready : PC Try.prog := ⟨79, ats_ready, [(false, [.int .i64]), (false, [.int .i64])], fun _ => True, res_ready, okready⟩
noncomputable def pc_Power : PC Try.prog := ⟨49, ats_Power, [(false, [.int .i64])], pre_Power, res_Power, okPower⟩
noncomputable def pc_ends : PC Try.prog := ⟨83, ats_ends, [(false, [.row 3 [.int .i64]])], pre_ends, res_ends, okends⟩
noncomputable def pc_tested : PC Try.prog := ⟨82, ats_tested, [(false, [.int .i64])], pre_tested, res_tested, oktested⟩
noncomputable def To3 : Tab Try.prog := ⟨[pc_Power], [], []⟩
def VC_enough [W : InW] (t_Tasks : Ro [.int .i64, .int .i64]) (t_Allowed n w : Int) (Q : DS → Prop) : Prop :=
  Ar .i64 ((↑(t_Tasks.xs.length) : Int) - (1 : Int)) fun z => Pre ((0 : Int) ≤ z ∧ z ≤ (6 : Int)) (Ar .i64 (w * (1000 : Int) ^ z.toNat) fun z => Q [[Cl.b (decide (z ≤ n))]])
theorem vc_enough (W : InW) (t_Tasks t_Allowed n w Q) : bodyK (cxT Try.prog TT To3 1000 50) 1000 84 [.agg [.rs _ t_Tasks, .si .i64 t_Allowed], .si .i64 n, .si .i64 w] [] 0 (leafK [(false, [.bool])] Q) (fun _ _ _ _ => Stuck 421) = VC_enough t_Tasks t_Allowed n w Q := by kernel_rfl
abbrev ats_enough : List AT := [.agg [.sl [.int .i64, .int .i64], .int .i64], .one (.int .i64), .one (.int .i64)]
theorem ok_enough {pre : DS → Prop} {res : DS → DS} (hyp_ : ∀ (W : InW) (t_Tasks : Ro [.int .i64, .int .i64]) (t_Allowed : Int) (n : Int) (w : Int), pre [[.l t_Tasks.xs, .i t_Allowed], [.i n], [.i w]] → ∀ Q : DS → Prop, Q (res [[.l t_Tasks.xs, .i t_Allowed], [.i n], [.i w]]) → VC_enough t_Tasks t_Allowed n w Q) : PureOk Try.prog 84 ats_enough [(false, [.bool])] pre res :=
  PureOk.of' (fun W => @TT W) (fun W => @TT_ok W) mixed_ok To3 1000 50 fun W t_Tasks t_Allowed n w hp =>
    (vc_enough W t_Tasks t_Allowed n w (fun o => o = res [[.l t_Tasks.xs, .i t_Allowed], [.i n], [.i w]])).mpr (hyp_ W t_Tasks t_Allowed n w hp _ rfl)
abbrev pre_enough (ds : DS) : Prop := match ds with | [[.l ts, .i al], [.i n], [.i w]] => 1 ≤ ts.length ∧ ts.length ≤ 6 ∧ 0 ≤ w ∧ w ≤ 1000 | _ => False
abbrev res_enough (ds : DS) : DS := match ds with | [[.l ts, .i al], [.i n], [.i w]] => [[.b (decide (w * 1000 ^ (ts.length - 1) ≤ n))]] | _ => []
theorem okenough : PureOk Try.prog 84 ats_enough [(false, [.bool])] pre_enough res_enough :=
  ok_enough fun W ts al n w hp Q h => by
    obtain ⟨h1, h6, h0, h2⟩ := hp
    unfold VC_enough
    simp only [res_enough] at h
    have hb := pow_le (n := ts.xs.length - 1) (by omega)
    have hp := pow_pos (ts.xs.length - 1)
    have hm := ar_in (show 0 ≤ (1000 : Int) ^ (ts.xs.length - 1) by omega) hb h0 h2
    rw [Int.mul_comm] at hm
    refine ar64 (by omega) ⟨⟨by omega, by omega⟩, ?_⟩
    rw [show ((ts.xs.length : Int) - 1).toNat = ts.xs.length - 1 by omega]
    exact ar64 (by omega) h
noncomputable def pc_enough : PC Try.prog := ⟨84, ats_enough, [(false, [.bool])], pre_enough, res_enough, okenough⟩
noncomputable def To4 : Tab Try.prog := ⟨[pc_ready], [], [ceOf cc_chA okCchA, ceOf cc_chB okCchB, ceOf cc_chC okCchC]⟩
def VC_Ready [W : InW] (s_Skills : Ro [.str, .int .i64, .int .i64, .int .i64, .int .i64]) (s_Instrs : Ro [.str, .int .i64, .int .i64]) (t_Tasks : Ro [.int .i64, .int .i64]) (t_Allowed : Int) (rg : Ro [.int .i64, .int .i64]) (w : Int) (Q : DS → Prop) : Prop :=
  Pre True (Vif (!decide (Sp.readyE s_Skills.xs s_Instrs.xs t_Tasks.xs t_Allowed rg.xs w = (0 : Int))) (Q [[Cl.b false], [Cl.i (0 : Int)], [Cl.i (0 : Int)], [Cl.i (Sp.readyE s_Skills.xs s_Instrs.xs t_Tasks.xs t_Allowed rg.xs w)]]) (Pre (Sp.TsIn t_Tasks.xs (rg.xs.length) ∧ Sp.FIn (Sp.rLo rg.xs) ∧ (0 : Int) ≤ t_Allowed ∧ t_Allowed ≤ (↑(t_Tasks.xs.length) : Int)) (Pre (Sp.TsIn t_Tasks.xs (rg.xs.length) ∧ Sp.FIn (Sp.rHi rg.xs) ∧ (0 : Int) ≤ t_Allowed ∧ t_Allowed ≤ (↑(t_Tasks.xs.length) : Int)) (Q [[Cl.b (decide (Sp.readyP s_Skills.xs s_Instrs.xs t_Tasks.xs t_Allowed rg.xs w ≤ Sp.chance t_Tasks.xs t_Allowed (Sp.rLo rg.xs)))], [Cl.i (Sp.chance t_Tasks.xs t_Allowed (Sp.rLo rg.xs))], [Cl.i (Sp.chance t_Tasks.xs t_Allowed (Sp.rHi rg.xs))], [Cl.i (0 : Int)]]))))
theorem vc_Ready (W : InW) (s_Skills s_Instrs t_Tasks t_Allowed rg w Q) : bodyK (cxT Try.prog TT To4 1000 50) 1000 32 [.agg [.rs _ s_Skills, .rs _ s_Instrs], .agg [.rs _ t_Tasks, .si .i64 t_Allowed], .rs _ rg, .si .i64 w] [] 0 (leafK [(false, [.bool]), (false, [.int .i64]), (false, [.int .i64]), (false, [.int .i64])] Q) (fun _ _ _ _ => Stuck 421) = VC_Ready s_Skills s_Instrs t_Tasks t_Allowed rg w Q := by kernel_rfl
abbrev ats_Ready : List AT := [.agg [.sl [.str, .int .i64, .int .i64, .int .i64, .int .i64], .sl [.str, .int .i64, .int .i64]], .agg [.sl [.int .i64, .int .i64], .int .i64], .one (.sl [.int .i64, .int .i64]), .one (.int .i64)]
theorem ok_Ready {pre : DS → Prop} {res : DS → DS} (hyp_ : ∀ (W : InW) (s_Skills : Ro [.str, .int .i64, .int .i64, .int .i64, .int .i64]) (s_Instrs : Ro [.str, .int .i64, .int .i64]) (t_Tasks : Ro [.int .i64, .int .i64]) (t_Allowed : Int) (rg : Ro [.int .i64, .int .i64]) (w : Int), pre [[.l s_Skills.xs, .l s_Instrs.xs], [.l t_Tasks.xs, .i t_Allowed], [.l rg.xs], [.i w]] → ∀ Q : DS → Prop, Q (res [[.l s_Skills.xs, .l s_Instrs.xs], [.l t_Tasks.xs, .i t_Allowed], [.l rg.xs], [.i w]]) → VC_Ready s_Skills s_Instrs t_Tasks t_Allowed rg w Q) : PureOk Try.prog 32 ats_Ready [(false, [.bool]), (false, [.int .i64]), (false, [.int .i64]), (false, [.int .i64])] pre res :=
  PureOk.of' (fun W => @TT W) (fun W => @TT_ok W) mixed_ok To4 1000 50 fun W s_Skills s_Instrs t_Tasks t_Allowed rg w hp =>
    (vc_Ready W s_Skills s_Instrs t_Tasks t_Allowed rg w (fun o => o = res [[.l s_Skills.xs, .l s_Instrs.xs], [.l t_Tasks.xs, .i t_Allowed], [.l rg.xs], [.i w]])).mpr (hyp_ W s_Skills s_Instrs t_Tasks t_Allowed rg w hp _ rfl)
abbrev resR (ds : DS) : DS := match ds with
  | [[.l sk, .l is], [.l ts, .i al], [.l rg], [.i w]] => [[.b (Sp.isRdy sk is ts al rg w)], [.i (Sp.least sk is ts al rg w)], [.i (Sp.most sk is ts al rg w)], [.i (Sp.readyE sk is ts al rg w)]]
  | _ => []
theorem ends_at {m : Bool} {rg : Dt} (k : Nat) : Sp.fLv (Sp.endsD m rg) k = if m then Sp.rHi rg k else Sp.rLo rg k := by
  unfold Sp.fLv Sp.rHi Sp.rLo Sp.endsD cel
  by_cases h : k < rg.length
  · simp [List.getD_eq_getElem?_getD, List.getElem?_eq_getElem h, Cl.int]
  · simp [List.getD_eq_getElem?_getD, List.getElem?_eq_none (Nat.le_of_not_lt h), Cl.int]
theorem ends_lo (rg : Dt) : Sp.fLv (Sp.endsD false rg) = Sp.rLo rg := funext fun k => by rw [ends_at]; rfl
theorem okReady : PureOk Try.prog 32 ats_Ready [(false, [.bool]), (false, [.int .i64]), (false, [.int .i64]), (false, [.int .i64])] (fun _ => True) resR :=
  ok_Ready fun W sk is ts al rg w _ Q h => by
    unfold VC_Ready
    simp only [resR, Sp.isRdy, Sp.least, Sp.most] at h
    refine ⟨trivial, vifn (fun e => ?_) fun e => ?_⟩
    · rw [if_neg e, if_neg e, if_neg e] at h; exact h
    · have k := readyE_iff.1 e
      have a0 := k.1.a0
      have a1 := k.1.a1
      refine ⟨⟨TsIn.eq k.1.tin k.2.1, fin_lo k.2.2.1, a0, by omega⟩, ⟨TsIn.eq k.1.tin k.2.1, fin_hi k.2.2.1, a0, by omega⟩, ?_⟩
      rw [if_pos e, if_pos e, if_pos e, e] at h
      exact h
noncomputable def pc_Ready : PC Try.prog := ⟨32, ats_Ready, [(false, [.bool]), (false, [.int .i64]), (false, [.int .i64]), (false, [.int .i64])], fun _ => True, resR, okReady⟩
end Go.Proofs.Ytdokbocmgdhmmaa
namespace Go.Proofs.Ytdokbocmgdhmmaa
open Go.RowKit
set_option linter.unusedVariables false
set_option maxRecDepth 100000
set_option maxHeartbeats 1600000
end Go.Proofs.Ytdokbocmgdhmmaa
namespace Go.Proofs.Ytdokbocmgdhmmaa
open Go.RowKit
set_option linter.unusedVariables false
theorem need_not [InW] {p : Prop} {_ : Decidable p} {A : Prop} (h : ¬ p) (h2 : A) : Need (!decide p) A := ⟨by simp [h], h2⟩
theorem need_in [InW] {p q : Prop} {_ : Decidable p} {_ : Decidable q} {A : Prop} (h : p ∧ q) (h2 : A) : Need (decide p && decide q) A := ⟨by simp [h.1, h.2], h2⟩
theorem fLv_set {lv : Dt} {k : Nat} {n : Int} (h : k < lv.length) (j : Nat) : Sp.fLv (lv.set k [.i n]) j = if k = j then n else Sp.fLv lv j := by
  unfold Sp.fLv
  rw [cel_set]
  by_cases e : k = j
  · rw [if_pos ⟨e, h⟩, if_pos e]; rfl
  · rw [if_neg (fun x => e x.1), if_neg e]
end Go.Proofs.Ytdokbocmgdhmmaa
namespace Go.Proofs.Ytdokbocmgdhmmaa
open Go.RowKit
set_option linter.unusedVariables false
set_option maxRecDepth 100000
set_option maxHeartbeats 1600000
namespace Sp
def trn (l : Dt) (n : Int) : Int := if l.length = 0 then 0 else (cel l (n.tmod l.length).toNat 0).int
def U16 (l : Dt) : Prop := ∀ i, 0 ≤ (cel l i 0).int ∧ (cel l i 0).int ≤ 65535
end Sp
noncomputable def TB13 : Tab Try.prog := ⟨[], [], []⟩
def VC_turn [W : InW] (l : Ro [.int .u16]) (n : Int) (Q : DS → Prop) : Prop :=
  Vif (decide ((↑(l.xs.length) : Int) = (0 : Int))) (Q [[Cl.i (0 : Int)]]) (Need (!decide ((↑(l.xs.length) : Int) = (0 : Int))) (Need (decide ((0 : Int) ≤ n.tmod (↑(l.xs.length) : Int)) && decide (n.tmod (↑(l.xs.length) : Int) < (↑(l.xs.length) : Int))) (Need (decide ((n.tmod (↑(l.xs.length) : Int)).toNat < l.xs.length)) (Ar .i64 (cel l.xs (n.tmod (↑(l.xs.length) : Int)).toNat (0 : Nat)).int fun z => Q [[Cl.i z]]))))
theorem vc_turn (W : InW) (l n Q) : bodyK (cxT Try.prog TT TB13 1000 50) 1000 48 [.rs _ l, .si .i64 n] [] 0 (leafK [(false, [.int .i64])] Q) (fun _ _ _ _ => Stuck 421) = VC_turn l n Q := by kernel_rfl
abbrev ats_turn : List AT := [.one (.sl [.int .u16]), .one (.int .i64)]
theorem ok_turn {pre : DS → Prop} {res : DS → DS} (hyp_ : ∀ (W : InW) (l : Ro [.int .u16]) (n : Int), pre [[.l l.xs], [.i n]] → ∀ Q : DS → Prop, Q (res [[.l l.xs], [.i n]]) → VC_turn l n Q) : PureOk Try.prog 48 ats_turn [(false, [.int .i64])] pre res :=
  PureOk.of' (fun W => @TT W) (fun W => @TT_ok W) mixed_ok TB13 1000 50 fun W l n hp =>
    (vc_turn W l n (fun o => o = res [[.l l.xs], [.i n]])).mpr (hyp_ W l n hp _ rfl)
abbrev pre_turn (ds : DS) : Prop := match ds with | [[.l l], [.i n]] => 0 ≤ n ∧ n ≤ 1000000000 ∧ Sp.U16 l | _ => False
abbrev res_turn (ds : DS) : DS := match ds with | [[.l l], [.i n]] => [[.i (Sp.trn l n)]] | _ => []
theorem okturn : PureOk Try.prog 48 ats_turn [(false, [.int .i64])] pre_turn res_turn :=
  ok_turn fun W l n hp Q h => by
    obtain ⟨h0, h1, hu⟩ := hp
    unfold VC_turn
    simp only [res_turn, Sp.trn] at h
    refine vifd (fun e => ?_) fun e => ?_
    · rw [if_pos (by omega)] at h; exact h
    · rw [if_neg (by omega)] at h
      have ti := tm_in h0 (show (0 : Int) < l.xs.length by omega)
      have := hu (n.tmod l.xs.length).toNat
      exact need_not (by omega) (need_in (by omega) (nedd (by omega) (ar64 (by omega) h)))
theorem trn_in {l : Dt} (h : Sp.U16 l) (n : Int) : 0 ≤ Sp.trn l n ∧ Sp.trn l n ≤ 65535 := by
  unfold Sp.trn
  split
  · omega
  · exact h _
theorem u16_of {l : Dt} (h : WfC (.sl [.int .u16]) (.l l)) : Sp.U16 l := fun i => by
  by_cases hi : i < l.length
  · have g := h.cell (k := 0) hi rfl
    generalize cel l i 0 = c at g ⊢
    cases g with
    | int _ m hm => simp [Lit.wf, IntKind.min, IntKind.max, IntKind.signed, IntKind.bits] at hm; simp only [Cl.int]; omega
  · rw [fin_z (by omega)]; omega
noncomputable def pc_turn : PC Try.prog := ⟨48, ats_turn, [(false, [.int .i64])], pre_turn, res_turn, okturn⟩
end Go.Proofs.Ytdokbocmgdhmmaa
namespace Go.Proofs.Ytdokbocmgdhmmaa
open Go.RowKit
set_option linter.unusedVariables false
set_option maxRecDepth 100000
set_option maxHeartbeats 1600000
end Go.Proofs.Ytdokbocmgdhmmaa
namespace Go.Proofs.Ytdokbocmgdhmmaa
open Go.RowKit
set_option linter.unusedVariables false
set_option maxRecDepth 100000
set_option maxHeartbeats 1600000
namespace Sp
def evK (ev : Dt) (i : Nat) : Int := (cel ev i 1).int
end Sp
end Go.Proofs.Ytdokbocmgdhmmaa
namespace Go.Proofs.Ytdokbocmgdhmmaa
open Go.RowKit
set_option linter.unusedVariables false
set_option maxRecDepth 100000
set_option maxHeartbeats 1600000
namespace Sp
def sumF (p : Dt) : Nat → Nat → Int
  | _, 0 => 0
  | i, n + 1 => fLv p i + sumF p (i + 1) n
def sumI (p : Dt) : Int := sumF p 0 p.length
structure PlOk (p : Dt) : Prop where
  l5 : p.length ≤ 5
  p8 : ∀ i, 0 ≤ fLv p i ∧ fLv p i ≤ 8
def raLo (sk rg p : Dt) (i : Nat) : Int := lev (rLo rg i + fLv p i * gLo sk i)
def raHi (sk rg p : Dt) (i : Nat) : Int := lev (rHi rg i + fLv p i * gHi sk i)
def raD (sk rg p : Dt) (n : Nat) : Dt := (List.range n).map fun (i : Nat) => [.i (raLo sk rg p i), .i (raHi sk rg p i)]
def nxB : Nat → Dt → Bool
  | 0, _ => false
  | m + 1, p => if fLv p m < 8 then true else nxB m (p.set m [.i 0])
def nxD : Nat → Dt → Dt
  | 0, p => p
  | m + 1, p => if fLv p m < 8 then p.set m [.i (fLv p m + 1)] else nxD m (p.set m [.i 0])
end Sp
noncomputable def Ty0 : Tab Try.prog := ⟨[pc_Within], [], []⟩
def sp_tot [InW] (e : List Ed) (K : Nat → List Ed → Prop) : Prop := match e with
  | [.ro _ p, .i s, .i i] => Pre (0 ≤ i ∧ i ≤ p.xs.length ∧ Sp.PlOk p.xs ∧ 0 ≤ s ∧ s ≤ 8 * i) (K 0 [.i (s + Sp.sumF p.xs i.toNat (p.xs.length - i.toNat))])
  | _ => False
noncomputable def lc_tot : LC where
  len := 18
  T := [(0, .rs [.int .i64]), (3, .int .i64), (4, .int .i64)]
  H := []
  W := [5, 6, 7, 8, 9, 10, 11, 12, 13, 14, 15, 16]
  outs := [⟨.exit 0, [(3, .int .i64)], [], [0, 4, 5, 6, 7, 8, 9, 10, 11, 12, 13, 14, 15, 16]⟩]
  spec := sp_tot
def VCL_tot [W : InW] (p : Ro [.int .i64]) (s i : Int) (A : List Ed → Prop) (K : Nat → List Ed → Prop) : Prop :=
  Vif (decide (i < (↑(p.xs.length) : Int))) (Need (decide ((0 : Int) ≤ i) && decide (i < (↑(p.xs.length) : Int))) (Need (decide (i.toNat < p.xs.length)) (Ar .i64 (s + (cel p.xs i.toNat (0 : Nat)).int) fun z => Ar .i64 (i + (1 : Int)) fun z_1 => A [.ro _ p, .i z, .i z_1]))) (K (0 : Nat) [.i s])
theorem vcl_tot (W : InW) (p s i A K) : vcTop { cxT Try.prog TT Ty0 1000 50 with fn := 88 } 1000 (loopAt Try.prog 88 4) (tmOut 18 [(0, .rs _ p), (3, .si .i64 s), (4, .si .i64 i)] [5, 6, 7, 8, 9, 10, 11, 12, 13, 14, 15, 16]) [] (roundL lc_tot A K) = VCL_tot p s i A K := by kernel_rfl
def okLt_tot : Prop := ∀ (W : InW) (body a : Code), (Try.prog.funcs[88]?).bind (·.body) = some body → a ∈ loopsIn body → keyOf a = 4 → @LoopOk W Try.prog a (@loopRun W lc_tot)
theorem okl_tot (meas : [InW] → List Ed → Nat) (hyp_ : ∀ (W : InW) (p : Ro [.int .i64]) (s : Int) (i : Int) (K : Nat → List Ed → Prop), sp_tot [.ro _ p, .i s, .i i] K → ∀ A : List Ed → Prop, (∀ e, meas e < meas [.ro _ p, .i s, .i i] → sp_tot e K → A e) → VCL_tot p s i A K) : okLt_tot :=
  LE.okOf' (fun W => @TT W) (fun W => @TT_ok W) mixed_ok Ty0 1000 50 (by kernel_rfl) lc_tot (fun W => @meas W) fun W p s i K hs =>
    (vcl_tot W p s i (fun e => meas e < meas [.ro _ p, .i s, .i i] ∧ sp_tot e K) K).mpr (hyp_ W p s i K hs _ fun e h1 h2 => ⟨h1, h2⟩)
def sp_rai [InW] (e : List Ed) (K : Nat → List Ed → Prop) : Prop := match e with
  | [.ro _ rg, .ro _ p, .i i, .ro _ sk, .ro _ is, .l out] => Pre (0 ≤ i ∧ i ≤ rg.xs.length ∧ rg.xs.length = sk.xs.length ∧ p.xs.length = sk.xs.length ∧ Sp.SchOk sk.xs is.xs ∧ Sp.RgOk rg.xs ∧ Sp.PlOk p.xs ∧ out = Sp.raD sk.xs rg.xs p.xs i.toNat) (K 0 [.l (Sp.raD sk.xs rg.xs p.xs rg.xs.length)])
  | _ => False
noncomputable def lc_rai : LC where
  len := 55
  T := [(1, .rs [.int .i64, .int .i64]), (2, .rs [.int .i64]), (3, (.ptr 1 0)), (7, (.row 6)), (8, .int .i64)]
  H := [(1, .blk 25 [.rs [.str, .int .i64, .int .i64, .int .i64, .int .i64], .rs [.str, .int .i64, .int .i64]]), (6, .arr 32 [.int .i64, .int .i64])]
  W := [9, 10, 11, 12, 13, 14, 15, 16, 17, 18, 19, 20, 21, 22, 23, 24, 25, 26, 27, 28, 29, 30, 31, 32, 33, 34, 35, 36, 37, 38, 39, 40, 41, 42, 43, 44, 45, 46, 47, 48, 49, 50, 51, 52, 53]
  outs := [⟨.exit 0, [(7, (.row 12))], [(12, .arr 32 [.int .i64, .int .i64])], [1, 2, 3, 8, 9, 10, 11, 12, 13, 14, 15, 16, 17, 18, 19, 20, 21, 22, 23, 24, 25, 26, 27, 28, 29, 30, 31, 32, 33, 34, 35, 36, 37, 38, 39, 40, 41, 42, 43, 44, 45, 46, 47, 48, 49, 50, 51, 52, 53]⟩]
  spec := sp_rai
def VCL_rai [W : InW] (rg : Ro [.int .i64, .int .i64]) (p : Ro [.int .i64]) (i : Int) (sk : Ro [.str, .int .i64, .int .i64, .int .i64, .int .i64]) (is : Ro [.str, .int .i64, .int .i64]) (out : Dt) (A : List Ed → Prop) (K : Nat → List Ed → Prop) : Prop :=
  Vif (decide (i < (↑(rg.xs.length) : Int))) (Need (decide ((0 : Int) ≤ i) && decide (i < (↑(sk.xs.length) : Int))) (Need (decide (i.toNat < sk.xs.length)) (Need (decide ((0 : Int) ≤ i) && decide (i < (↑(rg.xs.length) : Int))) (Need (decide (i.toNat < rg.xs.length)) (Need (decide ((0 : Int) ≤ i) && decide (i < (↑(p.xs.length) : Int))) (Need (decide (i.toNat < p.xs.length)) (Ar .i64 ((cel p.xs i.toNat (0 : Nat)).int * (cel sk.xs i.toNat (0+1 : Nat)).int) fun z => Ar .i64 ((cel rg.xs i.toNat (0 : Nat)).int + z) fun z => Pre True (Need (decide ((0 : Int) ≤ i) && decide (i < (↑(rg.xs.length) : Int))) (Need (decide (i.toNat < rg.xs.length)) (Need (decide ((0 : Int) ≤ i) && decide (i < (↑(p.xs.length) : Int))) (Need (decide (i.toNat < p.xs.length)) (Ar .i64 ((cel p.xs i.toNat (0 : Nat)).int * (cel sk.xs i.toNat (0+1+1 : Nat)).int) fun z_1 => Ar .i64 ((cel rg.xs i.toNat (0+1 : Nat)).int + z_1) fun z_2 => Pre True (Need (decide ((out.length + [[Cl.i (Sp.lev z), Cl.i (Sp.lev z_2)]].length) * (16 : Nat) ≤ (140737488355328 : Nat))) (Ar .i64 (i + (1 : Int)) fun z_3 => A [.ro _ rg, .ro _ p, .i z_3, .ro _ sk, .ro _ is, .l (out ++ [[Cl.i (Sp.lev z), Cl.i (Sp.lev z_2)]])])))))))))))))) (K (0 : Nat) [.l out])
theorem vcl_rai (W : InW) (rg p i sk is out A K) : vcTop { cxT Try.prog TT Ty0 1000 50 with fn := 50 } 1000 (loopAt Try.prog 50 4) (tmOut 55 [(1, .rs _ rg), (2, .rs _ p), (3, .ptr 1 0), (7, .rw 6), (8, .si .i64 i)] [9, 10, 11, 12, 13, 14, 15, 16, 17, 18, 19, 20, 21, 22, 23, 24, 25, 26, 27, 28, 29, 30, 31, 32, 33, 34, 35, 36, 37, 38, 39, 40, 41, 42, 43, 44, 45, 46, 47, 48, 49, 50, 51, 52, 53]) [(1, .blk 25 [.rs _ sk, .rs _ is]), (6, .arr 32 [.int .i64, .int .i64] out)] (roundL lc_rai A K) = VCL_rai rg p i sk is out A K := by kernel_rfl
def okLt_rai : Prop := ∀ (W : InW) (body a : Code), (Try.prog.funcs[50]?).bind (·.body) = some body → a ∈ loopsIn body → keyOf a = 4 → @LoopOk W Try.prog a (@loopRun W lc_rai)
theorem okl_rai (meas : [InW] → List Ed → Nat) (hyp_ : ∀ (W : InW) (rg : Ro [.int .i64, .int .i64]) (p : Ro [.int .i64]) (i : Int) (sk : Ro [.str, .int .i64, .int .i64, .int .i64, .int .i64]) (is : Ro [.str, .int .i64, .int .i64]) (out : Dt) (K : Nat → List Ed → Prop), sp_rai [.ro _ rg, .ro _ p, .i i, .ro _ sk, .ro _ is, .l out] K → ∀ A : List Ed → Prop, (∀ e, meas e < meas [.ro _ rg, .ro _ p, .i i, .ro _ sk, .ro _ is, .l out] → sp_rai e K → A e) → VCL_rai rg p i sk is out A K) : okLt_rai :=
  LE.okOf' (fun W => @TT W) (fun W => @TT_ok W) mixed_ok Ty0 1000 50 (by kernel_rfl) lc_rai (fun W => @meas W) fun W rg p i sk is out K hs =>
    (vcl_rai W rg p i sk is out (fun e => meas e < meas [.ro _ rg, .ro _ p, .i i, .ro _ sk, .ro _ is, .l out] ∧ sp_rai e K) K).mpr (hyp_ W rg p i sk is out K hs _ fun e h1 h2 => ⟨h1, h2⟩)
def sp_nxl [InW] (e : List Ed) (K : Nat → List Ed → Prop) : Prop := match e with
  | [.i i, .l p] => Pre (-1 ≤ i ∧ i < p.length ∧ Sp.PlOk p) (Vif (Sp.nxB (i + 1).toNat p) (K 1 [.l (Sp.nxD (i + 1).toNat p)]) (K 0 []))
  | _ => False
noncomputable def lc_nxl : LC where
  len := 30
  T := [(3, (.row 6)), (4, .int .i64)]
  H := [(6, .arr 3 [.int .i64])]
  W := [2, 11, 12, 13, 14, 15, 16, 17, 18, 19, 20, 21, 22, 23, 24, 25, 26, 27, 28, 29]
  outs := [⟨.exit 0, [], [], [2, 3, 4, 11, 12, 13, 14, 15, 16, 17, 18, 19, 20, 21, 22, 23, 24, 25, 26, 27, 28, 29]⟩, ⟨.ret, [(2, (.row 12))], [(12, .arr 3 [.int .i64])], [3, 4, 11, 12, 13, 14, 15, 16, 17, 18, 19, 20, 21, 22, 23, 24, 25, 26, 27, 28, 29]⟩]
  spec := sp_nxl
def VCL_nxl [W : InW] (i : Int) (p : Dt) (A : List Ed → Prop) (K : Nat → List Ed → Prop) : Prop :=
  Vif (decide ((0 : Int) ≤ i)) (Need (decide ((0 : Int) ≤ i) && decide (i < (↑(p.length) : Int))) (Need (decide (i.toNat < p.length)) (Vif (decide ((cel p i.toNat (0 : Nat)).int < (8 : Int))) (Need (decide ((0 : Int) ≤ i) && decide (i < (↑(p.length) : Int))) (Need (decide (i.toNat < p.length)) (Ar .i64 ((cel p i.toNat (0 : Nat)).int + (1 : Int)) fun z => Need (decide ((0 : Int) ≤ i) && decide (i < (↑(p.length) : Int))) (Need (decide (i.toNat < p.length)) (K (0+1 : Nat) [.l (List.set p i.toNat [Cl.i z])]))))) (Need (decide ((0 : Int) ≤ i) && decide (i < (↑(p.length) : Int))) (Need (decide (i.toNat < p.length)) (Ar .i64 (i - (1 : Int)) fun z => A [.i z, .l (List.set p i.toNat [Cl.i (0 : Int)])])))))) (K (0 : Nat) [])
theorem vcl_nxl (W : InW) (i p A K) : vcTop { cxT Try.prog TT Ty0 1000 50 with fn := 87 } 1000 (loopAt Try.prog 87 4) (tmOut 30 [(3, .rw 6), (4, .si .i64 i)] [2, 11, 12, 13, 14, 15, 16, 17, 18, 19, 20, 21, 22, 23, 24, 25, 26, 27, 28, 29]) [(6, .arr 3 [.int .i64] p)] (roundL lc_nxl A K) = VCL_nxl i p A K := by kernel_rfl
def okLt_nxl : Prop := ∀ (W : InW) (body a : Code), (Try.prog.funcs[87]?).bind (·.body) = some body → a ∈ loopsIn body → keyOf a = 4 → @LoopOk W Try.prog a (@loopRun W lc_nxl)
theorem okl_nxl (meas : [InW] → List Ed → Nat) (hyp_ : ∀ (W : InW) (i : Int) (p : Dt) (K : Nat → List Ed → Prop), sp_nxl [.i i, .l p] K → ∀ A : List Ed → Prop, (∀ e, meas e < meas [.i i, .l p] → sp_nxl e K → A e) → VCL_nxl i p A K) : okLt_nxl :=
  LE.okOf' (fun W => @TT W) (fun W => @TT_ok W) mixed_ok Ty0 1000 50 (by kernel_rfl) lc_nxl (fun W => @meas W) fun W i p K hs =>
    (vcl_nxl W i p (fun e => meas e < meas [.i i, .l p] ∧ sp_nxl e K) K).mpr (hyp_ W i p K hs _ fun e h1 h2 => ⟨h1, h2⟩)
theorem okLtot : okLt_tot := okl_tot (fun e => match e with | .ro _ p :: _ :: .i i :: _ => (p.xs.length - i).toNat | _ => 0) fun W p s i K hs A hA => by
  obtain ⟨⟨h0, h1, hP, s0, s1⟩, hk⟩ := hs
  unfold VCL_tot
  have l5 := hP.l5
  have p8 := hP.p8 i.toNat
  refine vifd (fun e => ?_) fun e => ?_
  · have e1 : (i + 1).toNat = i.toNat + 1 := by omega
    rw [show p.xs.length - i.toNat = (p.xs.length - (i.toNat + 1)) + 1 by omega, Sp.sumF, ← Int.add_assoc] at hk
    unfold Sp.fLv at p8
    exact need_in (by omega) (nedd (by omega) (ar64 (by omega) (ar64 (by omega) (hA _ (by show ((p.xs.length : Int) - (i + 1)).toNat < ((p.xs.length : Int) - i).toNat; omega) ⟨⟨by omega, by omega, hP, by omega, by omega⟩, by rw [e1]; exact hk⟩))))
  · rw [show p.xs.length - i.toNat = 0 by omega, Sp.sumF, Int.add_zero] at hk
    exact hk
theorem raD_succ (sk rg p : Dt) (n : Nat) : Sp.raD sk rg p n ++ [[.i (Sp.raLo sk rg p n), .i (Sp.raHi sk rg p n)]] = Sp.raD sk rg p (n + 1) := by
  unfold Sp.raD
  rw [List.range_succ, List.map_append]
  rfl
theorem raD_len (sk rg p : Dt) (n : Nat) : (Sp.raD sk rg p n).length = n := by simp [Sp.raD]
theorem mul8 {x y : Int} (x0 : 0 ≤ x) (x8 : x ≤ 8) (y0 : 0 ≤ y) (y1 : y ≤ 1000) : 0 ≤ x * y ∧ x * y ≤ 8000 := by
  have := Int.mul_le_mul x8 y1 y0 (by omega)
  exact ⟨Int.mul_nonneg x0 y0, by omega⟩
theorem okLrai : okLt_rai := okl_rai (fun e => match e with | .ro _ rg :: _ :: .i i :: _ => (rg.xs.length - i).toNat | _ => 0) fun W rg p i sk is out K hs A hA => by
  obtain ⟨⟨h0, h1, hl, hpl, hS, hR, hP, rfl⟩, hk⟩ := hs
  unfold VCL_rai
  have n5 := hS.n5
  refine vifd (fun e => ?_) fun e => ?_
  · have e1 : (i + 1).toNat = i.toNat + 1 := by omega
    have hr := hR i.toNat (by omega)
    have hg := hS.skG i.toNat (by omega)
    have p8 := hP.p8 i.toNat
    have l1 := raD_len sk.xs rg.xs p.xs i.toNat
    have m1 := mul8 p8.1 p8.2 hg.1 (by omega)
    have m2 := mul8 p8.1 p8.2 (show 0 ≤ Sp.gHi sk.xs i.toNat by omega) hg.2.2
    have hA' := hA [.ro _ rg, .ro _ p, .i (i + 1), .ro _ sk, .ro _ is, .l (Sp.raD sk.xs rg.xs p.xs (i.toNat + 1))] (by show ((rg.xs.length : Int) - (i + 1)).toNat < ((rg.xs.length : Int) - i).toNat; omega) ⟨⟨by omega, by omega, hl, hpl, hS, hR, hP, by rw [e1]⟩, hk⟩
    rw [← raD_succ] at hA'
    unfold Sp.raLo Sp.raHi at hA'
    unfold Sp.rLo Sp.rHi at hr hA'
    unfold Sp.gLo Sp.gHi at hA'
    unfold Sp.gLo at m1
    unfold Sp.gHi at m2
    unfold Sp.fLv at hA' m1 m2
    simp only [Nat.zero_add, Nat.reduceAdd, List.length_singleton, l1]
    exact need_in (by omega) (nedd (by omega) (need_in (by omega) (nedd (by omega) (need_in (by omega) (nedd (by omega) (ar64 (by omega) (ar64 (by omega) ⟨trivial, need_in (by omega) (nedd (by omega) (need_in (by omega) (nedd (by omega) (ar64 (by omega) (ar64 (by omega) ⟨trivial, nedd (by omega) (ar64 (by omega) hA')⟩)))))⟩)))))))
  · rw [show i.toNat = rg.xs.length by omega]
    exact hk
theorem plok_set {p : Dt} {k : Nat} {n : Int} (h : Sp.PlOk p) (h0 : 0 ≤ n) (h8 : n ≤ 8) : Sp.PlOk (p.set k [.i n]) := ⟨by rw [List.length_set]; exact h.l5, fun j => by
  by_cases hk : k < p.length
  · rw [fLv_set hk]
    have := h.p8 j
    split <;> omega
  · rw [List.set_eq_of_length_le (Nat.le_of_not_lt hk)]
    exact h.p8 j⟩
theorem okLnxl : okLt_nxl := okl_nxl (fun e => match e with | .i i :: _ => (i + 1).toNat | _ => 0) fun W i p K hs A hA => by
  obtain ⟨⟨h0, h1, hP⟩, hk⟩ := hs
  unfold VCL_nxl
  have l5 := hP.l5
  have p8 := hP.p8 i.toNat
  refine vifd (fun e => ?_) fun e => ?_
  · rw [show (i + 1).toNat = i.toNat + 1 by omega, Sp.nxB, Sp.nxD] at hk
    refine need_in (by omega) (nedd (by omega) (vifd (fun c => need_in (by omega) (nedd (by omega) (ar64 (by unfold Sp.fLv at p8; omega) (need_in (by omega) (nedd (by omega) ?_))))) fun c => need_in (by omega) (nedd (by omega) (ar64 (by omega) (hA _ (by show (i - 1 + 1).toNat < (i + 1).toNat; omega) ⟨⟨by omega, by rw [List.length_set]; omega, plok_set hP (by omega) (by omega)⟩, ?_⟩)))))
    · rw [if_pos (show Sp.fLv p i.toNat < 8 from c), if_pos (show Sp.fLv p i.toNat < 8 from c)] at hk
      exact hk.1 rfl
    · rw [if_neg (show ¬ Sp.fLv p i.toNat < 8 from c), if_neg (show ¬ Sp.fLv p i.toNat < 8 from c)] at hk
      rw [show (i - 1 + 1).toNat = i.toNat by omega]
      exact hk
  · rw [show (i + 1).toNat = 0 by omega, Sp.nxB] at hk
    exact hk.2 rfl
noncomputable def le_tot : LE Try.prog := ⟨88, 4, fun W => @loopRun W lc_tot, okLtot⟩
noncomputable def le_rai : LE Try.prog := ⟨50, 4, fun W => @loopRun W lc_rai, okLrai⟩
noncomputable def le_nxl : LE Try.prog := ⟨87, 4, fun W => @loopRun W lc_nxl, okLnxl⟩
noncomputable def Ty1 : Tab Try.prog := ⟨[], [le_nxl], []⟩
def sp_nxt [InW] (e : List Ed) (K : Nat → List Ed → Prop) : Prop := match e with
  | [.l p] => Pre (Sp.PlOk p) (Vif (Sp.nxB p.length p) (K 1 [.l (Sp.nxD p.length p), .l p]) (K 0 [.l p]))
  | _ => False
noncomputable def cc_nxt : CC where
  g := 87
  args := [(.row 1)]
  H := [(1, .arr 3 [.int .i64])]
  outs := [⟨false, (.lit (.slice none 0 0)), [(1, .arr 3 [.int .i64])], false⟩, ⟨false, (.row 12), [(12, .arr 3 [.int .i64]), (1, .arr 3 [.int .i64])], false⟩]
  spec := sp_nxt
def VCC_nxt [W : InW] (p : Dt) (K : Nat → List Ed → Prop) : Prop :=
  Need (decide (((0 : Nat) + p.length) * (8 : Nat) ≤ (140737488355328 : Nat))) (Ar .i64 ((↑(p.length) : Int) - (1 : Int)) fun z => Pre ((-1 : Int) ≤ z ∧ z < (↑(p.length) : Int) ∧ Sp.PlOk p) (Vif (Sp.nxB (z + (1 : Int)).toNat p) (K (0+1 : Nat) [.l (Sp.nxD (z + (1 : Int)).toNat p), .l p]) (K (0 : Nat) [.l p])))
theorem vcc_nxt (W : InW) (p K) : coreK (cxT Try.prog TT Ty1 1000 50) 1000 87 [.rw 1] [(1, .arr 3 [.int .i64] p)] (fun v h => outC cc_nxt.H [.l p] cc_nxt.outs 0 false v h K) (fun v h => outC cc_nxt.H [.l p] cc_nxt.outs 0 true v h K) = VCC_nxt p K := by kernel_rfl
theorem okc_nxt (hyp_ : ∀ (W : InW) (p : Dt) (K : Nat → List Ed → Prop), sp_nxt [.l p] K → VCC_nxt p K) : ∀ W : InW, @CallC W Try.prog cc_nxt :=
  CC.okOf (fun W => @TT W) (fun W => @TT_ok W) mixed_ok Ty1 1000 50 cc_nxt fun W p K hs => (vcc_nxt W p K).mpr (hyp_ W p K hs)
theorem okCnxt : ∀ W : InW, @CallC W Try.prog cc_nxt := okc_nxt fun W p K hs => by
  obtain ⟨hP, hk⟩ := hs
  unfold VCC_nxt
  have l5 := hP.l5
  refine nedd (by omega) (ar64 (by omega) ⟨⟨by omega, by omega, hP⟩, ?_⟩)
  rw [show ((p.length : Int) - 1 + 1).toNat = p.length by omega]
  exact hk
noncomputable def Ty2 : Tab Try.prog := ⟨[], [le_tot, le_rai], []⟩
def VC_total [W : InW] (p : Ro [.int .i64]) (Q : DS → Prop) : Prop :=
  Pre ((0 : Int) ≤ (0 : Int) ∧ (0 : Int) ≤ (↑(p.xs.length) : Int) ∧ Sp.PlOk p.xs ∧ (0 : Int) ≤ (0 : Int) ∧ (0 : Int) ≤ (8 : Int) * (0 : Int)) (Q [[Cl.i ((0 : Int) + Sp.sumF p.xs (Int.toNat (0 : Int)) (p.xs.length - Int.toNat (0 : Int)))]])
theorem vc_total (W : InW) (p Q) : bodyK (cxT Try.prog TT Ty2 1000 50) 1000 88 [.rs _ p] [] 0 (leafK [(false, [.int .i64])] Q) (fun _ _ _ _ => Stuck 421) = VC_total p Q := by kernel_rfl
abbrev ats_total : List AT := [.one (.sl [.int .i64])]
theorem ok_total {pre : DS → Prop} {res : DS → DS} (hyp_ : ∀ (W : InW) (p : Ro [.int .i64]), pre [[.l p.xs]] → ∀ Q : DS → Prop, Q (res [[.l p.xs]]) → VC_total p Q) : PureOk Try.prog 88 ats_total [(false, [.int .i64])] pre res :=
  PureOk.of' (fun W => @TT W) (fun W => @TT_ok W) mixed_ok Ty2 1000 50 fun W p hp =>
    (vc_total W p (fun o => o = res [[.l p.xs]])).mpr (hyp_ W p hp _ rfl)
def VC_Raised [W : InW] (s_Skills : Ro [.str, .int .i64, .int .i64, .int .i64, .int .i64]) (s_Instrs : Ro [.str, .int .i64, .int .i64]) (rg : Ro [.int .i64, .int .i64]) (p : Ro [.int .i64]) (Q : DS → Prop) : Prop :=
  Pre ((0 : Int) ≤ (0 : Int) ∧ (0 : Int) ≤ (↑(rg.xs.length) : Int) ∧ rg.xs.length = s_Skills.xs.length ∧ p.xs.length = s_Skills.xs.length ∧ Sp.SchOk s_Skills.xs s_Instrs.xs ∧ Sp.RgOk rg.xs ∧ Sp.PlOk p.xs ∧ [] = Sp.raD s_Skills.xs rg.xs p.xs (Int.toNat (0 : Int))) (Q [[Cl.l (Sp.raD s_Skills.xs rg.xs p.xs (rg.xs.length))]])
theorem vc_Raised (W : InW) (s_Skills s_Instrs rg p Q) : bodyK (cxT Try.prog TT Ty2 1000 50) 1000 50 [.agg [.rs _ s_Skills, .rs _ s_Instrs], .rs _ rg, .rs _ p] [] 0 (leafK [(false, [.row 32 [.int .i64, .int .i64]])] Q) (fun _ _ _ _ => Stuck 421) = VC_Raised s_Skills s_Instrs rg p Q := by kernel_rfl
abbrev ats_Raised : List AT := [.agg [.sl [.str, .int .i64, .int .i64, .int .i64, .int .i64], .sl [.str, .int .i64, .int .i64]], .one (.sl [.int .i64, .int .i64]), .one (.sl [.int .i64])]
theorem ok_Raised {pre : DS → Prop} {res : DS → DS} (hyp_ : ∀ (W : InW) (s_Skills : Ro [.str, .int .i64, .int .i64, .int .i64, .int .i64]) (s_Instrs : Ro [.str, .int .i64, .int .i64]) (rg : Ro [.int .i64, .int .i64]) (p : Ro [.int .i64]), pre [[.l s_Skills.xs, .l s_Instrs.xs], [.l rg.xs], [.l p.xs]] → ∀ Q : DS → Prop, Q (res [[.l s_Skills.xs, .l s_Instrs.xs], [.l rg.xs], [.l p.xs]]) → VC_Raised s_Skills s_Instrs rg p Q) : PureOk Try.prog 50 ats_Raised [(false, [.row 32 [.int .i64, .int .i64]])] pre res :=
  PureOk.of' (fun W => @TT W) (fun W => @TT_ok W) mixed_ok Ty2 1000 50 fun W s_Skills s_Instrs rg p hp =>
    (vc_Raised W s_Skills s_Instrs rg p (fun o => o = res [[.l s_Skills.xs, .l s_Instrs.xs], [.l rg.xs], [.l p.xs]])).mpr (hyp_ W s_Skills s_Instrs rg p hp _ rfl)
abbrev pre_total (ds : DS) : Prop := match ds with | [[.l p]] => Sp.PlOk p | _ => False
abbrev res_total (ds : DS) : DS := match ds with | [[.l p]] => [[.i (Sp.sumI p)]] | _ => []
abbrev pre_Raised (ds : DS) : Prop := match ds with | [[.l sk, .l is], [.l rg], [.l p]] => Sp.SchOk sk is ∧ rg.length = sk.length ∧ p.length = sk.length ∧ Sp.RgOk rg ∧ Sp.PlOk p | _ => False
abbrev res_Raised (ds : DS) : DS := match ds with | [[.l sk, .l is], [.l rg], [.l p]] => [[.l (Sp.raD sk rg p rg.length)]] | _ => []
theorem oktotal : PureOk Try.prog 88 ats_total [(false, [.int .i64])] pre_total res_total :=
  ok_total fun W p hp Q h => by
    unfold VC_total
    simp only [res_total, Sp.sumI] at h
    rw [Int.zero_add]
    exact ⟨⟨by omega, by omega, hp, by omega, by omega⟩, h⟩
theorem okRaised : PureOk Try.prog 50 ats_Raised [(false, [.row 32 [.int .i64, .int .i64]])] pre_Raised res_Raised :=
  ok_Raised fun W sk is rg p hp Q h => by
    obtain ⟨h1, h2, h3, h4, h5⟩ := hp
    unfold VC_Raised
    exact ⟨⟨by omega, by omega, h2, h3, h1, h4, h5, rfl⟩, h⟩
noncomputable def pc_total : PC Try.prog := ⟨88, ats_total, [(false, [.int .i64])], pre_total, res_total, oktotal⟩
noncomputable def pc_Raised : PC Try.prog := ⟨50, ats_Raised, [(false, [.row 32 [.int .i64, .int .i64]])], pre_Raised, res_Raised, okRaised⟩
end Go.Proofs.Ytdokbocmgdhmmaa
namespace Go.Proofs.Ytdokbocmgdhmmaa
open Go.RowKit
set_option linter.unusedVariables false
attribute [local irreducible] Go.Oper.wp
section
variable [W : InW]
def nthQ : List AV → Nat → AV
  | [], _ => .junk
  | x :: xs, n => match n with | 0 => x | n + 1 => nthQ xs n
def likeQ : Pt → AV → Bool
  | .lit v, x => (match x with | .v u => sameV u v | _ => false)
  | .row _, x => (match x with | .rw _ => true | .sl _ 0 0 _ => true | _ => false)
  | _, _ => true
def likeT : List (Nat × Pt) → List AV → Bool
  | [], _ => true
  | p :: ps, tm => match likeQ p.2 (nthQ tm p.1) with | true => likeT ps tm | false => false
def leaveX : List Out → Nat → AX → List AV → Heap → (Nat → List Ed → Prop) → Prop
  | [], _, _, _, _, _ => Stuck 473
  | o :: os, j, x, tm, hp, Q => match outIs o.kind x with
    | true => (match likeT o.T tm with | true => fitK o.T o.H o.junk tm hp fun e => Q j e | false => leaveX os (j + 1) x tm hp Q)
    | false => leaveX os (j + 1) x tm hp Q
def roundX (lc : LC) (f : List AV → Heap → KX → Prop) (Again : List Ed → Prop) (Q : Nat → List Ed → Prop) (x : AX) (tm : List AV) (hp : Heap) : Prop :=
  vcNeed (lenB tm lc.len) (match x with
  | .norm => (match likeT lc.T tm with
    | true => fitK lc.T lc.H lc.W tm hp Again
    | false => f tm hp fun x tm hp => vcNeed (lenB tm lc.len) (leaveX lc.outs 0 x tm hp Q))
  | x => leaveX lc.outs 0 x tm hp Q)
theorem leaveX_spec : ∀ {os : List Out} {j : Nat} {x : AX} {tm : List AV} {hp : Heap} {Q : Nat → List Ed → Prop}, leaveX os j x tm hp Q → ∃ (k : Nat) (o : Out) (s : List (Nat × AV)) (ys : Heap) (e1 e2 : List Ed), Q (j + k) (e1 ++ e2) ∧ os[k]? = some o ∧ o.kind.ax = x ∧ insT o.T (e1 ++ e2) = some (s, e2) ∧ insH o.H e2 = some (ys, []) ∧
    ∀ (φ0 φ : Phi) (w0 : World) (M : List Nat) (R : RL) (a : Act) (w : World), RepS φ0 φ w0 M R tm hp a w → ∃ φ2, RepS φ0 φ2 w0 M R (tmOut tm.length s o.junk) ys a w
  | [], _, _, _, _, _, h => h.elim
  | o :: os, j, x, tm, hp, Q, h => by
    have next : leaveX os (j + 1) x tm hp Q → ∃ (k : Nat) (o' : Out) (s : List (Nat × AV)) (ys : Heap) (e1 e2 : List Ed), Q (j + k) (e1 ++ e2) ∧ (o :: os)[k]? = some o' ∧ o'.kind.ax = x ∧ insT o'.T (e1 ++ e2) = some (s, e2) ∧ insH o'.H e2 = some (ys, []) ∧
        ∀ (φ0 φ : Phi) (w0 : World) (M : List Nat) (R : RL) (a : Act) (w : World), RepS φ0 φ w0 M R tm hp a w → ∃ φ2, RepS φ0 φ2 w0 M R (tmOut tm.length s o'.junk) ys a w := fun h => by
      obtain ⟨k, o', s, ys, e1, e2, h1, h2, h3⟩ := leaveX_spec h
      exact ⟨k + 1, o', s, ys, e1, e2, by rw [show j + (k + 1) = j + 1 + k by omega]; exact h1, by simpa using h2, h3⟩
    unfold leaveX at h
    split at h
    · rename_i hk
      split at h
      · obtain ⟨s, ys, e1, e2, h1, h2, h3, h4⟩ := fitK_spec h
        refine ⟨0, o, s, ys, e1, e2, h1, rfl, ?_, insT_of _ _ _ _ h2, by have := insH_of _ _ _ [] h3; rwa [List.append_nil] at this, h4⟩
        unfold outIs at hk
        split at hk <;> first | (rename_i h1; rw [h1]; rfl) | skip
        · rename_i i j h1; rw [h1, beq_iff.1 hk]; rfl
        · rename_i v u h1; rw [h1, sameV_spec _ _ hk]; rfl
        · cases hk
      · exact next h
    · exact next h
theorem LoopC.ofX {c : Cx} (hcL : HandOkL c) (hm : c.P.follows .mixedOrders = true) (n : Nat) {root : Code} (hroot : (c.P.funcs[c.fn]?).bind (·.body) = some root) {a : Code} (hsub : Sub root (.loop a)) {lc : LC} {f : List AV → Heap → KX → Prop} (hf : LoopOk c.P a f) (meas : List Ed → Nat)
    (hb : ∀ s ys e1 e2, InstT lc.T s e1 → InstH lc.H ys e2 → ∀ K, lc.spec (e1 ++ e2) K → vcTop c n a (tmOut lc.len s lc.W) ys (roundX lc f (fun e => meas e < meas (e1 ++ e2) ∧ lc.spec e K) K)) : LoopC c.P a lc := by
  have key : ∀ m s ys e1 e2, meas (e1 ++ e2) = m → InstT lc.T s e1 → InstH lc.H ys e2 → ∀ K, lc.spec (e1 ++ e2) K → ∃ j e o s' r ys', K j e ∧ lc.outs[j]? = some o ∧ insT o.T e = some (s', r) ∧ insH o.H r = some (ys', []) ∧
      BigT (fun Q ac w => InLoop c.P a Q ac w) (tmOut lc.len s lc.W) ys o.kind.ax (tmOut lc.len s' o.junk) ys' := by
    intro m
    induction m using Nat.strongRecOn with
    | _ m ih =>
      intro s ys e1 e2 hme hT hH K hs
      obtain ⟨x, tm1, hp1, h1, h2⟩ := vcTop_sound hcL hm n hroot a hsub.loop _ _ _ (hb s ys e1 e2 hT hH K hs)
      have out : leaveX lc.outs 0 x tm1 hp1 K → (∀ φ e, x.is φ e → e ≠ .normal) → tm1.length = lc.len → ∃ j e o s' r ys', K j e ∧ lc.outs[j]? = some o ∧ insT o.T e = some (s', r) ∧ insH o.H r = some (ys', []) ∧
          BigT (fun Q ac w => InLoop c.P a Q ac w) (tmOut lc.len s lc.W) ys o.kind.ax (tmOut lc.len s' o.junk) ys' := fun h hne hlen => by
        obtain ⟨k, o, s', ys', f1, f2, g1, g2, g3, g4, g5, g6⟩ := leaveX_spec h
        rw [Nat.zero_add] at g1
        refine ⟨k, _, o, s', _, ys', g1, g2, g4, g5, fun φ0 φ w0 M R ac w hr Q kk => InLoop.round (h2 φ0 φ w0 M R ac w hr _ fun φ2 e a' w' hx hr2 => ?_)⟩
        have he := hne φ2 e hx
        obtain ⟨φ3, hr3⟩ := g6 φ0 φ2 w0 M R a' w' hr2
        rw [hlen] at hr3
        have hx3 : o.kind.ax.is φ3 e := by
          rw [g3]
          have : o.kind.ax.is φ2 e := by rw [g3]; exact hx
          rw [← g3]
          cases hk : o.kind <;> rw [hk] at this <;> exact this
        cases e <;> first | exact absurd rfl he | exact kk φ3 _ a' w' hx3 hr3
      unfold roundX at h1
      obtain ⟨hlen, h1⟩ := vcNeed_spec h1
      have hlen := lenB_spec hlen
      split at h1
      · split at h1
        · obtain ⟨s2, ys2, f1, f2, g1, g2, g3, g4⟩ := fitK_spec h1
          obtain ⟨j, e, o, s', r, ys', k1, k2, k3, k4, k5⟩ := ih _ (hme ▸ g1.1) s2 ys2 f1 f2 rfl g2 g3 K g1.2
          refine ⟨j, e, o, s', r, ys', k1, k2, k3, k4, fun φ0 φ w0 M R ac w hr Q kk => InLoop.round (h2 φ0 φ w0 M R ac w hr _ fun φ2 e2 a' w' hx hr2 => ?_)⟩
          obtain ⟨φ3, hr3⟩ := g4 φ0 φ2 w0 M R a' w' hr2
          rw [hlen] at hr3
          cases hx
          exact k5 φ0 φ3 w0 M R a' w' hr3 Q kk
        · obtain ⟨x', tm2, hp2, hk, hbig⟩ := hf _ _ _ h1
          obtain ⟨hlen2, hk⟩ := vcNeed_spec hk
          have hlen2 := lenB_spec hlen2
          obtain ⟨k, o, s', ys', f1, f2, g1, g2, g3, g4, g5, g6⟩ := leaveX_spec hk
          rw [Nat.zero_add] at g1
          refine ⟨k, _, o, s', _, ys', g1, g2, g4, g5, fun φ0 φ w0 M R ac w hr Q kk => InLoop.round (h2 φ0 φ w0 M R ac w hr _ fun φ2 e2 a' w' hx hr2 => ?_)⟩
          cases hx
          refine hbig φ0 φ2 w0 M R a' w' hr2 Q fun φ3 e3 a3 w3 hx3 hr3 => ?_
          obtain ⟨φ4, hr4⟩ := g6 φ0 φ3 w0 M R a3 w3 hr3
          rw [hlen2] at hr4
          have hx4 : o.kind.ax.is φ4 e3 := by
            have : o.kind.ax.is φ3 e3 := by rw [g3]; exact hx3
            cases hk : o.kind <;> rw [hk] at this <;> exact this
          exact kk φ4 _ a3 w3 hx4 hr4
      · rename_i hnn
        refine out h1 (fun φ e hx he => ?_) hlen
        subst he
        cases x <;> first | exact hnn rfl | cases hx | exact hx.elim | skip
  intro s ys e1 e2 hT hH K hs
  exact key _ s ys e1 e2 rfl hT hH K hs
end
noncomputable def LE.pick {P : Program} (T : List (Nat × Pt)) (a b : LE P) (hg : b.g = a.g) (hk : b.key = a.key) : LE P where
  g := a.g
  key := a.key
  f := fun W tm hp K => match @likeT W T tm with | true => a.f W tm hp K | false => b.f W tm hp K
  ok := fun W body c h1 h2 h3 tm hp K h => by
    dsimp only at h
    split at h
    · exact a.ok W body c h1 h2 h3 tm hp K h
    · exact b.ok W body c (by rw [hg]; exact h1) h2 (by rw [hk]; exact h3) tm hp K h
theorem LE.okOfX {P : Program} (tt : (W : InW) → @Tr (@TI W)) (ht : ∀ W : InW, @TabOk W P (tt W)) (hm : P.follows .mixedOrders = true) (T : Tab P) (n m : Nat) {g : FuncId} {key : Nat} (h1 : (match loopsAt P g key with | [_] => true | _ => false) = true) (lc : LC) (f : (W : InW) → LoopH W)
    (hf : ∀ (W : InW) (body a : Code), (P.funcs[g]?).bind (·.body) = some body → a ∈ loopsIn body → keyOf a = key → @LoopOk W P a (f W)) (meas : (W : InW) → List (@Ed W) → Nat)
    (hb : ∀ (W : InW), @AllT W lc.T fun s e1 => @AllH W lc.H fun ys e2 => ∀ K, @LC.spec lc W (e1 ++ e2) K → @vcTop W { @cxT W P (tt W) T n m with fn := g } n (loopAt P g key) (@tmOut W lc.len s lc.W) ys (@roundX W lc (f W) (fun e => meas W e < meas W (e1 ++ e2) ∧ @LC.spec lc W e K) K)) :
    ∀ (W : InW) (body a : Code), (P.funcs[g]?).bind (·.body) = some body → a ∈ loopsIn body → keyOf a = key → @LoopOk W P a (@loopRun W lc) := by
  intro W body a hbd ha hk
  have hf := hf W body a hbd ha hk
  obtain ⟨h2, h3⟩ := loopAt_of h1
  rw [h2 body a hbd ha hk] at hf ⊢
  refine loopRun_ok ?_
  have hP := cxT_P P (tt W) T n m
  have hL := (cxT_ok (T := T) (ht W) hm n m).at g
  have := LoopC.ofX (c := { @cxT W P (tt W) T n m with fn := g }) hL (by rw [show ({ @cxT W P (tt W) T n m with fn := g } : Cx).P = P from hP]; exact hm) n (root := bodyOf P g) (by
    show ((cxT P (tt W) T n m).P.funcs[g]?).bind (·.body) = _
    rw [hP]; exact isSome_of h1) h3 (lc := lc) (f := f W) (by rw [show ({ @cxT W P (tt W) T n m with fn := g } : Cx).P = P from hP]; exact hf) (meas W) fun s ys e1 e2 hT hH => @allH_spec W _ _ _ _ (@allT_spec W _ _ _ _ (hb W) hT) hH
  rw [show ({ @cxT W P (tt W) T n m with fn := g } : Cx).P = P from hP] at this
  exact this
end Go.Proofs.Ytdokbocmgdhmmaa
namespace Go.Proofs.Ytdokbocmgdhmmaa
open Go.RowKit
set_option linter.unusedVariables false
set_option maxRecDepth 100000
set_option maxHeartbeats 1600000
namespace Sp
def okP (sk rg ts : Dt) (al w : Int) (p : Dt) : Bool := decide (w * 1000 ^ (ts.length - 1) ≤ chance ts al (raLo sk rg p))
def cd : Nat → Dt → Nat
  | 0, _ => 0
  | m + 1, p => cd m p * 9 + (fLv p m).toNat
structure Plan (n : Nat) (p : Dt) : Prop where
  len : p.length = n
  ok : PlOk p
  one : ∀ i, i < p.length → ∃ a, p.getD i [] = [.i a]
structure No (sk rg ts : Dt) (al w : Int) (c : Nat) : Prop where
  no : ∀ q, Plan sk.length q → cd sk.length q < c → okP sk rg ts al w q = false
structure Bst (sk rg ts : Dt) (al w : Int) (c : Nat) (b : Dt) : Prop where
  pl : Plan sk.length b
  ok : okP sk rg ts al w b = true
  lt : cd sk.length b < c
  le : ∀ q, Plan sk.length q → cd sk.length q < c → okP sk rg ts al w q = true → sumI b < sumI q ∨ (sumI b = sumI q ∧ cd sk.length b ≤ cd sk.length q)
noncomputable def found (sk rg ts : Dt) (al w : Int) : Bool := @decide (∃ b, Bst sk rg ts al w (9 ^ sk.length) b) (Classical.propDecidable _)
noncomputable def best (sk rg ts : Dt) (al w : Int) : Dt := @dite _ (∃ b, Bst sk rg ts al w (9 ^ sk.length) b) (Classical.propDecidable _) (fun h => Classical.choose h) fun _ => []
structure FwOk (sk is rg ts : Dt) (al w : Int) : Prop where
  str : StrOk sk is ts al
  len : rg.length = sk.length
  rg : RgOk rg
  w0 : 0 ≤ w
  w1 : w ≤ 1000
end Sp
noncomputable def Tz0 : Tab Try.prog := ⟨[pc_total, pc_Raised, pc_ends, pc_passed, pc_enough], [], [ceOf cc_nxt okCnxt]⟩
def sp_rNN [InW] (e : List Ed) (K : Nat → List Ed → Prop) : Prop := match e with
  | [] => K 0 []
  | _ => False
noncomputable def lc_rNN : LC where
  len := 53
  T := [(11, (.lit (.slice none 0 0))), (12, (.lit (.slice none 0 0)))]
  H := []
  W := [24, 25, 26, 27, 28, 29, 30, 31, 32, 33, 34, 35, 36, 37, 38, 39, 40, 41, 42, 43, 44, 45, 46, 47, 48, 49]
  outs := [⟨.exit 0, [(11, (.lit (.slice none 0 0)))], [], [12, 24, 25, 26, 27, 28, 29, 30, 31, 32, 33, 34, 35, 36, 37, 38, 39, 40, 41, 42, 43, 44, 45, 46, 47, 48, 49]⟩]
  spec := sp_rNN
def VCL_rNN [W : InW]  (A : List Ed → Prop) (K : Nat → List Ed → Prop) : Prop :=
  K (0 : Nat) []
theorem vcl_rNN (W : InW)  (A : List Ed → Prop) (K : Nat → List Ed → Prop) : vcTop { cxT Try.prog TT Tz0 1000 50 with fn := 35 } 1000 (loopAt Try.prog 35 7) (tmOut 53 [(11, .v (.slice none 0 0)), (12, .v (.slice none 0 0))] [24, 25, 26, 27, 28, 29, 30, 31, 32, 33, 34, 35, 36, 37, 38, 39, 40, 41, 42, 43, 44, 45, 46, 47, 48, 49]) [] (roundL lc_rNN A K) = VCL_rNN  A K := by kernel_rfl
def okLt_rNN : Prop := ∀ (W : InW) (body a : Code), (Try.prog.funcs[35]?).bind (·.body) = some body → a ∈ loopsIn body → keyOf a = 7 → @LoopOk W Try.prog a (@loopRun W lc_rNN)
theorem okl_rNN (meas : [InW] → List Ed → Nat) (hyp_ : ∀ (W : InW)  (K : Nat → List Ed → Prop), sp_rNN [] K → ∀ A : List Ed → Prop, (∀ e, meas e < meas [] → sp_rNN e K → A e) → VCL_rNN  A K) : okLt_rNN :=
  LE.okOf' (fun W => @TT W) (fun W => @TT_ok W) mixed_ok Tz0 1000 50 (by kernel_rfl) lc_rNN (fun W => @meas W) fun W K hs =>
    (vcl_rNN W  (fun e => meas e < meas [] ∧ sp_rNN e K) K).mpr (hyp_ W  K hs _ fun e h1 h2 => ⟨h1, h2⟩)
def sp_rRN [InW] (e : List Ed) (K : Nat → List Ed → Prop) : Prop := match e with
  | [.l best] => K 0 [.l best]
  | _ => False
noncomputable def lc_rRN : LC where
  len := 53
  T := [(11, (.row 1)), (12, (.lit (.slice none 0 0)))]
  H := [(1, .arr 3 [.int .i64])]
  W := [24, 25, 26, 27, 28, 29, 30, 31, 32, 33, 34, 35, 36, 37, 38, 39, 40, 41, 42, 43, 44, 45, 46, 47, 48, 49]
  outs := [⟨.exit 0, [(11, (.row 1))], [(1, .arr 3 [.int .i64])], [12, 24, 25, 26, 27, 28, 29, 30, 31, 32, 33, 34, 35, 36, 37, 38, 39, 40, 41, 42, 43, 44, 45, 46, 47, 48, 49]⟩]
  spec := sp_rRN
def VCL_rRN [W : InW] (best : Dt) (A : List Ed → Prop) (K : Nat → List Ed → Prop) : Prop :=
  K (0 : Nat) [.l best]
theorem vcl_rRN (W : InW) (best A K) : vcTop { cxT Try.prog TT Tz0 1000 50 with fn := 35 } 1000 (loopAt Try.prog 35 7) (tmOut 53 [(11, .rw 1), (12, .v (.slice none 0 0))] [24, 25, 26, 27, 28, 29, 30, 31, 32, 33, 34, 35, 36, 37, 38, 39, 40, 41, 42, 43, 44, 45, 46, 47, 48, 49]) [(1, .arr 3 [.int .i64] best)] (roundL lc_rRN A K) = VCL_rRN best A K := by kernel_rfl
def okLt_rRN : Prop := ∀ (W : InW) (body a : Code), (Try.prog.funcs[35]?).bind (·.body) = some body → a ∈ loopsIn body → keyOf a = 7 → @LoopOk W Try.prog a (@loopRun W lc_rRN)
theorem okl_rRN (meas : [InW] → List Ed → Nat) (hyp_ : ∀ (W : InW) (best : Dt) (K : Nat → List Ed → Prop), sp_rRN [.l best] K → ∀ A : List Ed → Prop, (∀ e, meas e < meas [.l best] → sp_rRN e K → A e) → VCL_rRN best A K) : okLt_rRN :=
  LE.okOf' (fun W => @TT W) (fun W => @TT_ok W) mixed_ok Tz0 1000 50 (by kernel_rfl) lc_rRN (fun W => @meas W) fun W best K hs =>
    (vcl_rRN W best (fun e => meas e < meas [.l best] ∧ sp_rRN e K) K).mpr (hyp_ W best K hs _ fun e h1 h2 => ⟨h1, h2⟩)
theorem okLrNN : okLt_rNN := okl_rNN (fun _ => 0) fun W K hs A hA => hs
theorem okLrRN : okLt_rRN := okl_rRN (fun _ => 0) fun W best K hs A hA => hs
noncomputable def le_rNN : LE Try.prog := ⟨35, 7, fun W => @loopRun W lc_rNN, okLrNN⟩
noncomputable def le_rRN : LE Try.prog := ⟨35, 7, fun W => @loopRun W lc_rRN, okLrRN⟩
def sp_rRR [InW] (e : List Ed) (K : Nat → List Ed → Prop) : Prop := match e with
  | [.ro _ rg, .i w, .ro _ sk, .ro _ is, .ro _ ts, .i al, .l bst, .l plan] => Pre (Sp.FwOk sk.xs is.xs rg.xs ts.xs al w ∧ Sp.Plan sk.xs.length plan ∧ Sp.Bst sk.xs rg.xs ts.xs al w (Sp.cd sk.xs.length plan) bst) (Vif (Sp.found sk.xs rg.xs ts.xs al w) (K 0 [.l (Sp.best sk.xs rg.xs ts.xs al w)]) True)
  | _ => False
noncomputable def lc_rRR : LC where
  len := 53
  T := [(2, .rs [.int .i64, .int .i64]), (3, .int .i64), (4, (.ptr 1 0)), (5, (.ptr 4 0)), (11, (.row 6)), (12, (.row 9))]
  H := [(1, .blk 25 [.rs [.str, .int .i64, .int .i64, .int .i64, .int .i64], .rs [.str, .int .i64, .int .i64]]), (4, .blk 48 [.rs [.int .i64, .int .i64], .int .i64]), (6, .arr 3 [.int .i64]), (9, .arr 3 [.int .i64])]
  W := [24, 25, 26, 27, 28, 29, 30, 31, 32, 33, 34, 35, 36, 37, 38, 39, 40, 41, 42, 43, 44, 45, 46, 47, 48, 49]
  outs := [⟨.exit 0, [(11, (.row 12))], [(12, .arr 3 [.int .i64])], [2, 3, 4, 5, 12, 24, 25, 26, 27, 28, 29, 30, 31, 32, 33, 34, 35, 36, 37, 38, 39, 40, 41, 42, 43, 44, 45, 46, 47, 48, 49]⟩]
  spec := sp_rRR
def VCL_rRR [W : InW] (rg : Ro [.int .i64, .int .i64]) (w : Int) (sk : Ro [.str, .int .i64, .int .i64, .int .i64, .int .i64]) (is : Ro [.str, .int .i64, .int .i64]) (ts : Ro [.int .i64, .int .i64]) (al : Int) (bst plan : Dt) (A : List Ed → Prop) (K : Nat → List Ed → Prop) : Prop :=
  Need (decide ((0 : Nat) < plan.length)) (Need (decide ((0 : Nat) < bst.length)) (Pre (Sp.PlOk plan) (Pre (Sp.PlOk bst) (Vif (decide (Sp.sumI bst ≤ Sp.sumI plan)) (Pre (Sp.PlOk plan) (Vif (Sp.nxB (plan.length) plan) (A [.ro _ rg, .i w, .ro _ sk, .ro _ is, .ro _ ts, .i al, .l bst, .l (Sp.nxD (plan.length) plan)]) (K (0 : Nat) [.l bst]))) (Pre (Sp.SchOk sk.xs is.xs ∧ rg.xs.length = sk.xs.length ∧ plan.length = sk.xs.length ∧ Sp.RgOk rg.xs ∧ Sp.PlOk plan) (Pre (List.length (Sp.raD sk.xs rg.xs plan (rg.xs.length)) ≤ (1000 : Nat)) (Pre ((0 : Int) ≤ (0 : Int) ∧ (0 : Int) ≤ (↑(ts.xs.length) : Int) ∧ (↑(ts.xs.length) : Int) < (0 : Int) + (↑(7 : Nat) : Int) ∧ Sp.TsIn ts.xs (List.length (Sp.endsD false (Sp.raD sk.xs rg.xs plan (rg.xs.length)))) ∧ Sp.FIn (Sp.fLv (Sp.endsD false (Sp.raD sk.xs rg.xs plan (rg.xs.length)))) ∧ Sp.Small al) (Pre ((1 : Nat) ≤ ts.xs.length ∧ ts.xs.length ≤ (6 : Nat) ∧ (0 : Int) ≤ w ∧ w ≤ (1000 : Int)) (Vif (decide (w * (1000 : Int) ^ (ts.xs.length - (1 : Nat)) ≤ Sp.passL (Sp.pF ts.xs (Sp.fLv (Sp.endsD false (Sp.raD sk.xs rg.xs plan (rg.xs.length)))) (Int.toNat (0 : Int)) (ts.xs.length - Int.toNat (0 : Int))) al)) (Pre (Sp.PlOk plan) (Vif (Sp.nxB (plan.length) plan) (A [.ro _ rg, .i w, .ro _ sk, .ro _ is, .ro _ ts, .i al, .l plan, .l (Sp.nxD (plan.length) plan)]) (K (0 : Nat) [.l plan]))) (Pre (Sp.PlOk plan) (Vif (Sp.nxB (plan.length) plan) (A [.ro _ rg, .i w, .ro _ sk, .ro _ is, .ro _ ts, .i al, .l bst, .l (Sp.nxD (plan.length) plan)]) (K (0 : Nat) [.l bst]))))))))))))
theorem vcl_rRR (W : InW) (rg w sk is ts al bst plan A K) : vcTop { cxT Try.prog TT Tz0 1000 50 with fn := 35 } 1000 (loopAt Try.prog 35 7) (tmOut 53 [(2, .rs _ rg), (3, .si .i64 w), (4, .ptr 1 0), (5, .ptr 4 0), (11, .rw 6), (12, .rw 9)] [24, 25, 26, 27, 28, 29, 30, 31, 32, 33, 34, 35, 36, 37, 38, 39, 40, 41, 42, 43, 44, 45, 46, 47, 48, 49]) [(1, .blk 25 [.rs _ sk, .rs _ is]), (4, .blk 48 [.rs _ ts, .si .i64 al]), (6, .arr 3 [.int .i64] bst), (9, .arr 3 [.int .i64] plan)] (roundX lc_rRR (le_rRN.f W) A K) = VCL_rRR rg w sk is ts al bst plan A K := by kernel_rfl
def okLt_rRR : Prop := ∀ (W : InW) (body a : Code), (Try.prog.funcs[35]?).bind (·.body) = some body → a ∈ loopsIn body → keyOf a = 7 → @LoopOk W Try.prog a (@loopRun W lc_rRR)
theorem okl_rRR (meas : [InW] → List Ed → Nat) (hyp_ : ∀ (W : InW) (rg : Ro [.int .i64, .int .i64]) (w : Int) (sk : Ro [.str, .int .i64, .int .i64, .int .i64, .int .i64]) (is : Ro [.str, .int .i64, .int .i64]) (ts : Ro [.int .i64, .int .i64]) (al : Int) (bst : Dt) (plan : Dt) (K : Nat → List Ed → Prop), sp_rRR [.ro _ rg, .i w, .ro _ sk, .ro _ is, .ro _ ts, .i al, .l bst, .l plan] K → ∀ A : List Ed → Prop, (∀ e, meas e < meas [.ro _ rg, .i w, .ro _ sk, .ro _ is, .ro _ ts, .i al, .l bst, .l plan] → sp_rRR e K → A e) → VCL_rRR rg w sk is ts al bst plan A K) : okLt_rRR :=
  LE.okOfX (fun W => @TT W) (fun W => @TT_ok W) mixed_ok Tz0 1000 50 (by kernel_rfl) lc_rRR le_rRN.f le_rRN.ok (fun W => @meas W) fun W rg w sk is ts al bst plan K hs =>
    (vcl_rRR W rg w sk is ts al bst plan (fun e => meas e < meas [.ro _ rg, .i w, .ro _ sk, .ro _ is, .ro _ ts, .i al, .l bst, .l plan] ∧ sp_rRR e K) K).mpr (hyp_ W rg w sk is ts al bst plan K hs _ fun e h1 h2 => ⟨h1, h2⟩)
theorem cd_congr : ∀ {m : Nat} {p q : Dt}, (∀ i, i < m → Sp.fLv p i = Sp.fLv q i) → Sp.cd m p = Sp.cd m q
  | 0, _, _, _ => rfl
  | m + 1, p, q, h => by rw [Sp.cd, Sp.cd, cd_congr (m := m) fun i hi => h i (by omega), h m (by omega)]
theorem cd_lt {p : Dt} (h : Sp.PlOk p) : ∀ m, Sp.cd m p < 9 ^ m
  | 0 => Nat.one_pos
  | m + 1 => by
    have ih := cd_lt h m
    have p8 := h.p8 m
    rw [Sp.cd, Nat.pow_succ]
    omega
theorem cd_inj {p q : Dt} (hp : Sp.PlOk p) (hq : Sp.PlOk q) : ∀ {m : Nat}, Sp.cd m p = Sp.cd m q → ∀ i, i < m → Sp.fLv p i = Sp.fLv q i
  | 0, _, i, hi => by omega
  | m + 1, h, i, hi => by
    have p8 := hp.p8 m
    have q8 := hq.p8 m
    rw [Sp.cd, Sp.cd] at h
    by_cases e : i = m
    · rw [e]; omega
    · exact cd_inj hp hq (m := m) (by omega) i (by omega)
theorem one_at {n : Nat} {p : Dt} (h : Sp.Plan n p) {i : Nat} (hi : i < n) : p.getD i [] = [.i (Sp.fLv p i)] := by
  obtain ⟨a, e⟩ := h.one i (by rw [h.len]; exact hi)
  rw [e]
  show [Cl.i a] = [Cl.i ((p.getD i []).getD 0 .z).int]
  rw [e]
  rfl
theorem plan_ext {n : Nat} {p q : Dt} (hp : Sp.Plan n p) (hq : Sp.Plan n q) (h : Sp.cd n p = Sp.cd n q) : p = q :=
  dt_ext (hp.len.trans hq.len.symm) fun j hj => by
    rw [hp.len] at hj
    rw [one_at hp hj, one_at hq hj, cd_inj hp.ok hq.ok h j hj]
theorem plan_set {n : Nat} {p : Dt} {k : Nat} {x : Int} (h : Sp.Plan n p) (h0 : 0 ≤ x) (h8 : x ≤ 8) : Sp.Plan n (p.set k [.i x]) := ⟨by rw [List.length_set]; exact h.len, plok_set h.ok h0 h8, fun j hj => by
  rw [getD_set]
  split
  · exact ⟨_, rfl⟩
  · exact h.one j (by simpa using hj)⟩
theorem cd_set {p : Dt} {m k : Nat} {x : Int} (h : m ≤ k) : Sp.cd m (p.set k [.i x]) = Sp.cd m p := cd_congr fun i hi => by
  by_cases hk : k < p.length
  · rw [fLv_set hk, if_neg (by omega)]
  · rw [List.set_eq_of_length_le (Nat.le_of_not_lt hk)]
theorem nx_spec {n : Nat} : ∀ (m : Nat) (p : Dt), m ≤ n → Sp.Plan n p →
    (Sp.nxB m p = true → Sp.Plan n (Sp.nxD m p) ∧ Sp.cd m (Sp.nxD m p) = Sp.cd m p + 1 ∧ ∀ i, m ≤ i → Sp.fLv (Sp.nxD m p) i = Sp.fLv p i) ∧ (Sp.nxB m p = false → Sp.cd m p + 1 = 9 ^ m)
  | 0, p, _, hp => ⟨fun h => (by cases h), fun _ => rfl⟩
  | m + 1, p, hm, hp => by
    have p8 := hp.ok.p8 m
    have hl : m < p.length := by rw [hp.len]; omega
    rw [Sp.nxB, Sp.nxD]
    by_cases c : Sp.fLv p m < 8
    · rw [if_pos c, if_pos c]
      refine ⟨fun _ => ⟨plan_set hp (by omega) (by omega), ?_, fun i hi => by rw [fLv_set hl, if_neg (by omega)]⟩, fun h => by cases h⟩
      rw [Sp.cd, Sp.cd, cd_set (Nat.le_refl m), fLv_set hl, if_pos rfl]
      omega
    · rw [if_neg c, if_neg c]
      have ih := nx_spec m (p.set m [.i 0]) (by omega) (plan_set hp (by omega) (by omega))
      rw [cd_set (Nat.le_refl m)] at ih
      refine ⟨fun h => ?_, fun h => ?_⟩
      · obtain ⟨h1, h2, h3⟩ := ih.1 h
        refine ⟨h1, ?_, fun i hi => ?_⟩
        · rw [Sp.cd, Sp.cd, h2, h3 m (Nat.le_refl m), fLv_set hl, if_pos rfl]
          omega
        · rw [h3 i (by omega), fLv_set hl, if_neg (by omega)]
      · have := ih.2 h
        rw [Sp.cd, Nat.pow_succ]
        omega
theorem bst_next {sk rg ts plan bst : Dt} {al w : Int} (hp : Sp.Plan sk.length plan) (h : Sp.Bst sk rg ts al w (Sp.cd sk.length plan) bst) :
    (Sp.sumI bst ≤ Sp.sumI plan → Sp.Bst sk rg ts al w (Sp.cd sk.length plan + 1) bst) ∧ (Sp.sumI plan < Sp.sumI bst → Sp.okP sk rg ts al w plan = true → Sp.Bst sk rg ts al w (Sp.cd sk.length plan + 1) plan) ∧ (Sp.okP sk rg ts al w plan = false → Sp.Bst sk rg ts al w (Sp.cd sk.length plan + 1) bst) := by
  have hlt := h.lt
  have q := fun (q : Dt) (hq : Sp.Plan sk.length q) (hc : Sp.cd sk.length q < Sp.cd sk.length plan + 1) => (show Sp.cd sk.length q < Sp.cd sk.length plan ∨ q = plan by
    by_cases e : Sp.cd sk.length q = Sp.cd sk.length plan
    · exact Or.inr (plan_ext hq hp e)
    · exact Or.inl (by omega))
  refine ⟨fun hs => ⟨h.pl, h.ok, by omega, fun x hx hc ho => ?_⟩, fun hs ho => ⟨hp, ho, by omega, fun x hx hc ho => ?_⟩, fun hn => ⟨h.pl, h.ok, by omega, fun x hx hc ho => ?_⟩⟩
  · rcases q x hx hc with c | rfl
    · exact h.le x hx c ho
    · omega
  · rcases q x hx hc with c | rfl
    · have := h.le x hx c ho; omega
    · omega
  · rcases q x hx hc with c | rfl
    · exact h.le x hx c ho
    · rw [hn] at ho; cases ho
theorem no_next {sk rg ts plan : Dt} {al w : Int} (hp : Sp.Plan sk.length plan) (h : Sp.No sk rg ts al w (Sp.cd sk.length plan)) :
    (Sp.okP sk rg ts al w plan = false → Sp.No sk rg ts al w (Sp.cd sk.length plan + 1)) ∧ (Sp.okP sk rg ts al w plan = true → Sp.Bst sk rg ts al w (Sp.cd sk.length plan + 1) plan) := by
  have q := fun (q : Dt) (hq : Sp.Plan sk.length q) (hc : Sp.cd sk.length q < Sp.cd sk.length plan + 1) => (show Sp.cd sk.length q < Sp.cd sk.length plan ∨ q = plan by
    by_cases e : Sp.cd sk.length q = Sp.cd sk.length plan
    · exact Or.inr (plan_ext hq hp e)
    · exact Or.inl (by omega))
  refine ⟨fun hn => ⟨fun x hx hc => ?_⟩, fun ho => ⟨hp, ho, by omega, fun x hx hc hx2 => ?_⟩⟩
  · rcases q x hx hc with c | rfl
    · exact h.no x hx c
    · exact hn
  · rcases q x hx hc with c | rfl
    · rw [h.no x hx c] at hx2; cases hx2
    · omega
theorem best_of {sk rg ts b : Dt} {al w : Int} (h : Sp.Bst sk rg ts al w (9 ^ sk.length) b) : Sp.found sk rg ts al w = true ∧ Sp.best sk rg ts al w = b := by
  have hx : ∃ b, Sp.Bst sk rg ts al w (9 ^ sk.length) b := ⟨b, h⟩
  refine ⟨@decide_eq_true _ (Classical.propDecidable _) hx, ?_⟩
  unfold Sp.best
  rw [dif_pos hx]
  have c := Classical.choose_spec hx
  generalize Classical.choose hx = d at *
  have h1 := h.le d c.pl c.lt c.ok
  have h2 := c.le b h.pl h.lt h.ok
  exact plan_ext c.pl h.pl (by omega)
theorem no_of {sk rg ts : Dt} {al w : Int} (h : Sp.No sk rg ts al w (9 ^ sk.length)) : Sp.found sk rg ts al w = false :=
  @decide_eq_false _ (Classical.propDecidable _) fun ⟨b, hb⟩ => by
    have := h.no b hb.pl hb.lt
    rw [hb.ok] at this
    cases this
theorem ra_lo {sk rg p : Dt} (h1 : rg.length = sk.length) (h2 : p.length = sk.length) : Sp.fLv (Sp.endsD false (Sp.raD sk rg p rg.length)) = Sp.raLo sk rg p := funext fun k => by
  rw [ends_lo]
  by_cases hk : k < rg.length
  · have e : (Sp.raD sk rg p rg.length).getD k [] = [.i (Sp.raLo sk rg p k), .i (Sp.raHi sk rg p k)] := by simp [Sp.raD, List.getD_eq_getElem?_getD, List.getElem?_range hk]
    show (((Sp.raD sk rg p rg.length).getD k []).getD 0 .z).int = _
    rw [e]
    rfl
  · unfold Sp.rLo Sp.raLo Sp.rLo Sp.fLv Sp.gLo
    rw [fin_z (by rw [raD_len]; omega), fin_z (by omega), fin_z (by omega), fin_z (by omega)]
    rfl
theorem ra_fin (sk rg p : Dt) : Sp.FIn (Sp.raLo sk rg p) := fun k => by
  have := lev_in (Sp.rLo rg k + Sp.fLv p k * Sp.gLo sk k)
  unfold Sp.raLo
  omega
theorem okP_eq {sk rg ts p : Dt} {al w : Int} (h1 : rg.length = sk.length) (h2 : p.length = sk.length) : decide (w * 1000 ^ (ts.length - 1) ≤ Sp.passL (Sp.pF ts (Sp.fLv (Sp.endsD false (Sp.raD sk rg p rg.length))) (Int.toNat 0) (ts.length - Int.toNat 0)) al) = Sp.okP sk rg ts al w p := by
  rw [ra_lo h1 h2, Sp.okP, chance_pF]
  rfl
theorem okLrRR : okLt_rRR := okl_rRR (fun e => match e with | [_, _, .ro _ sk, _, _, _, _, .l plan] => 9 ^ sk.xs.length - Sp.cd sk.xs.length plan | _ => 0) fun W rg w sk is ts al bst plan K hs A hA => by
  obtain ⟨⟨hF, hp, hb⟩, hk⟩ := hs
  unfold VCL_rRR
  have n1 := hF.str.sch.n1
  have n5 := hF.str.sch.n5
  have l6 := hF.str.tin.l6
  have t1 := hF.str.t1
  have a0 := hF.str.a0
  have a1 := hF.str.a1
  have hl := hF.len
  have hbl := hb.pl.len
  have hpl := hp.len
  have nx := nx_spec (n := sk.xs.length) sk.xs.length plan (Nat.le_refl _) hp
  have lt := cd_lt hp.ok sk.xs.length
  have next : ∀ b, Sp.Bst sk.xs rg.xs ts.xs al w (Sp.cd sk.xs.length plan + 1) b → Pre (Sp.PlOk plan) (Vif (Sp.nxB plan.length plan) (A [.ro _ rg, .i w, .ro _ sk, .ro _ is, .ro _ ts, .i al, .l b, .l (Sp.nxD plan.length plan)]) (K 0 [.l b])) := fun b h => by
    rw [hpl]
    refine ⟨hp.ok, vif (fun e => ?_) fun e => ?_⟩
    · obtain ⟨h1, h2, _⟩ := nx.1 e
      exact hA _ (by show 9 ^ sk.xs.length - Sp.cd sk.xs.length (Sp.nxD sk.xs.length plan) < 9 ^ sk.xs.length - Sp.cd sk.xs.length plan; omega) ⟨⟨hF, h1, by rw [h2]; exact h⟩, hk⟩
    · rw [nx.2 e] at h
      have b := best_of h
      rw [b.2] at hk
      exact hk.1 b.1
  have bn := bst_next hp hb
  clear hA hk
  refine nedd (by omega) (nedd (by omega) ⟨hp.ok, hb.pl.ok, vifd (fun c => next _ (bn.1 c)) fun c => ⟨⟨hF.str.sch, hl, hpl, hF.rg, hp.ok⟩, ⟨by rw [raD_len]; omega, ⟨by omega, by omega, by omega, ?_, ?_, by unfold Sp.Small; omega⟩, ⟨t1, l6, hF.w0, hF.w1⟩, ?_⟩⟩⟩)
  · exact TsIn.eq hF.str.tin (by rw [ends_len, raD_len]; exact hl)
  · rw [ra_lo hl hpl]; exact ra_fin _ _ _
  · rw [okP_eq hl hpl]
    exact vif (fun e => next _ (bn.2.1 (by omega) e)) fun e => next _ (bn.2.2 e)
noncomputable def le_rRR : LE Try.prog := ⟨35, 7, fun W => @loopRun W lc_rRR, okLrRR⟩
noncomputable def le_rX : LE Try.prog := LE.pick lc_rNN.T le_rNN (LE.pick lc_rRN.T le_rRN le_rRR rfl rfl) rfl rfl
def sp_rNR [InW] (e : List Ed) (K : Nat → List Ed → Prop) : Prop := match e with
  | [.ro _ rg, .i w, .ro _ sk, .ro _ is, .ro _ ts, .i al, .l plan] => Pre (Sp.FwOk sk.xs is.xs rg.xs ts.xs al w ∧ Sp.Plan sk.xs.length plan ∧ Sp.No sk.xs rg.xs ts.xs al w (Sp.cd sk.xs.length plan)) (Vif (Sp.found sk.xs rg.xs ts.xs al w) (K 1 [.l (Sp.best sk.xs rg.xs ts.xs al w)]) (K 0 []))
  | _ => False
noncomputable def lc_rNR : LC where
  len := 53
  T := [(2, .rs [.int .i64, .int .i64]), (3, .int .i64), (4, (.ptr 1 0)), (5, (.ptr 4 0)), (11, (.lit (.slice none 0 0))), (12, (.row 9))]
  H := [(1, .blk 25 [.rs [.str, .int .i64, .int .i64, .int .i64, .int .i64], .rs [.str, .int .i64, .int .i64]]), (4, .blk 48 [.rs [.int .i64, .int .i64], .int .i64]), (9, .arr 3 [.int .i64])]
  W := [24, 25, 26, 27, 28, 29, 30, 31, 32, 33, 34, 35, 36, 37, 38, 39, 40, 41, 42, 43, 44, 45, 46, 47, 48, 49]
  outs := [⟨.exit 0, [(11, (.lit (.slice none 0 0)))], [], [2, 3, 4, 5, 12, 24, 25, 26, 27, 28, 29, 30, 31, 32, 33, 34, 35, 36, 37, 38, 39, 40, 41, 42, 43, 44, 45, 46, 47, 48, 49]⟩, ⟨.exit 0, [(11, (.row 12))], [(12, .arr 3 [.int .i64])], [2, 3, 4, 5, 12, 24, 25, 26, 27, 28, 29, 30, 31, 32, 33, 34, 35, 36, 37, 38, 39, 40, 41, 42, 43, 44, 45, 46, 47, 48, 49]⟩]
  spec := sp_rNR
def VCL_rNR [W : InW] (rg : Ro [.int .i64, .int .i64]) (w : Int) (sk : Ro [.str, .int .i64, .int .i64, .int .i64, .int .i64]) (is : Ro [.str, .int .i64, .int .i64]) (ts : Ro [.int .i64, .int .i64]) (al : Int) (plan : Dt) (A : List Ed → Prop) (K : Nat → List Ed → Prop) : Prop :=
  Need (decide ((0 : Nat) < plan.length)) (Pre (Sp.SchOk sk.xs is.xs ∧ rg.xs.length = sk.xs.length ∧ plan.length = sk.xs.length ∧ Sp.RgOk rg.xs ∧ Sp.PlOk plan) (Pre (List.length (Sp.raD sk.xs rg.xs plan (rg.xs.length)) ≤ (1000 : Nat)) (Pre ((0 : Int) ≤ (0 : Int) ∧ (0 : Int) ≤ (↑(ts.xs.length) : Int) ∧ (↑(ts.xs.length) : Int) < (0 : Int) + (↑(7 : Nat) : Int) ∧ Sp.TsIn ts.xs (List.length (Sp.endsD false (Sp.raD sk.xs rg.xs plan (rg.xs.length)))) ∧ Sp.FIn (Sp.fLv (Sp.endsD false (Sp.raD sk.xs rg.xs plan (rg.xs.length)))) ∧ Sp.Small al) (Pre ((1 : Nat) ≤ ts.xs.length ∧ ts.xs.length ≤ (6 : Nat) ∧ (0 : Int) ≤ w ∧ w ≤ (1000 : Int)) (Vif (decide (w * (1000 : Int) ^ (ts.xs.length - (1 : Nat)) ≤ Sp.passL (Sp.pF ts.xs (Sp.fLv (Sp.endsD false (Sp.raD sk.xs rg.xs plan (rg.xs.length)))) (Int.toNat (0 : Int)) (ts.xs.length - Int.toNat (0 : Int))) al)) (Pre (Sp.PlOk plan) (Vif (Sp.nxB (plan.length) plan) (Pre (Sp.FwOk sk.xs is.xs rg.xs ts.xs al w ∧ Sp.Plan (sk.xs.length) (Sp.nxD (plan.length) plan) ∧ Sp.Bst sk.xs rg.xs ts.xs al w (Sp.cd (sk.xs.length) (Sp.nxD (plan.length) plan)) plan) (Vif (Sp.found sk.xs rg.xs ts.xs al w) (K (0+1 : Nat) [.l (Sp.best sk.xs rg.xs ts.xs al w)]) True)) (K (0+1 : Nat) [.l plan]))) (Pre (Sp.PlOk plan) (Vif (Sp.nxB (plan.length) plan) (A [.ro _ rg, .i w, .ro _ sk, .ro _ is, .ro _ ts, .i al, .l (Sp.nxD (plan.length) plan)]) (K (0 : Nat) []))))))))
theorem vcl_rNR (W : InW) (rg w sk is ts al plan A K) : vcTop { cxT Try.prog TT Tz0 1000 50 with fn := 35 } 1000 (loopAt Try.prog 35 7) (tmOut 53 [(2, .rs _ rg), (3, .si .i64 w), (4, .ptr 1 0), (5, .ptr 4 0), (11, .v (.slice none 0 0)), (12, .rw 9)] [24, 25, 26, 27, 28, 29, 30, 31, 32, 33, 34, 35, 36, 37, 38, 39, 40, 41, 42, 43, 44, 45, 46, 47, 48, 49]) [(1, .blk 25 [.rs _ sk, .rs _ is]), (4, .blk 48 [.rs _ ts, .si .i64 al]), (9, .arr 3 [.int .i64] plan)] (roundX lc_rNR (le_rX.f W) A K) = VCL_rNR rg w sk is ts al plan A K := by kernel_rfl
def okLt_rNR : Prop := ∀ (W : InW) (body a : Code), (Try.prog.funcs[35]?).bind (·.body) = some body → a ∈ loopsIn body → keyOf a = 7 → @LoopOk W Try.prog a (@loopRun W lc_rNR)
theorem okl_rNR (meas : [InW] → List Ed → Nat) (hyp_ : ∀ (W : InW) (rg : Ro [.int .i64, .int .i64]) (w : Int) (sk : Ro [.str, .int .i64, .int .i64, .int .i64, .int .i64]) (is : Ro [.str, .int .i64, .int .i64]) (ts : Ro [.int .i64, .int .i64]) (al : Int) (plan : Dt) (K : Nat → List Ed → Prop), sp_rNR [.ro _ rg, .i w, .ro _ sk, .ro _ is, .ro _ ts, .i al, .l plan] K → ∀ A : List Ed → Prop, (∀ e, meas e < meas [.ro _ rg, .i w, .ro _ sk, .ro _ is, .ro _ ts, .i al, .l plan] → sp_rNR e K → A e) → VCL_rNR rg w sk is ts al plan A K) : okLt_rNR :=
  LE.okOfX (fun W => @TT W) (fun W => @TT_ok W) mixed_ok Tz0 1000 50 (by kernel_rfl) lc_rNR le_rX.f le_rX.ok (fun W => @meas W) fun W rg w sk is ts al plan K hs =>
    (vcl_rNR W rg w sk is ts al plan (fun e => meas e < meas [.ro _ rg, .i w, .ro _ sk, .ro _ is, .ro _ ts, .i al, .l plan] ∧ sp_rNR e K) K).mpr (hyp_ W rg w sk is ts al plan K hs _ fun e h1 h2 => ⟨h1, h2⟩)
theorem okLrNR : okLt_rNR := okl_rNR (fun e => match e with | [_, _, .ro _ sk, _, _, _, .l plan] => 9 ^ sk.xs.length - Sp.cd sk.xs.length plan | _ => 0) fun W rg w sk is ts al plan K hs A hA => by
  obtain ⟨⟨hF, hp, hb⟩, hk⟩ := hs
  unfold VCL_rNR
  have n1 := hF.str.sch.n1
  have n5 := hF.str.sch.n5
  have l6 := hF.str.tin.l6
  have t1 := hF.str.t1
  have a0 := hF.str.a0
  have a1 := hF.str.a1
  have hl := hF.len
  have hpl := hp.len
  have nx := nx_spec (n := sk.xs.length) sk.xs.length plan (Nat.le_refl _) hp
  have lt := cd_lt hp.ok sk.xs.length
  have bn := no_next hp hb
  refine nedd (by omega) ⟨⟨hF.str.sch, hl, hpl, hF.rg, hp.ok⟩, ⟨by rw [raD_len]; omega, ⟨by omega, by omega, by omega, ?_, ?_, by unfold Sp.Small; omega⟩, ⟨t1, l6, hF.w0, hF.w1⟩, ?_⟩⟩
  · exact TsIn.eq hF.str.tin (by rw [ends_len, raD_len]; exact hl)
  · rw [ra_lo hl hpl]; exact ra_fin _ _ _
  · rw [okP_eq hl hpl, hpl]
    refine vif (fun e => ⟨hp.ok, vif (fun e2 => ?_) fun e2 => ?_⟩) fun e => ⟨hp.ok, vif (fun e2 => ?_) fun e2 => ?_⟩
    · obtain ⟨h1, h2, _⟩ := nx.1 e2
      have B := bn.2 e
      exact ⟨⟨hF, h1, by rw [h2]; exact B⟩, vif (fun f => hk.1 f) fun _ => trivial⟩
    · have B := bn.2 e
      rw [nx.2 e2] at B
      have b := best_of B
      rw [b.2] at hk
      exact hk.1 b.1
    · obtain ⟨h1, h2, _⟩ := nx.1 e2
      exact hA _ (by show 9 ^ sk.xs.length - Sp.cd sk.xs.length (Sp.nxD sk.xs.length plan) < 9 ^ sk.xs.length - Sp.cd sk.xs.length plan; omega) ⟨⟨hF, h1, by rw [h2]; exact bn.1 e⟩, hk⟩
    · have B := bn.1 e
      rw [nx.2 e2] at B
      exact hk.2 (no_of B)
noncomputable def le_rNR : LE Try.prog := ⟨35, 7, fun W => @loopRun W lc_rNR, okLrNR⟩
noncomputable def Tz1 : Tab Try.prog := ⟨[pc_tested], [le_rNR], []⟩
def VC_rFewest [W : InW] (s_Skills : Ro [.str, .int .i64, .int .i64, .int .i64, .int .i64]) (s_Instrs : Ro [.str, .int .i64, .int .i64]) (t_Tasks : Ro [.int .i64, .int .i64]) (t_Allowed : Int) (rg : Ro [.int .i64, .int .i64]) (w : Int) (Q : DS → Prop) : Prop :=
  Pre (Sp.NamesOk s_Skills.xs ∧ Sp.NamesOk s_Instrs.xs) (Vif (!decide (Sp.readyE s_Skills.xs s_Instrs.xs t_Tasks.xs t_Allowed rg.xs w = (0 : Int))) (Q [[Cl.l []], [Cl.i (Sp.readyE s_Skills.xs s_Instrs.xs t_Tasks.xs t_Allowed rg.xs w)]]) (Need (decide ((↑(rg.xs.length) : Int) = (↑(rg.xs.length) : Int)) && decide ((0 : Int) ≤ (↑(rg.xs.length) : Int)) && decide ((8 : Nat) * (↑(rg.xs.length) : Int).toNat ≤ (281474976710656 : Nat))) (Pre (Sp.FwOk s_Skills.xs s_Instrs.xs rg.xs t_Tasks.xs t_Allowed w ∧ Sp.Plan (s_Skills.xs.length) (List.replicate (↑(rg.xs.length) : Int).toNat (zeroCls [Ty.int IntKind.i64])) ∧ Sp.No s_Skills.xs rg.xs t_Tasks.xs t_Allowed w (Sp.cd (s_Skills.xs.length) (List.replicate (↑(rg.xs.length) : Int).toNat (zeroCls [Ty.int IntKind.i64])))) (Vif (Sp.found s_Skills.xs rg.xs t_Tasks.xs t_Allowed w) (Need (decide ((0 : Nat) < List.length (Sp.best s_Skills.xs rg.xs t_Tasks.xs t_Allowed w))) (Q [[Cl.l (Sp.best s_Skills.xs rg.xs t_Tasks.xs t_Allowed w)], [Cl.i (0 : Int)]])) (Q [[Cl.l []], [Cl.i (9 : Int)]])))))
theorem vc_rFewest (W : InW) (s_Skills s_Instrs t_Tasks t_Allowed rg w Q) : bodyK (cxT Try.prog TT Tz1 1000 50) 1000 35 [.agg [.rs _ s_Skills, .rs _ s_Instrs], .agg [.rs _ t_Tasks, .si .i64 t_Allowed], .rs _ rg, .si .i64 w] [] 0 (leafK [(false, [.row 3 [.int .i64]]), (false, [.int .i64])] Q) (fun _ _ _ _ => Stuck 421) = VC_rFewest s_Skills s_Instrs t_Tasks t_Allowed rg w Q := by kernel_rfl
abbrev ats_rFewest : List AT := [.agg [.sl [.str, .int .i64, .int .i64, .int .i64, .int .i64], .sl [.str, .int .i64, .int .i64]], .agg [.sl [.int .i64, .int .i64], .int .i64], .one (.sl [.int .i64, .int .i64]), .one (.int .i64)]
theorem ok_rFewest {pre : DS → Prop} {res : DS → DS} (hyp_ : ∀ (W : InW) (s_Skills : Ro [.str, .int .i64, .int .i64, .int .i64, .int .i64]) (s_Instrs : Ro [.str, .int .i64, .int .i64]) (t_Tasks : Ro [.int .i64, .int .i64]) (t_Allowed : Int) (rg : Ro [.int .i64, .int .i64]) (w : Int), pre [[.l s_Skills.xs, .l s_Instrs.xs], [.l t_Tasks.xs, .i t_Allowed], [.l rg.xs], [.i w]] → ∀ Q : DS → Prop, Q (res [[.l s_Skills.xs, .l s_Instrs.xs], [.l t_Tasks.xs, .i t_Allowed], [.l rg.xs], [.i w]]) → VC_rFewest s_Skills s_Instrs t_Tasks t_Allowed rg w Q) : PureOk Try.prog 35 ats_rFewest [(false, [.row 3 [.int .i64]]), (false, [.int .i64])] pre res :=
  PureOk.of' (fun W => @TT W) (fun W => @TT_ok W) mixed_ok Tz1 1000 50 fun W s_Skills s_Instrs t_Tasks t_Allowed rg w hp =>
    (vc_rFewest W s_Skills s_Instrs t_Tasks t_Allowed rg w (fun o => o = res [[.l s_Skills.xs, .l s_Instrs.xs], [.l t_Tasks.xs, .i t_Allowed], [.l rg.xs], [.i w]])).mpr (hyp_ W s_Skills s_Instrs t_Tasks t_Allowed rg w hp _ rfl)
end Go.Proofs.Ytdokbocmgdhmmaa
namespace Go.Proofs.Ytdokbocmgdhmmaa
open Go.RowKit
set_option linter.unusedVariables false
set_option maxRecDepth 100000
set_option maxHeartbeats 1600000
noncomputable def TiD : Tab Try.prog := ⟨[pc_lev], [le_inn, le_sum], []⟩
def sp_outD [InW] (e : List Ed) (K : Nat → List Ed → Prop) : Prop := match e with
  | [.ro _ ts, .i n, .i i, .ro _ rg, .ro _ sk, .ro _ is, .l pl, .l parts] => Pre (n = (ts.xs.length : Int) ∧ 0 ≤ i ∧ i ≤ n ∧ Sp.TsIn ts.xs sk.xs.length ∧ rg.xs.length = sk.xs.length ∧ pl.length = sk.xs.length ∧ Sp.SchOk sk.xs is.xs ∧ Sp.RgOk rg.xs ∧ Sp.PlOk pl ∧ parts = Sp.partsD (Sp.done ts.xs (Sp.raLo sk.xs rg.xs pl) i.toNat) ts.xs.length) (K 0 [.ro _ rg, .ro _ sk, .ro _ is, .l pl, .l (Sp.partsD (Sp.done ts.xs (Sp.raLo sk.xs rg.xs pl) ts.xs.length) ts.xs.length)])
  | _ => False
noncomputable def lc_outD : LC where
  len := 82
  T := [(1, (.fn (.func 86) [] [(.ptr 4 0), (.ptr 10 0), (.ptr 13 0)])), (5, (.row 6)), (20, .rs [.int .i64, .int .i64]), (21, .int .i64), (22, .int .i64)]
  H := [(4, .blk 37 [.rs [.int .i64, .int .i64]]), (10, .blk 49 [(.row 16)]), (13, .blk 25 [.rs [.str, .int .i64, .int .i64, .int .i64, .int .i64], .rs [.str, .int .i64, .int .i64]]), (16, .arr 3 [.int .i64]), (6, .arr 3 [.int .i64])]
  W := [7, 8, 9, 23, 24, 25, 26, 27, 28, 29, 30, 31, 32, 33, 34, 35, 36, 37, 38, 39, 40, 41, 42, 43, 44, 45, 46, 47, 48, 49, 50, 51, 52, 53, 54, 55, 56, 57, 58, 59, 60, 61, 62, 63, 64, 65, 66]
  outs := [⟨.exit 0, [(1, (.fn (.func 86) [] [(.ptr 4 0), (.ptr 10 0), (.ptr 13 0)])), (5, (.row 12))], [(4, .blk 37 [.rs [.int .i64, .int .i64]]), (10, .blk 49 [(.row 16)]), (13, .blk 25 [.rs [.str, .int .i64, .int .i64, .int .i64, .int .i64], .rs [.str, .int .i64, .int .i64]]), (16, .arr 3 [.int .i64]), (12, .arr 3 [.int .i64])], [7, 8, 9, 20, 21, 22, 23, 24, 25, 26, 27, 28, 29, 30, 31, 32, 33, 34, 35, 36, 37, 38, 39, 40, 41, 42, 43, 44, 45, 46, 47, 48, 49, 50, 51, 52, 53, 54, 55, 56, 57, 58, 59, 60, 61, 62, 63, 64, 65, 66]⟩]
  spec := sp_outD
def VCL_outD [W : InW] (ts : Ro [.int .i64, .int .i64]) (n i : Int) (rg : Ro [.int .i64, .int .i64]) (sk : Ro [.str, .int .i64, .int .i64, .int .i64, .int .i64]) (is : Ro [.str, .int .i64, .int .i64]) (pl parts : Dt) (A : List Ed → Prop) (K : Nat → List Ed → Prop) : Prop :=
  Vif (decide (i < n)) (Need (decide ((0 : Int) ≤ i) && decide (i < (↑(ts.xs.length) : Int))) (Need (decide (i.toNat < ts.xs.length)) (Need (decide ((0 : Int) ≤ (cel ts.xs i.toNat (0 : Nat)).int) && decide ((cel ts.xs i.toNat (0 : Nat)).int < (↑(rg.xs.length) : Int))) (Need (decide ((cel ts.xs i.toNat (0 : Nat)).int.toNat < rg.xs.length)) (Need (decide ((0 : Int) ≤ (cel ts.xs i.toNat (0 : Nat)).int) && decide ((cel ts.xs i.toNat (0 : Nat)).int < (↑(pl.length) : Int))) (Need (decide ((cel ts.xs i.toNat (0 : Nat)).int.toNat < pl.length)) (Need (decide ((0 : Int) ≤ (cel ts.xs i.toNat (0 : Nat)).int) && decide ((cel ts.xs i.toNat (0 : Nat)).int < (↑(sk.xs.length) : Int))) (Need (decide ((cel ts.xs i.toNat (0 : Nat)).int.toNat < sk.xs.length)) (Ar .i64 ((cel pl (cel ts.xs i.toNat (0 : Nat)).int.toNat (0 : Nat)).int * (cel sk.xs (cel ts.xs i.toNat (0 : Nat)).int.toNat (0+1 : Nat)).int) fun z => Ar .i64 ((cel rg.xs (cel ts.xs i.toNat (0 : Nat)).int.toNat (0 : Nat)).int + z) fun z => Pre True (Ar .i64 ((500 : Int) + Sp.lev z) fun z => Ar .i64 (z - (cel ts.xs i.toNat (0+1 : Nat)).int) fun z => Pre True (Ar .i64 ((↑(parts.length) : Int) - (1 : Int)) fun z_1 => Pre ((0 : Int) ≤ Sp.lev z ∧ Sp.lev z ≤ (1000 : Int) ∧ (0 : Int) ≤ z_1 ∧ z_1 < (↑(parts.length) : Int) ∧ parts.length ≤ (7 : Nat) ∧ Sp.PartsIn parts z_1.toNat) (Need (decide ((0 : Int) ≤ (0 : Int)) && decide ((0 : Int) < (↑(List.length (Sp.stepD parts (Sp.lev z) z_1.toNat)) : Int))) (Need (decide (Int.toNat (0 : Int) < List.length (Sp.stepD parts (Sp.lev z) z_1.toNat))) (Ar .i64 ((cel (Sp.stepD parts (Sp.lev z) z_1.toNat) (Int.toNat (0 : Int)) (0 : Nat)).int * Sp.lev z) fun z_2 => Need (decide ((0 : Int) ≤ (0 : Int)) && decide ((0 : Int) < (↑(List.length (Sp.stepD parts (Sp.lev z) z_1.toNat)) : Int))) (Need (decide (Int.toNat (0 : Int) < List.length (Sp.stepD parts (Sp.lev z) z_1.toNat))) (Ar .i64 (i + (1 : Int)) fun z_3 => A [.ro _ ts, .i n, .i z_3, .ro _ rg, .ro _ sk, .ro _ is, .l pl, .l (List.set (Sp.stepD parts (Sp.lev z) z_1.toNat) (Int.toNat (0 : Int)) [Cl.i z_2])])))))))))))))))) (K (0 : Nat) [.ro _ rg, .ro _ sk, .ro _ is, .l pl, .l parts])
theorem vcl_outD (W : InW) (ts n i rg sk is pl parts A K) : vcTop { cxT Try.prog TT TiD 1000 50 with fn := 75 } 1000 (loopAt Try.prog 75 5) (tmOut 82 [(1, .fn (.func 86) [] [.ptr 4 0, .ptr 10 0, .ptr 13 0]), (5, .rw 6), (20, .rs _ ts), (21, .si .i64 n), (22, .si .i64 i)] [7, 8, 9, 23, 24, 25, 26, 27, 28, 29, 30, 31, 32, 33, 34, 35, 36, 37, 38, 39, 40, 41, 42, 43, 44, 45, 46, 47, 48, 49, 50, 51, 52, 53, 54, 55, 56, 57, 58, 59, 60, 61, 62, 63, 64, 65, 66]) [(4, .blk 37 [.rs _ rg]), (10, .blk 49 [.rw 16]), (13, .blk 25 [.rs _ sk, .rs _ is]), (16, .arr 3 [.int .i64] pl), (6, .arr 3 [.int .i64] parts)] (roundL lc_outD A K) = VCL_outD ts n i rg sk is pl parts A K := by kernel_rfl
def okLt_outD : Prop := ∀ (W : InW) (body a : Code), (Try.prog.funcs[75]?).bind (·.body) = some body → a ∈ loopsIn body → keyOf a = 5 → @LoopOk W Try.prog a (@loopRun W lc_outD)
theorem okl_outD (meas : [InW] → List Ed → Nat) (hyp_ : ∀ (W : InW) (ts : Ro [.int .i64, .int .i64]) (n : Int) (i : Int) (rg : Ro [.int .i64, .int .i64]) (sk : Ro [.str, .int .i64, .int .i64, .int .i64, .int .i64]) (is : Ro [.str, .int .i64, .int .i64]) (pl : Dt) (parts : Dt) (K : Nat → List Ed → Prop), sp_outD [.ro _ ts, .i n, .i i, .ro _ rg, .ro _ sk, .ro _ is, .l pl, .l parts] K → ∀ A : List Ed → Prop, (∀ e, meas e < meas [.ro _ ts, .i n, .i i, .ro _ rg, .ro _ sk, .ro _ is, .l pl, .l parts] → sp_outD e K → A e) → VCL_outD ts n i rg sk is pl parts A K) : okLt_outD :=
  LE.okOf' (fun W => @TT W) (fun W => @TT_ok W) mixed_ok TiD 1000 50 (by kernel_rfl) lc_outD (fun W => @meas W) fun W ts n i rg sk is pl parts K hs =>
    (vcl_outD W ts n i rg sk is pl parts (fun e => meas e < meas [.ro _ ts, .i n, .i i, .ro _ rg, .ro _ sk, .ro _ is, .l pl, .l parts] ∧ sp_outD e K) K).mpr (hyp_ W ts n i rg sk is pl parts K hs _ fun e h1 h2 => ⟨h1, h2⟩)
theorem okLoutD : okLt_outD := okl_outD (fun e => match e with | _ :: .i n :: .i i :: _ => (n - i).toNat | _ => 0) fun W ts n i rg sk is pl parts K hs A hA => by
  obtain ⟨⟨rfl, h0, h1, hT, hrl, hpl, hS, hR, hP, rfl⟩, hk⟩ := hs
  unfold VCL_outD
  simp only [Nat.zero_add, Nat.reduceAdd, partsD_len]
  have h6 := hT.l6
  refine vifd (fun e => ?_) fun e => ?_
  · have t1 := hT.sk i.toNat (by omega)
    have t2 := hT.lv i.toNat (by omega)
    have hr := hR (Sp.tSk ts.xs i.toNat).toNat (by omega)
    have hg := hS.skG (Sp.tSk ts.xs i.toNat).toNat (by omega)
    have p8 := hP.p8 (Sp.tSk ts.xs i.toNat).toNat
    have m1 := mul8 p8.1 p8.2 hg.1 (by omega)
    have t3 := ra_fin sk.xs rg.xs pl (Sp.tSk ts.xs i.toNat).toNat
    have e1 : (i + 1).toNat = i.toNat + 1 := by omega
    have hA' : A [.ro _ ts, .i ts.xs.length, .i (i + 1), .ro _ rg, .ro _ sk, .ro _ is, .l pl, .l (Sp.partsD (Sp.done ts.xs (Sp.raLo sk.xs rg.xs pl) (i.toNat + 1)) ts.xs.length)] := hA _ (by show ((ts.xs.length : Int) - (i + 1)).toNat < ((ts.xs.length : Int) - i).toNat; omega) ⟨⟨rfl, by omega, by omega, hT, hrl, hpl, hS, hR, hP, by rw [e1]⟩, hk⟩
    have hp := lev_in (500 + Sp.raLo sk.xs rg.xs pl (Sp.tSk ts.xs i.toNat).toNat - Sp.tLv ts.xs i.toNat)
    have hq := parts_in (ts := ts.xs) (f := Sp.raLo sk.xs rg.xs pl) (i := i.toNat) (n := ts.xs.length) (j := ts.xs.length) (by omega) (Nat.le_refl _)
    have hst := partsD_step (d := Sp.done ts.xs (Sp.raLo sk.xs rg.xs pl) i.toNat) (p := Sp.prob ts.xs (Sp.raLo sk.xs rg.xs pl) i.toNat) (n := ts.xs.length)
    have hc0 : (cel (Sp.stepD (Sp.partsD (Sp.done ts.xs (Sp.raLo sk.xs rg.xs pl) i.toNat) ts.xs.length) (Sp.prob ts.xs (Sp.raLo sk.xs rg.xs pl) i.toNat) ts.xs.length) 0 0).int = Sp.cf (Sp.done ts.xs (Sp.raLo sk.xs rg.xs pl) i.toNat) 0 := by
      unfold cel
      rw [stepD_at (by rw [partsD_len]; omega), if_neg (by omega)]
      exact partsD_cel (Nat.zero_le _)
    have hc1 := cf_in (done_in ts.xs (Sp.raLo sk.xs rg.xs pl) i.toNat) 0
    rw [done_len] at hc1
    have hc2 := pow_le (n := i.toNat) (by omega)
    have hc3 := ar_in hc1.1 (by omega) hp.1 hp.2
    rw [show Sp.done ts.xs (Sp.raLo sk.xs rg.xs pl) (i.toNat + 1) = Sp.prob ts.xs (Sp.raLo sk.xs rg.xs pl) i.toNat :: Sp.done ts.xs (Sp.raLo sk.xs rg.xs pl) i.toNat from rfl, ← hst, hc0] at hA'
    clear hA hk hT hst hS hR hP
    have hP : Sp.lev (500 + Sp.raLo sk.xs rg.xs pl (Sp.tSk ts.xs i.toNat).toNat - Sp.tLv ts.xs i.toNat) = Sp.prob ts.xs (Sp.raLo sk.xs rg.xs pl) i.toNat := rfl
    have hL : Sp.lev ((cel rg.xs (cel ts.xs i.toNat 0).int.toNat 0).int + (cel pl (cel ts.xs i.toNat 0).int.toNat 0).int * (cel sk.xs (cel ts.xs i.toNat 0).int.toNat 1).int) = Sp.raLo sk.xs rg.xs pl (Sp.tSk ts.xs i.toNat).toNat := rfl
    rw [hP] at hp hc3
    have hP2 : Sp.lev (500 + Sp.raLo sk.xs rg.xs pl (Sp.tSk ts.xs i.toNat).toNat - (cel ts.xs i.toNat 1).int) = Sp.prob ts.xs (Sp.raLo sk.xs rg.xs pl) i.toNat := rfl
    unfold Sp.tLv at t2
    unfold Sp.tSk at t1 hr m1
    unfold Sp.rLo Sp.rHi at hr
    unfold Sp.fLv Sp.gLo at m1
    refine need_in (by omega) (nedd (by omega) (need_in (by omega) (nedd (by omega) (need_in (by omega) (nedd (by omega) (need_in (by omega) (nedd (by omega) (ar64 (by omega) (ar64 (by omega) ⟨trivial, ?_⟩))))))))) 
    rw [hL]
    refine ar64 (by omega) (ar64 (by omega) ⟨trivial, ?_⟩)
    rw [hP2, show ((ts.xs.length + 1 : Nat) : Int) - 1 = ts.xs.length by omega]
    refine ar64 (by omega) ?_
    simp only [Int.toNat_natCast, stepD_len, partsD_len, show Int.toNat 0 = 0 from rfl, hc0]
    exact ⟨⟨hp.1, hp.2, by omega, by omega, by omega, hq⟩, need_in (by omega) (nedd (by omega) (ar64 (by omega) (need_in (by omega) (nedd (by omega) (ar64 (by omega) hA')))))⟩
  · have e0 : i.toNat = ts.xs.length := by omega
    rw [e0]
    exact hk
noncomputable def le_outD : LE Try.prog := ⟨75, 5, fun W => @loopRun W lc_outD, okLoutD⟩
noncomputable def TjD : Tab Try.prog := ⟨[], [le_outD, le_sum], []⟩
def sp_chD [InW] (e : List Ed) (K : Nat → List Ed → Prop) : Prop := match e with
  | [.ro _ ts, .i al, .ro _ rg, .ro _ sk, .ro _ is, .l pl] => Pre (Sp.TsIn ts.xs sk.xs.length ∧ rg.xs.length = sk.xs.length ∧ pl.length = sk.xs.length ∧ Sp.SchOk sk.xs is.xs ∧ Sp.RgOk rg.xs ∧ Sp.PlOk pl ∧ 0 ≤ al ∧ al ≤ ts.xs.length) (K 0 [.i (Sp.chance ts.xs al (Sp.raLo sk.xs rg.xs pl))])
  | _ => False
noncomputable def cc_chD : CC where
  g := 75
  args := [.agg [.rs [.int .i64, .int .i64], .int .i64], (.fn (.func 86) [] [(.ptr 1 0), (.ptr 4 0), (.ptr 7 0)])]
  H := [(1, .blk 37 [.rs [.int .i64, .int .i64]]), (4, .blk 49 [(.row 10)]), (7, .blk 25 [.rs [.str, .int .i64, .int .i64, .int .i64, .int .i64], .rs [.str, .int .i64, .int .i64]]), (10, .arr 3 [.int .i64])]
  outs := [⟨false, .int .i64, [], true⟩]
  spec := sp_chD
def VCC_chD [W : InW] (ts : Ro [.int .i64, .int .i64]) (al : Int) (rg : Ro [.int .i64, .int .i64]) (sk : Ro [.str, .int .i64, .int .i64, .int .i64, .int .i64]) (is : Ro [.str, .int .i64, .int .i64]) (pl : Dt) (K : Nat → List Ed → Prop) : Prop :=
  Ar .i64 ((↑(ts.xs.length) : Int) + (1 : Int)) fun z => Need (decide (z = z) && decide ((0 : Int) ≤ z) && decide ((8 : Nat) * z.toNat ≤ (281474976710656 : Nat))) (Need (decide ((0 : Int) ≤ (0 : Int)) && decide ((0 : Int) < (↑(List.replicate z.toNat (zeroCls [Ty.int IntKind.i64])).length : Int))) (Need (decide (Int.toNat (0 : Int) < (List.replicate z.toNat (zeroCls [Ty.int IntKind.i64])).length)) (Pre ((↑(ts.xs.length) : Int) = (↑(ts.xs.length) : Int) ∧ (0 : Int) ≤ (0 : Int) ∧ (0 : Int) ≤ (↑(ts.xs.length) : Int) ∧ Sp.TsIn ts.xs (sk.xs.length) ∧ rg.xs.length = sk.xs.length ∧ pl.length = sk.xs.length ∧ Sp.SchOk sk.xs is.xs ∧ Sp.RgOk rg.xs ∧ Sp.PlOk pl ∧ (List.replicate z.toNat (zeroCls [Ty.int IntKind.i64])).set (Int.toNat (0 : Int)) [Cl.i (1 : Int)] = Sp.partsD (Sp.done ts.xs (Sp.raLo sk.xs rg.xs pl) (Int.toNat (0 : Int))) (ts.xs.length)) (Ar .i64 (al + (1 : Int)) fun z => Need (decide ((0 : Int) ≤ z)) (Need (decide ((0 : Nat) ≤ z.toNat) && decide (z.toNat ≤ List.length (Sp.partsD (Sp.done ts.xs (Sp.raLo sk.xs rg.xs pl) (ts.xs.length)) (ts.xs.length)))) (Pre ((↑(z.toNat - (0 : Nat)) : Int) = (↑(z.toNat - (0 : Nat)) : Int) ∧ (↑(0 : Nat) : Int) = (0 : Int) ∧ (0 : Int) ≤ (0 : Int) ∧ (0 : Int) ≤ (↑(z.toNat - (0 : Nat)) : Int) ∧ (↑(z.toNat - (0 : Nat)) : Int) ≤ (↑(List.length (Sp.partsD (Sp.done ts.xs (Sp.raLo sk.xs rg.xs pl) (ts.xs.length)) (ts.xs.length))) : Int) ∧ List.length (Sp.partsD (Sp.done ts.xs (Sp.raLo sk.xs rg.xs pl) (ts.xs.length)) (ts.xs.length)) ≤ (7 : Nat) ∧ Sp.NonNeg (Sp.partsD (Sp.done ts.xs (Sp.raLo sk.xs rg.xs pl) (ts.xs.length)) (ts.xs.length)) ∧ Sp.SumIn (Sp.partsD (Sp.done ts.xs (Sp.raLo sk.xs rg.xs pl) (ts.xs.length)) (ts.xs.length)) (0 : Int) (Int.toNat (0 : Int)) ((↑(z.toNat - (0 : Nat)) : Int) - (0 : Int)).toNat) ([Ed.ro _ rg] ++ [] ++ ([] ++ [] ++ ([Ed.ro _ sk] ++ ([Ed.ro _ is] ++ []) ++ ([Ed.l pl] ++ []))) = [Ed.ro _ rg, Ed.ro _ sk, Ed.ro _ is, Ed.l pl] ∧ K (0 : Nat) [Ed.i ((0 : Int) + Sp.sumP (Sp.partsD (Sp.done ts.xs (Sp.raLo sk.xs rg.xs pl) (ts.xs.length)) (ts.xs.length)) (Int.toNat (0 : Int)) ((↑(z.toNat - (0 : Nat)) : Int) - (0 : Int)).toNat)])))))))
theorem vcc_chD (W : InW) (ts al rg sk is pl K) : coreK (cxT Try.prog TT TjD 1000 50) 1000 75 [.agg [.rs _ ts, .si .i64 al], .fn (.func 86) [] [.ptr 1 0, .ptr 4 0, .ptr 7 0]] [(1, .blk 37 [.rs _ rg]), (4, .blk 49 [.rw 10]), (7, .blk 25 [.rs _ sk, .rs _ is]), (10, .arr 3 [.int .i64] pl)] (fun v h => outC cc_chD.H [.ro _ rg, .ro _ sk, .ro _ is, .l pl] cc_chD.outs 0 false v h K) (fun v h => outC cc_chD.H [.ro _ rg, .ro _ sk, .ro _ is, .l pl] cc_chD.outs 0 true v h K) = VCC_chD ts al rg sk is pl K := by kernel_rfl
theorem okc_chD (hyp_ : ∀ (W : InW) (ts : Ro [.int .i64, .int .i64]) (al : Int) (rg : Ro [.int .i64, .int .i64]) (sk : Ro [.str, .int .i64, .int .i64, .int .i64, .int .i64]) (is : Ro [.str, .int .i64, .int .i64]) (pl : Dt) (K : Nat → List Ed → Prop), sp_chD [.ro _ ts, .i al, .ro _ rg, .ro _ sk, .ro _ is, .l pl] K → VCC_chD ts al rg sk is pl K) : ∀ W : InW, @CallC W Try.prog cc_chD :=
  CC.okOf (fun W => @TT W) (fun W => @TT_ok W) mixed_ok TjD 1000 50 cc_chD fun W ts al rg sk is pl K hs => (vcc_chD W ts al rg sk is pl K).mpr (hyp_ W ts al rg sk is pl K hs)
theorem okCchD : ∀ W : InW, @CallC W Try.prog cc_chD := okc_chD fun W ts al rg sk is pl K hs => by
  obtain ⟨⟨hT, hrl, hpl, hS, hR, hP, h0, h1⟩, hk⟩ := hs
  unfold VCC_chD
  have h6 := hT.l6
  have hs := sumP_parts (d := Sp.done ts.xs (Sp.raLo sk.xs rg.xs pl) ts.xs.length) (n := ts.xs.length) (al.toNat + 1) 0 (by omega)
  rw [sumC_pass, sumC_pass, passL_neg (a := ((0 : Nat) : Int) - 1) (by omega), Int.sub_zero, show ((0 + (al.toNat + 1) : Nat) : Int) - 1 = al by omega] at hs
  have hb := passL_in (done_in ts.xs (Sp.raLo sk.xs rg.xs pl) ts.xs.length) al
  rw [done_len] at hb
  have hb2 := pow_le6 h6
  refine ar64 (by omega) ?_
  simp only [show ((ts.xs.length : Int) + 1).toNat = ts.xs.length + 1 by omega, List.length_replicate, partsD_len, show Int.toNat 0 = 0 from rfl, Nat.sub_zero, Int.sub_zero, Int.toNat_natCast]
  refine ned (by simp; omega) (ned (by simp) (nedd (by omega) ⟨⟨trivial, by omega, by omega, hT, hrl, hpl, hS, hR, hP, partsD_zero _⟩, ar64 (by omega) (nedd (by omega) ?_)⟩))
  rw [show (al + 1).toNat = al.toNat + 1 by omega, hs]
  refine ned (by simp; omega) ⟨⟨trivial, rfl, by omega, by omega, by omega, by omega, parts_nn, ⟨by omega, by rw [hs]; omega⟩⟩, ⟨rfl, ?_⟩⟩
  rw [Int.zero_add]
  exact hk
namespace Sp
noncomputable def fewE (sk is ts : Dt) (al : Int) (rg : Dt) (w : Int) : Int := if readyE sk is ts al rg w = 0 then (if found sk rg ts al w then 0 else 9) else readyE sk is ts al rg w
noncomputable def fewD (sk is ts : Dt) (al : Int) (rg : Dt) (w : Int) : Dt := if fewE sk is ts al rg w = 0 then best sk rg ts al w else []
end Sp
noncomputable abbrev res_Fewest (ds : DS) : DS := match ds with | [[.l sk, .l is], [.l ts, .i al], [.l rg], [.i w]] => [[.l (Sp.fewD sk is ts al rg w)], [.i (Sp.fewE sk is ts al rg w)]] | _ => []
theorem fw_iff {sk is ts rg : Dt} {al w : Int} : Sp.readyE sk is ts al rg w = 0 ↔ Sp.FwOk sk is rg ts al w := by
  rw [readyE_iff]
  exact ⟨fun h => ⟨h.1, h.2.1, h.2.2.1, h.2.2.2.1, h.2.2.2.2⟩, fun h => ⟨h.str, h.len, h.rg, h.w0, h.w1⟩⟩
theorem best_spec {sk rg ts : Dt} {al w : Int} (h : Sp.found sk rg ts al w = true) : Sp.Bst sk rg ts al w (9 ^ sk.length) (Sp.best sk rg ts al w) := by
  have hx : ∃ b, Sp.Bst sk rg ts al w (9 ^ sk.length) b := @of_decide_eq_true _ (Classical.propDecidable _) h
  unfold Sp.best
  rw [dif_pos hx]
  exact Classical.choose_spec hx
theorem rep_fLv (n k : Nat) : Sp.fLv (List.replicate n [.i 0]) k = 0 := by
  by_cases h : k < n
  · have e : (List.replicate n [Cl.i 0]).getD k [] = [.i 0] := by rw [List.getD_eq_getElem?_getD, List.getElem?_replicate, if_pos h]; rfl
    show (((List.replicate n [Cl.i 0]).getD k []).getD 0 .z).int = 0
    rw [e]; rfl
  · unfold Sp.fLv
    exact fin_z (by rw [List.length_replicate]; omega)
theorem rep_plan {n : Nat} (h : n ≤ 5) : Sp.Plan n (List.replicate n [.i 0]) := ⟨List.length_replicate, ⟨by rw [List.length_replicate]; exact h, fun i => by rw [rep_fLv]; omega⟩, fun i hi => ⟨0, by rw [List.length_replicate] at hi; rw [List.getD_eq_getElem?_getD, List.getElem?_replicate, if_pos hi]; rfl⟩⟩
theorem rep_cd (n : Nat) : ∀ m, Sp.cd m (List.replicate n [.i 0]) = 0
  | 0 => rfl
  | m + 1 => by rw [Sp.cd, rep_cd n m, rep_fLv]; rfl
theorem ok_rFew : PureOk Try.prog 35 ats_rFewest [(false, [.row 3 [.int .i64]]), (false, [.int .i64])] pre_tested res_Fewest :=
  ok_rFewest fun W sk is ts al rg w hp Q h => by
    unfold VC_rFewest
    simp only [res_Fewest] at h
    refine ⟨hp, vifn (fun e => ?_) fun e => ?_⟩
    · rw [Sp.fewD, Sp.fewE, if_neg e, if_neg e] at h; exact h
    · have hF := fw_iff.1 e
      have hl := hF.len
      have n1 := hF.str.sch.n1
      have n5 := hF.str.sch.n5
      have hE : Sp.fewE sk.xs is.xs ts.xs al rg.xs w = if Sp.found sk.xs rg.xs ts.xs al w then 0 else 9 := by rw [Sp.fewE, if_pos e]
      rw [Sp.fewD, hE] at h
      rw [Int.toNat_natCast, hl, show zeroCls [Ty.int IntKind.i64] = [.i 0] from rfl]
      refine ned (by simp; omega) ⟨⟨hF, rep_plan n5, by rw [rep_cd]; exact ⟨fun q _ hq => absurd hq (Nat.not_lt_zero _)⟩⟩, vif (fun f => ?_) fun f => ?_⟩
      · rw [f, if_pos rfl, if_pos rfl] at h
        exact nedd (by rw [(best_spec f).pl.len]; omega) h
      · rw [f, if_neg (show ¬ false = true by decide), if_neg (show ¬ (9 : Int) = 0 by decide)] at h
        exact h
noncomputable def pc_rFewest : PC Try.prog := ⟨35, ats_rFewest, [(false, [.row 3 [.int .i64]]), (false, [.int .i64])], pre_tested, res_Fewest, ok_rFew⟩
end Go.Proofs.Ytdokbocmgdhmmaa
namespace Go.Proofs.Ytdokbocmgdhmmaa
open Go.RowKit
set_option linter.unusedVariables false
set_option maxRecDepth 100000
set_option maxHeartbeats 1600000
def rfIn : Code → List LI
  | .seq a b => rfIn a ++ rfIn b
  | .cond _ a b => rfIn a ++ rfIn b
  | .block _ a => rfIn a
  | .loop a => rfIn a
  | .scope a => rfIn a
  | .rangeFunc _ ps asg b => ⟨.ready, none, ps, asg, b⟩ :: rfIn b
  | _ => []
def lpAt (P : Program) (g : FuncId) (k : Nat) : LI := (rfIn (bodyOf P g)).getD k ⟨.ready, none, #[], .skip, .skip⟩
def LI.left (L : LI) (j : Code) : LI := { L with st := .done, pend := some j }
noncomputable abbrev LPfw : LI := lpAt Try.prog 34 0
noncomputable abbrev LPfwR : LI := (lpAt Try.prog 34 0).left .ret
namespace Sp
def lpF (F : Int → Dt → Bool × Dt) (k : Nat) (left : Int) : Nat → Int → Dt → Bool × Dt
  | 0, _, p => (false, p)
  | r + 1, i, p => if (F (left - i) (p.set k [.i i])).1 then F (left - i) (p.set k [.i i]) else lpF F k left r (i + 1) (F (left - i) (p.set k [.i i])).2
def fiF (ok : Dt → Bool) (n : Nat) : Nat → Nat → Int → Dt → Bool × Dt
  | 0, _, _, p => (false, p)
  | m + 1, k, left, p => if k + 1 = n then (if 8 < left then (false, p.set k [.i left]) else (ok (p.set k [.i left]), p.set k [.i left])) else lpF (fiF ok n m (k + 1)) k left (min left 8 + 1).toNat 0 p
def okQ (sk rg ts : Dt) (al parts : Int) (p : Dt) : Bool := decide (parts ≤ chance ts al (raLo sk rg p))
structure Fi (sk is rg ts : Dt) (al parts : Int) (n k m : Nat) (left : Int) (p : Dt) : Prop where
  sch : SchOk sk is
  tin : TsIn ts sk.length
  rl : rg.length = sk.length
  rg : RgOk rg
  a0 : 0 ≤ al
  a1 : al ≤ ts.length
  nn : n = sk.length
  km : k + m = n
  mm : 1 ≤ m
  pl : p.length = n
  pk : ∀ i, i < k → 0 ≤ fLv p i ∧ fLv p i ≤ 8
  l0 : 0 ≤ left
  l1 : left ≤ 1000
end Sp
def sp_fil (m : Nat) [InW] (e : List Ed) (K : Nat → List Ed → Prop) : Prop := match e with
  | [.i k, .i left, .i n, .l p, .ro _ sk, .ro _ is, .ro _ ts, .i al, .ro _ rg, .i parts] => Pre (0 ≤ k ∧ n = sk.xs.length ∧ Sp.Fi sk.xs is.xs rg.xs ts.xs al parts sk.xs.length k.toNat m left p)
    (Vif (Sp.fiF (Sp.okQ sk.xs rg.xs ts.xs al parts) sk.xs.length m k.toNat left p).1
      (K 1 [.i n, .l (Sp.fiF (Sp.okQ sk.xs rg.xs ts.xs al parts) sk.xs.length m k.toNat left p).2, .ro _ sk, .ro _ is, .ro _ ts, .i al, .ro _ rg, .i parts])
      (K 0 [.i n, .l (Sp.fiF (Sp.okQ sk.xs rg.xs ts.xs al parts) sk.xs.length m k.toNat left p).2, .ro _ sk, .ro _ is, .ro _ ts, .i al, .ro _ rg, .i parts]))
  | _ => False
def sp_fll (m : Nat) [InW] (e : List Ed) (K : Nat → List Ed → Prop) : Prop := match e with
  | [.i k, .i left, .i c, .i i, .i n, .l p, .ro _ sk, .ro _ is, .ro _ ts, .i al, .ro _ rg, .i parts] => Pre (0 ≤ k ∧ n = sk.xs.length ∧ c = min left 8 + 1 ∧ 0 ≤ i ∧ i ≤ c ∧ 1 ≤ m ∧ Sp.Fi sk.xs is.xs rg.xs ts.xs al parts sk.xs.length k.toNat (m + 1) left p)
    (Vif (Sp.lpF (Sp.fiF (Sp.okQ sk.xs rg.xs ts.xs al parts) sk.xs.length m (k.toNat + 1)) k.toNat left (c - i).toNat i p).1
      (K 1 [.i n, .l (Sp.lpF (Sp.fiF (Sp.okQ sk.xs rg.xs ts.xs al parts) sk.xs.length m (k.toNat + 1)) k.toNat left (c - i).toNat i p).2, .ro _ sk, .ro _ is, .ro _ ts, .i al, .ro _ rg, .i parts])
      (K 0 [.i n, .l (Sp.lpF (Sp.fiF (Sp.okQ sk.xs rg.xs ts.xs al parts) sk.xs.length m (k.toNat + 1)) k.toNat left (c - i).toNat i p).2, .ro _ sk, .ro _ is, .ro _ ts, .i al, .ro _ rg, .i parts]))
  | _ => False
noncomputable def cc_fil (m : Nat) : CC where
  g := 105
  args := [.int .i64, .int .i64, (.ptr 1 0), (.ptr 4 0), (.ptr 7 0), (.ptr 10 0)]
  H := [(1, .blk 3 [.int .i64]), (7, .blk 149 [(.yl 13)]), (10, .blk 150 [(.fn (.func 105) [] [(.ptr 1 0), (.ptr 4 0), (.ptr 7 0), (.ptr 10 0)])]), (4, .blk 49 [(.row 6)]), (6, .arr 3 [.int .i64]), (13, .lp LPfw [(.opq 1501), (.opq 1504), (.opq 1507), (.opq 1510), (.opq 1513), (.ptr 31 0), (.ptr 34 0), (.ptr 37 0), (.opq 1525), (.ptr 40 0), (.ptr 43 0), (.ptr 46 0), (.opq 1537), (.opq 1540), (.opq 339), (.opq 1546), (.opq 1549), (.opq 1552), (.opq 1555), (.opq 1558), (.opq 1561), (.opq 1564), (.opq 1567), (.opq 1570), (.opq 1573), (.opq 1576), (.opq 1579), (.opq 1582), (.opq 1585), (.opq 1588), (.opq 1591), (.opq 1594), (.opq 1597), (.opq 1600), (.opq 1603), (.opq 1606), (.opq 1609), (.opq 1612), (.opq 1615), (.opq 414), (.opq 417), (.opq 420), (.opq 423), (.opq 426), (.opq 429), (.opq 432), (.opq 1639)]), (40, .blk 49 [(.lit (.slice none 0 0))]), (43, .blk 28 [(.lit (.int .i64 0))]), (31, .blk 25 [.rs [.str, .int .i64, .int .i64, .int .i64, .int .i64], .rs [.str, .int .i64, .int .i64]]), (34, .blk 48 [.rs [.int .i64, .int .i64], .int .i64]), (37, .blk 37 [.rs [.int .i64, .int .i64]]), (46, .blk 3 [.int .i64])]
  outs := [⟨false, (.lit (.bool true)), [(1, .blk 3 [.int .i64]), (7, .blk 149 [(.yl 13)]), (10, .blk 150 [(.fn (.func 105) [] [(.ptr 1 0), (.ptr 4 0), (.ptr 7 0), (.ptr 10 0)])]), (4, .blk 49 [(.row 9)]), (9, .arr 3 [.int .i64]), (13, .lp LPfw [(.opq 1501), (.opq 1504), (.opq 1507), (.opq 1510), (.opq 1513), (.ptr 31 0), (.ptr 34 0), (.ptr 37 0), (.opq 1525), (.ptr 40 0), (.ptr 43 0), (.ptr 46 0), (.opq 1537), (.opq 1540), (.opq 639), (.opq 1546), (.opq 1549), (.opq 1552), (.opq 1555), (.opq 1558), (.opq 1561), (.opq 1564), (.opq 1567), (.opq 1570), (.opq 1573), (.opq 1576), (.opq 1579), (.opq 1582), (.opq 1585), (.opq 1588), (.opq 1591), (.opq 1594), (.opq 1597), (.opq 1600), (.opq 1603), (.opq 1606), (.opq 1609), (.opq 1612), (.opq 1615), (.opq 714), (.opq 717), (.opq 720), (.opq 723), (.opq 726), (.opq 729), (.opq 732), (.opq 1639)]), (639, .dead), (714, .dead), (717, .dead), (720, .dead), (723, .dead), (726, .dead), (729, .dead), (732, .dead), (40, .blk 49 [(.lit (.slice none 0 0))]), (43, .blk 28 [(.lit (.int .i64 0))]), (31, .blk 25 [.rs [.str, .int .i64, .int .i64, .int .i64, .int .i64], .rs [.str, .int .i64, .int .i64]]), (34, .blk 48 [.rs [.int .i64, .int .i64], .int .i64]), (37, .blk 37 [.rs [.int .i64, .int .i64]]), (46, .blk 3 [.int .i64])], false⟩, ⟨false, (.lit (.bool false)), [(1, .blk 3 [.int .i64]), (7, .blk 149 [(.yl 13)]), (10, .blk 150 [(.fn (.func 105) [] [(.ptr 1 0), (.ptr 4 0), (.ptr 7 0), (.ptr 10 0)])]), (4, .blk 49 [(.row 9)]), (9, .arr 3 [.int .i64]), (13, .lp LPfwR [(.opq 1501), (.opq 1504), (.opq 1507), (.opq 1510), (.opq 1513), (.ptr 31 0), (.ptr 34 0), (.ptr 37 0), (.opq 1525), (.ptr 40 0), (.ptr 43 0), (.ptr 46 0), (.opq 1537), (.opq 1540), (.opq 639), (.opq 1546), (.opq 1549), (.opq 1552), (.opq 1555), (.opq 1558), (.opq 1561), (.opq 1564), (.opq 1567), (.opq 1570), (.opq 1573), (.opq 1576), (.opq 1579), (.opq 1582), (.opq 1585), (.opq 1588), (.opq 1591), (.opq 1594), (.opq 1597), (.opq 1600), (.opq 1603), (.opq 1606), (.opq 1609), (.opq 1612), (.opq 1615), (.opq 714), (.opq 717), (.opq 720), (.opq 723), (.opq 726), (.opq 729), (.opq 732), (.opq 1639)]), (639, .dead), (714, .dead), (717, .dead), (720, .dead), (723, .dead), (726, .dead), (729, .dead), (732, .dead), (40, .blk 49 [(.row 9)]), (43, .blk 28 [(.lit (.int .i64 0))]), (31, .blk 25 [.rs [.str, .int .i64, .int .i64, .int .i64, .int .i64], .rs [.str, .int .i64, .int .i64]]), (34, .blk 48 [.rs [.int .i64, .int .i64], .int .i64]), (37, .blk 37 [.rs [.int .i64, .int .i64]]), (46, .blk 3 [.int .i64])], false⟩]
  spec := sp_fil m
def sp_fi0 [InW] (e : List Ed) (K : Nat → List Ed → Prop) : Prop := sp_fil 1 e K
noncomputable def lc_dum : LC where
  len := 44
  T := []
  H := []
  W := []
  outs := []
  spec := fun _ _ => False
theorem okLdum : ∀ (W : InW) (body a : Code), (Try.prog.funcs[105]?).bind (·.body) = some body → a ∈ loopsIn body → keyOf a = 6 → @LoopOk W Try.prog a (@loopRun W lc_dum) := fun W body a _ _ _ => loopRun_ok fun _ _ _ _ _ _ _ hs => hs.elim
noncomputable def le_dum : LE Try.prog := ⟨105, 6, fun W => @loopRun W lc_dum, okLdum⟩
noncomputable def Tfc : Tab Try.prog := ⟨[], [le_dum], [ceOf cc_chD okCchD]⟩
noncomputable def cc_fi0 : CC where
  g := 105
  args := [.int .i64, .int .i64, (.ptr 1 0), (.ptr 4 0), (.ptr 7 0), (.ptr 10 0)]
  H := [(1, .blk 3 [.int .i64]), (7, .blk 149 [(.yl 13)]), (10, .blk 150 [(.fn (.func 105) [] [(.ptr 1 0), (.ptr 4 0), (.ptr 7 0), (.ptr 10 0)])]), (4, .blk 49 [(.row 6)]), (6, .arr 3 [.int .i64]), (13, .lp LPfw [(.opq 1501), (.opq 1504), (.opq 1507), (.opq 1510), (.opq 1513), (.ptr 31 0), (.ptr 34 0), (.ptr 37 0), (.opq 1525), (.ptr 40 0), (.ptr 43 0), (.ptr 46 0), (.opq 1537), (.opq 1540), (.opq 339), (.opq 1546), (.opq 1549), (.opq 1552), (.opq 1555), (.opq 1558), (.opq 1561), (.opq 1564), (.opq 1567), (.opq 1570), (.opq 1573), (.opq 1576), (.opq 1579), (.opq 1582), (.opq 1585), (.opq 1588), (.opq 1591), (.opq 1594), (.opq 1597), (.opq 1600), (.opq 1603), (.opq 1606), (.opq 1609), (.opq 1612), (.opq 1615), (.opq 414), (.opq 417), (.opq 420), (.opq 423), (.opq 426), (.opq 429), (.opq 432), (.opq 1639)]), (40, .blk 49 [(.lit (.slice none 0 0))]), (43, .blk 28 [(.lit (.int .i64 0))]), (31, .blk 25 [.rs [.str, .int .i64, .int .i64, .int .i64, .int .i64], .rs [.str, .int .i64, .int .i64]]), (34, .blk 48 [.rs [.int .i64, .int .i64], .int .i64]), (37, .blk 37 [.rs [.int .i64, .int .i64]]), (46, .blk 3 [.int .i64])]
  outs := [⟨false, (.lit (.bool true)), [(1, .blk 3 [.int .i64]), (7, .blk 149 [(.yl 13)]), (10, .blk 150 [(.fn (.func 105) [] [(.ptr 1 0), (.ptr 4 0), (.ptr 7 0), (.ptr 10 0)])]), (4, .blk 49 [(.row 9)]), (9, .arr 3 [.int .i64]), (13, .lp LPfw [(.opq 1501), (.opq 1504), (.opq 1507), (.opq 1510), (.opq 1513), (.ptr 31 0), (.ptr 34 0), (.ptr 37 0), (.opq 1525), (.ptr 40 0), (.ptr 43 0), (.ptr 46 0), (.opq 1537), (.opq 1540), (.opq 639), (.opq 1546), (.opq 1549), (.opq 1552), (.opq 1555), (.opq 1558), (.opq 1561), (.opq 1564), (.opq 1567), (.opq 1570), (.opq 1573), (.opq 1576), (.opq 1579), (.opq 1582), (.opq 1585), (.opq 1588), (.opq 1591), (.opq 1594), (.opq 1597), (.opq 1600), (.opq 1603), (.opq 1606), (.opq 1609), (.opq 1612), (.opq 1615), (.opq 714), (.opq 717), (.opq 720), (.opq 723), (.opq 726), (.opq 729), (.opq 732), (.opq 1639)]), (639, .dead), (714, .dead), (717, .dead), (720, .dead), (723, .dead), (726, .dead), (729, .dead), (732, .dead), (40, .blk 49 [(.lit (.slice none 0 0))]), (43, .blk 28 [(.lit (.int .i64 0))]), (31, .blk 25 [.rs [.str, .int .i64, .int .i64, .int .i64, .int .i64], .rs [.str, .int .i64, .int .i64]]), (34, .blk 48 [.rs [.int .i64, .int .i64], .int .i64]), (37, .blk 37 [.rs [.int .i64, .int .i64]]), (46, .blk 3 [.int .i64])], false⟩, ⟨false, (.lit (.bool false)), [(1, .blk 3 [.int .i64]), (7, .blk 149 [(.yl 13)]), (10, .blk 150 [(.fn (.func 105) [] [(.ptr 1 0), (.ptr 4 0), (.ptr 7 0), (.ptr 10 0)])]), (4, .blk 49 [(.row 9)]), (9, .arr 3 [.int .i64]), (13, .lp LPfwR [(.opq 1501), (.opq 1504), (.opq 1507), (.opq 1510), (.opq 1513), (.ptr 31 0), (.ptr 34 0), (.ptr 37 0), (.opq 1525), (.ptr 40 0), (.ptr 43 0), (.ptr 46 0), (.opq 1537), (.opq 1540), (.opq 639), (.opq 1546), (.opq 1549), (.opq 1552), (.opq 1555), (.opq 1558), (.opq 1561), (.opq 1564), (.opq 1567), (.opq 1570), (.opq 1573), (.opq 1576), (.opq 1579), (.opq 1582), (.opq 1585), (.opq 1588), (.opq 1591), (.opq 1594), (.opq 1597), (.opq 1600), (.opq 1603), (.opq 1606), (.opq 1609), (.opq 1612), (.opq 1615), (.opq 714), (.opq 717), (.opq 720), (.opq 723), (.opq 726), (.opq 729), (.opq 732), (.opq 1639)]), (639, .dead), (714, .dead), (717, .dead), (720, .dead), (723, .dead), (726, .dead), (729, .dead), (732, .dead), (40, .blk 49 [(.row 9)]), (43, .blk 28 [(.lit (.int .i64 0))]), (31, .blk 25 [.rs [.str, .int .i64, .int .i64, .int .i64, .int .i64], .rs [.str, .int .i64, .int .i64]]), (34, .blk 48 [.rs [.int .i64, .int .i64], .int .i64]), (37, .blk 37 [.rs [.int .i64, .int .i64]]), (46, .blk 3 [.int .i64])], false⟩]
  spec := sp_fi0
def VCC_fi0 [W : InW] (k left n : Int) (p : Dt) (sk : Ro [.str, .int .i64, .int .i64, .int .i64, .int .i64]) (is : Ro [.str, .int .i64, .int .i64]) (ts : Ro [.int .i64, .int .i64]) (al : Int) (rg : Ro [.int .i64, .int .i64]) (parts : Int) (K : Nat → List Ed → Prop) : Prop :=
  Ar .i64 (n - (1 : Int)) fun z => Vif (decide (k = z)) (Need (decide ((0 : Int) ≤ k) && decide (k < (↑(p.length) : Int))) (Need (decide (k.toNat < p.length)) (Vif (decide ((8 : Int) < left)) (PreL LPfw LPfw (K (0 : Nat) [.i n, .l (List.set p k.toNat [Cl.i left]), .ro _ sk, .ro _ is, .ro _ ts, .i al, .ro _ rg, .i parts])) (Pre (Sp.TsIn ts.xs (sk.xs.length) ∧ rg.xs.length = sk.xs.length ∧ (List.set p k.toNat [Cl.i left]).length = sk.xs.length ∧ Sp.SchOk sk.xs is.xs ∧ Sp.RgOk rg.xs ∧ Sp.PlOk (List.set p k.toNat [Cl.i left]) ∧ (0 : Int) ≤ al ∧ al ≤ (↑(ts.xs.length) : Int)) (Vif (decide (parts ≤ Sp.chance ts.xs al (Sp.raLo sk.xs rg.xs (List.set p k.toNat [Cl.i left])))) (PreL LPfwR LPfwR (K (0+1 : Nat) [.i n, .l (List.set p k.toNat [Cl.i left]), .ro _ sk, .ro _ is, .ro _ ts, .i al, .ro _ rg, .i parts])) (PreL LPfw LPfw (K (0 : Nat) [.i n, .l (List.set p k.toNat [Cl.i left]), .ro _ sk, .ro _ is, .ro _ ts, .i al, .ro _ rg, .i parts]))))))) (Ar .i64 (min left (8 : Int) + (1 : Int)) fun z => False)
theorem vcc_fi0 (W : InW) (k left n p sk is ts al rg parts K) : coreK (cxT Try.prog TT Tfc 1000 50) 1000 105 [.si .i64 k, .si .i64 left, .ptr 1 0, .ptr 4 0, .ptr 7 0, .ptr 10 0] [(1, .blk 3 [.si .i64 n]), (7, .blk 149 [.yl 13]), (10, .blk 150 [.fn (.func 105) [] [.ptr 1 0, .ptr 4 0, .ptr 7 0, .ptr 10 0]]), (4, .blk 49 [.rw 6]), (6, .arr 3 [.int .i64] p), (13, .lp LPfw [.opq 1501, .opq 1504, .opq 1507, .opq 1510, .opq 1513, .ptr 31 0, .ptr 34 0, .ptr 37 0, .opq 1525, .ptr 40 0, .ptr 43 0, .ptr 46 0, .opq 1537, .opq 1540, .opq 339, .opq 1546, .opq 1549, .opq 1552, .opq 1555, .opq 1558, .opq 1561, .opq 1564, .opq 1567, .opq 1570, .opq 1573, .opq 1576, .opq 1579, .opq 1582, .opq 1585, .opq 1588, .opq 1591, .opq 1594, .opq 1597, .opq 1600, .opq 1603, .opq 1606, .opq 1609, .opq 1612, .opq 1615, .opq 414, .opq 417, .opq 420, .opq 423, .opq 426, .opq 429, .opq 432, .opq 1639]), (40, .blk 49 [.v (.slice none 0 0)]), (43, .blk 28 [.v (.int .i64 0)]), (31, .blk 25 [.rs _ sk, .rs _ is]), (34, .blk 48 [.rs _ ts, .si .i64 al]), (37, .blk 37 [.rs _ rg]), (46, .blk 3 [.si .i64 parts])] (fun v h => outC cc_fi0.H [.i n, .l p, .ro _ sk, .ro _ is, .ro _ ts, .i al, .ro _ rg, .i parts] cc_fi0.outs 0 false v h K) (fun v h => outC cc_fi0.H [.i n, .l p, .ro _ sk, .ro _ is, .ro _ ts, .i al, .ro _ rg, .i parts] cc_fi0.outs 0 true v h K) = VCC_fi0 k left n p sk is ts al rg parts K := by kernel_rfl
theorem okc_fi0 (hyp_ : ∀ (W : InW) (k : Int) (left : Int) (n : Int) (p : Dt) (sk : Ro [.str, .int .i64, .int .i64, .int .i64, .int .i64]) (is : Ro [.str, .int .i64, .int .i64]) (ts : Ro [.int .i64, .int .i64]) (al : Int) (rg : Ro [.int .i64, .int .i64]) (parts : Int) (K : Nat → List Ed → Prop), sp_fi0 [.i k, .i left, .i n, .l p, .ro _ sk, .ro _ is, .ro _ ts, .i al, .ro _ rg, .i parts] K → VCC_fi0 k left n p sk is ts al rg parts K) : ∀ W : InW, @CallC W Try.prog cc_fi0 :=
  CC.okOf (fun W => @TT W) (fun W => @TT_ok W) mixed_ok Tfc 1000 50 cc_fi0 fun W k left n p sk is ts al rg parts K hs => (vcc_fi0 W k left n p sk is ts al rg parts K).mpr (hyp_ W k left n p sk is ts al rg parts K hs)
noncomputable def lc_fll (m : Nat) : LC where
  len := 44
  T := [(0, .int .i64), (1, .int .i64), (2, (.ptr 1 0)), (3, (.ptr 4 0)), (4, (.ptr 7 0)), (5, (.ptr 10 0)), (27, .int .i64), (28, .int .i64)]
  H := [(1, .blk 3 [.int .i64]), (7, .blk 149 [(.yl 13)]), (10, .blk 150 [(.fn (.func 105) [] [(.ptr 1 0), (.ptr 4 0), (.ptr 7 0), (.ptr 10 0)])]), (4, .blk 49 [(.row 6)]), (6, .arr 3 [.int .i64]), (13, .lp LPfw [(.opq 1501), (.opq 1504), (.opq 1507), (.opq 1510), (.opq 1513), (.ptr 31 0), (.ptr 34 0), (.ptr 37 0), (.opq 1525), (.ptr 40 0), (.ptr 43 0), (.ptr 46 0), (.opq 1537), (.opq 1540), (.opq 339), (.opq 1546), (.opq 1549), (.opq 1552), (.opq 1555), (.opq 1558), (.opq 1561), (.opq 1564), (.opq 1567), (.opq 1570), (.opq 1573), (.opq 1576), (.opq 1579), (.opq 1582), (.opq 1585), (.opq 1588), (.opq 1591), (.opq 1594), (.opq 1597), (.opq 1600), (.opq 1603), (.opq 1606), (.opq 1609), (.opq 1612), (.opq 1615), (.opq 414), (.opq 417), (.opq 420), (.opq 423), (.opq 426), (.opq 429), (.opq 432), (.opq 1639)]), (40, .blk 49 [(.lit (.slice none 0 0))]), (43, .blk 28 [(.lit (.int .i64 0))]), (31, .blk 25 [.rs [.str, .int .i64, .int .i64, .int .i64, .int .i64], .rs [.str, .int .i64, .int .i64]]), (34, .blk 48 [.rs [.int .i64, .int .i64], .int .i64]), (37, .blk 37 [.rs [.int .i64, .int .i64]]), (46, .blk 3 [.int .i64])]
  W := [8, 9, 29, 30, 31, 32, 33, 34, 35, 36, 37, 38, 39, 40, 41, 42, 43]
  outs := [⟨.exit 0, [(2, (.ptr 1 0)), (3, (.ptr 4 0)), (4, (.ptr 7 0)), (5, (.ptr 10 0))], [(1, .blk 3 [.int .i64]), (7, .blk 149 [(.yl 13)]), (10, .blk 150 [(.fn (.func 105) [] [(.ptr 1 0), (.ptr 4 0), (.ptr 7 0), (.ptr 10 0)])]), (4, .blk 49 [(.row 9)]), (9, .arr 3 [.int .i64]), (13, .lp LPfw [(.opq 1501), (.opq 1504), (.opq 1507), (.opq 1510), (.opq 1513), (.ptr 31 0), (.ptr 34 0), (.ptr 37 0), (.opq 1525), (.ptr 40 0), (.ptr 43 0), (.ptr 46 0), (.opq 1537), (.opq 1540), (.opq 639), (.opq 1546), (.opq 1549), (.opq 1552), (.opq 1555), (.opq 1558), (.opq 1561), (.opq 1564), (.opq 1567), (.opq 1570), (.opq 1573), (.opq 1576), (.opq 1579), (.opq 1582), (.opq 1585), (.opq 1588), (.opq 1591), (.opq 1594), (.opq 1597), (.opq 1600), (.opq 1603), (.opq 1606), (.opq 1609), (.opq 1612), (.opq 1615), (.opq 714), (.opq 717), (.opq 720), (.opq 723), (.opq 726), (.opq 729), (.opq 732), (.opq 1639)]), (639, .dead), (714, .dead), (717, .dead), (720, .dead), (723, .dead), (726, .dead), (729, .dead), (732, .dead), (40, .blk 49 [(.lit (.slice none 0 0))]), (43, .blk 28 [(.lit (.int .i64 0))]), (31, .blk 25 [.rs [.str, .int .i64, .int .i64, .int .i64, .int .i64], .rs [.str, .int .i64, .int .i64]]), (34, .blk 48 [.rs [.int .i64, .int .i64], .int .i64]), (37, .blk 37 [.rs [.int .i64, .int .i64]]), (46, .blk 3 [.int .i64])], [0, 1, 8, 9, 27, 28, 29, 30, 31, 32, 33, 34, 35, 36, 37, 38, 39, 40, 41, 42, 43]⟩, ⟨.ret, [(2, (.ptr 1 0)), (3, (.ptr 4 0)), (4, (.ptr 7 0)), (5, (.ptr 10 0)), (8, (.lit (.bool false)))], [(1, .blk 3 [.int .i64]), (7, .blk 149 [(.yl 13)]), (10, .blk 150 [(.fn (.func 105) [] [(.ptr 1 0), (.ptr 4 0), (.ptr 7 0), (.ptr 10 0)])]), (4, .blk 49 [(.row 9)]), (9, .arr 3 [.int .i64]), (13, .lp LPfwR [(.opq 1501), (.opq 1504), (.opq 1507), (.opq 1510), (.opq 1513), (.ptr 31 0), (.ptr 34 0), (.ptr 37 0), (.opq 1525), (.ptr 40 0), (.ptr 43 0), (.ptr 46 0), (.opq 1537), (.opq 1540), (.opq 639), (.opq 1546), (.opq 1549), (.opq 1552), (.opq 1555), (.opq 1558), (.opq 1561), (.opq 1564), (.opq 1567), (.opq 1570), (.opq 1573), (.opq 1576), (.opq 1579), (.opq 1582), (.opq 1585), (.opq 1588), (.opq 1591), (.opq 1594), (.opq 1597), (.opq 1600), (.opq 1603), (.opq 1606), (.opq 1609), (.opq 1612), (.opq 1615), (.opq 714), (.opq 717), (.opq 720), (.opq 723), (.opq 726), (.opq 729), (.opq 732), (.opq 1639)]), (639, .dead), (714, .dead), (717, .dead), (720, .dead), (723, .dead), (726, .dead), (729, .dead), (732, .dead), (40, .blk 49 [(.row 9)]), (43, .blk 28 [(.lit (.int .i64 0))]), (31, .blk 25 [.rs [.str, .int .i64, .int .i64, .int .i64, .int .i64], .rs [.str, .int .i64, .int .i64]]), (34, .blk 48 [.rs [.int .i64, .int .i64], .int .i64]), (37, .blk 37 [.rs [.int .i64, .int .i64]]), (46, .blk 3 [.int .i64])], [0, 1, 9, 27, 28, 29, 30, 31, 32, 33, 34, 35, 36, 37, 38, 39, 40, 41, 42, 43]⟩]
  spec := sp_fll m
def VCL_fll [W : InW] (m : Nat) (k left c i n : Int) (p : Dt) (sk : Ro [.str, .int .i64, .int .i64, .int .i64, .int .i64]) (is : Ro [.str, .int .i64, .int .i64]) (ts : Ro [.int .i64, .int .i64]) (al : Int) (rg : Ro [.int .i64, .int .i64]) (parts : Int) (A : List Ed → Prop) (K : Nat → List Ed → Prop) : Prop :=
  Vif (decide (i < c)) (Need (decide ((0 : Int) ≤ k) && decide (k < (↑(p.length) : Int))) (Need (decide (k.toNat < p.length)) (Ar .i64 (k + (1 : Int)) fun z => Ar .i64 (left - i) fun z_1 => PreL LPfw LPfw (PreL LPfw LPfw (Pre ((0 : Int) ≤ z ∧ n = (↑(sk.xs.length) : Int) ∧ Sp.Fi sk.xs is.xs rg.xs ts.xs al parts (sk.xs.length) z.toNat m z_1 (List.set p k.toNat [Cl.i i])) (Vif (Sp.fiF (Sp.okQ sk.xs rg.xs ts.xs al parts) (sk.xs.length) m z.toNat z_1 (List.set p k.toNat [Cl.i i])).1 (PreL LPfwR LPfwR (K (0+1 : Nat) [.i n, .l (Sp.fiF (Sp.okQ sk.xs rg.xs ts.xs al parts) (sk.xs.length) m z.toNat z_1 (List.set p k.toNat [Cl.i i])).2, .ro _ sk, .ro _ is, .ro _ ts, .i al, .ro _ rg, .i parts])) (Ar .i64 (i + (1 : Int)) fun z_2 => PreL LPfw LPfw (A [.i k, .i left, .i c, .i z_2, .i n, .l (Sp.fiF (Sp.okQ sk.xs rg.xs ts.xs al parts) (sk.xs.length) m z.toNat z_1 (List.set p k.toNat [Cl.i i])).2, .ro _ sk, .ro _ is, .ro _ ts, .i al, .ro _ rg, .i parts])))))))) (PreL LPfw LPfw (K (0 : Nat) [.i n, .l p, .ro _ sk, .ro _ is, .ro _ ts, .i al, .ro _ rg, .i parts]))
theorem vcl_fll (W : InW) (m h k left c i n p sk is ts al rg parts A K) : vcTop { cxT Try.prog TT (⟨[], [], [ceOf (cc_fil m) h]⟩) 1000 50 with fn := 105 } 1000 (loopAt Try.prog 105 6) (tmOut 44 [(0, .si .i64 k), (1, .si .i64 left), (2, .ptr 1 0), (3, .ptr 4 0), (4, .ptr 7 0), (5, .ptr 10 0), (27, .si .i64 c), (28, .si .i64 i)] [8, 9, 29, 30, 31, 32, 33, 34, 35, 36, 37, 38, 39, 40, 41, 42, 43]) [(1, .blk 3 [.si .i64 n]), (7, .blk 149 [.yl 13]), (10, .blk 150 [.fn (.func 105) [] [.ptr 1 0, .ptr 4 0, .ptr 7 0, .ptr 10 0]]), (4, .blk 49 [.rw 6]), (6, .arr 3 [.int .i64] p), (13, .lp LPfw [.opq 1501, .opq 1504, .opq 1507, .opq 1510, .opq 1513, .ptr 31 0, .ptr 34 0, .ptr 37 0, .opq 1525, .ptr 40 0, .ptr 43 0, .ptr 46 0, .opq 1537, .opq 1540, .opq 339, .opq 1546, .opq 1549, .opq 1552, .opq 1555, .opq 1558, .opq 1561, .opq 1564, .opq 1567, .opq 1570, .opq 1573, .opq 1576, .opq 1579, .opq 1582, .opq 1585, .opq 1588, .opq 1591, .opq 1594, .opq 1597, .opq 1600, .opq 1603, .opq 1606, .opq 1609, .opq 1612, .opq 1615, .opq 414, .opq 417, .opq 420, .opq 423, .opq 426, .opq 429, .opq 432, .opq 1639]), (40, .blk 49 [.v (.slice none 0 0)]), (43, .blk 28 [.v (.int .i64 0)]), (31, .blk 25 [.rs _ sk, .rs _ is]), (34, .blk 48 [.rs _ ts, .si .i64 al]), (37, .blk 37 [.rs _ rg]), (46, .blk 3 [.si .i64 parts])] (roundL (lc_fll m) A K) = VCL_fll m k left c i n p sk is ts al rg parts A K := by kernel_rfl
def okLt_fll (m : Nat) : Prop := ∀ (W : InW) (body a : Code), (Try.prog.funcs[105]?).bind (·.body) = some body → a ∈ loopsIn body → keyOf a = 6 → @LoopOk W Try.prog a (@loopRun W (lc_fll m))
theorem okl_fll (m : Nat) (h : ∀ W : InW, @CallC W Try.prog (cc_fil m)) (meas : [InW] → List Ed → Nat) (hyp_ : ∀ (W : InW) (k : Int) (left : Int) (c : Int) (i : Int) (n : Int) (p : Dt) (sk : Ro [.str, .int .i64, .int .i64, .int .i64, .int .i64]) (is : Ro [.str, .int .i64, .int .i64]) (ts : Ro [.int .i64, .int .i64]) (al : Int) (rg : Ro [.int .i64, .int .i64]) (parts : Int) (K : Nat → List Ed → Prop), sp_fll m [.i k, .i left, .i c, .i i, .i n, .l p, .ro _ sk, .ro _ is, .ro _ ts, .i al, .ro _ rg, .i parts] K → ∀ A : List Ed → Prop, (∀ e, meas e < meas [.i k, .i left, .i c, .i i, .i n, .l p, .ro _ sk, .ro _ is, .ro _ ts, .i al, .ro _ rg, .i parts] → sp_fll m e K → A e) → VCL_fll m k left c i n p sk is ts al rg parts A K) : okLt_fll m :=
  LE.okOf' (fun W => @TT W) (fun W => @TT_ok W) mixed_ok (⟨[], [], [ceOf (cc_fil m) h]⟩) 1000 50 (by kernel_rfl) (lc_fll m) (fun W => @meas W) fun W k left c i n p sk is ts al rg parts K hs =>
    (vcl_fll W m h k left c i n p sk is ts al rg parts (fun e => meas e < meas [.i k, .i left, .i c, .i i, .i n, .l p, .ro _ sk, .ro _ is, .ro _ ts, .i al, .ro _ rg, .i parts] ∧ sp_fll m e K) K).mpr (hyp_ W k left c i n p sk is ts al rg parts K hs _ fun e h1 h2 => ⟨h1, h2⟩)
def sp_fiS (m : Nat) [InW] (e : List Ed) (K : Nat → List Ed → Prop) : Prop := sp_fil (m + 1) e K
noncomputable def cc_fiS (m : Nat) : CC where
  g := 105
  args := [.int .i64, .int .i64, (.ptr 1 0), (.ptr 4 0), (.ptr 7 0), (.ptr 10 0)]
  H := [(1, .blk 3 [.int .i64]), (7, .blk 149 [(.yl 13)]), (10, .blk 150 [(.fn (.func 105) [] [(.ptr 1 0), (.ptr 4 0), (.ptr 7 0), (.ptr 10 0)])]), (4, .blk 49 [(.row 6)]), (6, .arr 3 [.int .i64]), (13, .lp LPfw [(.opq 1501), (.opq 1504), (.opq 1507), (.opq 1510), (.opq 1513), (.ptr 31 0), (.ptr 34 0), (.ptr 37 0), (.opq 1525), (.ptr 40 0), (.ptr 43 0), (.ptr 46 0), (.opq 1537), (.opq 1540), (.opq 339), (.opq 1546), (.opq 1549), (.opq 1552), (.opq 1555), (.opq 1558), (.opq 1561), (.opq 1564), (.opq 1567), (.opq 1570), (.opq 1573), (.opq 1576), (.opq 1579), (.opq 1582), (.opq 1585), (.opq 1588), (.opq 1591), (.opq 1594), (.opq 1597), (.opq 1600), (.opq 1603), (.opq 1606), (.opq 1609), (.opq 1612), (.opq 1615), (.opq 414), (.opq 417), (.opq 420), (.opq 423), (.opq 426), (.opq 429), (.opq 432), (.opq 1639)]), (40, .blk 49 [(.lit (.slice none 0 0))]), (43, .blk 28 [(.lit (.int .i64 0))]), (31, .blk 25 [.rs [.str, .int .i64, .int .i64, .int .i64, .int .i64], .rs [.str, .int .i64, .int .i64]]), (34, .blk 48 [.rs [.int .i64, .int .i64], .int .i64]), (37, .blk 37 [.rs [.int .i64, .int .i64]]), (46, .blk 3 [.int .i64])]
  outs := [⟨false, (.lit (.bool true)), [(1, .blk 3 [.int .i64]), (7, .blk 149 [(.yl 13)]), (10, .blk 150 [(.fn (.func 105) [] [(.ptr 1 0), (.ptr 4 0), (.ptr 7 0), (.ptr 10 0)])]), (4, .blk 49 [(.row 9)]), (9, .arr 3 [.int .i64]), (13, .lp LPfw [(.opq 1501), (.opq 1504), (.opq 1507), (.opq 1510), (.opq 1513), (.ptr 31 0), (.ptr 34 0), (.ptr 37 0), (.opq 1525), (.ptr 40 0), (.ptr 43 0), (.ptr 46 0), (.opq 1537), (.opq 1540), (.opq 639), (.opq 1546), (.opq 1549), (.opq 1552), (.opq 1555), (.opq 1558), (.opq 1561), (.opq 1564), (.opq 1567), (.opq 1570), (.opq 1573), (.opq 1576), (.opq 1579), (.opq 1582), (.opq 1585), (.opq 1588), (.opq 1591), (.opq 1594), (.opq 1597), (.opq 1600), (.opq 1603), (.opq 1606), (.opq 1609), (.opq 1612), (.opq 1615), (.opq 714), (.opq 717), (.opq 720), (.opq 723), (.opq 726), (.opq 729), (.opq 732), (.opq 1639)]), (639, .dead), (714, .dead), (717, .dead), (720, .dead), (723, .dead), (726, .dead), (729, .dead), (732, .dead), (40, .blk 49 [(.lit (.slice none 0 0))]), (43, .blk 28 [(.lit (.int .i64 0))]), (31, .blk 25 [.rs [.str, .int .i64, .int .i64, .int .i64, .int .i64], .rs [.str, .int .i64, .int .i64]]), (34, .blk 48 [.rs [.int .i64, .int .i64], .int .i64]), (37, .blk 37 [.rs [.int .i64, .int .i64]]), (46, .blk 3 [.int .i64])], false⟩, ⟨false, (.lit (.bool false)), [(1, .blk 3 [.int .i64]), (7, .blk 149 [(.yl 13)]), (10, .blk 150 [(.fn (.func 105) [] [(.ptr 1 0), (.ptr 4 0), (.ptr 7 0), (.ptr 10 0)])]), (4, .blk 49 [(.row 9)]), (9, .arr 3 [.int .i64]), (13, .lp LPfwR [(.opq 1501), (.opq 1504), (.opq 1507), (.opq 1510), (.opq 1513), (.ptr 31 0), (.ptr 34 0), (.ptr 37 0), (.opq 1525), (.ptr 40 0), (.ptr 43 0), (.ptr 46 0), (.opq 1537), (.opq 1540), (.opq 639), (.opq 1546), (.opq 1549), (.opq 1552), (.opq 1555), (.opq 1558), (.opq 1561), (.opq 1564), (.opq 1567), (.opq 1570), (.opq 1573), (.opq 1576), (.opq 1579), (.opq 1582), (.opq 1585), (.opq 1588), (.opq 1591), (.opq 1594), (.opq 1597), (.opq 1600), (.opq 1603), (.opq 1606), (.opq 1609), (.opq 1612), (.opq 1615), (.opq 714), (.opq 717), (.opq 720), (.opq 723), (.opq 726), (.opq 729), (.opq 732), (.opq 1639)]), (639, .dead), (714, .dead), (717, .dead), (720, .dead), (723, .dead), (726, .dead), (729, .dead), (732, .dead), (40, .blk 49 [(.row 9)]), (43, .blk 28 [(.lit (.int .i64 0))]), (31, .blk 25 [.rs [.str, .int .i64, .int .i64, .int .i64, .int .i64], .rs [.str, .int .i64, .int .i64]]), (34, .blk 48 [.rs [.int .i64, .int .i64], .int .i64]), (37, .blk 37 [.rs [.int .i64, .int .i64]]), (46, .blk 3 [.int .i64])], false⟩]
  spec := sp_fiS m
def VCC_fiS [W : InW] (m : Nat) (k left n : Int) (p : Dt) (sk : Ro [.str, .int .i64, .int .i64, .int .i64, .int .i64]) (is : Ro [.str, .int .i64, .int .i64]) (ts : Ro [.int .i64, .int .i64]) (al : Int) (rg : Ro [.int .i64, .int .i64]) (parts : Int) (K : Nat → List Ed → Prop) : Prop :=
  Ar .i64 (n - (1 : Int)) fun z => Vif (decide (k = z)) (Need (decide ((0 : Int) ≤ k) && decide (k < (↑(p.length) : Int))) (Need (decide (k.toNat < p.length)) (Vif (decide ((8 : Int) < left)) (PreL LPfw LPfw (K (0 : Nat) [.i n, .l (List.set p k.toNat [Cl.i left]), .ro _ sk, .ro _ is, .ro _ ts, .i al, .ro _ rg, .i parts])) (Pre (Sp.TsIn ts.xs (sk.xs.length) ∧ rg.xs.length = sk.xs.length ∧ (List.set p k.toNat [Cl.i left]).length = sk.xs.length ∧ Sp.SchOk sk.xs is.xs ∧ Sp.RgOk rg.xs ∧ Sp.PlOk (List.set p k.toNat [Cl.i left]) ∧ (0 : Int) ≤ al ∧ al ≤ (↑(ts.xs.length) : Int)) (Vif (decide (parts ≤ Sp.chance ts.xs al (Sp.raLo sk.xs rg.xs (List.set p k.toNat [Cl.i left])))) (PreL LPfwR LPfwR (K (0+1 : Nat) [.i n, .l (List.set p k.toNat [Cl.i left]), .ro _ sk, .ro _ is, .ro _ ts, .i al, .ro _ rg, .i parts])) (PreL LPfw LPfw (K (0 : Nat) [.i n, .l (List.set p k.toNat [Cl.i left]), .ro _ sk, .ro _ is, .ro _ ts, .i al, .ro _ rg, .i parts]))))))) (Ar .i64 (min left (8 : Int) + (1 : Int)) fun z => PreL LPfw LPfw (Pre ((0 : Int) ≤ k ∧ n = (↑(sk.xs.length) : Int) ∧ z = min left (8 : Int) + (1 : Int) ∧ (0 : Int) ≤ (0 : Int) ∧ (0 : Int) ≤ z ∧ (1 : Nat) ≤ m ∧ Sp.Fi sk.xs is.xs rg.xs ts.xs al parts (sk.xs.length) k.toNat (m + (1 : Nat)) left p) (Vif (Sp.lpF (Sp.fiF (Sp.okQ sk.xs rg.xs ts.xs al parts) (sk.xs.length) m (k.toNat + (1 : Nat))) k.toNat left (z - (0 : Int)).toNat (0 : Int) p).1 (PreL LPfwR LPfwR (K (0+1 : Nat) [.i n, .l (Sp.lpF (Sp.fiF (Sp.okQ sk.xs rg.xs ts.xs al parts) (sk.xs.length) m (k.toNat + (1 : Nat))) k.toNat left (z - (0 : Int)).toNat (0 : Int) p).2, .ro _ sk, .ro _ is, .ro _ ts, .i al, .ro _ rg, .i parts])) (PreL LPfw LPfw (K (0 : Nat) [.i n, .l (Sp.lpF (Sp.fiF (Sp.okQ sk.xs rg.xs ts.xs al parts) (sk.xs.length) m (k.toNat + (1 : Nat))) k.toNat left (z - (0 : Int)).toNat (0 : Int) p).2, .ro _ sk, .ro _ is, .ro _ ts, .i al, .ro _ rg, .i parts])))))
theorem vcc_fiS (W : InW) (m h k left n p sk is ts al rg parts K) : coreK (cxT Try.prog TT (⟨[], [⟨105, 6, fun W => @loopRun W (lc_fll m), h⟩], [ceOf cc_chD okCchD]⟩) 1000 50) 1000 105 [.si .i64 k, .si .i64 left, .ptr 1 0, .ptr 4 0, .ptr 7 0, .ptr 10 0] [(1, .blk 3 [.si .i64 n]), (7, .blk 149 [.yl 13]), (10, .blk 150 [.fn (.func 105) [] [.ptr 1 0, .ptr 4 0, .ptr 7 0, .ptr 10 0]]), (4, .blk 49 [.rw 6]), (6, .arr 3 [.int .i64] p), (13, .lp LPfw [.opq 1501, .opq 1504, .opq 1507, .opq 1510, .opq 1513, .ptr 31 0, .ptr 34 0, .ptr 37 0, .opq 1525, .ptr 40 0, .ptr 43 0, .ptr 46 0, .opq 1537, .opq 1540, .opq 339, .opq 1546, .opq 1549, .opq 1552, .opq 1555, .opq 1558, .opq 1561, .opq 1564, .opq 1567, .opq 1570, .opq 1573, .opq 1576, .opq 1579, .opq 1582, .opq 1585, .opq 1588, .opq 1591, .opq 1594, .opq 1597, .opq 1600, .opq 1603, .opq 1606, .opq 1609, .opq 1612, .opq 1615, .opq 414, .opq 417, .opq 420, .opq 423, .opq 426, .opq 429, .opq 432, .opq 1639]), (40, .blk 49 [.v (.slice none 0 0)]), (43, .blk 28 [.v (.int .i64 0)]), (31, .blk 25 [.rs _ sk, .rs _ is]), (34, .blk 48 [.rs _ ts, .si .i64 al]), (37, .blk 37 [.rs _ rg]), (46, .blk 3 [.si .i64 parts])] (fun v h => outC (cc_fiS m).H [.i n, .l p, .ro _ sk, .ro _ is, .ro _ ts, .i al, .ro _ rg, .i parts] (cc_fiS m).outs 0 false v h K) (fun v h => outC (cc_fiS m).H [.i n, .l p, .ro _ sk, .ro _ is, .ro _ ts, .i al, .ro _ rg, .i parts] (cc_fiS m).outs 0 true v h K) = VCC_fiS m k left n p sk is ts al rg parts K := by kernel_rfl
theorem okc_fiS (m : Nat) (h : okLt_fll m) (hyp_ : ∀ (W : InW) (k : Int) (left : Int) (n : Int) (p : Dt) (sk : Ro [.str, .int .i64, .int .i64, .int .i64, .int .i64]) (is : Ro [.str, .int .i64, .int .i64]) (ts : Ro [.int .i64, .int .i64]) (al : Int) (rg : Ro [.int .i64, .int .i64]) (parts : Int) (K : Nat → List Ed → Prop), sp_fiS m [.i k, .i left, .i n, .l p, .ro _ sk, .ro _ is, .ro _ ts, .i al, .ro _ rg, .i parts] K → VCC_fiS m k left n p sk is ts al rg parts K) : ∀ W : InW, @CallC W Try.prog (cc_fiS m) :=
  CC.okOf (fun W => @TT W) (fun W => @TT_ok W) mixed_ok (⟨[], [⟨105, 6, fun W => @loopRun W (lc_fll m), h⟩], [ceOf cc_chD okCchD]⟩) 1000 50 (cc_fiS m) fun W k left n p sk is ts al rg parts K hs => (vcc_fiS W m h k left n p sk is ts al rg parts K).mpr (hyp_ W k left n p sk is ts al rg parts K hs)
theorem fi_len {ok : Dt → Bool} {n : Nat} : ∀ (m k : Nat) (left : Int) (p : Dt), (Sp.fiF ok n m k left p).2.length = p.length
  | 0, _, _, _ => rfl
  | m + 1, k, left, p => by
    rw [Sp.fiF]
    split
    · split <;> exact List.length_set
    · have lp : ∀ (r : Nat) (i : Int) (p : Dt), (Sp.lpF (Sp.fiF ok n m (k + 1)) k left r i p).2.length = p.length := fun r => by
        induction r with
        | zero => exact fun _ _ => rfl
        | succ r ih =>
          intro i p
          rw [Sp.lpF]
          have f := fi_len (ok := ok) (n := n) m (k + 1) (left - i) (p.set k [.i i])
          rw [List.length_set] at f
          split
          · exact f
          · rw [ih, f]
      exact lp _ _ _
theorem set_keep {p : Dt} {k j : Nat} {x : Int} (h : j < k) : Sp.fLv (p.set k [.i x]) j = Sp.fLv p j := by
  by_cases hk : k < p.length
  · rw [fLv_set hk, if_neg (by omega)]
  · rw [List.set_eq_of_length_le (Nat.le_of_not_lt hk)]
theorem fi_keep {ok : Dt → Bool} {n : Nat} : ∀ (m k : Nat) (left : Int) (p : Dt) (j : Nat), j < k → Sp.fLv (Sp.fiF ok n m k left p).2 j = Sp.fLv p j
  | 0, _, _, _, _, _ => rfl
  | m + 1, k, left, p, j, hj => by
    rw [Sp.fiF]
    split
    · split <;> exact set_keep hj
    · have lp : ∀ (r : Nat) (i : Int) (p : Dt), Sp.fLv (Sp.lpF (Sp.fiF ok n m (k + 1)) k left r i p).2 j = Sp.fLv p j := fun r => by
        induction r with
        | zero => exact fun _ _ => rfl
        | succ r ih =>
          intro i p
          rw [Sp.lpF]
          have f := fi_keep (ok := ok) (n := n) m (k + 1) (left - i) (p.set k [.i i]) j (by omega)
          rw [set_keep hj] at f
          split
          · exact f
          · rw [ih, f]
      exact lp _ _ _
theorem fi_plok {sk is rg ts p : Dt} {al parts left : Int} {n k : Nat} (h : Sp.Fi sk is rg ts al parts n k 1 left p) (h8 : ¬ 8 < left) : Sp.PlOk (p.set k [.i left]) := by
  have n5 := h.sch.n5
  have nn := h.nn
  have pl := h.pl
  have km := h.km
  have l0 := h.l0
  refine ⟨by rw [List.length_set]; omega, fun j => ?_⟩
  rw [fLv_set (by omega)]
  by_cases e : k = j
  · rw [if_pos e]; omega
  · rw [if_neg e]
    by_cases c : j < k
    · exact h.pk j c
    · unfold Sp.fLv
      rw [fin_z (by omega)]
      omega
theorem okCfi0 : ∀ W : InW, @CallC W Try.prog cc_fi0 := okc_fi0 fun W k left n p sk is ts al rg parts K hs => by
  obtain ⟨⟨k0, rfl, hF⟩, hk⟩ := hs
  unfold VCC_fi0
  have km := hF.km
  have pl := hF.pl
  have n5 := hF.sch.n5
  rw [Sp.fiF, if_pos km] at hk
  refine ar64 (by omega) (vifd (fun _ => need_in (by omega) (nedd (by omega) (vifd (fun c => ⟨rfl, ?_⟩) fun c => ⟨⟨hF.tin, hF.rl, by rw [List.length_set]; exact pl, hF.sch, hF.rg, fi_plok hF c, hF.a0, hF.a1⟩, vifd (fun d => ⟨rfl, ?_⟩) fun d => ⟨rfl, ?_⟩⟩))) fun c => absurd (by omega) c)
  · rw [if_pos c] at hk
    exact hk.2 rfl
  · rw [if_neg c] at hk
    exact hk.1 (decide_eq_true d)
  · rw [if_neg c] at hk
    exact hk.2 (decide_eq_false d)
theorem okLfll (m : Nat) (h : ∀ W : InW, @CallC W Try.prog (cc_fil m)) : okLt_fll m := okl_fll m h (fun e => match e with | _ :: _ :: .i c :: .i i :: _ => (c - i).toNat | _ => 0) fun W k left c i n p sk is ts al rg parts K hs A hA => by
  obtain ⟨⟨k0, rfl, hc, i0, i1, m1, hF⟩, hk⟩ := hs
  unfold VCL_fll
  have km := hF.km
  have pl := hF.pl
  have n5 := hF.sch.n5
  have l0 := hF.l0
  have l1 := hF.l1
  refine vifd (fun e => ?_) fun e => ⟨rfl, ?_⟩
  · have ek : (k + 1).toNat = k.toNat + 1 := by omega
    have hi : Sp.Fi sk.xs is.xs rg.xs ts.xs al parts sk.xs.length (k.toNat + 1) m (left - i) (p.set k.toNat [.i i]) := ⟨hF.sch, hF.tin, hF.rl, hF.rg, hF.a0, hF.a1, rfl, by omega, m1, by rw [List.length_set]; exact pl, fun j hj => by
      rw [fLv_set (by omega)]
      by_cases x : k.toNat = j
      · rw [if_pos x]; omega
      · rw [if_neg x]; exact hF.pk j (by omega), by omega, by omega⟩
    have hlen := fi_len (ok := Sp.okQ sk.xs rg.xs ts.xs al parts) (n := sk.xs.length) m (k.toNat + 1) (left - i) (p.set k.toNat [.i i])
    have hkeep := fi_keep (ok := Sp.okQ sk.xs rg.xs ts.xs al parts) (n := sk.xs.length) m (k.toNat + 1) (left - i) (p.set k.toNat [.i i])
    rw [show (c - i).toNat = (c - (i + 1)).toNat + 1 by omega, Sp.lpF] at hk
    refine need_in (by omega) (nedd (by omega) (ar64 (by omega) (ar64 (by omega) ⟨rfl, rfl, ?_⟩)))
    rw [ek]
    refine ⟨⟨by omega, rfl, hi⟩, vif (fun s => ⟨rfl, ?_⟩) fun s => ar64 (by omega) ⟨rfl, ?_⟩⟩
    · rw [if_pos s] at hk
      exact hk.1 s
    · rw [if_neg (by rw [s]; decide)] at hk
      refine hA _ (by show (c - (i + 1)).toNat < (c - i).toNat; omega) ⟨⟨k0, rfl, hc, by omega, by omega, m1, ⟨hF.sch, hF.tin, hF.rl, hF.rg, hF.a0, hF.a1, rfl, km, hF.mm, by rw [hlen, List.length_set]; exact pl, fun j hj => by
        rw [hkeep j (by omega), set_keep hj]
        exact hF.pk j hj, l0, l1⟩⟩, hk⟩
  · rw [show (c - i).toNat = 0 by omega, Sp.lpF] at hk
    exact hk.2 rfl
theorem okCfiS (m : Nat) (h : okLt_fll m) (m1 : 1 ≤ m) : ∀ W : InW, @CallC W Try.prog (cc_fiS m) := okc_fiS m h fun W k left n p sk is ts al rg parts K hs => by
  obtain ⟨⟨k0, rfl, hF⟩, hk⟩ := hs
  unfold VCC_fiS
  have km := hF.km
  have pl := hF.pl
  have n5 := hF.sch.n5
  have l0 := hF.l0
  have l1 := hF.l1
  rw [Sp.fiF, if_neg (show ¬ k.toNat + 1 = sk.xs.length by omega)] at hk
  refine ar64 (by omega) (vifd (fun c => absurd c (by omega)) fun _ => ar64 (by omega) ⟨rfl, ⟨k0, rfl, rfl, by omega, by omega, m1, hF⟩, ?_⟩)
  rw [Int.sub_zero]
  exact vif (fun s => ⟨rfl, hk.1 s⟩) fun s => ⟨rfl, hk.2 s⟩
theorem fil_all : ∀ m, 1 ≤ m → ∀ W : InW, @CallC W Try.prog (cc_fil m)
  | 1, _ => okCfi0
  | m + 2, _ => okCfiS (m + 1) (okLfll (m + 1) (fil_all (m + 1) (by omega))) (by omega)
end Go.Proofs.Ytdokbocmgdhmmaa
namespace Go.Proofs.Ytdokbocmgdhmmaa
open Go.RowKit
set_option linter.unusedVariables false
attribute [local irreducible] Go.Oper.wp
noncomputable def LE.unroll {P : Program} (tt : (W : InW) → @Tr (@TI W)) (ht : ∀ W : InW, @TabOk W P (tt W)) (hm : P.follows .mixedOrders = true) (T : Tab P) (n m u : Nat) (g : FuncId) (key : Nat) (h1 : (match loopsAt P g key with | [_] => true | _ => false) = true) : LE P where
  g := g
  key := key
  f := fun W tm hp K => @loopK W (@vcTop W { @cxT W P (tt W) T n m with fn := g } n (loopAt P g key)) u tm hp K
  ok := fun W body a hbd ha hk tm hp K h => by
    obtain ⟨h2, h3⟩ := loopAt_of h1
    rw [h2 body a hbd ha hk]
    have hP := cxT_P P (tt W) T n m
    have hL := (cxT_ok (T := T) (ht W) hm n m).at g
    have := loopT_sound (P := P) (cd := loopAt P g key) (fun tm hp K h => by
      have := vcTop_sound (c := { @cxT W P (tt W) T n m with fn := g }) hL (by rw [show ({ @cxT W P (tt W) T n m with fn := g } : Cx).P = P from hP]; exact hm) n (root := bodyOf P g) (by
        show ((cxT P (tt W) T n m).P.funcs[g]?).bind (·.body) = _
        rw [hP]; exact isSome_of h1) (loopAt P g key) h3.loop tm hp K h
      rw [show ({ @cxT W P (tt W) T n m with fn := g } : Cx).P = P from hP] at this
      exact this) u tm hp K h
    exact this
end Go.Proofs.Ytdokbocmgdhmmaa
