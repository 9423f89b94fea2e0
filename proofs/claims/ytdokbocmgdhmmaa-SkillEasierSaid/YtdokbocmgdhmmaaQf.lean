/-
  A machine over abstract states, proved sound: the help of the proof of a law.
-/
import Derived.Test.YtdokbocmgdhmmaaQe
set_option linter.unusedVariables false
set_option linter.unusedSectionVars false
set_option linter.unusedSimpArgs false
namespace Go.Proofs.Ytdokbocmgdhmmaa
noncomputable def pc_Awake : PC Try.prog := ⟨24, [], [(false, [.bool])], fun _ => True, fun _ => [[.b true]], pure_of_closed ok_M1 rfl rfl rfl fun _ _ _ => rfl⟩
end Go.Proofs.Ytdokbocmgdhmmaa
namespace Go.Proofs.Ytdokbocmgdhmmaa
open Go.RowKit
set_option linter.unusedVariables false
set_option maxRecDepth 100000
theorem WfC.str_le {c : Cl} (h : WfC .str c) : c.str.size ≤ maxLen := by cases h; assumption
theorem WfC.cell {ts : List Ty} {xs : Dt} (h : WfC (.sl ts) (.l xs)) {i k : Nat} {t : Ty} (hi : i < xs.length) (ht : ts[k]? = some t) : WfC t (cel xs i k) := by
  cases h with
  | sl _ _ _ _ h => exact h i k t hi ht
theorem names_ok {ts : List Ty} {xs : Dt} (h : WfC (.sl (.str :: ts)) (.l xs)) : Sp.NamesOk xs := fun i => by
  by_cases hi : i < xs.length
  · have := (h.cell hi (k := 0) rfl).str_le
    simp only [maxLen] at this
    show (cel xs i 0).str.size ≤ _
    omega
  · have : cel xs i 0 = .z := by simp [cel, List.getD_eq_getElem?_getD, List.getElem?_eq_none (Nat.le_of_not_lt hi)]
    show (cel xs i 0).str.size ≤ _
    rw [this]; decide
theorem school_names {sk is : Dt} (h : WfL [.sl [.str, .int .i64, .int .i64, .int .i64, .int .i64], .sl [.str, .int .i64, .int .i64]] [.l sk, .l is]) : Sp.NamesOk sk ∧ Sp.NamesOk is := by
  cases h with
  | cons h1 h =>
    cases h with
    | cons h2 h => exact ⟨names_ok h1, names_ok h2⟩
end Go.Proofs.Ytdokbocmgdhmmaa
namespace Go.Proofs.Ytdokbocmgdhmmaa
open Go.RowKit
set_option linter.unusedVariables false
theorem setCls_getD : ∀ (k : Nat) (l cs : List Cl) (j : Nat), (setCls l k cs).getD j .z = if k ≤ j ∧ j < k + cs.length then cs.getD (j - k) .z else l.getD j .z
  | 0, l, cs, j => by
    simp only [setCls, Nat.zero_le, true_and, Nat.zero_add, Nat.sub_zero, List.getD_eq_getElem?_getD]
    by_cases h : j < cs.length
    · rw [if_pos h, List.getElem?_append_left h]
    · rw [if_neg h, List.getElem?_append_right (by omega), List.getElem?_drop, show cs.length + (j - cs.length) = j by omega]
  | k + 1, l, cs, 0 => by cases l <;> simp [setCls]
  | k + 1, l, cs, j + 1 => by
    have h := setCls_getD k l.tail cs j
    simp only [setCls, List.getD_cons_succ, h, Nat.add_sub_add_right]
    have e : l.tail.getD j .z = l.getD (j + 1) .z := by cases l <;> simp
    rw [e]
    by_cases c : k ≤ j ∧ j < k + cs.length
    · rw [if_pos c, if_pos (by omega)]
    · rw [if_neg c, if_neg (by omega)]
theorem cel_set (xs : Dt) (i j k : Nat) (r : List Cl) : cel (xs.set i r) j k = if i = j ∧ i < xs.length then r.getD k .z else cel xs j k := by
  unfold cel
  simp only [List.getD_eq_getElem?_getD, List.getElem?_set]
  by_cases h : i = j
  · subst h
    by_cases h2 : i < xs.length
    · simp [h2]
    · simp [h2, List.getElem?_eq_none (Nat.le_of_not_lt h2)]
  · simp [h]
theorem cel_setCls {xs : Dt} {i k : Nat} {cs : List Cl} (h : i < xs.length) (j m : Nat) : cel (xs.set i (setCls (xs.getD i []) k cs)) j m = if i = j ∧ k ≤ m ∧ m < k + cs.length then cs.getD (m - k) .z else cel xs j m := by
  rw [cel_set, setCls_getD]
  by_cases e : i = j
  · subst e
    by_cases c : k ≤ m ∧ m < k + cs.length
    · rw [if_pos ⟨rfl, h⟩, if_pos c, if_pos ⟨rfl, c⟩]
    · rw [if_pos ⟨rfl, h⟩, if_neg c, if_neg (fun x => c x.2)]; rfl
  · rw [if_neg (fun x => e x.1), if_neg (fun x => e x.1)]
theorem tm_in {n m : Int} (h : 0 ≤ n) (hm : 0 < m) : 0 ≤ n.tmod m ∧ n.tmod m < m := ⟨Int.tmod_nonneg _ h, Int.tmod_lt_of_pos _ hm⟩
theorem wf_u8 {n : Int} (h : WfC (.int .u8) (.i n)) : 0 ≤ n ∧ n ≤ 255 := by
  cases h with
  | int _ _ h => simp [Lit.wf, IntKind.min, IntKind.max, IntKind.signed, IntKind.bits] at h; omega
theorem wf_u16 {n : Int} (h : WfC (.int .u16) (.i n)) : 0 ≤ n ∧ n ≤ 65535 := by
  cases h with
  | int _ _ h => simp [Lit.wf, IntKind.min, IntKind.max, IntKind.signed, IntKind.bits] at h; omega
theorem WfL.head {t : Ty} {ts : List Ty} {c : Cl} {cs : List Cl} (h : WfL (t :: ts) (c :: cs)) : WfC t c ∧ WfL ts cs := by
  cases h with
  | cons h hs => exact ⟨h, hs⟩
theorem WfD.head {a : AT} {ats : List AT} {d : List Cl} {ds : DS} (h : WfD (a :: ats) (d :: ds)) : WfA a d ∧ WfD ats ds := by
  obtain ⟨d', ds', e, h1, h2⟩ := h
  cases e
  exact ⟨h1, h2⟩
theorem vifq [InW] {p q : Prop} {_ : Decidable p} {_ : Decidable q} {A B : Prop} (h : ¬ (p ↔ q) → A) (h2 : (p ↔ q) → B) : Vif (!(decide p == decide q)) A B :=
  ⟨fun e => h (by simpa using notT e), fun e => h2 (by simpa using notF e)⟩
theorem vifq0 [InW] {p : Prop} {_ : Decidable p} {A B : Prop} (h : p → A) (h2 : ¬ p → B) : Vif (!(decide p == false)) A B :=
  ⟨fun e => h (by simpa using e), fun e => h2 (by simpa using e)⟩
theorem vifq1 [InW] {p : Prop} {_ : Decidable p} {A B : Prop} (h : p → A) (h2 : ¬ p → B) : Vif (!(false == decide p)) A B :=
  ⟨fun e => h (by simpa using e), fun e => h2 (by simpa using e)⟩
end Go.Proofs.Ytdokbocmgdhmmaa
namespace Go.Proofs.Ytdokbocmgdhmmaa
open Go.RowKit
set_option linter.unusedVariables false
set_option maxRecDepth 100000
set_option maxHeartbeats 1600000
abbrev tyTask : List Ty := [.int .i64, .int .i64]
namespace Sp
def tSk (ts : Dt) (i : Nat) : Int := (cel ts i 0).int
def tLv (ts : Dt) (i : Nat) : Int := (cel ts i 1).int
def taskE (n : Int) (ts : Dt) (i : Nat) : Int := if inr (tSk ts i) 0 (n - 1) then (if inr (tLv ts i) 0 1000 then 0 else 7) else 4
def errE (f : Nat → Int) (i n : Nat) : Int := if hasE f i n then f (idxE f i n) else 0
def testE (n : Int) (ts : Dt) (al : Int) : Int := if inr ts.length 1 6 then (if inr al 0 (ts.length - 1) then errE (taskE n ts) 0 ts.length else 7) else 3
def strE (sk is ts : Dt) (al : Int) : Int := if chkE sk is = 0 then testE sk.length ts al else chkE sk is
def rgE (rg : Dt) (i : Nat) : Int := spanE (cel rg i 0).int (cel rg i 1).int 0 1000
def rgsE (n : Int) (rg : Dt) : Int := if (rg.length : Int) = n then errE (rgE rg) 0 rg.length else 3
end Sp
theorem errE_step {f : Nat → Int} {i n : Nat} : (f i ≠ 0 → Sp.errE f i (n + 1) = f i) ∧ (f i = 0 → Sp.errE f i (n + 1) = Sp.errE f (i + 1) n) := by
  unfold Sp.errE
  rw [show Sp.hasE f i (n + 1) = (!decide (f i = 0) || Sp.hasE f (i + 1) n) from rfl, show Sp.idxE f i (n + 1) = (if f i = 0 then Sp.idxE f (i + 1) n else i) from rfl]
  refine ⟨fun e => ?_, fun e => ?_⟩
  · rw [if_pos (by simp only [e, decide_false, Bool.not_false, Bool.true_or]), if_neg e]
  · rw [if_pos e, show (!decide (f i = 0) || Sp.hasE f (i + 1) n) = Sp.hasE f (i + 1) n by simp only [e, decide_true, Bool.not_true, Bool.false_or]]
noncomputable def Tf : Tab Try.prog := ⟨[pc_in, pc_out, pc_odd, pc_rspan, pc_bCheck, pc_Check], [], []⟩
def sp_str [InW] (e : List Ed) (K : Nat → List Ed → Prop) : Prop := match e with
  | [.ro _ ts, .i n, .i i, .ro _ sk, .ro _ is] => Pre (n = (ts.xs.length : Int) ∧ 0 ≤ i ∧ i ≤ n) (Vif (decide (Sp.errE (Sp.taskE sk.xs.length ts.xs) i.toNat (ts.xs.length - i.toNat) = 0)) (K 0 []) (K 1 [.i (Sp.errE (Sp.taskE sk.xs.length ts.xs) i.toNat (ts.xs.length - i.toNat))]))
  | _ => False
noncomputable def lc_str : LC where
  len := 56
  T := [(2, (.ptr 1 0)), (35, .rs tyTask), (36, .int .i64), (37, .int .i64)]
  H := [(1, .blk 25 [.rs [.str, .int .i64, .int .i64, .int .i64, .int .i64], .rs [.str, .int .i64, .int .i64]])]
  W := [4, 10, 38, 39, 40, 41, 42, 43, 44, 45, 46, 47, 48, 49, 50, 51, 52, 53, 54, 55]
  outs := [⟨.exit 1, [], [], [2, 4, 10, 35, 36, 37, 38, 39, 40, 41, 42, 43, 44, 45, 46, 47, 48, 49, 50, 51, 52, 53, 54, 55]⟩, ⟨.ret, [(4, .int .i64)], [], [2, 10, 35, 36, 37, 38, 39, 40, 41, 42, 43, 44, 45, 46, 47, 48, 49, 50, 51, 52, 53, 54, 55]⟩]
  spec := sp_str
def VCL_str [W : InW] (ts : Ro tyTask) (n i : Int) (sk : Ro [.str, .int .i64, .int .i64, .int .i64, .int .i64]) (is : Ro [.str, .int .i64, .int .i64]) (A : List Ed → Prop) (K : Nat → List Ed → Prop) : Prop :=
  Vif (decide (i < n)) (Need (decide ((0 : Int) ≤ i) && decide (i < (↑(ts.xs.length) : Int))) (Need (decide (i.toNat < ts.xs.length)) (Ar .i64 ((↑(sk.xs.length) : Int) - (1 : Int)) fun z => Pre True (Vif (Sp.out (0 : Int) z [[Cl.i (cel ts.xs i.toNat (0 : Nat)).int]]) (K (0+1 : Nat) [.i (4 : Int)]) (Pre True (Vif (Sp.out (0 : Int) (1000 : Int) [[Cl.i (cel ts.xs i.toNat (0+1 : Nat)).int]]) (K (0+1 : Nat) [.i (7 : Int)]) (Ar .i64 (i + (1 : Int)) fun z => A [.ro _ ts, .i n, .i z, .ro _ sk, .ro _ is]))))))) (K (0 : Nat) [])
theorem vcl_str (W : InW) (ts n i sk is A K) : vcTop { cxT Try.prog TT Tf 1000 50 with fn := 74 } 1000 (loopAt Try.prog 74 11) (tmOut 56 [(2, .ptr 1 0), (35, .rs _ ts), (36, .si .i64 n), (37, .si .i64 i)] [4, 10, 38, 39, 40, 41, 42, 43, 44, 45, 46, 47, 48, 49, 50, 51, 52, 53, 54, 55]) [(1, .blk 25 [.rs _ sk, .rs _ is])] (roundL lc_str A K) = VCL_str ts n i sk is A K := by kernel_rfl
def okLt_str : Prop := ∀ (W : InW) (body a : Code), (Try.prog.funcs[74]?).bind (·.body) = some body → a ∈ loopsIn body → keyOf a = 11 → @LoopOk W Try.prog a (@loopRun W lc_str)
theorem okl_str (meas : [InW] → List Ed → Nat) (hyp_ : ∀ (W : InW) (ts : Ro tyTask) (n : Int) (i : Int) (sk : Ro [.str, .int .i64, .int .i64, .int .i64, .int .i64]) (is : Ro [.str, .int .i64, .int .i64]) (K : Nat → List Ed → Prop), sp_str [.ro _ ts, .i n, .i i, .ro _ sk, .ro _ is] K → ∀ A : List Ed → Prop, (∀ e, meas e < meas [.ro _ ts, .i n, .i i, .ro _ sk, .ro _ is] → sp_str e K → A e) → VCL_str ts n i sk is A K) : okLt_str :=
  LE.okOf' (fun W => @TT W) (fun W => @TT_ok W) mixed_ok Tf 1000 50 (by kernel_rfl) lc_str (fun W => @meas W) fun W ts n i sk is K hs =>
    (vcl_str W ts n i sk is (fun e => meas e < meas [.ro _ ts, .i n, .i i, .ro _ sk, .ro _ is] ∧ sp_str e K) K).mpr (hyp_ W ts n i sk is K hs _ fun e h1 h2 => ⟨h1, h2⟩)
def sp_tst [InW] (e : List Ed) (K : Nat → List Ed → Prop) : Prop := match e with
  | [.i n, .i i, .ro _ sk, .ro _ is, .ro _ ts, .i al] => Pre (n = (ts.xs.length : Int) ∧ 0 ≤ i ∧ i ≤ n) (Vif (decide (Sp.errE (Sp.taskE sk.xs.length ts.xs) i.toNat (ts.xs.length - i.toNat) = 0)) (K 0 []) (K 1 [.i (Sp.errE (Sp.taskE sk.xs.length ts.xs) i.toNat (ts.xs.length - i.toNat))]))
  | _ => False
noncomputable def lc_tst : LC where
  len := 44
  T := [(2, (.ptr 1 0)), (3, (.ptr 4 0)), (5, .int .i64), (6, .int .i64)]
  H := [(1, .blk 25 [.rs [.str, .int .i64, .int .i64, .int .i64, .int .i64], .rs [.str, .int .i64, .int .i64]]), (4, .blk 48 [.rs tyTask, .int .i64])]
  W := [4, 19, 20, 21, 22, 23, 24, 25, 26, 27, 28, 29, 30, 31, 32, 33, 34, 35, 36, 37, 38, 39, 40, 41, 42, 43]
  outs := [⟨.exit 0, [], [], [2, 3, 4, 5, 6, 19, 20, 21, 22, 23, 24, 25, 26, 27, 28, 29, 30, 31, 32, 33, 34, 35, 36, 37, 38, 39, 40, 41, 42, 43]⟩, ⟨.ret, [(4, .int .i64)], [], [2, 3, 5, 6, 19, 20, 21, 22, 23, 24, 25, 26, 27, 28, 29, 30, 31, 32, 33, 34, 35, 36, 37, 38, 39, 40, 41, 42, 43]⟩]
  spec := sp_tst
def VCL_tst [W : InW] (n i : Int) (sk : Ro [.str, .int .i64, .int .i64, .int .i64, .int .i64]) (is : Ro [.str, .int .i64, .int .i64]) (ts : Ro tyTask) (al : Int) (A : List Ed → Prop) (K : Nat → List Ed → Prop) : Prop :=
  Vif (decide (i < n)) (Need (decide ((0 : Int) ≤ i) && decide (i < (↑(ts.xs.length) : Int))) (Need (decide (i.toNat < ts.xs.length)) (Ar .i64 ((↑(sk.xs.length) : Int) - (1 : Int)) fun z => Pre True (Vif (!Sp.inr (cel ts.xs i.toNat (0 : Nat)).int (0 : Int) z) (K (0+1 : Nat) [.i (4 : Int)]) (Need (decide ((0 : Int) ≤ i) && decide (i < (↑(ts.xs.length) : Int))) (Need (decide (i.toNat < ts.xs.length)) (Pre True (Vif (!Sp.inr (cel ts.xs i.toNat (0+1 : Nat)).int (0 : Int) (1000 : Int)) (K (0+1 : Nat) [.i (7 : Int)]) (Ar .i64 (i + (1 : Int)) fun z => A [.i n, .i z, .ro _ sk, .ro _ is, .ro _ ts, .i al]))))))))) (K (0 : Nat) [])
theorem vcl_tst (W : InW) (n i sk is ts al A K) : vcTop { cxT Try.prog TT Tf 1000 50 with fn := 77 } 1000 (loopAt Try.prog 77 8) (tmOut 44 [(2, .ptr 1 0), (3, .ptr 4 0), (5, .si .i64 n), (6, .si .i64 i)] [4, 19, 20, 21, 22, 23, 24, 25, 26, 27, 28, 29, 30, 31, 32, 33, 34, 35, 36, 37, 38, 39, 40, 41, 42, 43]) [(1, .blk 25 [.rs _ sk, .rs _ is]), (4, .blk 48 [.rs _ ts, .si .i64 al])] (roundL lc_tst A K) = VCL_tst n i sk is ts al A K := by kernel_rfl
def okLt_tst : Prop := ∀ (W : InW) (body a : Code), (Try.prog.funcs[77]?).bind (·.body) = some body → a ∈ loopsIn body → keyOf a = 8 → @LoopOk W Try.prog a (@loopRun W lc_tst)
theorem okl_tst (meas : [InW] → List Ed → Nat) (hyp_ : ∀ (W : InW) (n : Int) (i : Int) (sk : Ro [.str, .int .i64, .int .i64, .int .i64, .int .i64]) (is : Ro [.str, .int .i64, .int .i64]) (ts : Ro tyTask) (al : Int) (K : Nat → List Ed → Prop), sp_tst [.i n, .i i, .ro _ sk, .ro _ is, .ro _ ts, .i al] K → ∀ A : List Ed → Prop, (∀ e, meas e < meas [.i n, .i i, .ro _ sk, .ro _ is, .ro _ ts, .i al] → sp_tst e K → A e) → VCL_tst n i sk is ts al A K) : okLt_tst :=
  LE.okOf' (fun W => @TT W) (fun W => @TT_ok W) mixed_ok Tf 1000 50 (by kernel_rfl) lc_tst (fun W => @meas W) fun W n i sk is ts al K hs =>
    (vcl_tst W n i sk is ts al (fun e => meas e < meas [.i n, .i i, .ro _ sk, .ro _ is, .ro _ ts, .i al] ∧ sp_tst e K) K).mpr (hyp_ W n i sk is ts al K hs _ fun e h1 h2 => ⟨h1, h2⟩)
theorem okLstr : okLt_str := okl_str (fun e => match e with | _ :: .i n :: .i i :: _ => (n - i).toNat | _ => 0) fun W ts n i sk is K hs A hA => by
  obtain ⟨⟨rfl, h0, h1⟩, hk⟩ := hs
  unfold VCL_str
  have hm := ts.len
  have hm2 := sk.len
  simp only [maxLen] at hm hm2
  simp only [Nat.zero_add, Nat.reduceAdd, out1]
  refine vifd (fun e => ?_) fun e => ?_
  · rw [show ts.xs.length - i.toNat = (ts.xs.length - (i.toNat + 1)) + 1 by omega] at hk
    have ez : (i + 1).toNat = i.toNat + 1 := by omega
    have st := errE_step (f := Sp.taskE sk.xs.length ts.xs) (i := i.toNat) (n := ts.xs.length - (i.toNat + 1))
    have bad : ∀ n, Sp.taskE sk.xs.length ts.xs i.toNat = n → n ≠ 0 → K 1 [.i n] := fun n hn h => by
      have := st.1 (by omega)
      rw [this, hn] at hk
      exact hk.2 (by simp [h])
    have hA' : Sp.taskE sk.xs.length ts.xs i.toNat = 0 → A [.ro _ ts, .i ts.xs.length, .i (i + 1), .ro _ sk, .ro _ is] := fun f => hA _ (by show ((ts.xs.length : Int) - (i + 1)).toNat < ((ts.xs.length : Int) - i).toNat; omega) ⟨⟨rfl, by omega, by omega⟩, by rw [ez, ← st.2 f]; exact hk⟩
    have eS := Lib.hid (show Sp.taskE sk.xs.length ts.xs i.toNat = if Sp.inr (cel ts.xs i.toNat 0).int 0 (sk.xs.length - 1) then (if Sp.inr (cel ts.xs i.toNat 1).int 0 1000 then 0 else 7) else 4 from rfl)
    clear hk hA st
    repeat' (first | omega | with_reducible refine vifd (fun _ => ?_) fun _ => ?_ | with_reducible refine vifn (fun _ => ?_) fun _ => ?_ | with_reducible refine vifq (fun _ => ?_) fun _ => ?_ | with_reducible refine vifq0 (fun _ => ?_) fun _ => ?_ | with_reducible refine vifq1 (fun _ => ?_) fun _ => ?_ | with_reducible refine vifb (fun _ => ?_) fun _ => ?_ | with_reducible refine vif (fun _ => ?_) fun _ => ?_ | (with_reducible refine nedd ?_ ?_; omega) | (with_reducible refine ned ?_ ?_; simp only [Bool.and_eq_true, decide_eq_true_eq]; omega) | (with_reducible refine ar64 ?_ ?_; omega) | (with_reducible refine pre_of ?_ ?_; (first | trivial | omega | assumption | (refine ⟨?_, ?_⟩ <;> first | trivial | omega | assumption) | (refine ⟨?_, ?_, ?_⟩ <;> first | trivial | omega | assumption) | (refine ⟨?_, ?_, ?_, ?_⟩ <;> first | trivial | omega | assumption))))
    all_goals first | exact bad _ (by rw [eS.out]; simp_all) (by omega) | exact hA' (by rw [eS.out]; simp_all)
  · rw [show ts.xs.length - i.toNat = 0 by omega] at hk
    exact hk.1 rfl
theorem okLtst : okLt_tst := okl_tst (fun e => match e with | .i n :: .i i :: _ => (n - i).toNat | _ => 0) fun W n i sk is ts al K hs A hA => by
  obtain ⟨⟨rfl, h0, h1⟩, hk⟩ := hs
  unfold VCL_tst
  have hm := ts.len
  have hm2 := sk.len
  simp only [maxLen] at hm hm2
  simp only [Nat.zero_add, Nat.reduceAdd]
  refine vifd (fun e => ?_) fun e => ?_
  · rw [show ts.xs.length - i.toNat = (ts.xs.length - (i.toNat + 1)) + 1 by omega] at hk
    have ez : (i + 1).toNat = i.toNat + 1 := by omega
    have st := errE_step (f := Sp.taskE sk.xs.length ts.xs) (i := i.toNat) (n := ts.xs.length - (i.toNat + 1))
    have bad : ∀ n, Sp.taskE sk.xs.length ts.xs i.toNat = n → n ≠ 0 → K 1 [.i n] := fun n hn h => by
      have := st.1 (by omega)
      rw [this, hn] at hk
      exact hk.2 (by simp [h])
    have hA' : Sp.taskE sk.xs.length ts.xs i.toNat = 0 → A [.i ts.xs.length, .i (i + 1), .ro _ sk, .ro _ is, .ro _ ts, .i al] := fun f => hA _ (by show ((ts.xs.length : Int) - (i + 1)).toNat < ((ts.xs.length : Int) - i).toNat; omega) ⟨⟨rfl, by omega, by omega⟩, by rw [ez, ← st.2 f]; exact hk⟩
    have eS := Lib.hid (show Sp.taskE sk.xs.length ts.xs i.toNat = if Sp.inr (cel ts.xs i.toNat 0).int 0 (sk.xs.length - 1) then (if Sp.inr (cel ts.xs i.toNat 1).int 0 1000 then 0 else 7) else 4 from rfl)
    clear hk hA st
    repeat' (first | omega | with_reducible refine vifd (fun _ => ?_) fun _ => ?_ | with_reducible refine vifn (fun _ => ?_) fun _ => ?_ | with_reducible refine vifq (fun _ => ?_) fun _ => ?_ | with_reducible refine vifq0 (fun _ => ?_) fun _ => ?_ | with_reducible refine vifq1 (fun _ => ?_) fun _ => ?_ | with_reducible refine vifb (fun _ => ?_) fun _ => ?_ | with_reducible refine vif (fun _ => ?_) fun _ => ?_ | (with_reducible refine nedd ?_ ?_; omega) | (with_reducible refine ned ?_ ?_; simp only [Bool.and_eq_true, decide_eq_true_eq]; omega) | (with_reducible refine ar64 ?_ ?_; omega) | (with_reducible refine pre_of ?_ ?_; (first | trivial | omega | assumption | (refine ⟨?_, ?_⟩ <;> first | trivial | omega | assumption) | (refine ⟨?_, ?_, ?_⟩ <;> first | trivial | omega | assumption) | (refine ⟨?_, ?_, ?_, ?_⟩ <;> first | trivial | omega | assumption))))
    all_goals first | exact bad _ (by rw [eS.out]; simp_all) (by omega) | exact hA' (by rw [eS.out]; simp_all)
  · rw [show ts.xs.length - i.toNat = 0 by omega] at hk
    exact hk.1 rfl
noncomputable def le_str : LE Try.prog := ⟨74, 11, fun W => @loopRun W lc_str, okLstr⟩
noncomputable def le_tst : LE Try.prog := ⟨77, 8, fun W => @loopRun W lc_tst, okLtst⟩
noncomputable def Tg : Tab Try.prog := ⟨Tf.pcs, [le_str, le_tst], []⟩
def VC_strange [W : InW] (s_Skills : Ro [.str, .int .i64, .int .i64, .int .i64, .int .i64]) (s_Instrs : Ro [.str, .int .i64, .int .i64]) (t_Tasks : Ro tyTask) (t_Allowed : Int) (Q : DS → Prop) : Prop :=
  Pre True (Vif (!decide (Sp.chkE s_Skills.xs s_Instrs.xs = (0 : Int))) (Q [[Cl.i (Sp.chkE s_Skills.xs s_Instrs.xs)]]) (Pre True (Vif (Sp.out (1 : Int) (6 : Int) [[Cl.i (↑(t_Tasks.xs.length) : Int)]]) (Q [[Cl.i (3 : Int)]]) (Ar .i64 ((↑(t_Tasks.xs.length) : Int) - (1 : Int)) fun z => Pre True (Vif (Sp.out (0 : Int) z [[Cl.i t_Allowed]]) (Q [[Cl.i (7 : Int)]]) (Pre ((↑(t_Tasks.xs.length) : Int) = (↑(t_Tasks.xs.length) : Int) ∧ (0 : Int) ≤ (0 : Int) ∧ (0 : Int) ≤ (↑(t_Tasks.xs.length) : Int)) (Vif (decide (Sp.errE (Sp.taskE (↑(s_Skills.xs.length) : Int) t_Tasks.xs) (Int.toNat (0 : Int)) (t_Tasks.xs.length - Int.toNat (0 : Int)) = (0 : Int))) (Q [[Cl.i (0 : Int)]]) (Q [[Cl.i (Sp.errE (Sp.taskE (↑(s_Skills.xs.length) : Int) t_Tasks.xs) (Int.toNat (0 : Int)) (t_Tasks.xs.length - Int.toNat (0 : Int)))]]))))))))
theorem vc_strange (W : InW) (s_Skills s_Instrs t_Tasks t_Allowed Q) : bodyK (cxT Try.prog TT Tg 1000 50) 1000 74 [.agg [.rs _ s_Skills, .rs _ s_Instrs], .agg [.rs _ t_Tasks, .si .i64 t_Allowed]] [] 0 (leafK [(false, [.int .i64])] Q) (fun _ _ _ _ => Stuck 421) = VC_strange s_Skills s_Instrs t_Tasks t_Allowed Q := by kernel_rfl
abbrev ats_strange : List AT := [.agg [.sl [.str, .int .i64, .int .i64, .int .i64, .int .i64], .sl [.str, .int .i64, .int .i64]], .agg [.sl tyTask, .int .i64]]
theorem ok_strange {pre : DS → Prop} {res : DS → DS} (hyp_ : ∀ (W : InW) (s_Skills : Ro [.str, .int .i64, .int .i64, .int .i64, .int .i64]) (s_Instrs : Ro [.str, .int .i64, .int .i64]) (t_Tasks : Ro tyTask) (t_Allowed : Int), pre [[.l s_Skills.xs, .l s_Instrs.xs], [.l t_Tasks.xs, .i t_Allowed]] → ∀ Q : DS → Prop, Q (res [[.l s_Skills.xs, .l s_Instrs.xs], [.l t_Tasks.xs, .i t_Allowed]]) → VC_strange s_Skills s_Instrs t_Tasks t_Allowed Q) : PureOk Try.prog 74 ats_strange [(false, [.int .i64])] pre res :=
  PureOk.of' (fun W => @TT W) (fun W => @TT_ok W) mixed_ok Tg 1000 50 fun W s_Skills s_Instrs t_Tasks t_Allowed hp =>
    (vc_strange W s_Skills s_Instrs t_Tasks t_Allowed (fun o => o = res [[.l s_Skills.xs, .l s_Instrs.xs], [.l t_Tasks.xs, .i t_Allowed]])).mpr (hyp_ W s_Skills s_Instrs t_Tasks t_Allowed hp _ rfl)
def VC_test [W : InW] (s_Skills : Ro [.str, .int .i64, .int .i64, .int .i64, .int .i64]) (s_Instrs : Ro [.str, .int .i64, .int .i64]) (t_Tasks : Ro tyTask) (t_Allowed : Int) (Q : DS → Prop) : Prop :=
  Pre True (Vif (!Sp.inr (↑(t_Tasks.xs.length) : Int) (1 : Int) (6 : Int)) (Q [[Cl.i (3 : Int)]]) (Ar .i64 ((↑(t_Tasks.xs.length) : Int) - (1 : Int)) fun z => Pre True (Vif (!Sp.inr t_Allowed (0 : Int) z) (Q [[Cl.i (7 : Int)]]) (Pre ((↑(t_Tasks.xs.length) : Int) = (↑(t_Tasks.xs.length) : Int) ∧ (0 : Int) ≤ (0 : Int) ∧ (0 : Int) ≤ (↑(t_Tasks.xs.length) : Int)) (Vif (decide (Sp.errE (Sp.taskE (↑(s_Skills.xs.length) : Int) t_Tasks.xs) (Int.toNat (0 : Int)) (t_Tasks.xs.length - Int.toNat (0 : Int)) = (0 : Int))) (Q [[Cl.i (0 : Int)]]) (Q [[Cl.i (Sp.errE (Sp.taskE (↑(s_Skills.xs.length) : Int) t_Tasks.xs) (Int.toNat (0 : Int)) (t_Tasks.xs.length - Int.toNat (0 : Int)))]]))))))
theorem vc_test (W : InW) (s_Skills s_Instrs t_Tasks t_Allowed Q) : bodyK (cxT Try.prog TT Tg 1000 50) 1000 77 [.agg [.rs _ s_Skills, .rs _ s_Instrs], .agg [.rs _ t_Tasks, .si .i64 t_Allowed]] [] 0 (leafK [(false, [.int .i64])] Q) (fun _ _ _ _ => Stuck 421) = VC_test s_Skills s_Instrs t_Tasks t_Allowed Q := by kernel_rfl
abbrev ats_test : List AT := [.agg [.sl [.str, .int .i64, .int .i64, .int .i64, .int .i64], .sl [.str, .int .i64, .int .i64]], .agg [.sl tyTask, .int .i64]]
theorem ok_test {pre : DS → Prop} {res : DS → DS} (hyp_ : ∀ (W : InW) (s_Skills : Ro [.str, .int .i64, .int .i64, .int .i64, .int .i64]) (s_Instrs : Ro [.str, .int .i64, .int .i64]) (t_Tasks : Ro tyTask) (t_Allowed : Int), pre [[.l s_Skills.xs, .l s_Instrs.xs], [.l t_Tasks.xs, .i t_Allowed]] → ∀ Q : DS → Prop, Q (res [[.l s_Skills.xs, .l s_Instrs.xs], [.l t_Tasks.xs, .i t_Allowed]]) → VC_test s_Skills s_Instrs t_Tasks t_Allowed Q) : PureOk Try.prog 77 ats_test [(false, [.int .i64])] pre res :=
  PureOk.of' (fun W => @TT W) (fun W => @TT_ok W) mixed_ok Tg 1000 50 fun W s_Skills s_Instrs t_Tasks t_Allowed hp =>
    (vc_test W s_Skills s_Instrs t_Tasks t_Allowed (fun o => o = res [[.l s_Skills.xs, .l s_Instrs.xs], [.l t_Tasks.xs, .i t_Allowed]])).mpr (hyp_ W s_Skills s_Instrs t_Tasks t_Allowed hp _ rfl)
abbrev res_strange (ds : DS) : DS := match ds with | [[.l sk, .l is], [.l ts, .i al]] => [[.i (Sp.strE sk is ts al)]] | _ => []
abbrev res_test (ds : DS) : DS := match ds with | [[.l sk, .l is], [.l ts, .i al]] => [[.i (Sp.testE sk.length ts al)]] | _ => []
theorem okstrange : PureOk Try.prog 74 ats_strange [(false, [.int .i64])] (fun _ => True) res_strange :=
  ok_strange fun W sk is ts al _ Q h => by
    unfold VC_strange
    have hm := ts.len
    simp only [maxLen] at hm
    simp only [res_strange, Sp.strE, Sp.testE] at h
    simp only [out1, show Int.toNat 0 = 0 from rfl, Nat.sub_zero]
    repeat' (first | omega | with_reducible refine vifd (fun _ => ?_) fun _ => ?_ | with_reducible refine vifn (fun _ => ?_) fun _ => ?_ | with_reducible refine vifq (fun _ => ?_) fun _ => ?_ | with_reducible refine vifq0 (fun _ => ?_) fun _ => ?_ | with_reducible refine vifq1 (fun _ => ?_) fun _ => ?_ | with_reducible refine vifb (fun _ => ?_) fun _ => ?_ | with_reducible refine vif (fun _ => ?_) fun _ => ?_ | (with_reducible refine nedd ?_ ?_; omega) | (with_reducible refine ned ?_ ?_; simp only [Bool.and_eq_true, decide_eq_true_eq]; omega) | (with_reducible refine ar64 ?_ ?_; omega) | (with_reducible refine pre_of ?_ ?_; (first | trivial | omega | assumption | (refine ⟨?_, ?_⟩ <;> first | trivial | omega | assumption) | (refine ⟨?_, ?_, ?_⟩ <;> first | trivial | omega | assumption) | (refine ⟨?_, ?_, ?_, ?_⟩ <;> first | trivial | omega | assumption))))
    all_goals ((repeat' split at h) <;> first | exact h | omega | (simp_all; done) | (simp_all; omega))
theorem oktest : PureOk Try.prog 77 ats_test [(false, [.int .i64])] (fun _ => True) res_test :=
  ok_test fun W sk is ts al _ Q h => by
    unfold VC_test
    have hm := ts.len
    simp only [maxLen] at hm
    simp only [res_test, Sp.testE] at h
    simp only [show Int.toNat 0 = 0 from rfl, Nat.sub_zero]
    repeat' (first | omega | with_reducible refine vifd (fun _ => ?_) fun _ => ?_ | with_reducible refine vifn (fun _ => ?_) fun _ => ?_ | with_reducible refine vifq (fun _ => ?_) fun _ => ?_ | with_reducible refine vifq0 (fun _ => ?_) fun _ => ?_ | with_reducible refine vifq1 (fun _ => ?_) fun _ => ?_ | with_reducible refine vifb (fun _ => ?_) fun _ => ?_ | with_reducible refine vif (fun _ => ?_) fun _ => ?_ | (with_reducible refine nedd ?_ ?_; omega) | (with_reducible refine ned ?_ ?_; simp only [Bool.and_eq_true, decide_eq_true_eq]; omega) | (with_reducible refine ar64 ?_ ?_; omega) | (with_reducible refine pre_of ?_ ?_; (first | trivial | omega | assumption | (refine ⟨?_, ?_⟩ <;> first | trivial | omega | assumption) | (refine ⟨?_, ?_, ?_⟩ <;> first | trivial | omega | assumption) | (refine ⟨?_, ?_, ?_, ?_⟩ <;> first | trivial | omega | assumption))))
    all_goals ((repeat' split at h) <;> first | exact h | omega | (simp_all; done) | (simp_all; omega))
noncomputable def pc_strange : PC Try.prog := ⟨74, ats_strange, [(false, [.int .i64])], fun _ => True, res_strange, okstrange⟩
noncomputable def pc_test : PC Try.prog := ⟨77, ats_test, [(false, [.int .i64])], fun _ => True, res_test, oktest⟩
end Go.Proofs.Ytdokbocmgdhmmaa
namespace Go.Proofs.Ytdokbocmgdhmmaa
open Go.RowKit
set_option linter.unusedVariables false
set_option maxRecDepth 100000
set_option maxHeartbeats 1600000
namespace Sp
def cf : List Int → Nat → Int
  | [], 0 => 1
  | [], _ + 1 => 0
  | p :: ps, 0 => p * cf ps 0
  | p :: ps, j + 1 => p * cf ps (j + 1) + (1000 - p) * cf ps j
def passL : List Int → Int → Int
  | [], a => if a < 0 then 0 else 1
  | p :: ps, a => if a < 0 then 0 else p * passL ps a + (1000 - p) * passL ps (a - 1)
def partsD (d : List Int) (n : Nat) : Dt := (List.range (n + 1)).map fun j => [.i (cf d j)]
def stepD (parts : Dt) (p : Int) (i : Nat) : Dt := (List.range parts.length).map fun j => if 1 ≤ j ∧ j ≤ i then [.i ((cel parts j 0).int * p + (cel parts (j - 1) 0).int * (1000 - p))] else parts.getD j []
def sumP (parts : Dt) : Nat → Nat → Int
  | _, 0 => 0
  | i, n + 1 => (cel parts i 0).int + sumP parts (i + 1) n
def PartsIn (parts : Dt) (i : Nat) : Prop := ∀ j, j ≤ i → 0 ≤ (cel parts j 0).int ∧ (cel parts j 0).int ≤ 1000000000000000
def Probs (d : List Int) : Prop := ∀ p ∈ d, 0 ≤ p ∧ p ≤ 1000
def NonNeg (parts : Dt) : Prop := ∀ j, 0 ≤ (cel parts j 0).int
def SumIn (parts : Dt) (s : Int) (i n : Nat) : Prop := 0 ≤ s ∧ s + sumP parts i n ≤ 2000000000000000000
end Sp
theorem mix_in {p x y M : Int} (h0 : 0 ≤ p) (h1 : p ≤ 1000) (x0 : 0 ≤ x) (x1 : x ≤ M) (y0 : 0 ≤ y) (y1 : y ≤ M) : 0 ≤ p * x ∧ 0 ≤ (1000 - p) * y ∧ p * x + (1000 - p) * y ≤ 1000 * M := by
  have a := Int.mul_le_mul_of_nonneg_left x1 h0
  have b := Int.mul_le_mul_of_nonneg_left y1 (show 0 ≤ 1000 - p by omega)
  have c : p * M + (1000 - p) * M = 1000 * M := by rw [← Int.add_mul]; congr 1; omega
  exact ⟨Int.mul_nonneg h0 x0, Int.mul_nonneg (by omega) y0, by omega⟩
theorem cf_in : ∀ {d : List Int}, Sp.Probs d → ∀ j, 0 ≤ Sp.cf d j ∧ Sp.cf d j ≤ 1000 ^ d.length
  | [], _, 0 => by simp [Sp.cf]
  | [], _, j + 1 => by simp [Sp.cf]
  | p :: d, h, 0 => by
    have h1 := h p (by simp)
    have h2 := cf_in (d := d) (fun q hq => h q (by simp [hq])) 0
    have h3 := mix_in h1.1 h1.2 h2.1 h2.2 (Int.le_refl 0) (by omega)
    simp only [Sp.cf, List.length_cons, Int.pow_succ]
    rw [Int.mul_comm (1000 ^ d.length) 1000]
    omega
  | p :: d, h, j + 1 => by
    have h1 := h p (by simp)
    have h2 := cf_in (d := d) (fun q hq => h q (by simp [hq])) (j + 1)
    have h4 := cf_in (d := d) (fun q hq => h q (by simp [hq])) j
    have h3 := mix_in h1.1 h1.2 h2.1 h2.2 h4.1 h4.2
    simp only [Sp.cf, List.length_cons, Int.pow_succ]
    rw [Int.mul_comm (1000 ^ d.length) 1000]
    omega
def sumC (d : List Int) : Nat → Int
  | 0 => 0
  | m + 1 => sumC d m + Sp.cf d m
theorem sumC_cons (p : Int) (d : List Int) : ∀ m, sumC (p :: d) (m + 1) = p * sumC d (m + 1) + (1000 - p) * sumC d m
  | 0 => by simp [sumC, Sp.cf]
  | m + 1 => by
    have h := sumC_cons p d m
    rw [show sumC (p :: d) (m + 2) = sumC (p :: d) (m + 1) + Sp.cf (p :: d) (m + 1) from rfl, h, show sumC d (m + 2) = sumC d (m + 1) + Sp.cf d (m + 1) from rfl, show sumC d (m + 1) = sumC d m + Sp.cf d m from rfl, show Sp.cf (p :: d) (m + 1) = p * Sp.cf d (m + 1) + (1000 - p) * Sp.cf d m from rfl]
    simp only [Int.mul_add]
    omega
theorem passL_neg {d : List Int} {a : Int} (h : a < 0) : Sp.passL d a = 0 := by
  cases d <;> simp [Sp.passL, h]
theorem sumC_pass : ∀ (d : List Int) (m : Nat), sumC d m = Sp.passL d ((m : Int) - 1)
  | d, 0 => by rw [passL_neg (by omega)]; rfl
  | [], m + 1 => by
    have : ∀ k, sumC [] (k + 1) = 1 := fun k => by
      induction k with
      | zero => rfl
      | succ k ih => rw [show sumC [] (k + 2) = sumC [] (k + 1) + Sp.cf [] (k + 1) from rfl, ih]; rfl
    rw [this, Sp.passL, if_neg (by omega)]
  | p :: d, m + 1 => by
    rw [sumC_cons, sumC_pass d (m + 1), sumC_pass d m, Sp.passL, if_neg (by omega)]
    rw [show ((m + 1 : Nat) : Int) - 1 - 1 = (m : Int) - 1 by omega]
theorem passL_in : ∀ {d : List Int}, Sp.Probs d → ∀ a, 0 ≤ Sp.passL d a ∧ Sp.passL d a ≤ 1000 ^ d.length
  | [], _, a => by
    unfold Sp.passL
    split <;> simp
  | p :: d, h, a => by
    have h1 := h p (by simp)
    have h2 := passL_in (d := d) (fun q hq => h q (by simp [hq])) a
    have h4 := passL_in (d := d) (fun q hq => h q (by simp [hq])) (a - 1)
    have h3 := mix_in h1.1 h1.2 h2.1 h2.2 h4.1 h4.2
    unfold Sp.passL
    simp only [List.length_cons, Int.pow_succ]
    rw [Int.mul_comm (1000 ^ d.length) 1000]
    split <;> omega
theorem partsD_len (d : List Int) (n : Nat) : (Sp.partsD d n).length = n + 1 := by simp [Sp.partsD]
theorem partsD_cel {d : List Int} {n j : Nat} (h : j ≤ n) : (cel (Sp.partsD d n) j 0).int = Sp.cf d j := by
  simp [Sp.partsD, cel, List.getElem?_range (show j < n + 1 by omega), Cl.int]
theorem dt_ext {a b : Dt} (h : a.length = b.length) (hj : ∀ j, j < a.length → a.getD j [] = b.getD j []) : a = b := by
  apply List.ext_getElem h
  intro j h1 h2
  have := hj j h1
  simpa [List.getD_eq_getElem?_getD, List.getElem?_eq_getElem h1, List.getElem?_eq_getElem h2] using this
theorem stepD_len (parts : Dt) (p : Int) (i : Nat) : (Sp.stepD parts p i).length = parts.length := by simp [Sp.stepD]
theorem stepD_at {parts : Dt} {p : Int} {i j : Nat} (h : j < parts.length) : (Sp.stepD parts p i).getD j [] = if 1 ≤ j ∧ j ≤ i then [.i ((cel parts j 0).int * p + (cel parts (j - 1) 0).int * (1000 - p))] else parts.getD j [] := by
  simp [Sp.stepD, List.getD_eq_getElem?_getD, List.getElem?_range h]
theorem stepD_zero (parts : Dt) (p : Int) : Sp.stepD parts p 0 = parts :=
  dt_ext (stepD_len _ _ _) fun j hj => by rw [stepD_at (by rwa [stepD_len] at hj), if_neg (by omega)]
theorem getD_set {xs : Dt} {i : Nat} {r : List Cl} (j : Nat) : (xs.set i r).getD j [] = if i = j ∧ i < xs.length then r else xs.getD j [] := by
  simp only [List.getD_eq_getElem?_getD, List.getElem?_set]
  by_cases h : i = j
  · subst h
    by_cases h2 : i < xs.length
    · simp [h2]
    · simp [h2, List.getElem?_eq_none (Nat.le_of_not_lt h2)]
  · simp [h]
theorem stepD_set {parts : Dt} {p : Int} {i : Nat} (h1 : 1 ≤ i) (h2 : i < parts.length) : Sp.stepD (parts.set i [.i ((cel parts i 0).int * p + (cel parts (i - 1) 0).int * (1000 - p))]) p (i - 1) = Sp.stepD parts p i :=
  dt_ext (by simp [stepD_len]) fun j hj => by
    have hj' : j < parts.length := by simpa [stepD_len] using hj
    rw [stepD_at (by simpa using hj'), stepD_at hj']
    by_cases c : 1 ≤ j ∧ j ≤ i - 1
    · rw [if_pos c, if_pos (by omega), cel_set, if_neg (by omega), cel_set, if_neg (by omega)]
    · rw [if_neg c, getD_set]
      by_cases e : i = j
      · subst e; rw [if_pos ⟨rfl, h2⟩, if_pos (by omega)]
      · rw [if_neg (fun x => e x.1), if_neg (by omega)]
theorem partsD_step {d : List Int} {p : Int} {n : Nat} : (Sp.stepD (Sp.partsD d n) p n).set 0 [.i ((cel (Sp.stepD (Sp.partsD d n) p n) 0 0).int * p)] = Sp.partsD (p :: d) n :=
  dt_ext (by simp [stepD_len, partsD_len]) fun j hj => by
    have hj' : j ≤ n := by simp [stepD_len, partsD_len] at hj; omega
    have hr : (Sp.partsD (p :: d) n).getD j [] = [.i (Sp.cf (p :: d) j)] := by simp [Sp.partsD, List.getElem?_range (show j < n + 1 by omega)]
    rw [hr, getD_set]
    have hc : (cel (Sp.stepD (Sp.partsD d n) p n) 0 0).int = Sp.cf d 0 := by
      unfold cel
      rw [stepD_at (by rw [partsD_len]; omega), if_neg (by omega)]
      exact partsD_cel (Nat.zero_le n)
    by_cases e : 0 = j
    · subst e
      rw [if_pos ⟨rfl, by rw [stepD_len, partsD_len]; omega⟩, hc]
      simp only [Sp.cf, Int.mul_comm]
    · rw [if_neg (fun x => e x.1), stepD_at (by rw [partsD_len]; omega), if_pos (by omega), partsD_cel hj', partsD_cel (by omega)]
      obtain ⟨k, rfl⟩ : ∃ k, j = k + 1 := ⟨j - 1, by omega⟩
      simp only [Sp.cf, Nat.add_sub_cancel, Int.mul_comm]
theorem partsD_zero (n : Nat) : (List.replicate (n + 1) [Cl.i 0]).set 0 [.i 1] = Sp.partsD [] n :=
  dt_ext (by simp [partsD_len]) fun j hj => by
    have hj' : j < n + 1 := by simpa using hj
    have hr : (Sp.partsD [] n).getD j [] = [.i (Sp.cf [] j)] := by simp [Sp.partsD, List.getElem?_range hj']
    rw [hr, getD_set]
    by_cases e : 0 = j
    · subst e; rw [if_pos ⟨rfl, by simp⟩]; rfl
    · rw [if_neg (fun x => e x.1)]
      obtain ⟨k, rfl⟩ : ∃ k, j = k + 1 := ⟨j - 1, by omega⟩
      rw [List.getD_eq_getElem?_getD, List.getElem?_replicate, if_pos hj']
      rfl
theorem sumP_parts {d : List Int} {n : Nat} : ∀ (m i : Nat), i + m ≤ n + 1 → Sp.sumP (Sp.partsD d n) i m = sumC d (i + m) - sumC d i
  | 0, i, _ => by simp [Sp.sumP]
  | m + 1, i, h => by
    rw [Sp.sumP, sumP_parts m (i + 1) (by omega), partsD_cel (by omega), show i + 1 + m = i + (m + 1) by omega, show sumC d (i + 1) = sumC d i + Sp.cf d i from rfl]
    omega
theorem sumP_nn {parts : Dt} (h : Sp.NonNeg parts) : ∀ (n i : Nat), 0 ≤ Sp.sumP parts i n
  | 0, i => Int.le_refl 0
  | n + 1, i => by
    have := h i
    have := sumP_nn h n (i + 1)
    unfold Sp.sumP
    omega
noncomputable def Th : Tab Try.prog := ⟨[pc_lev], [], []⟩
def sp_inn [InW] (e : List Ed) (K : Nat → List Ed → Prop) : Prop := match e with
  | [.i p, .i i, .l parts] => Pre (0 ≤ p ∧ p ≤ 1000 ∧ 0 ≤ i ∧ i < parts.length ∧ parts.length ≤ 7 ∧ Sp.PartsIn parts i.toNat) (K 0 [.i p, .l (Sp.stepD parts p i.toNat)])
  | _ => False
noncomputable def lc_inn : LC where
  len := 82
  T := [(5, (.row 6)), (8, .int .i64), (9, .int .i64)]
  H := [(6, .arr 3 [.int .i64])]
  W := [38, 39, 40, 41, 42, 43, 44, 45, 46, 47, 48, 49, 50, 51, 52, 53, 54, 55, 56, 57, 58, 59]
  outs := [⟨.exit 2, [(5, (.row 12)), (8, .int .i64)], [(12, .arr 3 [.int .i64])], [9, 38, 39, 40, 41, 42, 43, 44, 45, 46, 47, 48, 49, 50, 51, 52, 53, 54, 55, 56, 57, 58, 59]⟩]
  spec := sp_inn
def VCL_inn [W : InW] (p i : Int) (parts : Dt) (A : List Ed → Prop) (K : Nat → List Ed → Prop) : Prop :=
  Vif (decide ((0 : Int) < i)) (Need (decide ((0 : Int) ≤ i) && decide (i < (↑(parts.length) : Int))) (Need (decide (i.toNat < parts.length)) (Ar .i64 ((cel parts i.toNat (0 : Nat)).int * p) fun z => Ar .i64 (i - (1 : Int)) fun z_1 => Need (decide ((0 : Int) ≤ z_1) && decide (z_1 < (↑(parts.length) : Int))) (Need (decide (z_1.toNat < parts.length)) (Ar .i64 ((1000 : Int) - p) fun z_2 => Ar .i64 ((cel parts z_1.toNat (0 : Nat)).int * z_2) fun z_3 => Ar .i64 (z + z_3) fun z => Need (decide ((0 : Int) ≤ i) && decide (i < (↑(parts.length) : Int))) (Need (decide (i.toNat < parts.length)) (Ar .i64 (i - (1 : Int)) fun z_4 => A [.i p, .i z_4, .l (List.set parts i.toNat [Cl.i z])]))))))) (K (0 : Nat) [.i p, .l parts])
theorem vcl_inn (W : InW) (p i parts A K) : vcTop { cxT Try.prog TT Th 1000 50 with fn := 75 } 1000 (loopAt Try.prog 75 9) (tmOut 82 [(5, .rw 6), (8, .si .i64 p), (9, .si .i64 i)] [38, 39, 40, 41, 42, 43, 44, 45, 46, 47, 48, 49, 50, 51, 52, 53, 54, 55, 56, 57, 58, 59]) [(6, .arr 3 [.int .i64] parts)] (roundL lc_inn A K) = VCL_inn p i parts A K := by kernel_rfl
def okLt_inn : Prop := ∀ (W : InW) (body a : Code), (Try.prog.funcs[75]?).bind (·.body) = some body → a ∈ loopsIn body → keyOf a = 9 → @LoopOk W Try.prog a (@loopRun W lc_inn)
theorem okl_inn (meas : [InW] → List Ed → Nat) (hyp_ : ∀ (W : InW) (p : Int) (i : Int) (parts : Dt) (K : Nat → List Ed → Prop), sp_inn [.i p, .i i, .l parts] K → ∀ A : List Ed → Prop, (∀ e, meas e < meas [.i p, .i i, .l parts] → sp_inn e K → A e) → VCL_inn p i parts A K) : okLt_inn :=
  LE.okOf' (fun W => @TT W) (fun W => @TT_ok W) mixed_ok Th 1000 50 (by kernel_rfl) lc_inn (fun W => @meas W) fun W p i parts K hs =>
    (vcl_inn W p i parts (fun e => meas e < meas [.i p, .i i, .l parts] ∧ sp_inn e K) K).mpr (hyp_ W p i parts K hs _ fun e h1 h2 => ⟨h1, h2⟩)
def sp_sum [InW] (e : List Ed) (K : Nat → List Ed → Prop) : Prop := match e with
  | [.i s, .i l, .i n, .i m, .i i, .l parts] => Pre (m = n ∧ l = 0 ∧ 0 ≤ i ∧ i ≤ n ∧ n ≤ parts.length ∧ parts.length ≤ 7 ∧ Sp.NonNeg parts ∧ Sp.SumIn parts s i.toNat (n - i).toNat) (K 0 [.i (s + Sp.sumP parts i.toNat (n - i).toNat)])
  | _ => False
noncomputable def lc_sum : LC where
  len := 82
  T := [(4, .int .i64), (71, (.rwp 7 1)), (72, .int .i64), (73, .int .i64)]
  H := [(7, .arr 3 [.int .i64])]
  W := [11, 74, 75, 76, 77, 78, 79, 80]
  outs := [⟨.exit 4, [(4, .int .i64)], [], [11, 71, 72, 73, 74, 75, 76, 77, 78, 79, 80]⟩]
  spec := sp_sum
def VCL_sum [W : InW] (s : Int) (l n : Nat) (m i : Int) (parts : Dt) (A : List Ed → Prop) (K : Nat → List Ed → Prop) : Prop :=
  Vif (decide (i < m)) (Need (decide ((0 : Int) ≤ i) && decide (i < (↑n : Int)) && decide (l + n ≤ parts.length)) (Need (decide (l + i.toNat < parts.length)) (Ar .i64 (s + (cel parts (l + i.toNat) (0 : Nat)).int) fun z => Ar .i64 (i + (1 : Int)) fun z_1 => A [.i z, .i (↑l : Int), .i (↑n : Int), .i m, .i z_1, .l parts]))) (K (0 : Nat) [.i s])
theorem vcl_sum (W : InW) (s l n m i parts A K) : vcTop { cxT Try.prog TT Th 1000 50 with fn := 75 } 1000 (loopAt Try.prog 75 15) (tmOut 82 [(4, .si .i64 s), (71, .rwp 7 1 l n), (72, .si .i64 m), (73, .si .i64 i)] [11, 74, 75, 76, 77, 78, 79, 80]) [(7, .arr 3 [.int .i64] parts)] (roundL lc_sum A K) = VCL_sum s l n m i parts A K := by kernel_rfl
def okLt_sum : Prop := ∀ (W : InW) (body a : Code), (Try.prog.funcs[75]?).bind (·.body) = some body → a ∈ loopsIn body → keyOf a = 15 → @LoopOk W Try.prog a (@loopRun W lc_sum)
theorem okl_sum (meas : [InW] → List Ed → Nat) (hyp_ : ∀ (W : InW) (s : Int) (l n : Nat) (m : Int) (i : Int) (parts : Dt) (K : Nat → List Ed → Prop), sp_sum [.i s, .i l, .i n, .i m, .i i, .l parts] K → ∀ A : List Ed → Prop, (∀ e, meas e < meas [.i s, .i l, .i n, .i m, .i i, .l parts] → sp_sum e K → A e) → VCL_sum s l n m i parts A K) : okLt_sum :=
  LE.okOf' (fun W => @TT W) (fun W => @TT_ok W) mixed_ok Th 1000 50 (by kernel_rfl) lc_sum (fun W => @meas W) fun W s l n m i parts K hs =>
    (vcl_sum W s l n m i parts (fun e => meas e < meas [.i s, .i l, .i n, .i m, .i i, .l parts] ∧ sp_sum e K) K).mpr (hyp_ W s l n m i parts K hs _ fun e h1 h2 => ⟨h1, h2⟩)
theorem ar_in {x y : Int} (h1 : 0 ≤ x) (h2 : x ≤ 1000000000000000) (h3 : 0 ≤ y) (h4 : y ≤ 1000) : 0 ≤ x * y ∧ x * y ≤ 1000000000000000000 := by
  have := Int.mul_le_mul h2 h4 h3 (by omega)
  exact ⟨Int.mul_nonneg h1 h3, by omega⟩
theorem okLinn : okLt_inn := okl_inn (fun e => match e with | [_, .i i, _] => i.toNat | _ => 0) fun W p i parts K hs A hA => by
  obtain ⟨⟨p0, p1, h0, h1, h7, hp⟩, hk⟩ := hs
  unfold VCL_inn
  refine vifd (fun e => ?_) fun e => ?_
  · have a1 := hp i.toNat (Nat.le_refl _)
    have a2 := hp (i - 1).toNat (by omega)
    have b1 := ar_in a1.1 a1.2 p0 p1
    have b2 := ar_in a2.1 a2.2 (show 0 ≤ 1000 - p by omega) (by omega)
    have e1 : (i - 1).toNat = i.toNat - 1 := by omega
    have hA' : A [.i p, .i (i - 1), .l (parts.set i.toNat [.i ((cel parts i.toNat 0).int * p + (cel parts (i - 1).toNat 0).int * (1000 - p))])] := hA _ (by show (i - 1).toNat < i.toNat; omega) ⟨⟨p0, p1, by omega, by simp; omega, by simpa using h7, fun j hj => by rw [cel_set, if_neg (by omega)]; exact hp j (by omega)⟩, by
      rw [e1, stepD_set (by omega) (by omega)]
      exact hk⟩
    clear hA hk hp
    repeat' (first | omega | with_reducible refine vifd (fun _ => ?_) fun _ => ?_ | with_reducible refine vifn (fun _ => ?_) fun _ => ?_ | with_reducible refine vifq (fun _ => ?_) fun _ => ?_ | with_reducible refine vifq0 (fun _ => ?_) fun _ => ?_ | with_reducible refine vifq1 (fun _ => ?_) fun _ => ?_ | with_reducible refine vifb (fun _ => ?_) fun _ => ?_ | with_reducible refine vif (fun _ => ?_) fun _ => ?_ | (with_reducible refine nedd ?_ ?_; omega) | (with_reducible refine ned ?_ ?_; simp only [Bool.and_eq_true, decide_eq_true_eq]; omega) | (with_reducible refine ar64 ?_ ?_; omega) | (with_reducible refine pre_of ?_ ?_; (first | trivial | omega | assumption | (refine ⟨?_, ?_⟩ <;> first | trivial | omega | assumption) | (refine ⟨?_, ?_, ?_⟩ <;> first | trivial | omega | assumption) | (refine ⟨?_, ?_, ?_, ?_⟩ <;> first | trivial | omega | assumption))))
    all_goals exact hA'
  · have e0 : i.toNat = 0 := by omega
    rw [e0, stepD_zero] at hk
    exact hk
theorem okLsum : okLt_sum := okl_sum (fun e => match e with | [_, _, .i n, _, .i i, _] => (n - i).toNat | _ => 0) fun W s l n m i parts K hs A hA => by
  obtain ⟨⟨rfl, hl, h0, h1, h2, h7, h3, h4⟩, hk⟩ := hs
  unfold VCL_sum
  have hl : l = 0 := by omega
  subst hl
  simp only [Nat.zero_add]
  refine vifd (fun e => ?_) fun e => ?_
  · have a1 := h3 i.toNat
    have e1 : (i + 1).toNat = i.toNat + 1 := by omega
    rw [show ((n : Int) - i).toNat = ((n : Int) - (i + 1)).toNat + 1 by omega] at hk h4
    have h4' := h4
    obtain ⟨g1, g2⟩ := h4'
    unfold Sp.sumP at hk g2
    have a2 := sumP_nn h3 ((n : Int) - (i + 1)).toNat (i.toNat + 1)
    have hA' : A [.i (s + (cel parts i.toNat 0).int), .i (0 : Nat), .i n, .i n, .i (i + 1), .l parts] := hA _ (by show ((n : Int) - (i + 1)).toNat < ((n : Int) - i).toNat; omega) ⟨⟨rfl, rfl, by omega, by omega, h2, h7, h3, ⟨by omega, by rw [e1]; omega⟩⟩, by rw [e1, Int.add_assoc]; exact hk⟩
    clear hA hk h3 h4
    repeat' (first | omega | with_reducible refine vifd (fun _ => ?_) fun _ => ?_ | with_reducible refine vifn (fun _ => ?_) fun _ => ?_ | with_reducible refine vifq (fun _ => ?_) fun _ => ?_ | with_reducible refine vifq0 (fun _ => ?_) fun _ => ?_ | with_reducible refine vifq1 (fun _ => ?_) fun _ => ?_ | with_reducible refine vifb (fun _ => ?_) fun _ => ?_ | with_reducible refine vif (fun _ => ?_) fun _ => ?_ | (with_reducible refine nedd ?_ ?_; omega) | (with_reducible refine ned ?_ ?_; simp only [Bool.and_eq_true, decide_eq_true_eq]; omega) | (with_reducible refine ar64 ?_ ?_; omega) | (with_reducible refine pre_of ?_ ?_; (first | trivial | omega | assumption | (refine ⟨?_, ?_⟩ <;> first | trivial | omega | assumption) | (refine ⟨?_, ?_, ?_⟩ <;> first | trivial | omega | assumption) | (refine ⟨?_, ?_, ?_, ?_⟩ <;> first | trivial | omega | assumption))))
    all_goals exact hA'
  · rw [show ((n : Int) - i).toNat = 0 by omega] at hk
    unfold Sp.sumP at hk
    rw [Int.add_zero] at hk
    exact hk
noncomputable def le_inn : LE Try.prog := ⟨75, 9, fun W => @loopRun W lc_inn, okLinn⟩
noncomputable def le_sum : LE Try.prog := ⟨75, 15, fun W => @loopRun W lc_sum, okLsum⟩
end Go.Proofs.Ytdokbocmgdhmmaa
namespace Go.Proofs.Ytdokbocmgdhmmaa
open Go.RowKit
set_option linter.unusedVariables false
set_option maxRecDepth 100000
set_option maxHeartbeats 1600000
namespace Sp
def fLv (lv : Dt) (k : Nat) : Int := (cel lv k 0).int
def rLo (rg : Dt) (k : Nat) : Int := (cel rg k 0).int
def rHi (rg : Dt) (k : Nat) : Int := (cel rg k 1).int
def prob (ts : Dt) (f : Nat → Int) (i : Nat) : Int := lev (500 + f (tSk ts i).toNat - tLv ts i)
def done (ts : Dt) (f : Nat → Int) : Nat → List Int
  | 0 => []
  | n + 1 => prob ts f n :: done ts f n
structure TsIn (ts : Dt) (n : Nat) : Prop where
  l6 : ts.length ≤ 6
  sk : ∀ i, i < ts.length → 0 ≤ tSk ts i ∧ tSk ts i < n
  lv : ∀ i, i < ts.length → 0 ≤ tLv ts i ∧ tLv ts i ≤ 1000
def FIn (f : Nat → Int) : Prop := ∀ k, -1000000 ≤ f k ∧ f k ≤ 1000000
def chance (ts : Dt) (al : Int) (f : Nat → Int) : Int := passL (done ts f ts.length) al
end Sp
theorem done_len (ts : Dt) (f : Nat → Int) : ∀ n, (Sp.done ts f n).length = n
  | 0 => rfl
  | n + 1 => by simp [Sp.done, done_len ts f n]
theorem lev_in (n : Int) : 0 ≤ Sp.lev n ∧ Sp.lev n ≤ 1000 := by unfold Sp.lev; omega
theorem done_in (ts : Dt) (f : Nat → Int) : ∀ n, Sp.Probs (Sp.done ts f n)
  | 0 => fun p hp => by simp [Sp.done] at hp
  | n + 1 => fun p hp => by
    rcases List.mem_cons.1 (show p ∈ Sp.prob ts f n :: Sp.done ts f n from hp) with rfl | hp
    · exact lev_in _
    · exact done_in ts f n p hp
theorem pow_le {n : Nat} (h : n ≤ 5) : (1000 : Int) ^ n ≤ 1000000000000000 := by
  match n, h with
  | 0, _ => decide
  | 1, _ => decide
  | 2, _ => decide
  | 3, _ => decide
  | 4, _ => decide
  | 5, _ => decide
theorem pow_le6 {n : Nat} (h : n ≤ 6) : (1000 : Int) ^ n ≤ 1000000000000000000 := by
  match n, h with
  | 0, _ => decide
  | 1, _ => decide
  | 2, _ => decide
  | 3, _ => decide
  | 4, _ => decide
  | 5, _ => decide
  | 6, _ => decide
theorem parts_in {ts : Dt} {f : Nat → Int} {i n j : Nat} (h : i ≤ 5) (hj : j ≤ n) : Sp.PartsIn (Sp.partsD (Sp.done ts f i) n) j := fun k hk => by
  rw [partsD_cel (by omega)]
  have h1 := cf_in (done_in ts f i) k
  rw [done_len] at h1
  have := pow_le h
  omega
theorem cel_none {xs : Dt} {i k : Nat} (h : xs.length ≤ i) : cel xs i k = .z := by simp [cel, List.getD_eq_getElem?_getD, List.getElem?_eq_none h]
theorem parts_nn {ts : Dt} {f : Nat → Int} {i n : Nat} : Sp.NonNeg (Sp.partsD (Sp.done ts f i) n) := fun j => by
  by_cases h : j ≤ n
  · rw [partsD_cel h]; exact (cf_in (done_in ts f i) j).1
  · rw [cel_none (by rw [partsD_len]; omega)]; exact Int.le_refl 0
noncomputable def TiA : Tab Try.prog := ⟨[pc_lev], [le_inn, le_sum], []⟩
def sp_outA [InW] (e : List Ed) (K : Nat → List Ed → Prop) : Prop := match e with
  | [.ro _ ts, .i n, .i i, .ro _ lv, .l parts] => Pre (n = (ts.xs.length : Int) ∧ 0 ≤ i ∧ i ≤ n ∧ Sp.TsIn ts.xs lv.xs.length ∧ Sp.FIn (Sp.fLv lv.xs) ∧ parts = Sp.partsD (Sp.done ts.xs (Sp.fLv lv.xs) i.toNat) ts.xs.length) (K 0 [.ro _ lv, .l (Sp.partsD (Sp.done ts.xs (Sp.fLv lv.xs) ts.xs.length) ts.xs.length)])
  | _ => False
noncomputable def lc_outA : LC where
  len := 82
  T := [(1, (.fn (.func 76) [] [(.ptr 4 0)])), (5, (.row 6)), (20, .rs [.int .i64, .int .i64]), (21, .int .i64), (22, .int .i64)]
  H := [(4, .blk 49 [.rs [.int .i64]]), (6, .arr 3 [.int .i64])]
  W := [7, 8, 9, 23, 24, 25, 26, 27, 28, 29, 30, 31, 32, 33, 34, 35, 36, 37, 38, 39, 40, 41, 42, 43, 44, 45, 46, 47, 48, 49, 50, 51, 52, 53, 54, 55, 56, 57, 58, 59, 60, 61, 62, 63, 64, 65, 66]
  outs := [⟨.exit 0, [(1, (.fn (.func 76) [] [(.ptr 4 0)])), (5, (.row 12))], [(4, .blk 49 [.rs [.int .i64]]), (12, .arr 3 [.int .i64])], [7, 8, 9, 20, 21, 22, 23, 24, 25, 26, 27, 28, 29, 30, 31, 32, 33, 34, 35, 36, 37, 38, 39, 40, 41, 42, 43, 44, 45, 46, 47, 48, 49, 50, 51, 52, 53, 54, 55, 56, 57, 58, 59, 60, 61, 62, 63, 64, 65, 66]⟩]
  spec := sp_outA
def VCL_outA [W : InW] (ts : Ro [.int .i64, .int .i64]) (n i : Int) (lv : Ro [.int .i64]) (parts : Dt) (A : List Ed → Prop) (K : Nat → List Ed → Prop) : Prop :=
  Vif (decide (i < n)) (Need (decide ((0 : Int) ≤ i) && decide (i < (↑(ts.xs.length) : Int))) (Need (decide (i.toNat < ts.xs.length)) (Need (decide ((0 : Int) ≤ (cel ts.xs i.toNat (0 : Nat)).int) && decide ((cel ts.xs i.toNat (0 : Nat)).int < (↑(lv.xs.length) : Int))) (Need (decide ((cel ts.xs i.toNat (0 : Nat)).int.toNat < lv.xs.length)) (Ar .i64 ((500 : Int) + (cel lv.xs (cel ts.xs i.toNat (0 : Nat)).int.toNat (0 : Nat)).int) fun z => Ar .i64 (z - (cel ts.xs i.toNat (0+1 : Nat)).int) fun z => Pre True (Ar .i64 ((↑(parts.length) : Int) - (1 : Int)) fun z_1 => Pre ((0 : Int) ≤ Sp.lev z ∧ Sp.lev z ≤ (1000 : Int) ∧ (0 : Int) ≤ z_1 ∧ z_1 < (↑(parts.length) : Int) ∧ parts.length ≤ (7 : Nat) ∧ Sp.PartsIn parts z_1.toNat) (Need (decide ((0 : Int) ≤ (0 : Int)) && decide ((0 : Int) < (↑(List.length (Sp.stepD parts (Sp.lev z) z_1.toNat)) : Int))) (Need (decide (Int.toNat (0 : Int) < List.length (Sp.stepD parts (Sp.lev z) z_1.toNat))) (Ar .i64 ((cel (Sp.stepD parts (Sp.lev z) z_1.toNat) (Int.toNat (0 : Int)) (0 : Nat)).int * Sp.lev z) fun z_2 => Need (decide ((0 : Int) ≤ (0 : Int)) && decide ((0 : Int) < (↑(List.length (Sp.stepD parts (Sp.lev z) z_1.toNat)) : Int))) (Need (decide (Int.toNat (0 : Int) < List.length (Sp.stepD parts (Sp.lev z) z_1.toNat))) (Ar .i64 (i + (1 : Int)) fun z_3 => A [.ro _ ts, .i n, .i z_3, .ro _ lv, .l (List.set (Sp.stepD parts (Sp.lev z) z_1.toNat) (Int.toNat (0 : Int)) [Cl.i z_2])]))))))))))) (K (0 : Nat) [.ro _ lv, .l parts])
theorem vcl_outA (W : InW) (ts n i lv parts A K) : vcTop { cxT Try.prog TT TiA 1000 50 with fn := 75 } 1000 (loopAt Try.prog 75 5) (tmOut 82 [(1, .fn (.func 76) [] [.ptr 4 0]), (5, .rw 6), (20, .rs _ ts), (21, .si .i64 n), (22, .si .i64 i)] [7, 8, 9, 23, 24, 25, 26, 27, 28, 29, 30, 31, 32, 33, 34, 35, 36, 37, 38, 39, 40, 41, 42, 43, 44, 45, 46, 47, 48, 49, 50, 51, 52, 53, 54, 55, 56, 57, 58, 59, 60, 61, 62, 63, 64, 65, 66]) [(4, .blk 49 [.rs _ lv]), (6, .arr 3 [.int .i64] parts)] (roundL lc_outA A K) = VCL_outA ts n i lv parts A K := by kernel_rfl
def okLt_outA : Prop := ∀ (W : InW) (body a : Code), (Try.prog.funcs[75]?).bind (·.body) = some body → a ∈ loopsIn body → keyOf a = 5 → @LoopOk W Try.prog a (@loopRun W lc_outA)
theorem okl_outA (meas : [InW] → List Ed → Nat) (hyp_ : ∀ (W : InW) (ts : Ro [.int .i64, .int .i64]) (n : Int) (i : Int) (lv : Ro [.int .i64]) (parts : Dt) (K : Nat → List Ed → Prop), sp_outA [.ro _ ts, .i n, .i i, .ro _ lv, .l parts] K → ∀ A : List Ed → Prop, (∀ e, meas e < meas [.ro _ ts, .i n, .i i, .ro _ lv, .l parts] → sp_outA e K → A e) → VCL_outA ts n i lv parts A K) : okLt_outA :=
  LE.okOf' (fun W => @TT W) (fun W => @TT_ok W) mixed_ok TiA 1000 50 (by kernel_rfl) lc_outA (fun W => @meas W) fun W ts n i lv parts K hs =>
    (vcl_outA W ts n i lv parts (fun e => meas e < meas [.ro _ ts, .i n, .i i, .ro _ lv, .l parts] ∧ sp_outA e K) K).mpr (hyp_ W ts n i lv parts K hs _ fun e h1 h2 => ⟨h1, h2⟩)
theorem okLoutA : okLt_outA := okl_outA (fun e => match e with | _ :: .i n :: .i i :: _ => (n - i).toNat | _ => 0) fun W ts n i lv parts K hs A hA => by
  obtain ⟨⟨rfl, h0, h1, hT, hF, rfl⟩, hk⟩ := hs
  unfold VCL_outA
  simp only [Nat.zero_add, Nat.reduceAdd, partsD_len]
  have h6 := hT.l6
  refine vifd (fun e => ?_) fun e => ?_
  · have t1 := hT.sk i.toNat (by omega)
    have t2 := hT.lv i.toNat (by omega)
    have t3 := hF (Sp.tSk ts.xs i.toNat).toNat
    have e1 : (i + 1).toNat = i.toNat + 1 := by omega
    have hA' : A [.ro _ ts, .i ts.xs.length, .i (i + 1), .ro _ lv, .l (Sp.partsD (Sp.done ts.xs (Sp.fLv lv.xs) (i.toNat + 1)) ts.xs.length)] := hA _ (by show ((ts.xs.length : Int) - (i + 1)).toNat < ((ts.xs.length : Int) - i).toNat; omega) ⟨⟨rfl, by omega, by omega, hT, hF, by rw [e1]⟩, hk⟩
    have hp := lev_in (500 + Sp.fLv lv.xs (Sp.tSk ts.xs i.toNat).toNat - Sp.tLv ts.xs i.toNat)
    have hq := parts_in (ts := ts.xs) (f := Sp.fLv lv.xs) (i := i.toNat) (n := ts.xs.length) (j := ts.xs.length) (by omega) (Nat.le_refl _)
    have hst := partsD_step (d := Sp.done ts.xs (Sp.fLv lv.xs) i.toNat) (p := Sp.prob ts.xs (Sp.fLv lv.xs) i.toNat) (n := ts.xs.length)
    have hc0 : (cel (Sp.stepD (Sp.partsD (Sp.done ts.xs (Sp.fLv lv.xs) i.toNat) ts.xs.length) (Sp.prob ts.xs (Sp.fLv lv.xs) i.toNat) ts.xs.length) 0 0).int = Sp.cf (Sp.done ts.xs (Sp.fLv lv.xs) i.toNat) 0 := by
      unfold cel
      rw [stepD_at (by rw [partsD_len]; omega), if_neg (by omega)]
      exact partsD_cel (Nat.zero_le _)
    have hc1 := cf_in (done_in ts.xs (Sp.fLv lv.xs) i.toNat) 0
    rw [done_len] at hc1
    have hc2 := pow_le (n := i.toNat) (by omega)
    have hc3 := ar_in hc1.1 (by omega) hp.1 hp.2
    rw [show Sp.done ts.xs (Sp.fLv lv.xs) (i.toNat + 1) = Sp.prob ts.xs (Sp.fLv lv.xs) i.toNat :: Sp.done ts.xs (Sp.fLv lv.xs) i.toNat from rfl, ← hst, hc0] at hA'
    clear hA hk hT hF hst
    unfold Sp.tSk at t1
    unfold Sp.tLv at t2
    unfold Sp.tSk Sp.fLv at t3
    have hP : Sp.lev (500 + (cel lv.xs (cel ts.xs i.toNat 0).int.toNat 0).int - (cel ts.xs i.toNat 1).int) = Sp.prob ts.xs (Sp.fLv lv.xs) i.toNat := rfl
    rw [show Sp.lev (500 + Sp.fLv lv.xs (Sp.tSk ts.xs i.toNat).toNat - Sp.tLv ts.xs i.toNat) = Sp.prob ts.xs (Sp.fLv lv.xs) i.toNat from rfl] at hp hc3
    refine ned (by simp; omega) (nedd (by omega) (ned (by simp; omega) (nedd (by omega) (ar64 (by omega) (ar64 (by omega) ⟨trivial, ?_⟩)))))
    rw [hP, show ((ts.xs.length + 1 : Nat) : Int) - 1 = ts.xs.length by omega]
    refine ar64 (by omega) ?_
    simp only [Int.toNat_natCast, stepD_len, partsD_len, show Int.toNat 0 = 0 from rfl, hc0]
    exact ⟨⟨hp.1, hp.2, by omega, by omega, by omega, hq⟩, ned (by simp) (nedd (by omega) (ar64 (by omega) (ned (by simp) (nedd (by omega) (ar64 (by omega) hA')))))⟩
  · have e0 : i.toNat = ts.xs.length := by omega
    rw [e0]
    exact hk
noncomputable def le_outA : LE Try.prog := ⟨75, 5, fun W => @loopRun W lc_outA, okLoutA⟩
noncomputable def TjA : Tab Try.prog := ⟨[], [le_outA, le_sum], []⟩
def sp_chA [InW] (e : List Ed) (K : Nat → List Ed → Prop) : Prop := match e with
  | [.ro _ ts, .i al, .ro _ lv] => Pre (Sp.TsIn ts.xs lv.xs.length ∧ Sp.FIn (Sp.fLv lv.xs) ∧ 0 ≤ al ∧ al ≤ ts.xs.length) (K 0 [.i (Sp.chance ts.xs al (Sp.fLv lv.xs))])
  | _ => False
noncomputable def cc_chA : CC where
  g := 75
  args := [.agg [.rs [.int .i64, .int .i64], .int .i64], (.fn (.func 76) [] [(.ptr 1 0)])]
  H := [(1, .blk 49 [.rs [.int .i64]])]
  outs := [⟨false, .int .i64, [], true⟩]
  spec := sp_chA
def VCC_chA [W : InW] (ts : Ro [.int .i64, .int .i64]) (al : Int) (lv : Ro [.int .i64]) (K : Nat → List Ed → Prop) : Prop :=
  Ar .i64 ((↑(ts.xs.length) : Int) + (1 : Int)) fun z => Need (decide (z = z) && decide ((0 : Int) ≤ z) && decide ((8 : Nat) * z.toNat ≤ (281474976710656 : Nat))) (Need (decide ((0 : Int) ≤ (0 : Int)) && decide ((0 : Int) < (↑(List.replicate z.toNat (zeroCls [Ty.int IntKind.i64])).length : Int))) (Need (decide (Int.toNat (0 : Int) < (List.replicate z.toNat (zeroCls [Ty.int IntKind.i64])).length)) (Pre ((↑(ts.xs.length) : Int) = (↑(ts.xs.length) : Int) ∧ (0 : Int) ≤ (0 : Int) ∧ (0 : Int) ≤ (↑(ts.xs.length) : Int) ∧ Sp.TsIn ts.xs (lv.xs.length) ∧ Sp.FIn (Sp.fLv lv.xs) ∧ (List.replicate z.toNat (zeroCls [Ty.int IntKind.i64])).set (Int.toNat (0 : Int)) [Cl.i (1 : Int)] = Sp.partsD (Sp.done ts.xs (Sp.fLv lv.xs) (Int.toNat (0 : Int))) (ts.xs.length)) (Ar .i64 (al + (1 : Int)) fun z => Need (decide ((0 : Int) ≤ z)) (Need (decide ((0 : Nat) ≤ z.toNat) && decide (z.toNat ≤ List.length (Sp.partsD (Sp.done ts.xs (Sp.fLv lv.xs) (ts.xs.length)) (ts.xs.length)))) (Pre ((↑(z.toNat - (0 : Nat)) : Int) = (↑(z.toNat - (0 : Nat)) : Int) ∧ (↑(0 : Nat) : Int) = (0 : Int) ∧ (0 : Int) ≤ (0 : Int) ∧ (0 : Int) ≤ (↑(z.toNat - (0 : Nat)) : Int) ∧ (↑(z.toNat - (0 : Nat)) : Int) ≤ (↑(List.length (Sp.partsD (Sp.done ts.xs (Sp.fLv lv.xs) (ts.xs.length)) (ts.xs.length))) : Int) ∧ List.length (Sp.partsD (Sp.done ts.xs (Sp.fLv lv.xs) (ts.xs.length)) (ts.xs.length)) ≤ (7 : Nat) ∧ Sp.NonNeg (Sp.partsD (Sp.done ts.xs (Sp.fLv lv.xs) (ts.xs.length)) (ts.xs.length)) ∧ Sp.SumIn (Sp.partsD (Sp.done ts.xs (Sp.fLv lv.xs) (ts.xs.length)) (ts.xs.length)) (0 : Int) (Int.toNat (0 : Int)) ((↑(z.toNat - (0 : Nat)) : Int) - (0 : Int)).toNat) ([Ed.ro [Ty.int IntKind.i64] (rsK._proof_1 [Ty.int IntKind.i64] [Ty.int IntKind.i64] rfl ▸ rsK._proof_1 [Ty.int IntKind.i64] [Ty.int IntKind.i64] rfl ▸ lv)] ++ [] ++ [] = [Ed.ro _ lv] ∧ K (0 : Nat) [Ed.i ((0 : Int) + Sp.sumP (Sp.partsD (Sp.done ts.xs (Sp.fLv lv.xs) (ts.xs.length)) (ts.xs.length)) (Int.toNat (0 : Int)) ((↑(z.toNat - (0 : Nat)) : Int) - (0 : Int)).toNat)])))))))
theorem vcc_chA (W : InW) (ts al lv K) : coreK (cxT Try.prog TT TjA 1000 50) 1000 75 [.agg [.rs _ ts, .si .i64 al], .fn (.func 76) [] [.ptr 1 0]] [(1, .blk 49 [.rs _ lv])] (fun v h => outC cc_chA.H [.ro _ lv] cc_chA.outs 0 false v h K) (fun v h => outC cc_chA.H [.ro _ lv] cc_chA.outs 0 true v h K) = VCC_chA ts al lv K := by kernel_rfl
theorem okc_chA (hyp_ : ∀ (W : InW) (ts : Ro [.int .i64, .int .i64]) (al : Int) (lv : Ro [.int .i64]) (K : Nat → List Ed → Prop), sp_chA [.ro _ ts, .i al, .ro _ lv] K → VCC_chA ts al lv K) : ∀ W : InW, @CallC W Try.prog cc_chA :=
  CC.okOf (fun W => @TT W) (fun W => @TT_ok W) mixed_ok TjA 1000 50 cc_chA fun W ts al lv K hs => (vcc_chA W ts al lv K).mpr (hyp_ W ts al lv K hs)
theorem okCchA : ∀ W : InW, @CallC W Try.prog cc_chA := okc_chA fun W ts al lv K hs => by
  obtain ⟨⟨hT, hF, h0, h1⟩, hk⟩ := hs
  unfold VCC_chA
  have h6 := hT.l6
  have hs := sumP_parts (d := Sp.done ts.xs (Sp.fLv lv.xs) ts.xs.length) (n := ts.xs.length) (al.toNat + 1) 0 (by omega)
  rw [sumC_pass, sumC_pass, passL_neg (a := ((0 : Nat) : Int) - 1) (by omega), Int.sub_zero, show ((0 + (al.toNat + 1) : Nat) : Int) - 1 = al by omega] at hs
  have hb := passL_in (done_in ts.xs (Sp.fLv lv.xs) ts.xs.length) al
  rw [done_len] at hb
  have hb2 := pow_le6 h6
  refine ar64 (by omega) ?_
  simp only [show ((ts.xs.length : Int) + 1).toNat = ts.xs.length + 1 by omega, List.length_replicate, partsD_len, show Int.toNat 0 = 0 from rfl, Nat.sub_zero, Int.sub_zero, Int.toNat_natCast]
  refine ned (by simp; omega) (ned (by simp) (nedd (by omega) ⟨⟨trivial, by omega, by omega, hT, hF, partsD_zero _⟩, ar64 (by omega) (nedd (by omega) ?_)⟩))
  rw [show (al + 1).toNat = al.toNat + 1 by omega, hs]
  refine ned (by simp; omega) ⟨⟨trivial, rfl, by omega, by omega, by omega, by omega, parts_nn, ⟨by omega, by rw [hs]; omega⟩⟩, ⟨rfl, ?_⟩⟩
  rw [Int.zero_add]
  exact hk
noncomputable def TiB : Tab Try.prog := ⟨[pc_lev], [le_inn, le_sum], []⟩
def sp_outB [InW] (e : List Ed) (K : Nat → List Ed → Prop) : Prop := match e with
  | [.ro _ ts, .i n, .i i, .ro _ rg, .l parts] => Pre (n = (ts.xs.length : Int) ∧ 0 ≤ i ∧ i ≤ n ∧ Sp.TsIn ts.xs rg.xs.length ∧ Sp.FIn (Sp.rLo rg.xs) ∧ parts = Sp.partsD (Sp.done ts.xs (Sp.rLo rg.xs) i.toNat) ts.xs.length) (K 0 [.ro _ rg, .l (Sp.partsD (Sp.done ts.xs (Sp.rLo rg.xs) ts.xs.length) ts.xs.length)])
  | _ => False
noncomputable def lc_outB : LC where
  len := 82
  T := [(1, (.fn (.func 80) [] [(.ptr 4 0)])), (5, (.row 6)), (20, .rs [.int .i64, .int .i64]), (21, .int .i64), (22, .int .i64)]
  H := [(4, .blk 37 [.rs [.int .i64, .int .i64]]), (6, .arr 3 [.int .i64])]
  W := [7, 8, 9, 23, 24, 25, 26, 27, 28, 29, 30, 31, 32, 33, 34, 35, 36, 37, 38, 39, 40, 41, 42, 43, 44, 45, 46, 47, 48, 49, 50, 51, 52, 53, 54, 55, 56, 57, 58, 59, 60, 61, 62, 63, 64, 65, 66]
  outs := [⟨.exit 0, [(1, (.fn (.func 80) [] [(.ptr 4 0)])), (5, (.row 12))], [(4, .blk 37 [.rs [.int .i64, .int .i64]]), (12, .arr 3 [.int .i64])], [7, 8, 9, 20, 21, 22, 23, 24, 25, 26, 27, 28, 29, 30, 31, 32, 33, 34, 35, 36, 37, 38, 39, 40, 41, 42, 43, 44, 45, 46, 47, 48, 49, 50, 51, 52, 53, 54, 55, 56, 57, 58, 59, 60, 61, 62, 63, 64, 65, 66]⟩]
  spec := sp_outB
def VCL_outB [W : InW] (ts : Ro [.int .i64, .int .i64]) (n i : Int) (rg : Ro [.int .i64, .int .i64]) (parts : Dt) (A : List Ed → Prop) (K : Nat → List Ed → Prop) : Prop :=
  Vif (decide (i < n)) (Need (decide ((0 : Int) ≤ i) && decide (i < (↑(ts.xs.length) : Int))) (Need (decide (i.toNat < ts.xs.length)) (Need (decide ((0 : Int) ≤ (cel ts.xs i.toNat (0 : Nat)).int) && decide ((cel ts.xs i.toNat (0 : Nat)).int < (↑(rg.xs.length) : Int))) (Need (decide ((cel ts.xs i.toNat (0 : Nat)).int.toNat < rg.xs.length)) (Ar .i64 ((500 : Int) + (cel rg.xs (cel ts.xs i.toNat (0 : Nat)).int.toNat (0 : Nat)).int) fun z => Ar .i64 (z - (cel ts.xs i.toNat (0+1 : Nat)).int) fun z => Pre True (Ar .i64 ((↑(parts.length) : Int) - (1 : Int)) fun z_1 => Pre ((0 : Int) ≤ Sp.lev z ∧ Sp.lev z ≤ (1000 : Int) ∧ (0 : Int) ≤ z_1 ∧ z_1 < (↑(parts.length) : Int) ∧ parts.length ≤ (7 : Nat) ∧ Sp.PartsIn parts z_1.toNat) (Need (decide ((0 : Int) ≤ (0 : Int)) && decide ((0 : Int) < (↑(List.length (Sp.stepD parts (Sp.lev z) z_1.toNat)) : Int))) (Need (decide (Int.toNat (0 : Int) < List.length (Sp.stepD parts (Sp.lev z) z_1.toNat))) (Ar .i64 ((cel (Sp.stepD parts (Sp.lev z) z_1.toNat) (Int.toNat (0 : Int)) (0 : Nat)).int * Sp.lev z) fun z_2 => Need (decide ((0 : Int) ≤ (0 : Int)) && decide ((0 : Int) < (↑(List.length (Sp.stepD parts (Sp.lev z) z_1.toNat)) : Int))) (Need (decide (Int.toNat (0 : Int) < List.length (Sp.stepD parts (Sp.lev z) z_1.toNat))) (Ar .i64 (i + (1 : Int)) fun z_3 => A [.ro _ ts, .i n, .i z_3, .ro _ rg, .l (List.set (Sp.stepD parts (Sp.lev z) z_1.toNat) (Int.toNat (0 : Int)) [Cl.i z_2])]))))))))))) (K (0 : Nat) [.ro _ rg, .l parts])
theorem vcl_outB (W : InW) (ts n i rg parts A K) : vcTop { cxT Try.prog TT TiB 1000 50 with fn := 75 } 1000 (loopAt Try.prog 75 5) (tmOut 82 [(1, .fn (.func 80) [] [.ptr 4 0]), (5, .rw 6), (20, .rs _ ts), (21, .si .i64 n), (22, .si .i64 i)] [7, 8, 9, 23, 24, 25, 26, 27, 28, 29, 30, 31, 32, 33, 34, 35, 36, 37, 38, 39, 40, 41, 42, 43, 44, 45, 46, 47, 48, 49, 50, 51, 52, 53, 54, 55, 56, 57, 58, 59, 60, 61, 62, 63, 64, 65, 66]) [(4, .blk 37 [.rs _ rg]), (6, .arr 3 [.int .i64] parts)] (roundL lc_outB A K) = VCL_outB ts n i rg parts A K := by kernel_rfl
def okLt_outB : Prop := ∀ (W : InW) (body a : Code), (Try.prog.funcs[75]?).bind (·.body) = some body → a ∈ loopsIn body → keyOf a = 5 → @LoopOk W Try.prog a (@loopRun W lc_outB)
theorem okl_outB (meas : [InW] → List Ed → Nat) (hyp_ : ∀ (W : InW) (ts : Ro [.int .i64, .int .i64]) (n : Int) (i : Int) (rg : Ro [.int .i64, .int .i64]) (parts : Dt) (K : Nat → List Ed → Prop), sp_outB [.ro _ ts, .i n, .i i, .ro _ rg, .l parts] K → ∀ A : List Ed → Prop, (∀ e, meas e < meas [.ro _ ts, .i n, .i i, .ro _ rg, .l parts] → sp_outB e K → A e) → VCL_outB ts n i rg parts A K) : okLt_outB :=
  LE.okOf' (fun W => @TT W) (fun W => @TT_ok W) mixed_ok TiB 1000 50 (by kernel_rfl) lc_outB (fun W => @meas W) fun W ts n i rg parts K hs =>
    (vcl_outB W ts n i rg parts (fun e => meas e < meas [.ro _ ts, .i n, .i i, .ro _ rg, .l parts] ∧ sp_outB e K) K).mpr (hyp_ W ts n i rg parts K hs _ fun e h1 h2 => ⟨h1, h2⟩)
theorem okLoutB : okLt_outB := okl_outB (fun e => match e with | _ :: .i n :: .i i :: _ => (n - i).toNat | _ => 0) fun W ts n i rg parts K hs A hA => by
  obtain ⟨⟨rfl, h0, h1, hT, hF, rfl⟩, hk⟩ := hs
  unfold VCL_outB
  simp only [Nat.zero_add, Nat.reduceAdd, partsD_len]
  have h6 := hT.l6
  refine vifd (fun e => ?_) fun e => ?_
  · have t1 := hT.sk i.toNat (by omega)
    have t2 := hT.lv i.toNat (by omega)
    have t3 := hF (Sp.tSk ts.xs i.toNat).toNat
    have e1 : (i + 1).toNat = i.toNat + 1 := by omega
    have hA' : A [.ro _ ts, .i ts.xs.length, .i (i + 1), .ro _ rg, .l (Sp.partsD (Sp.done ts.xs (Sp.rLo rg.xs) (i.toNat + 1)) ts.xs.length)] := hA _ (by show ((ts.xs.length : Int) - (i + 1)).toNat < ((ts.xs.length : Int) - i).toNat; omega) ⟨⟨rfl, by omega, by omega, hT, hF, by rw [e1]⟩, hk⟩
    have hp := lev_in (500 + Sp.rLo rg.xs (Sp.tSk ts.xs i.toNat).toNat - Sp.tLv ts.xs i.toNat)
    have hq := parts_in (ts := ts.xs) (f := Sp.rLo rg.xs) (i := i.toNat) (n := ts.xs.length) (j := ts.xs.length) (by omega) (Nat.le_refl _)
    have hst := partsD_step (d := Sp.done ts.xs (Sp.rLo rg.xs) i.toNat) (p := Sp.prob ts.xs (Sp.rLo rg.xs) i.toNat) (n := ts.xs.length)
    have hc0 : (cel (Sp.stepD (Sp.partsD (Sp.done ts.xs (Sp.rLo rg.xs) i.toNat) ts.xs.length) (Sp.prob ts.xs (Sp.rLo rg.xs) i.toNat) ts.xs.length) 0 0).int = Sp.cf (Sp.done ts.xs (Sp.rLo rg.xs) i.toNat) 0 := by
      unfold cel
      rw [stepD_at (by rw [partsD_len]; omega), if_neg (by omega)]
      exact partsD_cel (Nat.zero_le _)
    have hc1 := cf_in (done_in ts.xs (Sp.rLo rg.xs) i.toNat) 0
    rw [done_len] at hc1
    have hc2 := pow_le (n := i.toNat) (by omega)
    have hc3 := ar_in hc1.1 (by omega) hp.1 hp.2
    rw [show Sp.done ts.xs (Sp.rLo rg.xs) (i.toNat + 1) = Sp.prob ts.xs (Sp.rLo rg.xs) i.toNat :: Sp.done ts.xs (Sp.rLo rg.xs) i.toNat from rfl, ← hst, hc0] at hA'
    clear hA hk hT hF hst
    unfold Sp.tSk at t1
    unfold Sp.tLv at t2
    unfold Sp.tSk Sp.rLo at t3
    have hP : Sp.lev (500 + (cel rg.xs (cel ts.xs i.toNat 0).int.toNat 0).int - (cel ts.xs i.toNat 1).int) = Sp.prob ts.xs (Sp.rLo rg.xs) i.toNat := rfl
    rw [show Sp.lev (500 + Sp.rLo rg.xs (Sp.tSk ts.xs i.toNat).toNat - Sp.tLv ts.xs i.toNat) = Sp.prob ts.xs (Sp.rLo rg.xs) i.toNat from rfl] at hp hc3
    refine ned (by simp; omega) (nedd (by omega) (ned (by simp; omega) (nedd (by omega) (ar64 (by omega) (ar64 (by omega) ⟨trivial, ?_⟩)))))
    rw [hP, show ((ts.xs.length + 1 : Nat) : Int) - 1 = ts.xs.length by omega]
    refine ar64 (by omega) ?_
    simp only [Int.toNat_natCast, stepD_len, partsD_len, show Int.toNat 0 = 0 from rfl, hc0]
    exact ⟨⟨hp.1, hp.2, by omega, by omega, by omega, hq⟩, ned (by simp) (nedd (by omega) (ar64 (by omega) (ned (by simp) (nedd (by omega) (ar64 (by omega) hA')))))⟩
  · have e0 : i.toNat = ts.xs.length := by omega
    rw [e0]
    exact hk
noncomputable def le_outB : LE Try.prog := ⟨75, 5, fun W => @loopRun W lc_outB, okLoutB⟩
noncomputable def TjB : Tab Try.prog := ⟨[], [le_outB, le_sum], []⟩
def sp_chB [InW] (e : List Ed) (K : Nat → List Ed → Prop) : Prop := match e with
  | [.ro _ ts, .i al, .ro _ rg] => Pre (Sp.TsIn ts.xs rg.xs.length ∧ Sp.FIn (Sp.rLo rg.xs) ∧ 0 ≤ al ∧ al ≤ ts.xs.length) (K 0 [.i (Sp.chance ts.xs al (Sp.rLo rg.xs))])
  | _ => False
noncomputable def cc_chB : CC where
  g := 75
  args := [.agg [.rs [.int .i64, .int .i64], .int .i64], (.fn (.func 80) [] [(.ptr 1 0)])]
  H := [(1, .blk 37 [.rs [.int .i64, .int .i64]])]
  outs := [⟨false, .int .i64, [], true⟩]
  spec := sp_chB
def VCC_chB [W : InW] (ts : Ro [.int .i64, .int .i64]) (al : Int) (rg : Ro [.int .i64, .int .i64]) (K : Nat → List Ed → Prop) : Prop :=
  Ar .i64 ((↑(ts.xs.length) : Int) + (1 : Int)) fun z => Need (decide (z = z) && decide ((0 : Int) ≤ z) && decide ((8 : Nat) * z.toNat ≤ (281474976710656 : Nat))) (Need (decide ((0 : Int) ≤ (0 : Int)) && decide ((0 : Int) < (↑(List.replicate z.toNat (zeroCls [Ty.int IntKind.i64])).length : Int))) (Need (decide (Int.toNat (0 : Int) < (List.replicate z.toNat (zeroCls [Ty.int IntKind.i64])).length)) (Pre ((↑(ts.xs.length) : Int) = (↑(ts.xs.length) : Int) ∧ (0 : Int) ≤ (0 : Int) ∧ (0 : Int) ≤ (↑(ts.xs.length) : Int) ∧ Sp.TsIn ts.xs (rg.xs.length) ∧ Sp.FIn (Sp.rLo rg.xs) ∧ (List.replicate z.toNat (zeroCls [Ty.int IntKind.i64])).set (Int.toNat (0 : Int)) [Cl.i (1 : Int)] = Sp.partsD (Sp.done ts.xs (Sp.rLo rg.xs) (Int.toNat (0 : Int))) (ts.xs.length)) (Ar .i64 (al + (1 : Int)) fun z => Need (decide ((0 : Int) ≤ z)) (Need (decide ((0 : Nat) ≤ z.toNat) && decide (z.toNat ≤ List.length (Sp.partsD (Sp.done ts.xs (Sp.rLo rg.xs) (ts.xs.length)) (ts.xs.length)))) (Pre ((↑(z.toNat - (0 : Nat)) : Int) = (↑(z.toNat - (0 : Nat)) : Int) ∧ (↑(0 : Nat) : Int) = (0 : Int) ∧ (0 : Int) ≤ (0 : Int) ∧ (0 : Int) ≤ (↑(z.toNat - (0 : Nat)) : Int) ∧ (↑(z.toNat - (0 : Nat)) : Int) ≤ (↑(List.length (Sp.partsD (Sp.done ts.xs (Sp.rLo rg.xs) (ts.xs.length)) (ts.xs.length))) : Int) ∧ List.length (Sp.partsD (Sp.done ts.xs (Sp.rLo rg.xs) (ts.xs.length)) (ts.xs.length)) ≤ (7 : Nat) ∧ Sp.NonNeg (Sp.partsD (Sp.done ts.xs (Sp.rLo rg.xs) (ts.xs.length)) (ts.xs.length)) ∧ Sp.SumIn (Sp.partsD (Sp.done ts.xs (Sp.rLo rg.xs) (ts.xs.length)) (ts.xs.length)) (0 : Int) (Int.toNat (0 : Int)) ((↑(z.toNat - (0 : Nat)) : Int) - (0 : Int)).toNat) ([Ed.ro [Ty.int IntKind.i64, Ty.int IntKind.i64] (rsK._proof_1 [Ty.int IntKind.i64, Ty.int IntKind.i64] [Ty.int IntKind.i64, Ty.int IntKind.i64] rfl ▸ rsK._proof_1 [Ty.int IntKind.i64, Ty.int IntKind.i64] [Ty.int IntKind.i64, Ty.int IntKind.i64] rfl ▸ rg)] ++ [] ++ [] = [Ed.ro _ rg] ∧ K (0 : Nat) [Ed.i ((0 : Int) + Sp.sumP (Sp.partsD (Sp.done ts.xs (Sp.rLo rg.xs) (ts.xs.length)) (ts.xs.length)) (Int.toNat (0 : Int)) ((↑(z.toNat - (0 : Nat)) : Int) - (0 : Int)).toNat)])))))))
theorem vcc_chB (W : InW) (ts al rg K) : coreK (cxT Try.prog TT TjB 1000 50) 1000 75 [.agg [.rs _ ts, .si .i64 al], .fn (.func 80) [] [.ptr 1 0]] [(1, .blk 37 [.rs _ rg])] (fun v h => outC cc_chB.H [.ro _ rg] cc_chB.outs 0 false v h K) (fun v h => outC cc_chB.H [.ro _ rg] cc_chB.outs 0 true v h K) = VCC_chB ts al rg K := by kernel_rfl
theorem okc_chB (hyp_ : ∀ (W : InW) (ts : Ro [.int .i64, .int .i64]) (al : Int) (rg : Ro [.int .i64, .int .i64]) (K : Nat → List Ed → Prop), sp_chB [.ro _ ts, .i al, .ro _ rg] K → VCC_chB ts al rg K) : ∀ W : InW, @CallC W Try.prog cc_chB :=
  CC.okOf (fun W => @TT W) (fun W => @TT_ok W) mixed_ok TjB 1000 50 cc_chB fun W ts al rg K hs => (vcc_chB W ts al rg K).mpr (hyp_ W ts al rg K hs)
theorem okCchB : ∀ W : InW, @CallC W Try.prog cc_chB := okc_chB fun W ts al rg K hs => by
  obtain ⟨⟨hT, hF, h0, h1⟩, hk⟩ := hs
  unfold VCC_chB
  have h6 := hT.l6
  have hs := sumP_parts (d := Sp.done ts.xs (Sp.rLo rg.xs) ts.xs.length) (n := ts.xs.length) (al.toNat + 1) 0 (by omega)
  rw [sumC_pass, sumC_pass, passL_neg (a := ((0 : Nat) : Int) - 1) (by omega), Int.sub_zero, show ((0 + (al.toNat + 1) : Nat) : Int) - 1 = al by omega] at hs
  have hb := passL_in (done_in ts.xs (Sp.rLo rg.xs) ts.xs.length) al
  rw [done_len] at hb
  have hb2 := pow_le6 h6
  refine ar64 (by omega) ?_
  simp only [show ((ts.xs.length : Int) + 1).toNat = ts.xs.length + 1 by omega, List.length_replicate, partsD_len, show Int.toNat 0 = 0 from rfl, Nat.sub_zero, Int.sub_zero, Int.toNat_natCast]
  refine ned (by simp; omega) (ned (by simp) (nedd (by omega) ⟨⟨trivial, by omega, by omega, hT, hF, partsD_zero _⟩, ar64 (by omega) (nedd (by omega) ?_)⟩))
  rw [show (al + 1).toNat = al.toNat + 1 by omega, hs]
  refine ned (by simp; omega) ⟨⟨trivial, rfl, by omega, by omega, by omega, by omega, parts_nn, ⟨by omega, by rw [hs]; omega⟩⟩, ⟨rfl, ?_⟩⟩
  rw [Int.zero_add]
  exact hk
noncomputable def TiC : Tab Try.prog := ⟨[pc_lev], [le_inn, le_sum], []⟩
def sp_outC [InW] (e : List Ed) (K : Nat → List Ed → Prop) : Prop := match e with
  | [.ro _ ts, .i n, .i i, .ro _ rg, .l parts] => Pre (n = (ts.xs.length : Int) ∧ 0 ≤ i ∧ i ≤ n ∧ Sp.TsIn ts.xs rg.xs.length ∧ Sp.FIn (Sp.rHi rg.xs) ∧ parts = Sp.partsD (Sp.done ts.xs (Sp.rHi rg.xs) i.toNat) ts.xs.length) (K 0 [.ro _ rg, .l (Sp.partsD (Sp.done ts.xs (Sp.rHi rg.xs) ts.xs.length) ts.xs.length)])
  | _ => False
noncomputable def lc_outC : LC where
  len := 82
  T := [(1, (.fn (.func 81) [] [(.ptr 4 0)])), (5, (.row 6)), (20, .rs [.int .i64, .int .i64]), (21, .int .i64), (22, .int .i64)]
  H := [(4, .blk 37 [.rs [.int .i64, .int .i64]]), (6, .arr 3 [.int .i64])]
  W := [7, 8, 9, 23, 24, 25, 26, 27, 28, 29, 30, 31, 32, 33, 34, 35, 36, 37, 38, 39, 40, 41, 42, 43, 44, 45, 46, 47, 48, 49, 50, 51, 52, 53, 54, 55, 56, 57, 58, 59, 60, 61, 62, 63, 64, 65, 66]
  outs := [⟨.exit 0, [(1, (.fn (.func 81) [] [(.ptr 4 0)])), (5, (.row 12))], [(4, .blk 37 [.rs [.int .i64, .int .i64]]), (12, .arr 3 [.int .i64])], [7, 8, 9, 20, 21, 22, 23, 24, 25, 26, 27, 28, 29, 30, 31, 32, 33, 34, 35, 36, 37, 38, 39, 40, 41, 42, 43, 44, 45, 46, 47, 48, 49, 50, 51, 52, 53, 54, 55, 56, 57, 58, 59, 60, 61, 62, 63, 64, 65, 66]⟩]
  spec := sp_outC
def VCL_outC [W : InW] (ts : Ro [.int .i64, .int .i64]) (n i : Int) (rg : Ro [.int .i64, .int .i64]) (parts : Dt) (A : List Ed → Prop) (K : Nat → List Ed → Prop) : Prop :=
  Vif (decide (i < n)) (Need (decide ((0 : Int) ≤ i) && decide (i < (↑(ts.xs.length) : Int))) (Need (decide (i.toNat < ts.xs.length)) (Need (decide ((0 : Int) ≤ (cel ts.xs i.toNat (0 : Nat)).int) && decide ((cel ts.xs i.toNat (0 : Nat)).int < (↑(rg.xs.length) : Int))) (Need (decide ((cel ts.xs i.toNat (0 : Nat)).int.toNat < rg.xs.length)) (Ar .i64 ((500 : Int) + (cel rg.xs (cel ts.xs i.toNat (0 : Nat)).int.toNat (0+1 : Nat)).int) fun z => Ar .i64 (z - (cel ts.xs i.toNat (0+1 : Nat)).int) fun z => Pre True (Ar .i64 ((↑(parts.length) : Int) - (1 : Int)) fun z_1 => Pre ((0 : Int) ≤ Sp.lev z ∧ Sp.lev z ≤ (1000 : Int) ∧ (0 : Int) ≤ z_1 ∧ z_1 < (↑(parts.length) : Int) ∧ parts.length ≤ (7 : Nat) ∧ Sp.PartsIn parts z_1.toNat) (Need (decide ((0 : Int) ≤ (0 : Int)) && decide ((0 : Int) < (↑(List.length (Sp.stepD parts (Sp.lev z) z_1.toNat)) : Int))) (Need (decide (Int.toNat (0 : Int) < List.length (Sp.stepD parts (Sp.lev z) z_1.toNat))) (Ar .i64 ((cel (Sp.stepD parts (Sp.lev z) z_1.toNat) (Int.toNat (0 : Int)) (0 : Nat)).int * Sp.lev z) fun z_2 => Need (decide ((0 : Int) ≤ (0 : Int)) && decide ((0 : Int) < (↑(List.length (Sp.stepD parts (Sp.lev z) z_1.toNat)) : Int))) (Need (decide (Int.toNat (0 : Int) < List.length (Sp.stepD parts (Sp.lev z) z_1.toNat))) (Ar .i64 (i + (1 : Int)) fun z_3 => A [.ro _ ts, .i n, .i z_3, .ro _ rg, .l (List.set (Sp.stepD parts (Sp.lev z) z_1.toNat) (Int.toNat (0 : Int)) [Cl.i z_2])]))))))))))) (K (0 : Nat) [.ro _ rg, .l parts])
theorem vcl_outC (W : InW) (ts n i rg parts A K) : vcTop { cxT Try.prog TT TiC 1000 50 with fn := 75 } 1000 (loopAt Try.prog 75 5) (tmOut 82 [(1, .fn (.func 81) [] [.ptr 4 0]), (5, .rw 6), (20, .rs _ ts), (21, .si .i64 n), (22, .si .i64 i)] [7, 8, 9, 23, 24, 25, 26, 27, 28, 29, 30, 31, 32, 33, 34, 35, 36, 37, 38, 39, 40, 41, 42, 43, 44, 45, 46, 47, 48, 49, 50, 51, 52, 53, 54, 55, 56, 57, 58, 59, 60, 61, 62, 63, 64, 65, 66]) [(4, .blk 37 [.rs _ rg]), (6, .arr 3 [.int .i64] parts)] (roundL lc_outC A K) = VCL_outC ts n i rg parts A K := by kernel_rfl
def okLt_outC : Prop := ∀ (W : InW) (body a : Code), (Try.prog.funcs[75]?).bind (·.body) = some body → a ∈ loopsIn body → keyOf a = 5 → @LoopOk W Try.prog a (@loopRun W lc_outC)
theorem okl_outC (meas : [InW] → List Ed → Nat) (hyp_ : ∀ (W : InW) (ts : Ro [.int .i64, .int .i64]) (n : Int) (i : Int) (rg : Ro [.int .i64, .int .i64]) (parts : Dt) (K : Nat → List Ed → Prop), sp_outC [.ro _ ts, .i n, .i i, .ro _ rg, .l parts] K → ∀ A : List Ed → Prop, (∀ e, meas e < meas [.ro _ ts, .i n, .i i, .ro _ rg, .l parts] → sp_outC e K → A e) → VCL_outC ts n i rg parts A K) : okLt_outC :=
  LE.okOf' (fun W => @TT W) (fun W => @TT_ok W) mixed_ok TiC 1000 50 (by kernel_rfl) lc_outC (fun W => @meas W) fun W ts n i rg parts K hs =>
    (vcl_outC W ts n i rg parts (fun e => meas e < meas [.ro _ ts, .i n, .i i, .ro _ rg, .l parts] ∧ sp_outC e K) K).mpr (hyp_ W ts n i rg parts K hs _ fun e h1 h2 => ⟨h1, h2⟩)
theorem okLoutC : okLt_outC := okl_outC (fun e => match e with | _ :: .i n :: .i i :: _ => (n - i).toNat | _ => 0) fun W ts n i rg parts K hs A hA => by
  obtain ⟨⟨rfl, h0, h1, hT, hF, rfl⟩, hk⟩ := hs
  unfold VCL_outC
  simp only [Nat.zero_add, Nat.reduceAdd, partsD_len]
  have h6 := hT.l6
  refine vifd (fun e => ?_) fun e => ?_
  · have t1 := hT.sk i.toNat (by omega)
    have t2 := hT.lv i.toNat (by omega)
    have t3 := hF (Sp.tSk ts.xs i.toNat).toNat
    have e1 : (i + 1).toNat = i.toNat + 1 := by omega
    have hA' : A [.ro _ ts, .i ts.xs.length, .i (i + 1), .ro _ rg, .l (Sp.partsD (Sp.done ts.xs (Sp.rHi rg.xs) (i.toNat + 1)) ts.xs.length)] := hA _ (by show ((ts.xs.length : Int) - (i + 1)).toNat < ((ts.xs.length : Int) - i).toNat; omega) ⟨⟨rfl, by omega, by omega, hT, hF, by rw [e1]⟩, hk⟩
    have hp := lev_in (500 + Sp.rHi rg.xs (Sp.tSk ts.xs i.toNat).toNat - Sp.tLv ts.xs i.toNat)
    have hq := parts_in (ts := ts.xs) (f := Sp.rHi rg.xs) (i := i.toNat) (n := ts.xs.length) (j := ts.xs.length) (by omega) (Nat.le_refl _)
    have hst := partsD_step (d := Sp.done ts.xs (Sp.rHi rg.xs) i.toNat) (p := Sp.prob ts.xs (Sp.rHi rg.xs) i.toNat) (n := ts.xs.length)
    have hc0 : (cel (Sp.stepD (Sp.partsD (Sp.done ts.xs (Sp.rHi rg.xs) i.toNat) ts.xs.length) (Sp.prob ts.xs (Sp.rHi rg.xs) i.toNat) ts.xs.length) 0 0).int = Sp.cf (Sp.done ts.xs (Sp.rHi rg.xs) i.toNat) 0 := by
      unfold cel
      rw [stepD_at (by rw [partsD_len]; omega), if_neg (by omega)]
      exact partsD_cel (Nat.zero_le _)
    have hc1 := cf_in (done_in ts.xs (Sp.rHi rg.xs) i.toNat) 0
    rw [done_len] at hc1
    have hc2 := pow_le (n := i.toNat) (by omega)
    have hc3 := ar_in hc1.1 (by omega) hp.1 hp.2
    rw [show Sp.done ts.xs (Sp.rHi rg.xs) (i.toNat + 1) = Sp.prob ts.xs (Sp.rHi rg.xs) i.toNat :: Sp.done ts.xs (Sp.rHi rg.xs) i.toNat from rfl, ← hst, hc0] at hA'
    clear hA hk hT hF hst
    unfold Sp.tSk at t1
    unfold Sp.tLv at t2
    unfold Sp.tSk Sp.rHi at t3
    have hP : Sp.lev (500 + (cel rg.xs (cel ts.xs i.toNat 0).int.toNat 1).int - (cel ts.xs i.toNat 1).int) = Sp.prob ts.xs (Sp.rHi rg.xs) i.toNat := rfl
    rw [show Sp.lev (500 + Sp.rHi rg.xs (Sp.tSk ts.xs i.toNat).toNat - Sp.tLv ts.xs i.toNat) = Sp.prob ts.xs (Sp.rHi rg.xs) i.toNat from rfl] at hp hc3
    refine ned (by simp; omega) (nedd (by omega) (ned (by simp; omega) (nedd (by omega) (ar64 (by omega) (ar64 (by omega) ⟨trivial, ?_⟩)))))
    rw [hP, show ((ts.xs.length + 1 : Nat) : Int) - 1 = ts.xs.length by omega]
    refine ar64 (by omega) ?_
    simp only [Int.toNat_natCast, stepD_len, partsD_len, show Int.toNat 0 = 0 from rfl, hc0]
    exact ⟨⟨hp.1, hp.2, by omega, by omega, by omega, hq⟩, ned (by simp) (nedd (by omega) (ar64 (by omega) (ned (by simp) (nedd (by omega) (ar64 (by omega) hA')))))⟩
  · have e0 : i.toNat = ts.xs.length := by omega
    rw [e0]
    exact hk
noncomputable def le_outC : LE Try.prog := ⟨75, 5, fun W => @loopRun W lc_outC, okLoutC⟩
noncomputable def TjC : Tab Try.prog := ⟨[], [le_outC, le_sum], []⟩
def sp_chC [InW] (e : List Ed) (K : Nat → List Ed → Prop) : Prop := match e with
  | [.ro _ ts, .i al, .ro _ rg] => Pre (Sp.TsIn ts.xs rg.xs.length ∧ Sp.FIn (Sp.rHi rg.xs) ∧ 0 ≤ al ∧ al ≤ ts.xs.length) (K 0 [.i (Sp.chance ts.xs al (Sp.rHi rg.xs))])
  | _ => False
noncomputable def cc_chC : CC where
  g := 75
  args := [.agg [.rs [.int .i64, .int .i64], .int .i64], (.fn (.func 81) [] [(.ptr 1 0)])]
  H := [(1, .blk 37 [.rs [.int .i64, .int .i64]])]
  outs := [⟨false, .int .i64, [], true⟩]
  spec := sp_chC
def VCC_chC [W : InW] (ts : Ro [.int .i64, .int .i64]) (al : Int) (rg : Ro [.int .i64, .int .i64]) (K : Nat → List Ed → Prop) : Prop :=
  Ar .i64 ((↑(ts.xs.length) : Int) + (1 : Int)) fun z => Need (decide (z = z) && decide ((0 : Int) ≤ z) && decide ((8 : Nat) * z.toNat ≤ (281474976710656 : Nat))) (Need (decide ((0 : Int) ≤ (0 : Int)) && decide ((0 : Int) < (↑(List.replicate z.toNat (zeroCls [Ty.int IntKind.i64])).length : Int))) (Need (decide (Int.toNat (0 : Int) < (List.replicate z.toNat (zeroCls [Ty.int IntKind.i64])).length)) (Pre ((↑(ts.xs.length) : Int) = (↑(ts.xs.length) : Int) ∧ (0 : Int) ≤ (0 : Int) ∧ (0 : Int) ≤ (↑(ts.xs.length) : Int) ∧ Sp.TsIn ts.xs (rg.xs.length) ∧ Sp.FIn (Sp.rHi rg.xs) ∧ (List.replicate z.toNat (zeroCls [Ty.int IntKind.i64])).set (Int.toNat (0 : Int)) [Cl.i (1 : Int)] = Sp.partsD (Sp.done ts.xs (Sp.rHi rg.xs) (Int.toNat (0 : Int))) (ts.xs.length)) (Ar .i64 (al + (1 : Int)) fun z => Need (decide ((0 : Int) ≤ z)) (Need (decide ((0 : Nat) ≤ z.toNat) && decide (z.toNat ≤ List.length (Sp.partsD (Sp.done ts.xs (Sp.rHi rg.xs) (ts.xs.length)) (ts.xs.length)))) (Pre ((↑(z.toNat - (0 : Nat)) : Int) = (↑(z.toNat - (0 : Nat)) : Int) ∧ (↑(0 : Nat) : Int) = (0 : Int) ∧ (0 : Int) ≤ (0 : Int) ∧ (0 : Int) ≤ (↑(z.toNat - (0 : Nat)) : Int) ∧ (↑(z.toNat - (0 : Nat)) : Int) ≤ (↑(List.length (Sp.partsD (Sp.done ts.xs (Sp.rHi rg.xs) (ts.xs.length)) (ts.xs.length))) : Int) ∧ List.length (Sp.partsD (Sp.done ts.xs (Sp.rHi rg.xs) (ts.xs.length)) (ts.xs.length)) ≤ (7 : Nat) ∧ Sp.NonNeg (Sp.partsD (Sp.done ts.xs (Sp.rHi rg.xs) (ts.xs.length)) (ts.xs.length)) ∧ Sp.SumIn (Sp.partsD (Sp.done ts.xs (Sp.rHi rg.xs) (ts.xs.length)) (ts.xs.length)) (0 : Int) (Int.toNat (0 : Int)) ((↑(z.toNat - (0 : Nat)) : Int) - (0 : Int)).toNat) ([Ed.ro [Ty.int IntKind.i64, Ty.int IntKind.i64] (rsK._proof_1 [Ty.int IntKind.i64, Ty.int IntKind.i64] [Ty.int IntKind.i64, Ty.int IntKind.i64] rfl ▸ rsK._proof_1 [Ty.int IntKind.i64, Ty.int IntKind.i64] [Ty.int IntKind.i64, Ty.int IntKind.i64] rfl ▸ rg)] ++ [] ++ [] = [Ed.ro _ rg] ∧ K (0 : Nat) [Ed.i ((0 : Int) + Sp.sumP (Sp.partsD (Sp.done ts.xs (Sp.rHi rg.xs) (ts.xs.length)) (ts.xs.length)) (Int.toNat (0 : Int)) ((↑(z.toNat - (0 : Nat)) : Int) - (0 : Int)).toNat)])))))))
theorem vcc_chC (W : InW) (ts al rg K) : coreK (cxT Try.prog TT TjC 1000 50) 1000 75 [.agg [.rs _ ts, .si .i64 al], .fn (.func 81) [] [.ptr 1 0]] [(1, .blk 37 [.rs _ rg])] (fun v h => outC cc_chC.H [.ro _ rg] cc_chC.outs 0 false v h K) (fun v h => outC cc_chC.H [.ro _ rg] cc_chC.outs 0 true v h K) = VCC_chC ts al rg K := by kernel_rfl
theorem okc_chC (hyp_ : ∀ (W : InW) (ts : Ro [.int .i64, .int .i64]) (al : Int) (rg : Ro [.int .i64, .int .i64]) (K : Nat → List Ed → Prop), sp_chC [.ro _ ts, .i al, .ro _ rg] K → VCC_chC ts al rg K) : ∀ W : InW, @CallC W Try.prog cc_chC :=
  CC.okOf (fun W => @TT W) (fun W => @TT_ok W) mixed_ok TjC 1000 50 cc_chC fun W ts al rg K hs => (vcc_chC W ts al rg K).mpr (hyp_ W ts al rg K hs)
theorem okCchC : ∀ W : InW, @CallC W Try.prog cc_chC := okc_chC fun W ts al rg K hs => by
  obtain ⟨⟨hT, hF, h0, h1⟩, hk⟩ := hs
  unfold VCC_chC
  have h6 := hT.l6
  have hs := sumP_parts (d := Sp.done ts.xs (Sp.rHi rg.xs) ts.xs.length) (n := ts.xs.length) (al.toNat + 1) 0 (by omega)
  rw [sumC_pass, sumC_pass, passL_neg (a := ((0 : Nat) : Int) - 1) (by omega), Int.sub_zero, show ((0 + (al.toNat + 1) : Nat) : Int) - 1 = al by omega] at hs
  have hb := passL_in (done_in ts.xs (Sp.rHi rg.xs) ts.xs.length) al
  rw [done_len] at hb
  have hb2 := pow_le6 h6
  refine ar64 (by omega) ?_
  simp only [show ((ts.xs.length : Int) + 1).toNat = ts.xs.length + 1 by omega, List.length_replicate, partsD_len, show Int.toNat 0 = 0 from rfl, Nat.sub_zero, Int.sub_zero, Int.toNat_natCast]
  refine ned (by simp; omega) (ned (by simp) (nedd (by omega) ⟨⟨trivial, by omega, by omega, hT, hF, partsD_zero _⟩, ar64 (by omega) (nedd (by omega) ?_)⟩))
  rw [show (al + 1).toNat = al.toNat + 1 by omega, hs]
  refine ned (by simp; omega) ⟨⟨trivial, rfl, by omega, by omega, by omega, by omega, parts_nn, ⟨by omega, by rw [hs]; omega⟩⟩, ⟨rfl, ?_⟩⟩
  rw [Int.zero_add]
  exact hk
end Go.Proofs.Ytdokbocmgdhmmaa
namespace Go.Proofs.Ytdokbocmgdhmmaa
open Go.RowKit
set_option linter.unusedVariables false
set_option maxRecDepth 100000
set_option maxHeartbeats 1600000
namespace Sp
def pF (ts : Dt) (f : Nat → Int) : Nat → Nat → List Int
  | _, 0 => []
  | i, n + 1 => prob ts f i :: pF ts f (i + 1) n
def chanceE (sk is ts : Dt) (al : Int) (lv : Dt) : Int := if strE sk is ts al = 0 then (if (lv.length : Int) = sk.length then (if out 0 1000 lv then 7 else 0) else 3) else strE sk is ts al
def chanceN (sk is ts : Dt) (al : Int) (lv : Dt) : Int := if chanceE sk is ts al lv = 0 then chance ts al (fLv lv) else 0
def lvE (e : Int) (xs : Dt) (i n : Nat) : Int := if e = 0 then (if outs 0 1000 xs i n then 7 else 0) else e
def readyE (sk is ts : Dt) (al : Int) (rg : Dt) (w : Int) : Int := if strE sk is ts al = 0 then (if rgsE sk.length rg = 0 then (if inr w 0 1000 then 0 else 7) else rgsE sk.length rg) else strE sk is ts al
def readyP (sk is ts : Dt) (al : Int) (rg : Dt) (w : Int) : Int := if readyE sk is ts al rg w = 0 then w * 1000 ^ (ts.length - 1) else 0
def endsD (most : Bool) (rg : Dt) : Dt := rg.map fun r => [.i (if most then (r.getD 1 .z).int else (r.getD 0 .z).int)]
end Sp
abbrev pre_passed (n : Nat) (ds : DS) : Prop := match ds with | [[.l ts, _], [.l lv], [.i fr], [.i a]] => 0 ≤ fr ∧ fr ≤ ts.length ∧ (ts.length : Int) < fr + n ∧ Sp.TsIn ts lv.length ∧ Sp.FIn (Sp.fLv lv) ∧ Sp.Small a | _ => False
abbrev res_passed (ds : DS) : DS := match ds with | [[.l ts, _], [.l lv], [.i fr], [.i a]] => [[.i (Sp.passL (Sp.pF ts (Sp.fLv lv) fr.toNat (ts.length - fr.toNat)) a)]] | _ => []
abbrev at_passed : List AT := [.agg [.sl [.int .i64, .int .i64], .int .i64], .one (.sl [.int .i64]), .one (.int .i64), .one (.int .i64)]
def PassedOk (n : Nat) : Prop := PureOk Try.prog 78 at_passed [(false, [.int .i64])] (pre_passed n) res_passed
noncomputable def Tk (n : Nat) (h : PassedOk n) : Tab Try.prog := ⟨[pc_Within, ⟨78, at_passed, [(false, [.int .i64])], pre_passed n, res_passed, h⟩], [], []⟩
def VC_passed [W : InW] (n : Nat) (t_Tasks : Ro [.int .i64, .int .i64]) (t_Allowed : Int) (lv : Ro [.int .i64]) (fr a : Int) (Q : DS → Prop) : Prop :=
  Vif (decide (a < (0 : Int))) (Q [[Cl.i (0 : Int)]]) (Vif (decide (fr = (↑(t_Tasks.xs.length) : Int))) (Q [[Cl.i (1 : Int)]]) (Need (decide ((0 : Int) ≤ fr) && decide (fr < (↑(t_Tasks.xs.length) : Int))) (Need (decide (fr.toNat < t_Tasks.xs.length)) (Need (decide ((0 : Int) ≤ (cel t_Tasks.xs fr.toNat (0 : Nat)).int) && decide ((cel t_Tasks.xs fr.toNat (0 : Nat)).int < (↑(lv.xs.length) : Int))) (Need (decide ((cel t_Tasks.xs fr.toNat (0 : Nat)).int.toNat < lv.xs.length)) (Ar .i64 ((500 : Int) + (cel lv.xs (cel t_Tasks.xs fr.toNat (0 : Nat)).int.toNat (0 : Nat)).int) fun z => Ar .i64 (z - (cel t_Tasks.xs fr.toNat (0+1 : Nat)).int) fun z => Pre True (Ar .i64 (fr + (1 : Int)) fun z_1 => Pre ((0 : Int) ≤ z_1 ∧ z_1 ≤ (↑(t_Tasks.xs.length) : Int) ∧ (↑(t_Tasks.xs.length) : Int) < z_1 + (↑n : Int) ∧ Sp.TsIn t_Tasks.xs (lv.xs.length) ∧ Sp.FIn (Sp.fLv lv.xs) ∧ Sp.Small a) (Ar .i64 (Sp.lev z * Sp.passL (Sp.pF t_Tasks.xs (Sp.fLv lv.xs) z_1.toNat (t_Tasks.xs.length - z_1.toNat)) a) fun z_2 => Ar .i64 ((1000 : Int) - Sp.lev z) fun z => Ar .i64 (fr + (1 : Int)) fun z_3 => Ar .i64 (a - (1 : Int)) fun z_4 => Pre ((0 : Int) ≤ z_3 ∧ z_3 ≤ (↑(t_Tasks.xs.length) : Int) ∧ (↑(t_Tasks.xs.length) : Int) < z_3 + (↑n : Int) ∧ Sp.TsIn t_Tasks.xs (lv.xs.length) ∧ Sp.FIn (Sp.fLv lv.xs) ∧ Sp.Small z_4) (Ar .i64 (z * Sp.passL (Sp.pF t_Tasks.xs (Sp.fLv lv.xs) z_3.toNat (t_Tasks.xs.length - z_3.toNat)) z_4) fun z => Ar .i64 (z_2 + z) fun z => Q [[Cl.i z]])))))))))
theorem vc_passed (W : InW) (n h t_Tasks t_Allowed lv fr a Q) : bodyK (cxT Try.prog TT (Tk n h) 1000 50) 1000 78 [.agg [.rs _ t_Tasks, .si .i64 t_Allowed], .rs _ lv, .si .i64 fr, .si .i64 a] [] 0 (leafK [(false, [.int .i64])] Q) (fun _ _ _ _ => Stuck 421) = VC_passed n t_Tasks t_Allowed lv fr a Q := by kernel_rfl
abbrev ats_passed : List AT := [.agg [.sl [.int .i64, .int .i64], .int .i64], .one (.sl [.int .i64]), .one (.int .i64), .one (.int .i64)]
theorem ok_passed (n : Nat) (h : PassedOk n) {pre : DS → Prop} {res : DS → DS} (hyp_ : ∀ (W : InW) (t_Tasks : Ro [.int .i64, .int .i64]) (t_Allowed : Int) (lv : Ro [.int .i64]) (fr : Int) (a : Int), pre [[.l t_Tasks.xs, .i t_Allowed], [.l lv.xs], [.i fr], [.i a]] → ∀ Q : DS → Prop, Q (res [[.l t_Tasks.xs, .i t_Allowed], [.l lv.xs], [.i fr], [.i a]]) → VC_passed n t_Tasks t_Allowed lv fr a Q) : PureOk Try.prog 78 ats_passed [(false, [.int .i64])] pre res :=
  PureOk.of' (fun W => @TT W) (fun W => @TT_ok W) mixed_ok (Tk n h) 1000 50 fun W t_Tasks t_Allowed lv fr a hp =>
    (vc_passed W n h t_Tasks t_Allowed lv fr a (fun o => o = res [[.l t_Tasks.xs, .i t_Allowed], [.l lv.xs], [.i fr], [.i a]])).mpr (hyp_ W t_Tasks t_Allowed lv fr a hp _ rfl)
theorem passed_0 : PassedOk 0 := fun W args ds _ hp => by
  exfalso
  unfold pre_passed at hp
  split at hp
  · omega
  · exact hp
theorem pF_in (ts : Dt) (f : Nat → Int) : ∀ n i, Sp.Probs (Sp.pF ts f i n)
  | 0, i => fun p hp => by simp [Sp.pF] at hp
  | n + 1, i => fun p hp => by
    rcases List.mem_cons.1 (show p ∈ Sp.prob ts f i :: Sp.pF ts f (i + 1) n from hp) with rfl | hp
    · exact lev_in _
    · exact pF_in ts f n (i + 1) p hp
theorem pF_len (ts : Dt) (f : Nat → Int) : ∀ n i, (Sp.pF ts f i n).length = n
  | 0, i => rfl
  | n + 1, i => by simp [Sp.pF, pF_len ts f n]
theorem passed_s (n : Nat) (h : PassedOk n) : PassedOk (n + 1) :=
  ok_passed n h fun W ts al lv fr a hp Q hQ => by
    obtain ⟨h0, h1, h2, hT, hF, ha⟩ := hp
    unfold VC_passed
    have h6 := hT.l6
    have ha' := ha
    unfold Sp.Small at ha'
    simp only [res_passed] at hQ
    refine vifd (fun e => ?_) fun e => vifd (fun e2 => ?_) fun e2 => ?_
    · rwa [passL_neg e] at hQ
    · rw [show ts.xs.length - fr.toNat = 0 by omega] at hQ
      unfold Sp.pF Sp.passL at hQ
      rwa [if_neg e] at hQ
    · have t1 := hT.sk fr.toNat (by omega)
      have t2 := hT.lv fr.toNat (by omega)
      have t3 := hF (Sp.tSk ts.xs fr.toNat).toNat
      have e1 : (fr + 1).toNat = fr.toNat + 1 := by omega
      rw [show ts.xs.length - fr.toNat = (ts.xs.length - (fr.toNat + 1)) + 1 by omega] at hQ
      unfold Sp.pF Sp.passL at hQ
      rw [if_neg e] at hQ
      have b1 := passL_in (pF_in ts.xs (Sp.fLv lv.xs) (ts.xs.length - (fr.toNat + 1)) (fr.toNat + 1)) a
      have b2 := passL_in (pF_in ts.xs (Sp.fLv lv.xs) (ts.xs.length - (fr.toNat + 1)) (fr.toNat + 1)) (a - 1)
      rw [pF_len] at b1 b2
      have b3 := pow_le (n := ts.xs.length - (fr.toNat + 1)) (by omega)
      have b4 := lev_in (500 + Sp.fLv lv.xs (Sp.tSk ts.xs fr.toNat).toNat - Sp.tLv ts.xs fr.toNat)
      have hP : Sp.lev (500 + (cel lv.xs (cel ts.xs fr.toNat 0).int.toNat 0).int - (cel ts.xs fr.toNat 1).int) = Sp.prob ts.xs (Sp.fLv lv.xs) fr.toNat := rfl
      rw [show Sp.lev (500 + Sp.fLv lv.xs (Sp.tSk ts.xs fr.toNat).toNat - Sp.tLv ts.xs fr.toNat) = Sp.prob ts.xs (Sp.fLv lv.xs) fr.toNat from rfl] at b4
      unfold Sp.tSk at t1
      unfold Sp.tLv at t2
      unfold Sp.tSk Sp.fLv at t3
      have c1 := ar_in b1.1 (by omega) b4.1 b4.2
      have c2 := ar_in b2.1 (by omega) (show 0 ≤ 1000 - Sp.prob ts.xs (Sp.fLv lv.xs) fr.toNat by omega) (by omega)
      rw [Int.mul_comm] at c1 c2
      simp only [Nat.zero_add, Nat.reduceAdd]
      refine ned (by simp; omega) (nedd (by omega) (ned (by simp; omega) (nedd (by omega) (ar64 (by omega) (ar64 (by omega) ⟨trivial, ?_⟩)))))
      rw [hP]
      refine ar64 (by omega) ⟨⟨by omega, by omega, by omega, hT, hF, ha⟩, ?_⟩
      rw [e1]
      refine ar64 (by omega) (ar64 (by omega) (ar64 (by omega) (ar64 (by omega) ⟨⟨by omega, by omega, by omega, hT, hF, by unfold Sp.Small; omega⟩, ?_⟩)))
      rw [e1]
      exact ar64 (by omega) (ar64 (by omega) hQ)
theorem passed_all : ∀ n, PassedOk n
  | 0 => passed_0
  | n + 1 => passed_s n (passed_all n)
theorem pass_swap (p q : Int) (l : List Int) (a : Int) : Sp.passL (p :: q :: l) a = Sp.passL (q :: p :: l) a := by
  unfold Sp.passL
  by_cases h : a < 0
  · rw [if_pos h, if_pos h]
  · rw [if_neg h, if_neg h]
    unfold Sp.passL
    rw [if_neg h, if_neg h]
    generalize Sp.passL l a = x
    by_cases h1 : a - 1 < 0
    · rw [if_pos h1, if_pos h1]
      rw [passL_neg h1]
      simp only [Int.mul_zero, Int.add_zero]
      rw [← Int.mul_assoc, ← Int.mul_assoc, Int.mul_comm p q]
    · rw [if_neg h1, if_neg h1]
      generalize Sp.passL l (a - 1) = y
      generalize Sp.passL l (a - 1 - 1) = z
      simp only [Int.mul_add, Int.sub_mul, Int.mul_sub]
      rw [Int.mul_left_comm q p x, Int.mul_left_comm q p y, Int.mul_left_comm q p z]
      simp only [Int.mul_left_comm p 1000, Int.mul_left_comm q 1000]
      omega
theorem pass_cons (p : Int) {l m : List Int} (h : ∀ a, Sp.passL l a = Sp.passL m a) (a : Int) : Sp.passL (p :: l) a = Sp.passL (p :: m) a := by
  unfold Sp.passL
  rw [h, h]
theorem pass_perm {l m : List Int} (h : l.Perm m) : ∀ a, Sp.passL l a = Sp.passL m a := by
  induction h with
  | nil => exact fun _ => rfl
  | cons p _ ih => exact pass_cons p ih
  | swap p q l => exact pass_swap q p l
  | trans _ _ h1 h2 => exact fun a => (h1 a).trans (h2 a)
theorem pF_snoc (ts : Dt) (f : Nat → Int) : ∀ n i, Sp.pF ts f i (n + 1) = Sp.pF ts f i n ++ [Sp.prob ts f (i + n)]
  | 0, i => rfl
  | n + 1, i => by
    rw [show Sp.pF ts f i (n + 1 + 1) = Sp.prob ts f i :: Sp.pF ts f (i + 1) (n + 1) from rfl, pF_snoc ts f n (i + 1), show i + 1 + n = i + (n + 1) by omega]
    rfl
theorem done_perm (ts : Dt) (f : Nat → Int) : ∀ n, (Sp.done ts f n).Perm (Sp.pF ts f 0 n)
  | 0 => List.Perm.refl _
  | n + 1 => by
    rw [pF_snoc, Nat.zero_add]
    exact (List.Perm.cons _ (done_perm ts f n)).trans (List.perm_append_singleton _ _).symm
theorem chance_pF (ts : Dt) (al : Int) (f : Nat → Int) : Sp.chance ts al f = Sp.passL (Sp.pF ts f 0 ts.length) al := pass_perm (done_perm ts f _) al
noncomputable def pc_passed : PC Try.prog := ⟨78, at_passed, [(false, [.int .i64])], pre_passed 7, res_passed, passed_all 7⟩
def sp_rgd [InW] (e : List Ed) (K : Nat → List Ed → Prop) : Prop := match e with
  | [.ro _ rg, .i n, .i i] => Pre (n = (rg.xs.length : Int) ∧ 0 ≤ i ∧ i ≤ n) (Vif (decide (Sp.errE (Sp.rgE rg.xs) i.toNat (rg.xs.length - i.toNat) = 0)) (K 0 []) (K 1 [.i (Sp.errE (Sp.rgE rg.xs) i.toNat (rg.xs.length - i.toNat))]))
  | _ => False
noncomputable def lc_rgd : LC where
  len := 26
  T := [(14, .rs [.int .i64, .int .i64]), (15, .int .i64), (16, .int .i64)]
  H := []
  W := [4, 6, 7, 17, 18, 19, 20, 21, 22, 23, 24, 25]
  outs := [⟨.exit 0, [], [], [4, 6, 7, 14, 15, 16, 17, 18, 19, 20, 21, 22, 23, 24, 25]⟩, ⟨.ret, [(4, .int .i64)], [], [6, 7, 14, 15, 16, 17, 18, 19, 20, 21, 22, 23, 24, 25]⟩]
  spec := sp_rgd
def VCL_rgd [W : InW] (rg : Ro [.int .i64, .int .i64]) (n i : Int) (A : List Ed → Prop) (K : Nat → List Ed → Prop) : Prop :=
  Vif (decide (i < n)) (Need (decide ((0 : Int) ≤ i) && decide (i < (↑(rg.xs.length) : Int))) (Need (decide (i.toNat < rg.xs.length)) (Pre True (Vif (!decide (Sp.spanE (cel rg.xs i.toNat (0 : Nat)).int (cel rg.xs i.toNat (0+1 : Nat)).int (0 : Int) (1000 : Int) = (0 : Int))) (K (0+1 : Nat) [.i (Sp.spanE (cel rg.xs i.toNat (0 : Nat)).int (cel rg.xs i.toNat (0+1 : Nat)).int (0 : Int) (1000 : Int))]) (Ar .i64 (i + (1 : Int)) fun z => A [.ro _ rg, .i n, .i z]))))) (K (0 : Nat) [])
theorem vcl_rgd (W : InW) (rg n i A K) : vcTop { cxT Try.prog TT Tf 1000 50 with fn := 96 } 1000 (loopAt Try.prog 96 5) (tmOut 26 [(14, .rs _ rg), (15, .si .i64 n), (16, .si .i64 i)] [4, 6, 7, 17, 18, 19, 20, 21, 22, 23, 24, 25]) [] (roundL lc_rgd A K) = VCL_rgd rg n i A K := by kernel_rfl
def okLt_rgd : Prop := ∀ (W : InW) (body a : Code), (Try.prog.funcs[96]?).bind (·.body) = some body → a ∈ loopsIn body → keyOf a = 5 → @LoopOk W Try.prog a (@loopRun W lc_rgd)
theorem okl_rgd (meas : [InW] → List Ed → Nat) (hyp_ : ∀ (W : InW) (rg : Ro [.int .i64, .int .i64]) (n : Int) (i : Int) (K : Nat → List Ed → Prop), sp_rgd [.ro _ rg, .i n, .i i] K → ∀ A : List Ed → Prop, (∀ e, meas e < meas [.ro _ rg, .i n, .i i] → sp_rgd e K → A e) → VCL_rgd rg n i A K) : okLt_rgd :=
  LE.okOf' (fun W => @TT W) (fun W => @TT_ok W) mixed_ok Tf 1000 50 (by kernel_rfl) lc_rgd (fun W => @meas W) fun W rg n i K hs =>
    (vcl_rgd W rg n i (fun e => meas e < meas [.ro _ rg, .i n, .i i] ∧ sp_rgd e K) K).mpr (hyp_ W rg n i K hs _ fun e h1 h2 => ⟨h1, h2⟩)
def sp_rgr [InW] (e : List Ed) (K : Nat → List Ed → Prop) : Prop := match e with
  | [.ro _ rg, .i i] => Pre (0 ≤ i ∧ i ≤ rg.xs.length) (Vif (decide (Sp.errE (Sp.rgE rg.xs) i.toNat (rg.xs.length - i.toNat) = 0)) (K 0 []) (K 1 [.i (Sp.errE (Sp.rgE rg.xs) i.toNat (rg.xs.length - i.toNat))]))
  | _ => False
noncomputable def lc_rgr : LC where
  len := 27
  T := [(1, .rs [.int .i64, .int .i64]), (5, .int .i64)]
  H := []
  W := [4, 6, 13, 14, 15, 16, 17, 18, 19, 20, 21, 22, 23, 24, 25, 26]
  outs := [⟨.exit 0, [], [], [1, 4, 5, 6, 13, 14, 15, 16, 17, 18, 19, 20, 21, 22, 23, 24, 25, 26]⟩, ⟨.ret, [(4, .int .i64)], [], [1, 5, 6, 13, 14, 15, 16, 17, 18, 19, 20, 21, 22, 23, 24, 25, 26]⟩]
  spec := sp_rgr
def VCL_rgr [W : InW] (rg : Ro [.int .i64, .int .i64]) (i : Int) (A : List Ed → Prop) (K : Nat → List Ed → Prop) : Prop :=
  Vif (decide (i < (↑(rg.xs.length) : Int))) (Need (decide ((0 : Int) ≤ i) && decide (i < (↑(rg.xs.length) : Int))) (Need (decide (i.toNat < rg.xs.length)) (Pre True (Vif (!decide (Sp.spanE (cel rg.xs i.toNat (0 : Nat)).int (cel rg.xs i.toNat (0+1 : Nat)).int (0 : Int) (1000 : Int) = (0 : Int))) (K (0+1 : Nat) [.i (Sp.spanE (cel rg.xs i.toNat (0 : Nat)).int (cel rg.xs i.toNat (0+1 : Nat)).int (0 : Int) (1000 : Int))]) (Ar .i64 (i + (1 : Int)) fun z => A [.ro _ rg, .i z]))))) (K (0 : Nat) [])
theorem vcl_rgr (W : InW) (rg i A K) : vcTop { cxT Try.prog TT Tf 1000 50 with fn := 102 } 1000 (loopAt Try.prog 102 5) (tmOut 27 [(1, .rs _ rg), (5, .si .i64 i)] [4, 6, 13, 14, 15, 16, 17, 18, 19, 20, 21, 22, 23, 24, 25, 26]) [] (roundL lc_rgr A K) = VCL_rgr rg i A K := by kernel_rfl
def okLt_rgr : Prop := ∀ (W : InW) (body a : Code), (Try.prog.funcs[102]?).bind (·.body) = some body → a ∈ loopsIn body → keyOf a = 5 → @LoopOk W Try.prog a (@loopRun W lc_rgr)
theorem okl_rgr (meas : [InW] → List Ed → Nat) (hyp_ : ∀ (W : InW) (rg : Ro [.int .i64, .int .i64]) (i : Int) (K : Nat → List Ed → Prop), sp_rgr [.ro _ rg, .i i] K → ∀ A : List Ed → Prop, (∀ e, meas e < meas [.ro _ rg, .i i] → sp_rgr e K → A e) → VCL_rgr rg i A K) : okLt_rgr :=
  LE.okOf' (fun W => @TT W) (fun W => @TT_ok W) mixed_ok Tf 1000 50 (by kernel_rfl) lc_rgr (fun W => @meas W) fun W rg i K hs =>
    (vcl_rgr W rg i (fun e => meas e < meas [.ro _ rg, .i i] ∧ sp_rgr e K) K).mpr (hyp_ W rg i K hs _ fun e h1 h2 => ⟨h1, h2⟩)
theorem okLrgd : okLt_rgd := okl_rgd (fun e => match e with | _ :: .i n :: .i i :: _ => (n - i).toNat | _ => 0) fun W rg n i K hs A hA => by
  obtain ⟨⟨rfl, h0, h1⟩, hk⟩ := hs
  unfold VCL_rgd
  have hm := rg.len
  simp only [maxLen] at hm
  simp only [Nat.zero_add, Nat.reduceAdd]
  refine vifd (fun e => ?_) fun e => ?_
  · rw [show rg.xs.length - i.toNat = (rg.xs.length - (i.toNat + 1)) + 1 by omega] at hk
    have ez : (i + 1).toNat = i.toNat + 1 := by omega
    have st := errE_step (f := Sp.rgE rg.xs) (i := i.toNat) (n := rg.xs.length - (i.toNat + 1))
    have hE : Sp.spanE (cel rg.xs i.toNat 0).int (cel rg.xs i.toNat 1).int 0 1000 = Sp.rgE rg.xs i.toNat := rfl
    refine ned (by simp; omega) (nedd (by omega) ⟨trivial, ?_⟩)
    rw [hE]
    refine vifn (fun e2 => ?_) fun e2 => ar64 (by omega) (hA _ (by show ((rg.xs.length : Int) - (i + 1)).toNat < ((rg.xs.length : Int) - i).toNat; omega) ⟨⟨rfl, by omega, by omega⟩, by rw [ez, ← st.2 e2]; exact hk⟩)
    rw [st.1 e2] at hk
    exact hk.2 (by simp [e2])
  · rw [show rg.xs.length - i.toNat = 0 by omega] at hk
    exact hk.1 rfl
theorem okLrgr : okLt_rgr := okl_rgr (fun e => match e with | .ro _ rg :: .i i :: _ => (rg.xs.length - i).toNat | _ => 0) fun W rg i K hs A hA => by
  obtain ⟨⟨h0, h1⟩, hk⟩ := hs
  unfold VCL_rgr
  have hm := rg.len
  simp only [maxLen] at hm
  simp only [Nat.zero_add, Nat.reduceAdd]
  refine vifd (fun e => ?_) fun e => ?_
  · rw [show rg.xs.length - i.toNat = (rg.xs.length - (i.toNat + 1)) + 1 by omega] at hk
    have ez : (i + 1).toNat = i.toNat + 1 := by omega
    have st := errE_step (f := Sp.rgE rg.xs) (i := i.toNat) (n := rg.xs.length - (i.toNat + 1))
    have hE : Sp.spanE (cel rg.xs i.toNat 0).int (cel rg.xs i.toNat 1).int 0 1000 = Sp.rgE rg.xs i.toNat := rfl
    refine ned (by simp; omega) (nedd (by omega) ⟨trivial, ?_⟩)
    rw [hE]
    refine vifn (fun e2 => ?_) fun e2 => ar64 (by omega) (hA _ (by show ((rg.xs.length : Int) - (i + 1)).toNat < ((rg.xs.length : Int) - i).toNat; omega) ⟨⟨by omega, by omega⟩, by rw [ez, ← st.2 e2]; exact hk⟩)
    rw [st.1 e2] at hk
    exact hk.2 (by simp [e2])
  · rw [show rg.xs.length - i.toNat = 0 by omega] at hk
    exact hk.1 rfl
noncomputable def le_rgd : LE Try.prog := ⟨96, 5, fun W => @loopRun W lc_rgd, okLrgd⟩
noncomputable def le_rgr : LE Try.prog := ⟨102, 5, fun W => @loopRun W lc_rgr, okLrgr⟩
noncomputable def Tl : Tab Try.prog := ⟨Tf.pcs, [le_rgd, le_rgr], []⟩
def VC_ranged [W : InW] (s_Skills : Ro [.str, .int .i64, .int .i64, .int .i64, .int .i64]) (s_Instrs : Ro [.str, .int .i64, .int .i64]) (rg : Ro [.int .i64, .int .i64]) (Q : DS → Prop) : Prop :=
  Vif (!decide ((↑(rg.xs.length) : Int) = (↑(s_Skills.xs.length) : Int))) (Q [[Cl.i (3 : Int)]]) (Pre ((↑(rg.xs.length) : Int) = (↑(rg.xs.length) : Int) ∧ (0 : Int) ≤ (0 : Int) ∧ (0 : Int) ≤ (↑(rg.xs.length) : Int)) (Vif (decide (Sp.errE (Sp.rgE rg.xs) (Int.toNat (0 : Int)) (rg.xs.length - Int.toNat (0 : Int)) = (0 : Int))) (Q [[Cl.i (0 : Int)]]) (Q [[Cl.i (Sp.errE (Sp.rgE rg.xs) (Int.toNat (0 : Int)) (rg.xs.length - Int.toNat (0 : Int)))]])))
theorem vc_ranged (W : InW) (s_Skills s_Instrs rg Q) : bodyK (cxT Try.prog TT Tl 1000 50) 1000 96 [.agg [.rs _ s_Skills, .rs _ s_Instrs], .rs _ rg] [] 0 (leafK [(false, [.int .i64])] Q) (fun _ _ _ _ => Stuck 421) = VC_ranged s_Skills s_Instrs rg Q := by kernel_rfl
abbrev ats_ranged : List AT := [.agg [.sl [.str, .int .i64, .int .i64, .int .i64, .int .i64], .sl [.str, .int .i64, .int .i64]], .one (.sl [.int .i64, .int .i64])]
theorem ok_ranged {pre : DS → Prop} {res : DS → DS} (hyp_ : ∀ (W : InW) (s_Skills : Ro [.str, .int .i64, .int .i64, .int .i64, .int .i64]) (s_Instrs : Ro [.str, .int .i64, .int .i64]) (rg : Ro [.int .i64, .int .i64]), pre [[.l s_Skills.xs, .l s_Instrs.xs], [.l rg.xs]] → ∀ Q : DS → Prop, Q (res [[.l s_Skills.xs, .l s_Instrs.xs], [.l rg.xs]]) → VC_ranged s_Skills s_Instrs rg Q) : PureOk Try.prog 96 ats_ranged [(false, [.int .i64])] pre res :=
  PureOk.of' (fun W => @TT W) (fun W => @TT_ok W) mixed_ok Tl 1000 50 fun W s_Skills s_Instrs rg hp =>
    (vc_ranged W s_Skills s_Instrs rg (fun o => o = res [[.l s_Skills.xs, .l s_Instrs.xs], [.l rg.xs]])).mpr (hyp_ W s_Skills s_Instrs rg hp _ rfl)
def VC_ranges [W : InW] (s_Skills : Ro [.str, .int .i64, .int .i64, .int .i64, .int .i64]) (s_Instrs : Ro [.str, .int .i64, .int .i64]) (rg : Ro [.int .i64, .int .i64]) (Q : DS → Prop) : Prop :=
  Vif (!decide ((↑(rg.xs.length) : Int) = (↑(s_Skills.xs.length) : Int))) (Q [[Cl.i (3 : Int)]]) (Pre ((0 : Int) ≤ (0 : Int) ∧ (0 : Int) ≤ (↑(rg.xs.length) : Int)) (Vif (decide (Sp.errE (Sp.rgE rg.xs) (Int.toNat (0 : Int)) (rg.xs.length - Int.toNat (0 : Int)) = (0 : Int))) (Q [[Cl.i (0 : Int)]]) (Q [[Cl.i (Sp.errE (Sp.rgE rg.xs) (Int.toNat (0 : Int)) (rg.xs.length - Int.toNat (0 : Int)))]])))
theorem vc_ranges (W : InW) (s_Skills s_Instrs rg Q) : bodyK (cxT Try.prog TT Tl 1000 50) 1000 102 [.agg [.rs _ s_Skills, .rs _ s_Instrs], .rs _ rg] [] 0 (leafK [(false, [.int .i64])] Q) (fun _ _ _ _ => Stuck 421) = VC_ranges s_Skills s_Instrs rg Q := by kernel_rfl
abbrev ats_ranges : List AT := [.agg [.sl [.str, .int .i64, .int .i64, .int .i64, .int .i64], .sl [.str, .int .i64, .int .i64]], .one (.sl [.int .i64, .int .i64])]
theorem ok_ranges {pre : DS → Prop} {res : DS → DS} (hyp_ : ∀ (W : InW) (s_Skills : Ro [.str, .int .i64, .int .i64, .int .i64, .int .i64]) (s_Instrs : Ro [.str, .int .i64, .int .i64]) (rg : Ro [.int .i64, .int .i64]), pre [[.l s_Skills.xs, .l s_Instrs.xs], [.l rg.xs]] → ∀ Q : DS → Prop, Q (res [[.l s_Skills.xs, .l s_Instrs.xs], [.l rg.xs]]) → VC_ranges s_Skills s_Instrs rg Q) : PureOk Try.prog 102 ats_ranges [(false, [.int .i64])] pre res :=
  PureOk.of' (fun W => @TT W) (fun W => @TT_ok W) mixed_ok Tl 1000 50 fun W s_Skills s_Instrs rg hp =>
    (vc_ranges W s_Skills s_Instrs rg (fun o => o = res [[.l s_Skills.xs, .l s_Instrs.xs], [.l rg.xs]])).mpr (hyp_ W s_Skills s_Instrs rg hp _ rfl)
abbrev res_ranged (ds : DS) : DS := match ds with | [[.l sk, _], [.l rg]] => [[.i (Sp.rgsE sk.length rg)]] | _ => []
theorem okranged : PureOk Try.prog 96 ats_ranged [(false, [.int .i64])] (fun _ => True) res_ranged :=
  ok_ranged fun W sk is rg _ Q h => by
    unfold VC_ranged
    simp only [res_ranged, Sp.rgsE] at h
    simp only [show Int.toNat 0 = 0 from rfl, Nat.sub_zero]
    repeat' (first | omega | with_reducible refine vifd (fun _ => ?_) fun _ => ?_ | with_reducible refine vifn (fun _ => ?_) fun _ => ?_ | with_reducible refine vifq (fun _ => ?_) fun _ => ?_ | with_reducible refine vifq0 (fun _ => ?_) fun _ => ?_ | with_reducible refine vifq1 (fun _ => ?_) fun _ => ?_ | with_reducible refine vifb (fun _ => ?_) fun _ => ?_ | with_reducible refine vif (fun _ => ?_) fun _ => ?_ | (with_reducible refine nedd ?_ ?_; omega) | (with_reducible refine ned ?_ ?_; simp only [Bool.and_eq_true, decide_eq_true_eq]; omega) | (with_reducible refine ar64 ?_ ?_; omega) | (with_reducible refine pre_of ?_ ?_; (first | trivial | omega | assumption | (refine ⟨?_, ?_⟩ <;> first | trivial | omega | assumption) | (refine ⟨?_, ?_, ?_⟩ <;> first | trivial | omega | assumption) | (refine ⟨?_, ?_, ?_, ?_⟩ <;> first | trivial | omega | assumption))))
    all_goals ((repeat' split at h) <;> first | exact h | omega | (simp_all; done) | (simp_all; omega))
theorem okranges : PureOk Try.prog 102 ats_ranges [(false, [.int .i64])] (fun _ => True) res_ranged :=
  ok_ranges fun W sk is rg _ Q h => by
    unfold VC_ranges
    simp only [res_ranged, Sp.rgsE] at h
    simp only [show Int.toNat 0 = 0 from rfl, Nat.sub_zero]
    repeat' (first | omega | with_reducible refine vifd (fun _ => ?_) fun _ => ?_ | with_reducible refine vifn (fun _ => ?_) fun _ => ?_ | with_reducible refine vifq (fun _ => ?_) fun _ => ?_ | with_reducible refine vifq0 (fun _ => ?_) fun _ => ?_ | with_reducible refine vifq1 (fun _ => ?_) fun _ => ?_ | with_reducible refine vifb (fun _ => ?_) fun _ => ?_ | with_reducible refine vif (fun _ => ?_) fun _ => ?_ | (with_reducible refine nedd ?_ ?_; omega) | (with_reducible refine ned ?_ ?_; simp only [Bool.and_eq_true, decide_eq_true_eq]; omega) | (with_reducible refine ar64 ?_ ?_; omega) | (with_reducible refine pre_of ?_ ?_; (first | trivial | omega | assumption | (refine ⟨?_, ?_⟩ <;> first | trivial | omega | assumption) | (refine ⟨?_, ?_, ?_⟩ <;> first | trivial | omega | assumption) | (refine ⟨?_, ?_, ?_, ?_⟩ <;> first | trivial | omega | assumption))))
    all_goals ((repeat' split at h) <;> first | exact h | omega | (simp_all; done) | (simp_all; omega))
noncomputable def pc_ranged : PC Try.prog := ⟨96, ats_ranged, [(false, [.int .i64])], fun _ => True, res_ranged, okranged⟩
noncomputable def pc_ranges : PC Try.prog := ⟨102, ats_ranges, [(false, [.int .i64])], fun _ => True, res_ranged, okranges⟩
end Go.Proofs.Ytdokbocmgdhmmaa
namespace Go.Proofs.Ytdokbocmgdhmmaa
open Go.RowKit
set_option linter.unusedVariables false
set_option maxRecDepth 100000
set_option maxHeartbeats 1600000
namespace Sp
structure StrOk (sk is ts : Dt) (al : Int) : Prop where
  sch : SchOk sk is
  t1 : 1 ≤ ts.length
  tin : TsIn ts sk.length
  a0 : 0 ≤ al
  a1 : al < ts.length
def LvOk (lv : Dt) : Prop := ∀ i, i < lv.length → 0 ≤ fLv lv i ∧ fLv lv i ≤ 1000
def RgOk (rg : Dt) : Prop := ∀ i, i < rg.length → 0 ≤ rLo rg i ∧ rLo rg i ≤ rHi rg i ∧ rHi rg i ≤ 1000
end Sp
theorem outs_no {lo hi : Int} {xs : Dt} : ∀ {n i : Nat}, Sp.outs lo hi xs i n = false → ∀ k, i ≤ k → k < i + n → lo ≤ (cel xs k 0).int ∧ (cel xs k 0).int ≤ hi
  | 0, i, _, k, h1, h2 => by omega
  | n + 1, i, h, k, h1, h2 => by
    simp only [Sp.outs, Bool.or_eq_false_iff, Bool.not_eq_false', inr_iff] at h
    rcases Nat.eq_or_lt_of_le h1 with e | e
    · rw [← e]; exact h.1
    · exact outs_no h.2 k (by omega) (by omega)
theorem outs_of {lo hi : Int} {xs : Dt} : ∀ {n i : Nat}, (∀ k, i ≤ k → k < i + n → lo ≤ (cel xs k 0).int ∧ (cel xs k 0).int ≤ hi) → Sp.outs lo hi xs i n = false
  | 0, _, _ => rfl
  | n + 1, i, h => by
    simp only [Sp.outs, Bool.or_eq_false_iff, Bool.not_eq_false', inr_iff]
    exact ⟨h i (by omega) (by omega), outs_of fun k h1 h2 => h k (by omega) (by omega)⟩
theorem out_iff {lv : Dt} : Sp.out 0 1000 lv = false ↔ Sp.LvOk lv :=
  ⟨fun h i hi => outs_no h i (by omega) (by omega), fun h => outs_of fun k _ hk => h k (by omega)⟩
theorem fin_z {xs : Dt} {k j : Nat} (h : xs.length ≤ k) : (cel xs k j).int = 0 := by rw [cel_none h]; rfl
theorem fin_lv {lv : Dt} (h : Sp.LvOk lv) : Sp.FIn (Sp.fLv lv) := fun k => by
  by_cases hk : k < lv.length
  · have := h k hk; omega
  · unfold Sp.fLv; rw [fin_z (by omega)]; omega
theorem fin_lo {rg : Dt} (h : Sp.RgOk rg) : Sp.FIn (Sp.rLo rg) := fun k => by
  by_cases hk : k < rg.length
  · have := h k hk; omega
  · unfold Sp.rLo; rw [fin_z (by omega)]; omega
theorem fin_hi {rg : Dt} (h : Sp.RgOk rg) : Sp.FIn (Sp.rHi rg) := fun k => by
  by_cases hk : k < rg.length
  · have := h k hk; omega
  · unfold Sp.rHi; rw [fin_z (by omega)]; omega
theorem errE_no {f : Nat → Int} {n : Nat} (h : Sp.errE f 0 n = 0) : ∀ k, k < n → f k = 0 := by
  unfold Sp.errE at h
  by_cases e : Sp.hasE f 0 n = true
  · rw [if_pos e] at h; exact absurd h (hasE_at e)
  · exact fun k hk => hasE_no (Bool.not_eq_true _ ▸ e) k (by omega) (by omega)
theorem errE_of {f : Nat → Int} {n : Nat} (h : ∀ k, k < n → f k = 0) : Sp.errE f 0 n = 0 := by
  unfold Sp.errE
  rw [hasE_of fun k _ hk => h k (by omega)]
  rfl
theorem taskE_iff {n : Int} {ts : Dt} {i : Nat} : Sp.taskE n ts i = 0 ↔ (0 ≤ Sp.tSk ts i ∧ Sp.tSk ts i < n) ∧ 0 ≤ Sp.tLv ts i ∧ Sp.tLv ts i ≤ 1000 := by
  unfold Sp.taskE
  by_cases h : Sp.inr (Sp.tSk ts i) 0 (n - 1) = true
  · rw [if_pos h]
    by_cases h2 : Sp.inr (Sp.tLv ts i) 0 1000 = true
    · rw [if_pos h2]; rw [inr_iff] at h h2; omega
    · rw [if_neg h2]; rw [inr_iff] at h h2; omega
  · rw [if_neg h]; rw [inr_iff] at h; omega
theorem str_iff {sk is ts : Dt} {al : Int} : Sp.strE sk is ts al = 0 ↔ Sp.StrOk sk is ts al := by
  unfold Sp.strE
  by_cases h : Sp.chkE sk is = 0
  · rw [if_pos h]
    have hS := chk_iff.1 h
    unfold Sp.testE
    by_cases h2 : Sp.inr ts.length 1 6 = true
    · rw [if_pos h2]
      rw [inr_iff] at h2
      by_cases h3 : Sp.inr al 0 (ts.length - 1) = true
      · rw [if_pos h3]
        rw [inr_iff] at h3
        exact ⟨fun e => ⟨hS, by omega, ⟨by omega, fun i hi => (taskE_iff.1 (errE_no e i hi)).1, fun i hi => (taskE_iff.1 (errE_no e i hi)).2⟩, by omega, by omega⟩, fun e => errE_of fun k hk => taskE_iff.2 ⟨e.tin.sk k hk, e.tin.lv k hk⟩⟩
      · rw [if_neg h3]
        rw [inr_iff] at h3
        exact ⟨fun e => by omega, fun e => by have := e.a0; have := e.a1; omega⟩
    · rw [if_neg h2]
      rw [inr_iff] at h2
      exact ⟨fun e => by omega, fun e => by have := e.t1; have := e.tin.l6; omega⟩
  · rw [if_neg h]
    exact ⟨fun e => absurd e h, fun e => absurd (chk_iff.2 e.sch) h⟩
theorem chanceE_iff {sk is ts lv : Dt} {al : Int} : Sp.chanceE sk is ts al lv = 0 ↔ Sp.StrOk sk is ts al ∧ lv.length = sk.length ∧ Sp.LvOk lv := by
  unfold Sp.chanceE
  by_cases h : Sp.strE sk is ts al = 0
  · rw [if_pos h]
    have hS := str_iff.1 h
    by_cases h2 : (lv.length : Int) = sk.length
    · rw [if_pos h2]
      by_cases h3 : Sp.out 0 1000 lv = true
      · rw [if_pos h3]
        exact ⟨fun e => by omega, fun e => by rw [out_iff.2 e.2.2] at h3; cases h3⟩
      · rw [if_neg h3]
        exact ⟨fun _ => ⟨hS, by omega, out_iff.1 (Bool.not_eq_true _ ▸ h3)⟩, fun _ => rfl⟩
    · rw [if_neg h2]
      exact ⟨fun e => by omega, fun e => by omega⟩
  · rw [if_neg h]
    exact ⟨fun e => absurd e h, fun e => absurd (str_iff.2 e.1) h⟩
theorem rgE_iff {rg : Dt} {i : Nat} : Sp.rgE rg i = 0 ↔ 0 ≤ Sp.rLo rg i ∧ Sp.rLo rg i ≤ Sp.rHi rg i ∧ Sp.rHi rg i ≤ 1000 := by
  unfold Sp.rgE Sp.spanE
  rw [show (cel rg i 0).int = Sp.rLo rg i from rfl, show (cel rg i 1).int = Sp.rHi rg i from rfl]
  by_cases h : (Sp.inr (Sp.rLo rg i) 0 1000 && Sp.inr (Sp.rHi rg i) 0 1000) = true
  · rw [if_pos h]
    simp only [Bool.and_eq_true, inr_iff] at h
    split <;> omega
  · rw [if_neg h]
    simp only [Bool.and_eq_true, inr_iff] at h
    omega
theorem rgs_iff {n : Nat} {rg : Dt} : Sp.rgsE n rg = 0 ↔ rg.length = n ∧ Sp.RgOk rg := by
  unfold Sp.rgsE
  by_cases h : (rg.length : Int) = n
  · rw [if_pos h]
    exact ⟨fun e => ⟨by omega, fun i hi => rgE_iff.1 (errE_no e i hi)⟩, fun e => errE_of fun k hk => rgE_iff.2 (e.2 k hk)⟩
  · rw [if_neg h]
    exact ⟨fun e => by omega, fun e => by omega⟩
theorem readyE_iff {sk is ts rg : Dt} {al w : Int} : Sp.readyE sk is ts al rg w = 0 ↔ Sp.StrOk sk is ts al ∧ rg.length = sk.length ∧ Sp.RgOk rg ∧ 0 ≤ w ∧ w ≤ 1000 := by
  unfold Sp.readyE
  by_cases h : Sp.strE sk is ts al = 0
  · rw [if_pos h]
    have hS := str_iff.1 h
    by_cases h2 : Sp.rgsE sk.length rg = 0
    · rw [if_pos h2]
      have hR := rgs_iff.1 h2
      by_cases h3 : Sp.inr w 0 1000 = true
      · rw [if_pos h3]
        exact ⟨fun _ => ⟨hS, hR.1, hR.2, inr_iff.1 h3⟩, fun _ => rfl⟩
      · rw [if_neg h3]
        rw [inr_iff] at h3
        exact ⟨fun e => by omega, fun e => absurd e.2.2.2 h3⟩
    · rw [if_neg h2]
      exact ⟨fun e => absurd e h2, fun e => absurd (rgs_iff.2 ⟨e.2.1, e.2.2.1⟩) h2⟩
  · rw [if_neg h]
    exact ⟨fun e => absurd e h, fun e => absurd (str_iff.2 e.1) h⟩
theorem TsIn.eq {ts : Dt} {n m : Nat} (h : Sp.TsIn ts n) (e : m = n) : Sp.TsIn ts m := e ▸ h
noncomputable def Tm : Tab Try.prog := ⟨[pc_out, pc_strange], [], [ceOf cc_chA okCchA, ceOf cc_chB okCchB, ceOf cc_chC okCchC]⟩
def VC_Chance [W : InW] (s_Skills : Ro [.str, .int .i64, .int .i64, .int .i64, .int .i64]) (s_Instrs : Ro [.str, .int .i64, .int .i64]) (t_Tasks : Ro [.int .i64, .int .i64]) (t_Allowed : Int) (lv : Ro [.int .i64]) (Q : DS → Prop) : Prop :=
  Pre True (Vif (!decide (Sp.strE s_Skills.xs s_Instrs.xs t_Tasks.xs t_Allowed = (0 : Int))) (Q [[Cl.i (0 : Int)], [Cl.i (Sp.strE s_Skills.xs s_Instrs.xs t_Tasks.xs t_Allowed)]]) (Vif (!decide ((↑(lv.xs.length) : Int) = (↑(s_Skills.xs.length) : Int))) (Q [[Cl.i (0 : Int)], [Cl.i (3 : Int)]]) (Pre True (Vif (Sp.out (0 : Int) (1000 : Int) lv.xs) (Q [[Cl.i (0 : Int)], [Cl.i (7 : Int)]]) (Pre (Sp.TsIn t_Tasks.xs (lv.xs.length) ∧ Sp.FIn (Sp.fLv lv.xs) ∧ (0 : Int) ≤ t_Allowed ∧ t_Allowed ≤ (↑(t_Tasks.xs.length) : Int)) (Q [[Cl.i (Sp.chance t_Tasks.xs t_Allowed (Sp.fLv lv.xs))], [Cl.i (0 : Int)]]))))))
theorem vc_Chance (W : InW) (s_Skills s_Instrs t_Tasks t_Allowed lv Q) : bodyK (cxT Try.prog TT Tm 1000 50) 1000 30 [.agg [.rs _ s_Skills, .rs _ s_Instrs], .agg [.rs _ t_Tasks, .si .i64 t_Allowed], .rs _ lv] [] 0 (leafK [(false, [.int .i64]), (false, [.int .i64])] Q) (fun _ _ _ _ => Stuck 421) = VC_Chance s_Skills s_Instrs t_Tasks t_Allowed lv Q := by kernel_rfl
abbrev ats_Chance : List AT := [.agg [.sl [.str, .int .i64, .int .i64, .int .i64, .int .i64], .sl [.str, .int .i64, .int .i64]], .agg [.sl [.int .i64, .int .i64], .int .i64], .one (.sl [.int .i64])]
theorem ok_Chance {pre : DS → Prop} {res : DS → DS} (hyp_ : ∀ (W : InW) (s_Skills : Ro [.str, .int .i64, .int .i64, .int .i64, .int .i64]) (s_Instrs : Ro [.str, .int .i64, .int .i64]) (t_Tasks : Ro [.int .i64, .int .i64]) (t_Allowed : Int) (lv : Ro [.int .i64]), pre [[.l s_Skills.xs, .l s_Instrs.xs], [.l t_Tasks.xs, .i t_Allowed], [.l lv.xs]] → ∀ Q : DS → Prop, Q (res [[.l s_Skills.xs, .l s_Instrs.xs], [.l t_Tasks.xs, .i t_Allowed], [.l lv.xs]]) → VC_Chance s_Skills s_Instrs t_Tasks t_Allowed lv Q) : PureOk Try.prog 30 ats_Chance [(false, [.int .i64]), (false, [.int .i64])] pre res :=
  PureOk.of' (fun W => @TT W) (fun W => @TT_ok W) mixed_ok Tm 1000 50 fun W s_Skills s_Instrs t_Tasks t_Allowed lv hp =>
    (vc_Chance W s_Skills s_Instrs t_Tasks t_Allowed lv (fun o => o = res [[.l s_Skills.xs, .l s_Instrs.xs], [.l t_Tasks.xs, .i t_Allowed], [.l lv.xs]])).mpr (hyp_ W s_Skills s_Instrs t_Tasks t_Allowed lv hp _ rfl)
abbrev res_Chance (ds : DS) : DS := match ds with | [[.l sk, .l is], [.l ts, .i al], [.l lv]] => [[.i (Sp.chanceN sk is ts al lv)], [.i (Sp.chanceE sk is ts al lv)]] | _ => []
theorem okChance : PureOk Try.prog 30 ats_Chance [(false, [.int .i64]), (false, [.int .i64])] (fun _ => True) res_Chance :=
  ok_Chance fun W sk is ts al lv _ Q h => by
    unfold VC_Chance
    simp only [res_Chance] at h
    have key := Lib.hid (chanceE_iff (sk := sk.xs) (is := is.xs) (ts := ts.xs) (al := al) (lv := lv.xs))
    refine ⟨trivial, vifn (fun e1 => ?_) fun e1 => vifn (fun e2 => ?_) fun e2 => ⟨trivial, vif (fun e3 => ?_) fun e3 => ?_⟩⟩
    · rw [Sp.chanceN, Sp.chanceE, if_neg e1, if_neg e1] at h; exact h
    · rw [Sp.chanceN, Sp.chanceE, if_pos e1, if_neg e2, if_neg (by omega)] at h; exact h
    · rw [Sp.chanceN, Sp.chanceE, if_pos e1, if_pos e2, if_pos e3, if_neg (by omega)] at h; exact h
    · have e : Sp.chanceE sk.xs is.xs ts.xs al lv.xs = 0 := by rw [Sp.chanceE, if_pos e1, if_pos e2, if_neg (by rw [e3]; decide)]
      have := key.out.1 e
      have a0 := this.1.a0
      have a1 := this.1.a1
      refine ⟨⟨TsIn.eq this.1.tin this.2.1, fin_lv this.2.2, a0, by omega⟩, ?_⟩
      rw [Sp.chanceN, e, if_pos rfl] at h
      exact h
noncomputable def pc_Chance : PC Try.prog := ⟨30, ats_Chance, [(false, [.int .i64]), (false, [.int .i64])], fun _ => True, res_Chance, okChance⟩
noncomputable def Tn0 : Tab Try.prog := ⟨[pc_in], [], []⟩
def sp_rch [InW] (e : List Ed) (K : Nat → List Ed → Prop) : Prop := match e with
  | [.ro _ lv, .i er, .i i] => Pre (0 ≤ i ∧ i ≤ lv.xs.length) (K 0 [.ro _ lv, .i (Sp.lvE er lv.xs i.toNat (lv.xs.length - i.toNat))])
  | _ => False
noncomputable def lc_rch : LC where
  len := 57
  T := [(2, .rs [.int .i64]), (10, .int .i64), (11, .int .i64)]
  H := []
  W := [33, 34, 35, 36, 37, 38, 39, 40, 41, 42, 43, 44, 45, 46, 47, 48]
  outs := [⟨.exit 0, [(2, .rs [.int .i64]), (10, .int .i64)], [], [11, 33, 34, 35, 36, 37, 38, 39, 40, 41, 42, 43, 44, 45, 46, 47, 48]⟩]
  spec := sp_rch
def VCL_rch [W : InW] (lv : Ro [.int .i64]) (er i : Int) (A : List Ed → Prop) (K : Nat → List Ed → Prop) : Prop :=
  Vif (decide (i < (↑(lv.xs.length) : Int))) (Vif (decide (er = (0 : Int))) (Need (decide ((0 : Int) ≤ i) && decide (i < (↑(lv.xs.length) : Int))) (Need (decide (i.toNat < lv.xs.length)) (Pre True (Vif (!Sp.inr (cel lv.xs i.toNat (0 : Nat)).int (0 : Int) (1000 : Int)) (Ar .i64 (i + (1 : Int)) fun z => A [.ro _ lv, .i (7 : Int), .i z]) (Ar .i64 (i + (1 : Int)) fun z => A [.ro _ lv, .i er, .i z]))))) (K (0 : Nat) [.ro _ lv, .i er])) (K (0 : Nat) [.ro _ lv, .i er])
theorem vcl_rch (W : InW) (lv er i A K) : vcTop { cxT Try.prog TT Tn0 1000 50 with fn := 31 } 1000 (loopAt Try.prog 31 8) (tmOut 57 [(2, .rs _ lv), (10, .si .i64 er), (11, .si .i64 i)] [33, 34, 35, 36, 37, 38, 39, 40, 41, 42, 43, 44, 45, 46, 47, 48]) [] (roundL lc_rch A K) = VCL_rch lv er i A K := by kernel_rfl
def okLt_rch : Prop := ∀ (W : InW) (body a : Code), (Try.prog.funcs[31]?).bind (·.body) = some body → a ∈ loopsIn body → keyOf a = 8 → @LoopOk W Try.prog a (@loopRun W lc_rch)
theorem okl_rch (meas : [InW] → List Ed → Nat) (hyp_ : ∀ (W : InW) (lv : Ro [.int .i64]) (er : Int) (i : Int) (K : Nat → List Ed → Prop), sp_rch [.ro _ lv, .i er, .i i] K → ∀ A : List Ed → Prop, (∀ e, meas e < meas [.ro _ lv, .i er, .i i] → sp_rch e K → A e) → VCL_rch lv er i A K) : okLt_rch :=
  LE.okOf' (fun W => @TT W) (fun W => @TT_ok W) mixed_ok Tn0 1000 50 (by kernel_rfl) lc_rch (fun W => @meas W) fun W lv er i K hs =>
    (vcl_rch W lv er i (fun e => meas e < meas [.ro _ lv, .i er, .i i] ∧ sp_rch e K) K).mpr (hyp_ W lv er i K hs _ fun e h1 h2 => ⟨h1, h2⟩)
theorem lvE_step {e : Int} {xs : Dt} {i n : Nat} : Sp.lvE e xs i (n + 1) = if e = 0 then (if Sp.inr (cel xs i 0).int 0 1000 then Sp.lvE 0 xs (i + 1) n else 7) else e := by
  unfold Sp.lvE
  rw [show Sp.outs 0 1000 xs i (n + 1) = (!Sp.inr (cel xs i 0).int 0 1000 || Sp.outs 0 1000 xs (i + 1) n) from rfl]
  by_cases h : e = 0
  · rw [if_pos h, if_pos h]
    by_cases h2 : Sp.inr (cel xs i 0).int 0 1000 = true
    · simp only [h2, Bool.not_true, Bool.false_or, if_true]
    · simp only [h2, Bool.not_false, Bool.true_or, if_true]; rfl
  · rw [if_neg h, if_neg h]
theorem lvE_zero {e : Int} {xs : Dt} {i : Nat} : Sp.lvE e xs i 0 = e := by
  unfold Sp.lvE Sp.outs
  split <;> simp_all
theorem lvE_ne {e : Int} {xs : Dt} {i n : Nat} (h : e ≠ 0) : Sp.lvE e xs i n = e := by
  unfold Sp.lvE; rw [if_neg h]
theorem okLrch : okLt_rch := okl_rch (fun e => match e with | [.ro _ lv, _, .i i] => (lv.xs.length - i).toNat | _ => 0) fun W lv er i K hs A hA => by
  obtain ⟨⟨h0, h1⟩, hk⟩ := hs
  unfold VCL_rch
  have hm := lv.len
  simp only [maxLen] at hm
  refine vifd (fun e => vifd (fun e2 => ?_) fun e2 => ?_) fun e => ?_
  · have e1 : (i + 1).toNat = i.toNat + 1 := by omega
    have st := lvE_step (e := er) (xs := lv.xs) (i := i.toNat) (n := lv.xs.length - (i.toNat + 1))
    rw [show lv.xs.length - (i.toNat + 1) + 1 = lv.xs.length - i.toNat by omega, if_pos e2] at st
    rw [st] at hk
    refine ned (by simp only [Bool.and_eq_true, decide_eq_true_eq]; omega) (nedd (by omega) ⟨trivial, vifb (fun e3 => ?_) fun e3 => ?_⟩)
    · rw [e3, if_neg (by decide)] at hk
      exact ar64 (by omega) (hA _ (by show ((lv.xs.length : Int) - (i + 1)).toNat < ((lv.xs.length : Int) - i).toNat; omega) ⟨⟨by omega, by omega⟩, by rw [lvE_ne (by decide)]; exact hk⟩)
    · rw [e3, if_pos rfl] at hk
      subst e2
      exact ar64 (by omega) (hA _ (by show ((lv.xs.length : Int) - (i + 1)).toNat < ((lv.xs.length : Int) - i).toNat; omega) ⟨⟨by omega, by omega⟩, by rw [e1]; exact hk⟩)
  · rw [lvE_ne e2] at hk; exact hk
  · rw [show lv.xs.length - i.toNat = 0 by omega, lvE_zero] at hk; exact hk
noncomputable def le_rch : LE Try.prog := ⟨31, 8, fun W => @loopRun W lc_rch, okLrch⟩
noncomputable def Tn : Tab Try.prog := ⟨[pc_in, pc_Check, pc_test, pc_passed], [le_rch], []⟩
def VC_rChance [W : InW] (s_Skills : Ro [.str, .int .i64, .int .i64, .int .i64, .int .i64]) (s_Instrs : Ro [.str, .int .i64, .int .i64]) (t_Tasks : Ro [.int .i64, .int .i64]) (t_Allowed : Int) (lv : Ro [.int .i64]) (Q : DS → Prop) : Prop :=
  Pre (Sp.NamesOk s_Skills.xs ∧ Sp.NamesOk s_Instrs.xs) (Vif (decide (Sp.chkE s_Skills.xs s_Instrs.xs = (0 : Int))) (Pre True (Vif (decide (Sp.testE (↑(s_Skills.xs.length) : Int) t_Tasks.xs t_Allowed = (0 : Int))) (Vif (!decide ((↑(lv.xs.length) : Int) = (↑(s_Skills.xs.length) : Int))) (Pre ((0 : Int) ≤ (0 : Int) ∧ (0 : Int) ≤ (↑(lv.xs.length) : Int)) (Vif (!decide (Sp.lvE (3 : Int) lv.xs (Int.toNat (0 : Int)) (lv.xs.length - Int.toNat (0 : Int)) = (0 : Int))) (Q [[Cl.i (0 : Int)], [Cl.i (Sp.lvE (3 : Int) lv.xs (Int.toNat (0 : Int)) (lv.xs.length - Int.toNat (0 : Int)))]]) (Pre ((0 : Int) ≤ (0 : Int) ∧ (0 : Int) ≤ (↑(t_Tasks.xs.length) : Int) ∧ (↑(t_Tasks.xs.length) : Int) < (0 : Int) + (↑(7 : Nat) : Int) ∧ Sp.TsIn t_Tasks.xs (lv.xs.length) ∧ Sp.FIn (Sp.fLv lv.xs) ∧ Sp.Small t_Allowed) (Q [[Cl.i (Sp.passL (Sp.pF t_Tasks.xs (Sp.fLv lv.xs) (Int.toNat (0 : Int)) (t_Tasks.xs.length - Int.toNat (0 : Int))) t_Allowed)], [Cl.i (0 : Int)]])))) (Pre ((0 : Int) ≤ (0 : Int) ∧ (0 : Int) ≤ (↑(lv.xs.length) : Int)) (Vif (!decide (Sp.lvE (Sp.testE (↑(s_Skills.xs.length) : Int) t_Tasks.xs t_Allowed) lv.xs (Int.toNat (0 : Int)) (lv.xs.length - Int.toNat (0 : Int)) = (0 : Int))) (Q [[Cl.i (0 : Int)], [Cl.i (Sp.lvE (Sp.testE (↑(s_Skills.xs.length) : Int) t_Tasks.xs t_Allowed) lv.xs (Int.toNat (0 : Int)) (lv.xs.length - Int.toNat (0 : Int)))]]) (Pre ((0 : Int) ≤ (0 : Int) ∧ (0 : Int) ≤ (↑(t_Tasks.xs.length) : Int) ∧ (↑(t_Tasks.xs.length) : Int) < (0 : Int) + (↑(7 : Nat) : Int) ∧ Sp.TsIn t_Tasks.xs (lv.xs.length) ∧ Sp.FIn (Sp.fLv lv.xs) ∧ Sp.Small t_Allowed) (Q [[Cl.i (Sp.passL (Sp.pF t_Tasks.xs (Sp.fLv lv.xs) (Int.toNat (0 : Int)) (t_Tasks.xs.length - Int.toNat (0 : Int))) t_Allowed)], [Cl.i (0 : Int)]]))))) (Pre ((0 : Int) ≤ (0 : Int) ∧ (0 : Int) ≤ (↑(lv.xs.length) : Int)) (Vif (!decide (Sp.lvE (Sp.testE (↑(s_Skills.xs.length) : Int) t_Tasks.xs t_Allowed) lv.xs (Int.toNat (0 : Int)) (lv.xs.length - Int.toNat (0 : Int)) = (0 : Int))) (Q [[Cl.i (0 : Int)], [Cl.i (Sp.lvE (Sp.testE (↑(s_Skills.xs.length) : Int) t_Tasks.xs t_Allowed) lv.xs (Int.toNat (0 : Int)) (lv.xs.length - Int.toNat (0 : Int)))]]) (Pre ((0 : Int) ≤ (0 : Int) ∧ (0 : Int) ≤ (↑(t_Tasks.xs.length) : Int) ∧ (↑(t_Tasks.xs.length) : Int) < (0 : Int) + (↑(7 : Nat) : Int) ∧ Sp.TsIn t_Tasks.xs (lv.xs.length) ∧ Sp.FIn (Sp.fLv lv.xs) ∧ Sp.Small t_Allowed) (Q [[Cl.i (Sp.passL (Sp.pF t_Tasks.xs (Sp.fLv lv.xs) (Int.toNat (0 : Int)) (t_Tasks.xs.length - Int.toNat (0 : Int))) t_Allowed)], [Cl.i (0 : Int)]])))))) (Vif (decide (Sp.chkE s_Skills.xs s_Instrs.xs = (0 : Int))) (Vif (!decide ((↑(lv.xs.length) : Int) = (↑(s_Skills.xs.length) : Int))) (Pre ((0 : Int) ≤ (0 : Int) ∧ (0 : Int) ≤ (↑(lv.xs.length) : Int)) (Vif (!decide (Sp.lvE (3 : Int) lv.xs (Int.toNat (0 : Int)) (lv.xs.length - Int.toNat (0 : Int)) = (0 : Int))) (Q [[Cl.i (0 : Int)], [Cl.i (Sp.lvE (3 : Int) lv.xs (Int.toNat (0 : Int)) (lv.xs.length - Int.toNat (0 : Int)))]]) (Pre ((0 : Int) ≤ (0 : Int) ∧ (0 : Int) ≤ (↑(t_Tasks.xs.length) : Int) ∧ (↑(t_Tasks.xs.length) : Int) < (0 : Int) + (↑(7 : Nat) : Int) ∧ Sp.TsIn t_Tasks.xs (lv.xs.length) ∧ Sp.FIn (Sp.fLv lv.xs) ∧ Sp.Small t_Allowed) (Q [[Cl.i (Sp.passL (Sp.pF t_Tasks.xs (Sp.fLv lv.xs) (Int.toNat (0 : Int)) (t_Tasks.xs.length - Int.toNat (0 : Int))) t_Allowed)], [Cl.i (0 : Int)]])))) (Pre ((0 : Int) ≤ (0 : Int) ∧ (0 : Int) ≤ (↑(lv.xs.length) : Int)) (Vif (!decide (Sp.lvE (Sp.chkE s_Skills.xs s_Instrs.xs) lv.xs (Int.toNat (0 : Int)) (lv.xs.length - Int.toNat (0 : Int)) = (0 : Int))) (Q [[Cl.i (0 : Int)], [Cl.i (Sp.lvE (Sp.chkE s_Skills.xs s_Instrs.xs) lv.xs (Int.toNat (0 : Int)) (lv.xs.length - Int.toNat (0 : Int)))]]) (Pre ((0 : Int) ≤ (0 : Int) ∧ (0 : Int) ≤ (↑(t_Tasks.xs.length) : Int) ∧ (↑(t_Tasks.xs.length) : Int) < (0 : Int) + (↑(7 : Nat) : Int) ∧ Sp.TsIn t_Tasks.xs (lv.xs.length) ∧ Sp.FIn (Sp.fLv lv.xs) ∧ Sp.Small t_Allowed) (Q [[Cl.i (Sp.passL (Sp.pF t_Tasks.xs (Sp.fLv lv.xs) (Int.toNat (0 : Int)) (t_Tasks.xs.length - Int.toNat (0 : Int))) t_Allowed)], [Cl.i (0 : Int)]]))))) (Pre ((0 : Int) ≤ (0 : Int) ∧ (0 : Int) ≤ (↑(lv.xs.length) : Int)) (Vif (!decide (Sp.lvE (Sp.chkE s_Skills.xs s_Instrs.xs) lv.xs (Int.toNat (0 : Int)) (lv.xs.length - Int.toNat (0 : Int)) = (0 : Int))) (Q [[Cl.i (0 : Int)], [Cl.i (Sp.lvE (Sp.chkE s_Skills.xs s_Instrs.xs) lv.xs (Int.toNat (0 : Int)) (lv.xs.length - Int.toNat (0 : Int)))]]) (Pre ((0 : Int) ≤ (0 : Int) ∧ (0 : Int) ≤ (↑(t_Tasks.xs.length) : Int) ∧ (↑(t_Tasks.xs.length) : Int) < (0 : Int) + (↑(7 : Nat) : Int) ∧ Sp.TsIn t_Tasks.xs (lv.xs.length) ∧ Sp.FIn (Sp.fLv lv.xs) ∧ Sp.Small t_Allowed) (Q [[Cl.i (Sp.passL (Sp.pF t_Tasks.xs (Sp.fLv lv.xs) (Int.toNat (0 : Int)) (t_Tasks.xs.length - Int.toNat (0 : Int))) t_Allowed)], [Cl.i (0 : Int)]]))))))
theorem vc_rChance (W : InW) (s_Skills s_Instrs t_Tasks t_Allowed lv Q) : bodyK (cxT Try.prog TT Tn 1000 50) 1000 31 [.agg [.rs _ s_Skills, .rs _ s_Instrs], .agg [.rs _ t_Tasks, .si .i64 t_Allowed], .rs _ lv] [] 0 (leafK [(false, [.int .i64]), (false, [.int .i64])] Q) (fun _ _ _ _ => Stuck 421) = VC_rChance s_Skills s_Instrs t_Tasks t_Allowed lv Q := by kernel_rfl
abbrev ats_rChance : List AT := [.agg [.sl [.str, .int .i64, .int .i64, .int .i64, .int .i64], .sl [.str, .int .i64, .int .i64]], .agg [.sl [.int .i64, .int .i64], .int .i64], .one (.sl [.int .i64])]
theorem ok_rChance {pre : DS → Prop} {res : DS → DS} (hyp_ : ∀ (W : InW) (s_Skills : Ro [.str, .int .i64, .int .i64, .int .i64, .int .i64]) (s_Instrs : Ro [.str, .int .i64, .int .i64]) (t_Tasks : Ro [.int .i64, .int .i64]) (t_Allowed : Int) (lv : Ro [.int .i64]), pre [[.l s_Skills.xs, .l s_Instrs.xs], [.l t_Tasks.xs, .i t_Allowed], [.l lv.xs]] → ∀ Q : DS → Prop, Q (res [[.l s_Skills.xs, .l s_Instrs.xs], [.l t_Tasks.xs, .i t_Allowed], [.l lv.xs]]) → VC_rChance s_Skills s_Instrs t_Tasks t_Allowed lv Q) : PureOk Try.prog 31 ats_rChance [(false, [.int .i64]), (false, [.int .i64])] pre res :=
  PureOk.of' (fun W => @TT W) (fun W => @TT_ok W) mixed_ok Tn 1000 50 fun W s_Skills s_Instrs t_Tasks t_Allowed lv hp =>
    (vc_rChance W s_Skills s_Instrs t_Tasks t_Allowed lv (fun o => o = res [[.l s_Skills.xs, .l s_Instrs.xs], [.l t_Tasks.xs, .i t_Allowed], [.l lv.xs]])).mpr (hyp_ W s_Skills s_Instrs t_Tasks t_Allowed lv hp _ rfl)
abbrev pre_rChance (ds : DS) : Prop := match ds with | [[.l sk, .l is], _, _] => Sp.NamesOk sk ∧ Sp.NamesOk is | _ => False
theorem rch_end [InW] {sk is ts lv : Dt} {al X : Int} {Q : DS → Prop} (hX : Sp.chanceE sk is ts al lv = X) (h : Q [[.i (Sp.chanceN sk is ts al lv)], [.i (Sp.chanceE sk is ts al lv)]]) :
    Vif (!decide (X = 0)) (Q [[.i 0], [.i X]]) (Pre ((0 : Int) ≤ 0 ∧ (0 : Int) ≤ (ts.length : Int) ∧ (ts.length : Int) < 0 + ((7 : Nat) : Int) ∧ Sp.TsIn ts lv.length ∧ Sp.FIn (Sp.fLv lv) ∧ Sp.Small al) (Q [[.i (Sp.passL (Sp.pF ts (Sp.fLv lv) (Int.toNat 0) (ts.length - Int.toNat 0)) al)], [.i 0]])) := by
  unfold Sp.chanceN at h
  rw [hX] at h
  refine vifn (fun e => ?_) fun e => ?_
  · rw [if_neg e] at h; exact h
  · subst e
    rw [if_pos rfl, chance_pF] at h
    have k := chanceE_iff.1 hX
    have a0 := k.1.a0
    have a1 := k.1.a1
    have l6 := k.1.tin.l6
    exact ⟨⟨by omega, by omega, by omega, TsIn.eq k.1.tin k.2.1, fin_lv k.2.2, by unfold Sp.Small; omega⟩, h⟩
theorem ok_rCh : PureOk Try.prog 31 ats_rChance [(false, [.int .i64]), (false, [.int .i64])] pre_rChance res_Chance :=
  ok_rChance fun W sk is ts al lv hp Q h => by
    unfold VC_rChance
    simp only [res_Chance] at h
    have q0 : (0 : Int) ≤ 0 ∧ (0 : Int) ≤ (lv.xs.length : Int) := ⟨by omega, by omega⟩
    have e0 : Sp.lvE 0 lv.xs 0 lv.xs.length = if Sp.out 0 1000 lv.xs then 7 else 0 := by unfold Sp.lvE Sp.out; rw [if_pos rfl]
    refine ⟨hp, vifd (fun e1 => ⟨trivial, vifd (fun e2 => vifn (fun e3 => ⟨q0, rch_end ?_ h⟩) fun e3 => ⟨q0, rch_end ?_ h⟩) fun e2 => ⟨q0, rch_end ?_ h⟩⟩) fun e1 => vifd (fun e2 => absurd e2 e1) fun _ => ⟨q0, rch_end ?_ h⟩⟩
    · rw [lvE_ne (by decide), Sp.chanceE, Sp.strE, if_pos e1, if_pos e2, if_neg e3]
    · rw [e2, show Int.toNat 0 = 0 from rfl, Nat.sub_zero, e0, Sp.chanceE, Sp.strE, if_pos e1, if_pos e2, if_pos e3]
    · rw [lvE_ne e2, Sp.chanceE, Sp.strE, if_pos e1, if_neg e2]
    · rw [lvE_ne e1, Sp.chanceE, Sp.strE, if_neg e1, if_neg e1]
noncomputable def pc_rChance : PC Try.prog := ⟨31, ats_rChance, [(false, [.int .i64]), (false, [.int .i64])], pre_rChance, res_Chance, ok_rCh⟩
end Go.Proofs.Ytdokbocmgdhmmaa
namespace Go.Proofs.Ytdokbocmgdhmmaa
open Go.RowKit
set_option linter.unusedVariables false
set_option maxRecDepth 100000
set_option maxHeartbeats 1600000
namespace Sp
def isRdy (sk is ts : Dt) (al : Int) (rg : Dt) (w : Int) : Bool := if readyE sk is ts al rg w = 0 then decide (readyP sk is ts al rg w ≤ chance ts al (rLo rg)) else false
def least (sk is ts : Dt) (al : Int) (rg : Dt) (w : Int) : Int := if readyE sk is ts al rg w = 0 then chance ts al (rLo rg) else 0
def most (sk is ts : Dt) (al : Int) (rg : Dt) (w : Int) : Int := if readyE sk is ts al rg w = 0 then chance ts al (rHi rg) else 0
end Sp
noncomputable def To0 : Tab Try.prog := ⟨[pc_in], [], []⟩
def sp_rdy [InW] (e : List Ed) (K : Nat → List Ed → Prop) : Prop := match e with
  | [.i w, .i m, .i i] => Pre (0 ≤ i ∧ i ≤ m ∧ m ≤ 6 ∧ 0 ≤ w ∧ w * 1000 ^ (m - i).toNat ≤ 1000000000000000000) (K 0 [.i (w * 1000 ^ (m - i).toNat)])
  | _ => False
noncomputable def lc_rdy : LC where
  len := 35
  T := [(3, .int .i64), (28, .int .i64), (29, .int .i64)]
  H := []
  W := [30, 31, 32, 33]
  outs := [⟨.exit 0, [(3, .int .i64)], [], [28, 29, 30, 31, 32, 33]⟩]
  spec := sp_rdy
def VCL_rdy [W : InW] (w m i : Int) (A : List Ed → Prop) (K : Nat → List Ed → Prop) : Prop :=
  Vif (decide (i < m)) (Ar .i64 (w * (1000 : Int)) fun z => Ar .i64 (i + (1 : Int)) fun z_1 => A [.i z, .i m, .i z_1]) (K (0 : Nat) [.i w])
theorem vcl_rdy (W : InW) (w m i A K) : vcTop { cxT Try.prog TT To0 1000 50 with fn := 79 } 1000 (loopAt Try.prog 79 11) (tmOut 35 [(3, .si .i64 w), (28, .si .i64 m), (29, .si .i64 i)] [30, 31, 32, 33]) [] (roundL lc_rdy A K) = VCL_rdy w m i A K := by kernel_rfl
def okLt_rdy : Prop := ∀ (W : InW) (body a : Code), (Try.prog.funcs[79]?).bind (·.body) = some body → a ∈ loopsIn body → keyOf a = 11 → @LoopOk W Try.prog a (@loopRun W lc_rdy)
theorem okl_rdy (meas : [InW] → List Ed → Nat) (hyp_ : ∀ (W : InW) (w : Int) (m : Int) (i : Int) (K : Nat → List Ed → Prop), sp_rdy [.i w, .i m, .i i] K → ∀ A : List Ed → Prop, (∀ e, meas e < meas [.i w, .i m, .i i] → sp_rdy e K → A e) → VCL_rdy w m i A K) : okLt_rdy :=
  LE.okOf' (fun W => @TT W) (fun W => @TT_ok W) mixed_ok To0 1000 50 (by kernel_rfl) lc_rdy (fun W => @meas W) fun W w m i K hs =>
    (vcl_rdy W w m i (fun e => meas e < meas [.i w, .i m, .i i] ∧ sp_rdy e K) K).mpr (hyp_ W w m i K hs _ fun e h1 h2 => ⟨h1, h2⟩)
def sp_pow [InW] (e : List Ed) (K : Nat → List Ed → Prop) : Prop := match e with
  | [.i n, .i x, .i i] => Pre (0 ≤ i ∧ i ≤ n ∧ n ≤ 6 ∧ 0 ≤ x ∧ x * 1000 ^ (n - i).toNat ≤ 1000000000000000000) (K 0 [.i (x * 1000 ^ (n - i).toNat)])
  | _ => False
noncomputable def lc_pow : LC where
  len := 13
  T := [(0, .int .i64), (3, .int .i64), (4, .int .i64)]
  H := []
  W := [5, 6, 7, 8, 9, 10, 11]
  outs := [⟨.exit 0, [(3, .int .i64)], [], [0, 4, 5, 6, 7, 8, 9, 10, 11]⟩]
  spec := sp_pow
def VCL_pow [W : InW] (n x i : Int) (A : List Ed → Prop) (K : Nat → List Ed → Prop) : Prop :=
  Vif (decide (i < n)) (Ar .i64 ((1000 : Int) * x) fun z => Ar .i64 (i + (1 : Int)) fun z_1 => A [.i n, .i z, .i z_1]) (K (0 : Nat) [.i x])
theorem vcl_pow (W : InW) (n x i A K) : vcTop { cxT Try.prog TT To0 1000 50 with fn := 49 } 1000 (loopAt Try.prog 49 4) (tmOut 13 [(0, .si .i64 n), (3, .si .i64 x), (4, .si .i64 i)] [5, 6, 7, 8, 9, 10, 11]) [] (roundL lc_pow A K) = VCL_pow n x i A K := by kernel_rfl
def okLt_pow : Prop := ∀ (W : InW) (body a : Code), (Try.prog.funcs[49]?).bind (·.body) = some body → a ∈ loopsIn body → keyOf a = 4 → @LoopOk W Try.prog a (@loopRun W lc_pow)
theorem okl_pow (meas : [InW] → List Ed → Nat) (hyp_ : ∀ (W : InW) (n : Int) (x : Int) (i : Int) (K : Nat → List Ed → Prop), sp_pow [.i n, .i x, .i i] K → ∀ A : List Ed → Prop, (∀ e, meas e < meas [.i n, .i x, .i i] → sp_pow e K → A e) → VCL_pow n x i A K) : okLt_pow :=
  LE.okOf' (fun W => @TT W) (fun W => @TT_ok W) mixed_ok To0 1000 50 (by kernel_rfl) lc_pow (fun W => @meas W) fun W n x i K hs =>
    (vcl_pow W n x i (fun e => meas e < meas [.i n, .i x, .i i] ∧ sp_pow e K) K).mpr (hyp_ W n x i K hs _ fun e h1 h2 => ⟨h1, h2⟩)
def sp_ends [InW] (e : List Ed) (K : Nat → List Ed → Prop) : Prop := match e with
  | [.ro _ rg, .b most, .i i, .l out] => Pre (0 ≤ i ∧ i ≤ rg.xs.length ∧ rg.xs.length ≤ 1000 ∧ out = Sp.endsD most (rg.xs.take i.toNat)) (K 0 [.l (Sp.endsD most rg.xs)])
  | _ => False
noncomputable def lc_ends : LC where
  len := 31
  T := [(0, .rs [.int .i64, .int .i64]), (1, .bool), (5, (.row 6)), (6, .int .i64)]
  H := [(6, .arr 3 [.int .i64])]
  W := [7, 8, 9, 10, 11, 12, 13, 14, 15, 16, 17, 18, 19, 20, 21, 22, 23, 24, 25, 26, 27, 28, 29]
  outs := [⟨.exit 0, [(5, (.row 12))], [(12, .arr 3 [.int .i64])], [0, 1, 6, 7, 8, 9, 10, 11, 12, 13, 14, 15, 16, 17, 18, 19, 20, 21, 22, 23, 24, 25, 26, 27, 28, 29]⟩]
  spec := sp_ends
def VCL_ends [W : InW] (rg : Ro [.int .i64, .int .i64]) (most : Bool) (i : Int) (out : Dt) (A : List Ed → Prop) (K : Nat → List Ed → Prop) : Prop :=
  Vif (decide (i < (↑(rg.xs.length) : Int))) (Vif most (Need (decide ((0 : Int) ≤ i) && decide (i < (↑(rg.xs.length) : Int))) (Need (decide (i.toNat < rg.xs.length)) (Need (decide ((out.length + [[Cl.i (cel rg.xs i.toNat (0+1 : Nat)).int]].length) * (8 : Nat) ≤ (140737488355328 : Nat))) (Ar .i64 (i + (1 : Int)) fun z => A [.ro _ rg, .b most, .i z, .l (out ++ [[Cl.i (cel rg.xs i.toNat (0+1 : Nat)).int]])])))) (Need (decide ((0 : Int) ≤ i) && decide (i < (↑(rg.xs.length) : Int))) (Need (decide (i.toNat < rg.xs.length)) (Need (decide ((out.length + [[Cl.i (cel rg.xs i.toNat (0 : Nat)).int]].length) * (8 : Nat) ≤ (140737488355328 : Nat))) (Ar .i64 (i + (1 : Int)) fun z => A [.ro _ rg, .b most, .i z, .l (out ++ [[Cl.i (cel rg.xs i.toNat (0 : Nat)).int]])]))))) (K (0 : Nat) [.l out])
theorem vcl_ends (W : InW) (rg most i out A K) : vcTop { cxT Try.prog TT To0 1000 50 with fn := 83 } 1000 (loopAt Try.prog 83 4) (tmOut 31 [(0, .rs _ rg), (1, .sb most), (5, .rw 6), (6, .si .i64 i)] [7, 8, 9, 10, 11, 12, 13, 14, 15, 16, 17, 18, 19, 20, 21, 22, 23, 24, 25, 26, 27, 28, 29]) [(6, .arr 3 [.int .i64] out)] (roundL lc_ends A K) = VCL_ends rg most i out A K := by kernel_rfl
def okLt_ends : Prop := ∀ (W : InW) (body a : Code), (Try.prog.funcs[83]?).bind (·.body) = some body → a ∈ loopsIn body → keyOf a = 4 → @LoopOk W Try.prog a (@loopRun W lc_ends)
theorem okl_ends (meas : [InW] → List Ed → Nat) (hyp_ : ∀ (W : InW) (rg : Ro [.int .i64, .int .i64]) (most : Bool) (i : Int) (out : Dt) (K : Nat → List Ed → Prop), sp_ends [.ro _ rg, .b most, .i i, .l out] K → ∀ A : List Ed → Prop, (∀ e, meas e < meas [.ro _ rg, .b most, .i i, .l out] → sp_ends e K → A e) → VCL_ends rg most i out A K) : okLt_ends :=
  LE.okOf' (fun W => @TT W) (fun W => @TT_ok W) mixed_ok To0 1000 50 (by kernel_rfl) lc_ends (fun W => @meas W) fun W rg most i out K hs =>
    (vcl_ends W rg most i out (fun e => meas e < meas [.ro _ rg, .b most, .i i, .l out] ∧ sp_ends e K) K).mpr (hyp_ W rg most i out K hs _ fun e h1 h2 => ⟨h1, h2⟩)
theorem pow_pos (n : Nat) : (1 : Int) ≤ 1000 ^ n := by
  induction n with
  | zero => decide
  | succ n ih => rw [Int.pow_succ]; omega
theorem pow_step {w m : Int} {n : Nat} (h : 0 ≤ w) (hw : w * 1000 ^ (n + 1) ≤ m) : 0 ≤ w * 1000 ∧ w * 1000 ≤ m ∧ w * 1000 ^ (n + 1) = w * 1000 * 1000 ^ n := by
  have e : w * 1000 ^ (n + 1) = w * 1000 * 1000 ^ n := by rw [Int.pow_succ, Int.mul_comm (1000 ^ n), Int.mul_assoc]
  have a := Int.mul_le_mul_of_nonneg_left (pow_pos n) (show 0 ≤ w * 1000 by omega)
  rw [Int.mul_one] at a
  exact ⟨by omega, by omega, e⟩
theorem okLrdy : okLt_rdy := okl_rdy (fun e => match e with | [_, .i m, .i i] => (m - i).toNat | _ => 0) fun W w m i K hs A hA => by
  obtain ⟨⟨h0, h1, h6, h2, h3⟩, hk⟩ := hs
  unfold VCL_rdy
  refine vifd (fun e => ?_) fun e => ?_
  · rw [show (m - i).toNat = (m - (i + 1)).toNat + 1 by omega] at hk h3
    have p := pow_step h2 h3
    rw [p.2.2] at hk h3
    have hA' := hA [.i (w * 1000), .i m, .i (i + 1)] (by show (m - (i + 1)).toNat < (m - i).toNat; omega) ⟨⟨by omega, by omega, h6, p.1, h3⟩, hk⟩
    clear hA hk h3
    repeat' (first | omega | with_reducible refine vifd (fun _ => ?_) fun _ => ?_ | with_reducible refine vifn (fun _ => ?_) fun _ => ?_ | with_reducible refine vifq (fun _ => ?_) fun _ => ?_ | with_reducible refine vifq0 (fun _ => ?_) fun _ => ?_ | with_reducible refine vifq1 (fun _ => ?_) fun _ => ?_ | with_reducible refine vifb (fun _ => ?_) fun _ => ?_ | with_reducible refine vif (fun _ => ?_) fun _ => ?_ | (with_reducible refine nedd ?_ ?_; omega) | (with_reducible refine ned ?_ ?_; simp only [Bool.and_eq_true, decide_eq_true_eq]; omega) | (with_reducible refine ar64 ?_ ?_; omega) | (with_reducible refine pre_of ?_ ?_; (first | trivial | omega | assumption | (refine ⟨?_, ?_⟩ <;> first | trivial | omega | assumption) | (refine ⟨?_, ?_, ?_⟩ <;> first | trivial | omega | assumption) | (refine ⟨?_, ?_, ?_, ?_⟩ <;> first | trivial | omega | assumption))))
    all_goals exact hA'
  · rw [show (m - i).toNat = 0 by omega, Int.pow_zero, Int.mul_one] at hk
    exact hk
theorem okLpow : okLt_pow := okl_pow (fun e => match e with | [.i m, _, .i i] => (m - i).toNat | _ => 0) fun W n x i K hs A hA => by
  obtain ⟨⟨h0, h1, h6, h2, h3⟩, hk⟩ := hs
  unfold VCL_pow
  refine vifd (fun e => ?_) fun e => ?_
  · rw [show (n - i).toNat = (n - (i + 1)).toNat + 1 by omega] at hk h3
    have p := pow_step h2 h3
    rw [p.2.2] at hk h3
    have hA' := hA [.i n, .i (x * 1000), .i (i + 1)] (by show (n - (i + 1)).toNat < (n - i).toNat; omega) ⟨⟨by omega, by omega, h6, p.1, h3⟩, hk⟩
    rw [Int.mul_comm x 1000] at hA' p
    clear hA hk h3
    repeat' (first | omega | with_reducible refine vifd (fun _ => ?_) fun _ => ?_ | with_reducible refine vifn (fun _ => ?_) fun _ => ?_ | with_reducible refine vifq (fun _ => ?_) fun _ => ?_ | with_reducible refine vifq0 (fun _ => ?_) fun _ => ?_ | with_reducible refine vifq1 (fun _ => ?_) fun _ => ?_ | with_reducible refine vifb (fun _ => ?_) fun _ => ?_ | with_reducible refine vif (fun _ => ?_) fun _ => ?_ | (with_reducible refine nedd ?_ ?_; omega) | (with_reducible refine ned ?_ ?_; simp only [Bool.and_eq_true, decide_eq_true_eq]; omega) | (with_reducible refine ar64 ?_ ?_; omega) | (with_reducible refine pre_of ?_ ?_; (first | trivial | omega | assumption | (refine ⟨?_, ?_⟩ <;> first | trivial | omega | assumption) | (refine ⟨?_, ?_, ?_⟩ <;> first | trivial | omega | assumption) | (refine ⟨?_, ?_, ?_, ?_⟩ <;> first | trivial | omega | assumption))))
    all_goals exact hA'
  · rw [show (n - i).toNat = 0 by omega, Int.pow_zero, Int.mul_one] at hk
    exact hk
theorem ends_succ {most : Bool} {rg : Dt} {i : Nat} (h : i < rg.length) : Sp.endsD most (rg.take i) ++ [[.i (if most then (cel rg i 1).int else (cel rg i 0).int)]] = Sp.endsD most (rg.take (i + 1)) := by
  unfold Sp.endsD
  rw [List.take_succ_eq_append_getElem h, List.map_append]
  congr 1
  simp [cel, List.getD_eq_getElem?_getD, List.getElem?_eq_getElem h]
theorem ends_len (most : Bool) (rg : Dt) : (Sp.endsD most rg).length = rg.length := by simp [Sp.endsD]
theorem okLends : okLt_ends := okl_ends (fun e => match e with | .ro _ rg :: _ :: .i i :: _ => (rg.xs.length - i).toNat | _ => 0) fun W rg most i out K hs A hA => by
  obtain ⟨⟨h0, h1, h6, rfl⟩, hk⟩ := hs
  unfold VCL_ends
  have hm := rg.len
  simp only [maxLen] at hm
  refine vifd (fun e => ?_) fun e => ?_
  · have e1 : (i + 1).toNat = i.toNat + 1 := by omega
    have st := ends_succ (most := most) (rg := rg.xs) (i := i.toNat) (by omega)
    have hl := ends_len most (rg.xs.take i.toNat)
    rw [List.length_take] at hl
    have hA' := hA [.ro _ rg, .b most, .i (i + 1), .l (Sp.endsD most (rg.xs.take (i.toNat + 1)))] (by show ((rg.xs.length : Int) - (i + 1)).toNat < ((rg.xs.length : Int) - i).toNat; omega) ⟨⟨by omega, by omega, h6, by rw [e1]⟩, hk⟩
    rw [← st] at hA'
    clear hA hk st
    cases most
    all_goals
      simp only [if_true, if_false, Bool.false_eq_true] at hA'
      simp only [List.length_singleton, hl, Nat.zero_add]
      repeat' (first | omega | with_reducible refine vifd (fun _ => ?_) fun _ => ?_ | with_reducible refine vifn (fun _ => ?_) fun _ => ?_ | with_reducible refine vifq (fun _ => ?_) fun _ => ?_ | with_reducible refine vifq0 (fun _ => ?_) fun _ => ?_ | with_reducible refine vifq1 (fun _ => ?_) fun _ => ?_ | with_reducible refine vifb (fun _ => ?_) fun _ => ?_ | with_reducible refine vif (fun _ => ?_) fun _ => ?_ | (with_reducible refine nedd ?_ ?_; omega) | (with_reducible refine ned ?_ ?_; simp only [Bool.and_eq_true, decide_eq_true_eq]; omega) | (with_reducible refine ar64 ?_ ?_; omega) | (with_reducible refine pre_of ?_ ?_; (first | trivial | omega | assumption | (refine ⟨?_, ?_⟩ <;> first | trivial | omega | assumption) | (refine ⟨?_, ?_, ?_⟩ <;> first | trivial | omega | assumption) | (refine ⟨?_, ?_, ?_, ?_⟩ <;> first | trivial | omega | assumption))))
      all_goals first | exact hA' | contradiction
  · rw [show i.toNat = rg.xs.length by omega, List.take_length]
    exact hk
noncomputable def le_rdy : LE Try.prog := ⟨79, 11, fun W => @loopRun W lc_rdy, okLrdy⟩
noncomputable def le_pow : LE Try.prog := ⟨49, 4, fun W => @loopRun W lc_pow, okLpow⟩
noncomputable def le_ends : LE Try.prog := ⟨83, 4, fun W => @loopRun W lc_ends, okLends⟩
noncomputable def To1 : Tab Try.prog := ⟨[pc_out, pc_strange, pc_ranged], [le_rdy, le_pow, le_ends], []⟩
def VC_ready [W : InW] (s_Skills : Ro [.str, .int .i64, .int .i64, .int .i64, .int .i64]) (s_Instrs : Ro [.str, .int .i64, .int .i64]) (t_Tasks : Ro [.int .i64, .int .i64]) (t_Allowed : Int) (rg : Ro [.int .i64, .int .i64]) (w : Int) (Q : DS → Prop) : Prop :=
  Pre True (Vif (!decide (Sp.strE s_Skills.xs s_Instrs.xs t_Tasks.xs t_Allowed = (0 : Int))) (Q [[Cl.i (0 : Int)], [Cl.i (Sp.strE s_Skills.xs s_Instrs.xs t_Tasks.xs t_Allowed)]]) (Pre True (Vif (!decide (Sp.rgsE (↑(s_Skills.xs.length) : Int) rg.xs = (0 : Int))) (Q [[Cl.i (0 : Int)], [Cl.i (Sp.rgsE (↑(s_Skills.xs.length) : Int) rg.xs)]]) (Pre True (Vif (Sp.out (0 : Int) (1000 : Int) [[Cl.i w]]) (Q [[Cl.i (0 : Int)], [Cl.i (7 : Int)]]) (Need (decide ((1 : Nat) ≤ t_Tasks.xs.length) && decide (t_Tasks.xs.length ≤ t_Tasks.xs.length)) (Pre ((0 : Int) ≤ (0 : Int) ∧ (0 : Int) ≤ (↑(List.drop ((1 : Nat)) (List.take (t_Tasks.xs.length) t_Tasks.xs)).length : Int) ∧ (↑(List.drop ((1 : Nat)) (List.take (t_Tasks.xs.length) t_Tasks.xs)).length : Int) ≤ (6 : Int) ∧ (0 : Int) ≤ w ∧ w * (1000 : Int) ^ ((↑(List.drop ((1 : Nat)) (List.take (t_Tasks.xs.length) t_Tasks.xs)).length : Int) - (0 : Int)).toNat ≤ (1000000000000000000 : Int)) (Q [[Cl.i (w * (1000 : Int) ^ ((↑(List.drop ((1 : Nat)) (List.take (t_Tasks.xs.length) t_Tasks.xs)).length : Int) - (0 : Int)).toNat)], [Cl.i (0 : Int)]]))))))))
theorem vc_ready (W : InW) (s_Skills s_Instrs t_Tasks t_Allowed rg w Q) : bodyK (cxT Try.prog TT To1 1000 50) 1000 79 [.agg [.rs _ s_Skills, .rs _ s_Instrs], .agg [.rs _ t_Tasks, .si .i64 t_Allowed], .rs _ rg, .si .i64 w] [] 0 (leafK [(false, [.int .i64]), (false, [.int .i64])] Q) (fun _ _ _ _ => Stuck 421) = VC_ready s_Skills s_Instrs t_Tasks t_Allowed rg w Q := by kernel_rfl
abbrev ats_ready : List AT := [.agg [.sl [.str, .int .i64, .int .i64, .int .i64, .int .i64], .sl [.str, .int .i64, .int .i64]], .agg [.sl [.int .i64, .int .i64], .int .i64], .one (.sl [.int .i64, .int .i64]), .one (.int .i64)]
theorem ok_ready {pre : DS → Prop} {res : DS → DS} (hyp_ : ∀ (W : InW) (s_Skills : Ro [.str, .int .i64, .int .i64, .int .i64, .int .i64]) (s_Instrs : Ro [.str, .int .i64, .int .i64]) (t_Tasks : Ro [.int .i64, .int .i64]) (t_Allowed : Int) (rg : Ro [.int .i64, .int .i64]) (w : Int), pre [[.l s_Skills.xs, .l s_Instrs.xs], [.l t_Tasks.xs, .i t_Allowed], [.l rg.xs], [.i w]] → ∀ Q : DS → Prop, Q (res [[.l s_Skills.xs, .l s_Instrs.xs], [.l t_Tasks.xs, .i t_Allowed], [.l rg.xs], [.i w]]) → VC_ready s_Skills s_Instrs t_Tasks t_Allowed rg w Q) : PureOk Try.prog 79 ats_ready [(false, [.int .i64]), (false, [.int .i64])] pre res :=
  PureOk.of' (fun W => @TT W) (fun W => @TT_ok W) mixed_ok To1 1000 50 fun W s_Skills s_Instrs t_Tasks t_Allowed rg w hp =>
    (vc_ready W s_Skills s_Instrs t_Tasks t_Allowed rg w (fun o => o = res [[.l s_Skills.xs, .l s_Instrs.xs], [.l t_Tasks.xs, .i t_Allowed], [.l rg.xs], [.i w]])).mpr (hyp_ W s_Skills s_Instrs t_Tasks t_Allowed rg w hp _ rfl)
abbrev res_ready (ds : DS) : DS := match ds with | [[.l sk, .l is], [.l ts, .i al], [.l rg], [.i w]] => [[.i (Sp.readyP sk is ts al rg w)], [.i (Sp.readyE sk is ts al rg w)]] | _ => []
abbrev res_tested (ds : DS) : DS := match ds with | [[.l sk, .l is], [.l ts, .i al], [.l rg], [.i w]] => [[.i (Sp.readyE sk is ts al rg w)]] | _ => []
abbrev pre_tested (ds : DS) : Prop := match ds with | [[.l sk, .l is], _, _, _] => Sp.NamesOk sk ∧ Sp.NamesOk is | _ => False
abbrev pre_Power (ds : DS) : Prop := match ds with | [[.i n]] => 0 ≤ n ∧ n ≤ 6 | _ => False
abbrev res_Power (ds : DS) : DS := match ds with | [[.i n]] => [[.i (1000 ^ n.toNat)]] | _ => []
abbrev pre_ends (ds : DS) : Prop := match ds with | [[.l rg], _] => rg.length ≤ 1000 | _ => False
abbrev res_ends (ds : DS) : DS := match ds with | [[.l rg], [.b most]] => [[.l (Sp.endsD most rg)]] | _ => []
def VC_Power [W : InW] (n : Int) (Q : DS → Prop) : Prop :=
  Pre ((0 : Int) ≤ (0 : Int) ∧ (0 : Int) ≤ n ∧ n ≤ (6 : Int) ∧ (0 : Int) ≤ (1 : Int) ∧ (1 : Int) * (1000 : Int) ^ (n - (0 : Int)).toNat ≤ (1000000000000000000 : Int)) (Q [[Cl.i ((1 : Int) * (1000 : Int) ^ (n - (0 : Int)).toNat)]])
theorem vc_Power (W : InW) (n Q) : bodyK (cxT Try.prog TT To1 1000 50) 1000 49 [.si .i64 n] [] 0 (leafK [(false, [.int .i64])] Q) (fun _ _ _ _ => Stuck 421) = VC_Power n Q := by kernel_rfl
abbrev ats_Power : List AT := [.one (.int .i64)]
theorem ok_Power {pre : DS → Prop} {res : DS → DS} (hyp_ : ∀ (W : InW) (n : Int), pre [[.i n]] → ∀ Q : DS → Prop, Q (res [[.i n]]) → VC_Power n Q) : PureOk Try.prog 49 ats_Power [(false, [.int .i64])] pre res :=
  PureOk.of' (fun W => @TT W) (fun W => @TT_ok W) mixed_ok To1 1000 50 fun W n hp =>
    (vc_Power W n (fun o => o = res [[.i n]])).mpr (hyp_ W n hp _ rfl)
def VC_ends [W : InW] (rg : Ro [.int .i64, .int .i64]) (most : Bool) (Q : DS → Prop) : Prop :=
  Pre ((0 : Int) ≤ (0 : Int) ∧ (0 : Int) ≤ (↑(rg.xs.length) : Int) ∧ rg.xs.length ≤ (1000 : Nat) ∧ [] = Sp.endsD most (List.take (Int.toNat (0 : Int)) rg.xs)) (Q [[Cl.l (Sp.endsD most rg.xs)]])
theorem vc_ends (W : InW) (rg most Q) : bodyK (cxT Try.prog TT To1 1000 50) 1000 83 [.rs _ rg, .sb most] [] 0 (leafK [(false, [.row 3 [.int .i64]])] Q) (fun _ _ _ _ => Stuck 421) = VC_ends rg most Q := by kernel_rfl
abbrev ats_ends : List AT := [.one (.sl [.int .i64, .int .i64]), .one (.bool)]
theorem ok_ends {pre : DS → Prop} {res : DS → DS} (hyp_ : ∀ (W : InW) (rg : Ro [.int .i64, .int .i64]) (most : Bool), pre [[.l rg.xs], [.b most]] → ∀ Q : DS → Prop, Q (res [[.l rg.xs], [.b most]]) → VC_ends rg most Q) : PureOk Try.prog 83 ats_ends [(false, [.row 3 [.int .i64]])] pre res :=
  PureOk.of' (fun W => @TT W) (fun W => @TT_ok W) mixed_ok To1 1000 50 fun W rg most hp =>
    (vc_ends W rg most (fun o => o = res [[.l rg.xs], [.b most]])).mpr (hyp_ W rg most hp _ rfl)
noncomputable def To2 : Tab Try.prog := ⟨[pc_in, pc_Check, pc_test, pc_ranges], [], []⟩
def VC_tested [W : InW] (s_Skills : Ro [.str, .int .i64, .int .i64, .int .i64, .int .i64]) (s_Instrs : Ro [.str, .int .i64, .int .i64]) (t_Tasks : Ro [.int .i64, .int .i64]) (t_Allowed : Int) (rg : Ro [.int .i64, .int .i64]) (w : Int) (Q : DS → Prop) : Prop :=
  Pre (Sp.NamesOk s_Skills.xs ∧ Sp.NamesOk s_Instrs.xs) (Vif (decide (Sp.chkE s_Skills.xs s_Instrs.xs = (0 : Int))) (Pre True (Vif (decide (Sp.testE (↑(s_Skills.xs.length) : Int) t_Tasks.xs t_Allowed = (0 : Int))) (Pre True (Vif (decide (Sp.rgsE (↑(s_Skills.xs.length) : Int) rg.xs = (0 : Int))) (Pre True (Vif (!Sp.inr w (0 : Int) (1000 : Int)) (Q [[Cl.i (7 : Int)]]) (Q [[Cl.i (Sp.rgsE (↑(s_Skills.xs.length) : Int) rg.xs)]]))) (Q [[Cl.i (Sp.rgsE (↑(s_Skills.xs.length) : Int) rg.xs)]]))) (Vif (decide (Sp.testE (↑(s_Skills.xs.length) : Int) t_Tasks.xs t_Allowed = (0 : Int))) (Pre True (Vif (!Sp.inr w (0 : Int) (1000 : Int)) (Q [[Cl.i (7 : Int)]]) (Q [[Cl.i (Sp.testE (↑(s_Skills.xs.length) : Int) t_Tasks.xs t_Allowed)]]))) (Q [[Cl.i (Sp.testE (↑(s_Skills.xs.length) : Int) t_Tasks.xs t_Allowed)]])))) (Vif (decide (Sp.chkE s_Skills.xs s_Instrs.xs = (0 : Int))) (Pre True (Vif (decide (Sp.rgsE (↑(s_Skills.xs.length) : Int) rg.xs = (0 : Int))) (Pre True (Vif (!Sp.inr w (0 : Int) (1000 : Int)) (Q [[Cl.i (7 : Int)]]) (Q [[Cl.i (Sp.rgsE (↑(s_Skills.xs.length) : Int) rg.xs)]]))) (Q [[Cl.i (Sp.rgsE (↑(s_Skills.xs.length) : Int) rg.xs)]]))) (Vif (decide (Sp.chkE s_Skills.xs s_Instrs.xs = (0 : Int))) (Pre True (Vif (!Sp.inr w (0 : Int) (1000 : Int)) (Q [[Cl.i (7 : Int)]]) (Q [[Cl.i (Sp.chkE s_Skills.xs s_Instrs.xs)]]))) (Q [[Cl.i (Sp.chkE s_Skills.xs s_Instrs.xs)]]))))
theorem vc_tested (W : InW) (s_Skills s_Instrs t_Tasks t_Allowed rg w Q) : bodyK (cxT Try.prog TT To2 1000 50) 1000 82 [.agg [.rs _ s_Skills, .rs _ s_Instrs], .agg [.rs _ t_Tasks, .si .i64 t_Allowed], .rs _ rg, .si .i64 w] [] 0 (leafK [(false, [.int .i64])] Q) (fun _ _ _ _ => Stuck 421) = VC_tested s_Skills s_Instrs t_Tasks t_Allowed rg w Q := by kernel_rfl
abbrev ats_tested : List AT := [.agg [.sl [.str, .int .i64, .int .i64, .int .i64, .int .i64], .sl [.str, .int .i64, .int .i64]], .agg [.sl [.int .i64, .int .i64], .int .i64], .one (.sl [.int .i64, .int .i64]), .one (.int .i64)]
theorem ok_tested {pre : DS → Prop} {res : DS → DS} (hyp_ : ∀ (W : InW) (s_Skills : Ro [.str, .int .i64, .int .i64, .int .i64, .int .i64]) (s_Instrs : Ro [.str, .int .i64, .int .i64]) (t_Tasks : Ro [.int .i64, .int .i64]) (t_Allowed : Int) (rg : Ro [.int .i64, .int .i64]) (w : Int), pre [[.l s_Skills.xs, .l s_Instrs.xs], [.l t_Tasks.xs, .i t_Allowed], [.l rg.xs], [.i w]] → ∀ Q : DS → Prop, Q (res [[.l s_Skills.xs, .l s_Instrs.xs], [.l t_Tasks.xs, .i t_Allowed], [.l rg.xs], [.i w]]) → VC_tested s_Skills s_Instrs t_Tasks t_Allowed rg w Q) : PureOk Try.prog 82 ats_tested [(false, [.int .i64])] pre res :=
  PureOk.of' (fun W => @TT W) (fun W => @TT_ok W) mixed_ok To2 1000 50 fun W s_Skills s_Instrs t_Tasks t_Allowed rg w hp =>
    (vc_tested W s_Skills s_Instrs t_Tasks t_Allowed rg w (fun o => o = res [[.l s_Skills.xs, .l s_Instrs.xs], [.l t_Tasks.xs, .i t_Allowed], [.l rg.xs], [.i w]])).mpr (hyp_ W s_Skills s_Instrs t_Tasks t_Allowed rg w hp _ rfl)
theorem okready : PureOk Try.prog 79 ats_ready [(false, [.int .i64]), (false, [.int .i64])] (fun _ => True) res_ready :=
  ok_ready fun W sk is ts al rg w _ Q h => by
    unfold VC_ready
    simp only [res_ready] at h
    have key := Lib.hid (readyE_iff (sk := sk.xs) (is := is.xs) (ts := ts.xs) (al := al) (rg := rg.xs) (w := w))
    refine ⟨trivial, vifn (fun e1 => ?_) fun e1 => ⟨trivial, vifn (fun e2 => ?_) fun e2 => ⟨trivial, vif (fun e3 => ?_) fun e3 => ?_⟩⟩⟩
    · rw [Sp.readyP, Sp.readyE, if_neg e1, if_neg e1] at h; exact h
    · rw [Sp.readyP, Sp.readyE, if_pos e1, if_neg e2, if_neg e2] at h; exact h
    · rw [out1] at e3
      rw [Sp.readyP, Sp.readyE, if_pos e1, if_pos e2, if_neg (show ¬ Sp.inr w 0 1000 = true by rw [notT e3]; decide), if_neg (show ¬ (7 : Int) = 0 by decide)] at h; exact h
    · rw [out1] at e3
      have e : Sp.readyE sk.xs is.xs ts.xs al rg.xs w = 0 := by rw [Sp.readyE, if_pos e1, if_pos e2, if_pos (notF e3)]
      have k := key.out.1 e
      have t1 := k.1.t1
      have l6 := k.1.tin.l6
      have hb := pow_le (n := ts.xs.length - 1) (by omega)
      have hp := pow_pos (ts.xs.length - 1)
      have hm := ar_in (show 0 ≤ (1000 : Int) ^ (ts.xs.length - 1) by omega) hb k.2.2.2.1 k.2.2.2.2
      rw [Int.mul_comm] at hm
      have hl : ((List.drop 1 (List.take ts.xs.length ts.xs)).length : Int) = (ts.xs.length : Int) - 1 := by simp only [List.length_drop, List.length_take]; omega
      rw [hl, show ((ts.xs.length : Int) - 1 - 0).toNat = ts.xs.length - 1 by omega]
      refine ned (by simp only [Bool.and_eq_true, decide_eq_true_eq]; omega) ⟨⟨by omega, by omega, by omega, k.2.2.2.1, hm.2⟩, ?_⟩
      rw [Sp.readyP, e, if_pos rfl] at h
      exact h
theorem okPower : PureOk Try.prog 49 ats_Power [(false, [.int .i64])] pre_Power res_Power :=
  ok_Power fun W n hp Q h => by
    obtain ⟨h0, h1⟩ := hp
    unfold VC_Power
    simp only [res_Power] at h
    rw [Int.sub_zero, Int.one_mul]
    have := pow_le6 (n := n.toNat) (by omega)
    exact ⟨⟨by omega, by omega, by omega, by omega, this⟩, h⟩
theorem okends : PureOk Try.prog 83 ats_ends [(false, [.row 3 [.int .i64]])] pre_ends res_ends :=
  ok_ends fun W rg most hp Q h => by
    unfold VC_ends
    exact ⟨⟨by omega, by omega, hp, rfl⟩, h⟩
theorem oktested : PureOk Try.prog 82 ats_tested [(false, [.int .i64])] pre_tested res_tested :=
  ok_tested fun W sk is ts al rg w hp Q h => by
    unfold VC_tested
    simp only [res_tested] at h
    refine ⟨hp, vifd (fun e1 => ⟨trivial, vifd (fun e2 => ⟨trivial, vifd (fun e3 => ⟨trivial, vifb (fun e4 => ?_) fun e4 => ?_⟩) fun e3 => ?_⟩) fun e2 => vifd (fun e => absurd e e2) fun _ => ?_⟩) fun e1 => vifd (fun e => absurd e e1) fun _ => vifd (fun e => absurd e e1) fun _ => ?_⟩
    · have es : Sp.strE sk.xs is.xs ts.xs al = 0 := by rw [Sp.strE, if_pos e1]; exact e2
      rw [Sp.readyE, if_pos es, if_pos e3, if_neg (show ¬ Sp.inr w 0 1000 = true by rw [e4]; decide)] at h; exact h
    · have es : Sp.strE sk.xs is.xs ts.xs al = 0 := by rw [Sp.strE, if_pos e1]; exact e2
      rw [Sp.readyE, if_pos es, if_pos e3, if_pos e4] at h; rw [e3]; exact h
    · have es : Sp.strE sk.xs is.xs ts.xs al = 0 := by rw [Sp.strE, if_pos e1]; exact e2
      rw [Sp.readyE, if_pos es, if_neg e3] at h; exact h
    · have es : Sp.strE sk.xs is.xs ts.xs al = Sp.testE sk.xs.length ts.xs al := by rw [Sp.strE, if_pos e1]
      rw [Sp.readyE, if_neg (by rw [es]; exact e2), es] at h; exact h
    · have es : Sp.strE sk.xs is.xs ts.xs al = Sp.chkE sk.xs is.xs := by rw [Sp.strE, if_neg e1]
      rw [Sp.readyE, if_neg (by rw [es]; exact e1), es] at h; exact h
noncomputable def pc_ready : PC Try.prog := ⟨79, ats_ready, [(false, [.int .i64]), (false, [.int .i64])], fun _ => True, res_ready, okready⟩
noncomputable def pc_Power : PC Try.prog := ⟨49, ats_Power, [(false, [.int .i64])], pre_Power, res_Power, okPower⟩
noncomputable def pc_ends : PC Try.prog := ⟨83, ats_ends, [(false, [.row 3 [.int .i64]])], pre_ends, res_ends, okends⟩
noncomputable def pc_tested : PC Try.prog := ⟨82, ats_tested, [(false, [.int .i64])], pre_tested, res_tested, oktested⟩
noncomputable def To3 : Tab Try.prog := ⟨[pc_Power], [], []⟩
def VC_enough [W : InW] (t_Tasks : Ro [.int .i64, .int .i64]) (t_Allowed n w : Int) (Q : DS → Prop) : Prop :=
  Ar .i64 ((↑(t_Tasks.xs.length) : Int) - (1 : Int)) fun z => Pre ((0 : Int) ≤ z ∧ z ≤ (6 : Int)) (Ar .i64 (w * (1000 : Int) ^ z.toNat) fun z => Q [[Cl.b (decide (z ≤ n))]])
theorem vc_enough (W : InW) (t_Tasks t_Allowed n w Q) : bodyK (cxT Try.prog TT To3 1000 50) 1000 84 [.agg [.rs _ t_Tasks, .si .i64 t_Allowed], .si .i64 n, .si .i64 w] [] 0 (leafK [(false, [.bool])] Q) (fun _ _ _ _ => Stuck 421) = VC_enough t_Tasks t_Allowed n w Q := by kernel_rfl
abbrev ats_enough : List AT := [.agg [.sl [.int .i64, .int .i64], .int .i64], .one (.int .i64), .one (.int .i64)]
theorem ok_enough {pre : DS → Prop} {res : DS → DS} (hyp_ : ∀ (W : InW) (t_Tasks : Ro [.int .i64, .int .i64]) (t_Allowed : Int) (n : Int) (w : Int), pre [[.l t_Tasks.xs, .i t_Allowed], [.i n], [.i w]] → ∀ Q : DS → Prop, Q (res [[.l t_Tasks.xs, .i t_Allowed], [.i n], [.i w]]) → VC_enough t_Tasks t_Allowed n w Q) : PureOk Try.prog 84 ats_enough [(false, [.bool])] pre res :=
  PureOk.of' (fun W => @TT W) (fun W => @TT_ok W) mixed_ok To3 1000 50 fun W t_Tasks t_Allowed n w hp =>
    (vc_enough W t_Tasks t_Allowed n w (fun o => o = res [[.l t_Tasks.xs, .i t_Allowed], [.i n], [.i w]])).mpr (hyp_ W t_Tasks t_Allowed n w hp _ rfl)
abbrev pre_enough (ds : DS) : Prop := match ds with | [[.l ts, .i al], [.i n], [.i w]] => 1 ≤ ts.length ∧ ts.length ≤ 6 ∧ 0 ≤ w ∧ w ≤ 1000 | _ => False
abbrev res_enough (ds : DS) : DS := match ds with | [[.l ts, .i al], [.i n], [.i w]] => [[.b (decide (w * 1000 ^ (ts.length - 1) ≤ n))]] | _ => []
theorem okenough : PureOk Try.prog 84 ats_enough [(false, [.bool])] pre_enough res_enough :=
  ok_enough fun W ts al n w hp Q h => by
    obtain ⟨h1, h6, h0, h2⟩ := hp
    unfold VC_enough
    simp only [res_enough] at h
    have hb := pow_le (n := ts.xs.length - 1) (by omega)
    have hp := pow_pos (ts.xs.length - 1)
    have hm := ar_in (show 0 ≤ (1000 : Int) ^ (ts.xs.length - 1) by omega) hb h0 h2
    rw [Int.mul_comm] at hm
    refine ar64 (by omega) ⟨⟨by omega, by omega⟩, ?_⟩
    rw [show ((ts.xs.length : Int) - 1).toNat = ts.xs.length - 1 by omega]
    exact ar64 (by omega) h
noncomputable def pc_enough : PC Try.prog := ⟨84, ats_enough, [(false, [.bool])], pre_enough, res_enough, okenough⟩
noncomputable def To4 : Tab Try.prog := ⟨[pc_ready], [], [ceOf cc_chA okCchA, ceOf cc_chB okCchB, ceOf cc_chC okCchC]⟩
def VC_Ready [W : InW] (s_Skills : Ro [.str, .int .i64, .int .i64, .int .i64, .int .i64]) (s_Instrs : Ro [.str, .int .i64, .int .i64]) (t_Tasks : Ro [.int .i64, .int .i64]) (t_Allowed : Int) (rg : Ro [.int .i64, .int .i64]) (w : Int) (Q : DS → Prop) : Prop :=
  Pre True (Vif (!decide (Sp.readyE s_Skills.xs s_Instrs.xs t_Tasks.xs t_Allowed rg.xs w = (0 : Int))) (Q [[Cl.b false], [Cl.i (0 : Int)], [Cl.i (0 : Int)], [Cl.i (Sp.readyE s_Skills.xs s_Instrs.xs t_Tasks.xs t_Allowed rg.xs w)]]) (Pre (Sp.TsIn t_Tasks.xs (rg.xs.length) ∧ Sp.FIn (Sp.rLo rg.xs) ∧ (0 : Int) ≤ t_Allowed ∧ t_Allowed ≤ (↑(t_Tasks.xs.length) : Int)) (Pre (Sp.TsIn t_Tasks.xs (rg.xs.length) ∧ Sp.FIn (Sp.rHi rg.xs) ∧ (0 : Int) ≤ t_Allowed ∧ t_Allowed ≤ (↑(t_Tasks.xs.length) : Int)) (Q [[Cl.b (decide (Sp.readyP s_Skills.xs s_Instrs.xs t_Tasks.xs t_Allowed rg.xs w ≤ Sp.chance t_Tasks.xs t_Allowed (Sp.rLo rg.xs)))], [Cl.i (Sp.chance t_Tasks.xs t_Allowed (Sp.rLo rg.xs))], [Cl.i (Sp.chance t_Tasks.xs t_Allowed (Sp.rHi rg.xs))], [Cl.i (0 : Int)]]))))
theorem vc_Ready (W : InW) (s_Skills s_Instrs t_Tasks t_Allowed rg w Q) : bodyK (cxT Try.prog TT To4 1000 50) 1000 32 [.agg [.rs _ s_Skills, .rs _ s_Instrs], .agg [.rs _ t_Tasks, .si .i64 t_Allowed], .rs _ rg, .si .i64 w] [] 0 (leafK [(false, [.bool]), (false, [.int .i64]), (false, [.int .i64]), (false, [.int .i64])] Q) (fun _ _ _ _ => Stuck 421) = VC_Ready s_Skills s_Instrs t_Tasks t_Allowed rg w Q := by kernel_rfl
abbrev ats_Ready : List AT := [.agg [.sl [.str, .int .i64, .int .i64, .int .i64, .int .i64], .sl [.str, .int .i64, .int .i64]], .agg [.sl [.int .i64, .int .i64], .int .i64], .one (.sl [.int .i64, .int .i64]), .one (.int .i64)]
theorem ok_Ready {pre : DS → Prop} {res : DS → DS} (hyp_ : ∀ (W : InW) (s_Skills : Ro [.str, .int .i64, .int .i64, .int .i64, .int .i64]) (s_Instrs : Ro [.str, .int .i64, .int .i64]) (t_Tasks : Ro [.int .i64, .int .i64]) (t_Allowed : Int) (rg : Ro [.int .i64, .int .i64]) (w : Int), pre [[.l s_Skills.xs, .l s_Instrs.xs], [.l t_Tasks.xs, .i t_Allowed], [.l rg.xs], [.i w]] → ∀ Q : DS → Prop, Q (res [[.l s_Skills.xs, .l s_Instrs.xs], [.l t_Tasks.xs, .i t_Allowed], [.l rg.xs], [.i w]]) → VC_Ready s_Skills s_Instrs t_Tasks t_Allowed rg w Q) : PureOk Try.prog 32 ats_Ready [(false, [.bool]), (false, [.int .i64]), (false, [.int .i64]), (false, [.int .i64])] pre res :=
  PureOk.of' (fun W => @TT W) (fun W => @TT_ok W) mixed_ok To4 1000 50 fun W s_Skills s_Instrs t_Tasks t_Allowed rg w hp =>
    (vc_Ready W s_Skills s_Instrs t_Tasks t_Allowed rg w (fun o => o = res [[.l s_Skills.xs, .l s_Instrs.xs], [.l t_Tasks.xs, .i t_Allowed], [.l rg.xs], [.i w]])).mpr (hyp_ W s_Skills s_Instrs t_Tasks t_Allowed rg w hp _ rfl)
noncomputable def To5 : Tab Try.prog := ⟨[pc_tested, pc_ends, pc_passed, pc_enough], [], []⟩
def VC_rReady [W : InW] (s_Skills : Ro [.str, .int .i64, .int .i64, .int .i64, .int .i64]) (s_Instrs : Ro [.str, .int .i64, .int .i64]) (t_Tasks : Ro [.int .i64, .int .i64]) (t_Allowed : Int) (rg : Ro [.int .i64, .int .i64]) (w : Int) (Q : DS → Prop) : Prop :=
  Pre (Sp.NamesOk s_Skills.xs ∧ Sp.NamesOk s_Instrs.xs) (Vif (!decide (Sp.readyE s_Skills.xs s_Instrs.xs t_Tasks.xs t_Allowed rg.xs w = (0 : Int))) (Q [[Cl.b false], [Cl.i (0 : Int)], [Cl.i (0 : Int)], [Cl.i (Sp.readyE s_Skills.xs s_Instrs.xs t_Tasks.xs t_Allowed rg.xs w)]]) (Pre (rg.xs.length ≤ (1000 : Nat)) (Pre ((0 : Int) ≤ (0 : Int) ∧ (0 : Int) ≤ (↑(t_Tasks.xs.length) : Int) ∧ (↑(t_Tasks.xs.length) : Int) < (0 : Int) + (↑(7 : Nat) : Int) ∧ Sp.TsIn t_Tasks.xs (List.length (Sp.endsD false rg.xs)) ∧ Sp.FIn (Sp.fLv (Sp.endsD false rg.xs)) ∧ Sp.Small t_Allowed) (Pre (rg.xs.length ≤ (1000 : Nat)) (Pre ((0 : Int) ≤ (0 : Int) ∧ (0 : Int) ≤ (↑(t_Tasks.xs.length) : Int) ∧ (↑(t_Tasks.xs.length) : Int) < (0 : Int) + (↑(7 : Nat) : Int) ∧ Sp.TsIn t_Tasks.xs (List.length (Sp.endsD true rg.xs)) ∧ Sp.FIn (Sp.fLv (Sp.endsD true rg.xs)) ∧ Sp.Small t_Allowed) (Pre ((1 : Nat) ≤ t_Tasks.xs.length ∧ t_Tasks.xs.length ≤ (6 : Nat) ∧ (0 : Int) ≤ w ∧ w ≤ (1000 : Int)) (Q [[Cl.b (decide (w * (1000 : Int) ^ (t_Tasks.xs.length - (1 : Nat)) ≤ Sp.passL (Sp.pF t_Tasks.xs (Sp.fLv (Sp.endsD false rg.xs)) (Int.toNat (0 : Int)) (t_Tasks.xs.length - Int.toNat (0 : Int))) t_Allowed))], [Cl.i (Sp.passL (Sp.pF t_Tasks.xs (Sp.fLv (Sp.endsD false rg.xs)) (Int.toNat (0 : Int)) (t_Tasks.xs.length - Int.toNat (0 : Int))) t_Allowed)], [Cl.i (Sp.passL (Sp.pF t_Tasks.xs (Sp.fLv (Sp.endsD true rg.xs)) (Int.toNat (0 : Int)) (t_Tasks.xs.length - Int.toNat (0 : Int))) t_Allowed)], [Cl.i (0 : Int)]])))))))
theorem vc_rReady (W : InW) (s_Skills s_Instrs t_Tasks t_Allowed rg w Q) : bodyK (cxT Try.prog TT To5 1000 50) 1000 33 [.agg [.rs _ s_Skills, .rs _ s_Instrs], .agg [.rs _ t_Tasks, .si .i64 t_Allowed], .rs _ rg, .si .i64 w] [] 0 (leafK [(false, [.bool]), (false, [.int .i64]), (false, [.int .i64]), (false, [.int .i64])] Q) (fun _ _ _ _ => Stuck 421) = VC_rReady s_Skills s_Instrs t_Tasks t_Allowed rg w Q := by kernel_rfl
abbrev ats_rReady : List AT := [.agg [.sl [.str, .int .i64, .int .i64, .int .i64, .int .i64], .sl [.str, .int .i64, .int .i64]], .agg [.sl [.int .i64, .int .i64], .int .i64], .one (.sl [.int .i64, .int .i64]), .one (.int .i64)]
theorem ok_rReady {pre : DS → Prop} {res : DS → DS} (hyp_ : ∀ (W : InW) (s_Skills : Ro [.str, .int .i64, .int .i64, .int .i64, .int .i64]) (s_Instrs : Ro [.str, .int .i64, .int .i64]) (t_Tasks : Ro [.int .i64, .int .i64]) (t_Allowed : Int) (rg : Ro [.int .i64, .int .i64]) (w : Int), pre [[.l s_Skills.xs, .l s_Instrs.xs], [.l t_Tasks.xs, .i t_Allowed], [.l rg.xs], [.i w]] → ∀ Q : DS → Prop, Q (res [[.l s_Skills.xs, .l s_Instrs.xs], [.l t_Tasks.xs, .i t_Allowed], [.l rg.xs], [.i w]]) → VC_rReady s_Skills s_Instrs t_Tasks t_Allowed rg w Q) : PureOk Try.prog 33 ats_rReady [(false, [.bool]), (false, [.int .i64]), (false, [.int .i64]), (false, [.int .i64])] pre res :=
  PureOk.of' (fun W => @TT W) (fun W => @TT_ok W) mixed_ok To5 1000 50 fun W s_Skills s_Instrs t_Tasks t_Allowed rg w hp =>
    (vc_rReady W s_Skills s_Instrs t_Tasks t_Allowed rg w (fun o => o = res [[.l s_Skills.xs, .l s_Instrs.xs], [.l t_Tasks.xs, .i t_Allowed], [.l rg.xs], [.i w]])).mpr (hyp_ W s_Skills s_Instrs t_Tasks t_Allowed rg w hp _ rfl)
abbrev resR (ds : DS) : DS := match ds with
  | [[.l sk, .l is], [.l ts, .i al], [.l rg], [.i w]] => [[.b (Sp.isRdy sk is ts al rg w)], [.i (Sp.least sk is ts al rg w)], [.i (Sp.most sk is ts al rg w)], [.i (Sp.readyE sk is ts al rg w)]]
  | _ => []
theorem ends_at {m : Bool} {rg : Dt} (k : Nat) : Sp.fLv (Sp.endsD m rg) k = if m then Sp.rHi rg k else Sp.rLo rg k := by
  unfold Sp.fLv Sp.rHi Sp.rLo Sp.endsD cel
  by_cases h : k < rg.length
  · simp [List.getD_eq_getElem?_getD, List.getElem?_eq_getElem h, Cl.int]
  · simp [List.getD_eq_getElem?_getD, List.getElem?_eq_none (Nat.le_of_not_lt h), Cl.int]
theorem ends_lo (rg : Dt) : Sp.fLv (Sp.endsD false rg) = Sp.rLo rg := funext fun k => by rw [ends_at]; rfl
theorem ends_hi (rg : Dt) : Sp.fLv (Sp.endsD true rg) = Sp.rHi rg := funext fun k => by rw [ends_at]; rfl
theorem okReady : PureOk Try.prog 32 ats_Ready [(false, [.bool]), (false, [.int .i64]), (false, [.int .i64]), (false, [.int .i64])] (fun _ => True) resR :=
  ok_Ready fun W sk is ts al rg w _ Q h => by
    unfold VC_Ready
    simp only [resR, Sp.isRdy, Sp.least, Sp.most] at h
    refine ⟨trivial, vifn (fun e => ?_) fun e => ?_⟩
    · rw [if_neg e, if_neg e, if_neg e] at h; exact h
    · have k := readyE_iff.1 e
      have a0 := k.1.a0
      have a1 := k.1.a1
      refine ⟨⟨TsIn.eq k.1.tin k.2.1, fin_lo k.2.2.1, a0, by omega⟩, ⟨TsIn.eq k.1.tin k.2.1, fin_hi k.2.2.1, a0, by omega⟩, ?_⟩
      rw [if_pos e, if_pos e, if_pos e, e] at h
      exact h
theorem ok_rRdy : PureOk Try.prog 33 ats_rReady [(false, [.bool]), (false, [.int .i64]), (false, [.int .i64]), (false, [.int .i64])] pre_tested resR :=
  ok_rReady fun W sk is ts al rg w hp Q h => by
    unfold VC_rReady
    simp only [resR, Sp.isRdy, Sp.least, Sp.most] at h
    refine ⟨hp, vifn (fun e => ?_) fun e => ?_⟩
    · rw [if_neg e, if_neg e, if_neg e] at h; exact h
    · have k := readyE_iff.1 e
      have a0 := k.1.a0
      have a1 := k.1.a1
      have n5 := k.1.sch.n5
      have l6 := k.1.tin.l6
      have hl := k.2.1
      have t1 := k.1.t1
      rw [if_pos e, if_pos e, if_pos e, e, Sp.readyP, if_pos e, chance_pF, chance_pF] at h
      rw [ends_len, ends_len, ends_lo, ends_hi]
      exact ⟨by omega, ⟨by omega, by omega, by omega, TsIn.eq k.1.tin k.2.1, fin_lo k.2.2.1, by unfold Sp.Small; omega⟩, by omega, ⟨by omega, by omega, by omega, TsIn.eq k.1.tin k.2.1, fin_hi k.2.2.1, by unfold Sp.Small; omega⟩, ⟨t1, l6, k.2.2.2.1, k.2.2.2.2⟩, h⟩
noncomputable def pc_Ready : PC Try.prog := ⟨32, ats_Ready, [(false, [.bool]), (false, [.int .i64]), (false, [.int .i64]), (false, [.int .i64])], fun _ => True, resR, okReady⟩
noncomputable def pc_rReady : PC Try.prog := ⟨33, ats_rReady, [(false, [.bool]), (false, [.int .i64]), (false, [.int .i64]), (false, [.int .i64])], pre_tested, resR, ok_rRdy⟩
end Go.Proofs.Ytdokbocmgdhmmaa
namespace Go.Proofs.Ytdokbocmgdhmmaa
open Go.RowKit
set_option linter.unusedVariables false
set_option maxRecDepth 100000
set_option maxHeartbeats 1600000
noncomputable def TK5 : Tab Try.prog := ⟨[pc_Chance, pc_rChance, pc_Ready, pc_rReady, pc_Awake], [], []⟩
def VC_lawTests [W : InW] (s_Skills : Ro [.str, .int .i64, .int .i64, .int .i64, .int .i64]) (s_Instrs : Ro [.str, .int .i64, .int .i64]) (t_Tasks : Ro [.int .i64, .int .i64]) (t_Allowed : Int) (x_rg : Ro [.int .i64, .int .i64]) (x_lv : Ro [.int .i64]) (x_w : Int) (Q : DS → Prop) : Prop :=
  Pre True (Pre (Sp.NamesOk s_Skills.xs ∧ Sp.NamesOk s_Instrs.xs) (Vif (!decide (Sp.chanceN s_Skills.xs s_Instrs.xs t_Tasks.xs t_Allowed x_lv.xs = Sp.chanceN s_Skills.xs s_Instrs.xs t_Tasks.xs t_Allowed x_lv.xs)) (Q [[Cl.b false]]) (Vif (!decide (Sp.chanceE s_Skills.xs s_Instrs.xs t_Tasks.xs t_Allowed x_lv.xs = Sp.chanceE s_Skills.xs s_Instrs.xs t_Tasks.xs t_Allowed x_lv.xs)) (Q [[Cl.b false]]) (Pre True (Pre (Sp.NamesOk s_Skills.xs ∧ Sp.NamesOk s_Instrs.xs) (Vif (Sp.isRdy s_Skills.xs s_Instrs.xs t_Tasks.xs t_Allowed x_rg.xs x_w == Sp.isRdy s_Skills.xs s_Instrs.xs t_Tasks.xs t_Allowed x_rg.xs x_w) (Vif (decide (Sp.least s_Skills.xs s_Instrs.xs t_Tasks.xs t_Allowed x_rg.xs x_w = Sp.least s_Skills.xs s_Instrs.xs t_Tasks.xs t_Allowed x_rg.xs x_w)) (Vif (decide (Sp.most s_Skills.xs s_Instrs.xs t_Tasks.xs t_Allowed x_rg.xs x_w = Sp.most s_Skills.xs s_Instrs.xs t_Tasks.xs t_Allowed x_rg.xs x_w)) (Vif (decide (Sp.readyE s_Skills.xs s_Instrs.xs t_Tasks.xs t_Allowed x_rg.xs x_w = Sp.readyE s_Skills.xs s_Instrs.xs t_Tasks.xs t_Allowed x_rg.xs x_w)) (Pre True (Q [[Cl.b true]])) (Q [[Cl.b false]])) (Q [[Cl.b false]])) (Q [[Cl.b false]])) (Q [[Cl.b false]])))))))
theorem vc_lawTests (W : InW) (s_Skills s_Instrs t_Tasks t_Allowed x_rg x_lv x_w Q) : bodyK (cxT Try.prog TT TK5 1000 50) 1000 5 [.agg [.rs _ s_Skills, .rs _ s_Instrs], .agg [.rs _ t_Tasks, .si .i64 t_Allowed], .agg [.rs _ x_rg, .rs _ x_lv, .si .i64 x_w]] [] 0 (leafK [(false, [.bool])] Q) (fun _ _ _ _ => Stuck 421) = VC_lawTests s_Skills s_Instrs t_Tasks t_Allowed x_rg x_lv x_w Q := by kernel_rfl
abbrev ats_lawTests : List AT := [.agg [.sl [.str, .int .i64, .int .i64, .int .i64, .int .i64], .sl [.str, .int .i64, .int .i64]], .agg [.sl [.int .i64, .int .i64], .int .i64], .agg [.sl [.int .i64, .int .i64], .sl [.int .i64], .int .i64]]
theorem ok_lawTests {pre : DS → Prop} {res : DS → DS} (hyp_ : ∀ (W : InW) (s_Skills : Ro [.str, .int .i64, .int .i64, .int .i64, .int .i64]) (s_Instrs : Ro [.str, .int .i64, .int .i64]) (t_Tasks : Ro [.int .i64, .int .i64]) (t_Allowed : Int) (x_rg : Ro [.int .i64, .int .i64]) (x_lv : Ro [.int .i64]) (x_w : Int), pre [[.l s_Skills.xs, .l s_Instrs.xs], [.l t_Tasks.xs, .i t_Allowed], [.l x_rg.xs, .l x_lv.xs, .i x_w]] → ∀ Q : DS → Prop, Q (res [[.l s_Skills.xs, .l s_Instrs.xs], [.l t_Tasks.xs, .i t_Allowed], [.l x_rg.xs, .l x_lv.xs, .i x_w]]) → VC_lawTests s_Skills s_Instrs t_Tasks t_Allowed x_rg x_lv x_w Q) : PureOk Try.prog 5 ats_lawTests [(false, [.bool])] pre res :=
  PureOk.of' (fun W => @TT W) (fun W => @TT_ok W) mixed_ok TK5 1000 50 fun W s_Skills s_Instrs t_Tasks t_Allowed x_rg x_lv x_w hp =>
    (vc_lawTests W s_Skills s_Instrs t_Tasks t_Allowed x_rg x_lv x_w (fun o => o = res [[.l s_Skills.xs, .l s_Instrs.xs], [.l t_Tasks.xs, .i t_Allowed], [.l x_rg.xs, .l x_lv.xs, .i x_w]])).mpr (hyp_ W s_Skills s_Instrs t_Tasks t_Allowed x_rg x_lv x_w hp _ rfl)
theorem tests_pure : PureOk Try.prog 5 ats_lawTests [(false, [.bool])] (WfD ats_lawTests) fun _ => [[.b true]] :=
  ok_lawTests fun W sk is ts al rg lv w hp Q h => by
    obtain ⟨hp1, _⟩ := hp.head
    have hn := school_names hp1
    unfold VC_lawTests
    simp [Vif_iff, Pre_iff, hn, h]
end Go.Proofs.Ytdokbocmgdhmmaa
namespace Go.Proofs.Ytdokbocmgdhmmaa
open Go.RowKit
set_option linter.unusedVariables false
theorem need_not [InW] {p : Prop} {_ : Decidable p} {A : Prop} (h : ¬ p) (h2 : A) : Need (!decide p) A := ⟨by simp [h], h2⟩
theorem need_in [InW] {p q : Prop} {_ : Decidable p} {_ : Decidable q} {A : Prop} (h : p ∧ q) (h2 : A) : Need (decide p && decide q) A := ⟨by simp [h.1, h.2], h2⟩
theorem pass_up {l : List Int} (h : Sp.Probs l) (a : Int) : Sp.passL l a ≤ Sp.passL l (a + 1) := by
  induction l generalizing a with
  | nil => unfold Sp.passL; split <;> split <;> omega
  | cons p l ih =>
    have hp := h p (by simp)
    have hl : Sp.Probs l := fun q hq => h q (by simp [hq])
    by_cases h0 : a < 0
    · rw [passL_neg h0]; exact (passL_in h _).1
    · unfold Sp.passL
      rw [if_neg h0, if_neg (by omega)]
      have i1 := ih hl a
      have i2 := ih hl (a - 1)
      rw [show a - 1 + 1 = a + 1 - 1 by omega] at i2
      have m1 := Int.mul_le_mul_of_nonneg_left i1 hp.1
      have m2 := Int.mul_le_mul_of_nonneg_left i2 (show 0 ≤ 1000 - p by omega)
      omega
theorem pass_up' {l : List Int} (h : Sp.Probs l) (a : Int) : ∀ n : Nat, Sp.passL l a ≤ Sp.passL l (a + n)
  | 0 => by simp
  | n + 1 => by
    have h1 := pass_up' h a n
    have h2 := pass_up h (a + n)
    rw [show a + ((n + 1 : Nat) : Int) = a + n + 1 by omega]
    omega
theorem pass_ups {l : List Int} (h : Sp.Probs l) {a b : Int} (hab : a ≤ b) : Sp.passL l a ≤ Sp.passL l b := by
  have := pass_up' h a (b - a).toNat
  rwa [show a + ((b - a).toNat : Int) = b by omega] at this
theorem mix_le {p q x y x' y' : Int} (p0 : 0 ≤ p) (pq : p ≤ q) (q1 : q ≤ 1000) (hx : x ≤ x') (hy : y ≤ y') (h : y' ≤ x') : p * x + (1000 - p) * y ≤ q * x' + (1000 - q) * y' := by
  have a := Int.mul_le_mul_of_nonneg_left hx p0
  have b := Int.mul_le_mul_of_nonneg_left hy (show 0 ≤ 1000 - p by omega)
  have c := Int.mul_le_mul_of_nonneg_left h (show 0 ≤ q - p by omega)
  have d1 : (1000 - p) * y' = 1000 * y' - p * y' := Int.sub_mul ..
  have d2 : (1000 - q) * y' = 1000 * y' - q * y' := Int.sub_mul ..
  have d3 : (q - p) * y' = q * y' - p * y' := Int.sub_mul ..
  have d4 : (q - p) * x' = q * x' - p * x' := Int.sub_mul ..
  omega
theorem pass_le {ts ts2 : Dt} {f f2 : Nat → Int} : ∀ (n i : Nat) (a : Int), (∀ j, i ≤ j → j < i + n → Sp.prob ts f j ≤ Sp.prob ts2 f2 j) → Sp.passL (Sp.pF ts f i n) a ≤ Sp.passL (Sp.pF ts2 f2 i n) a
  | 0, i, a, _ => Int.le_refl _
  | n + 1, i, a, h => by
    by_cases h0 : a < 0
    · rw [passL_neg h0, passL_neg h0]; exact Int.le_refl _
    · unfold Sp.pF Sp.passL
      rw [if_neg h0, if_neg h0]
      have i1 := pass_le n (i + 1) a fun j h1 h2 => h j (by omega) (by omega)
      have i2 := pass_le n (i + 1) (a - 1) fun j h1 h2 => h j (by omega) (by omega)
      exact mix_le (lev_in _).1 (h i (by omega) (by omega)) (lev_in _).2 i1 i2 (pass_ups (pF_in ts2 f2 n (i + 1)) (by omega))
theorem chance_le {ts ts2 : Dt} {f f2 : Nat → Int} (al : Int) (hl : ts2.length = ts.length) (h : ∀ j, j < ts.length → Sp.prob ts f j ≤ Sp.prob ts2 f2 j) : Sp.chance ts al f ≤ Sp.chance ts2 al f2 := by
  rw [chance_pF, chance_pF, hl]
  exact pass_le _ _ _ fun j _ hj => h j (by omega)
theorem chance_up {ts : Dt} {f : Nat → Int} {a b : Int} (h : a ≤ b) : Sp.chance ts a f ≤ Sp.chance ts b f := pass_ups (done_in ts f _) h
theorem chance_at {ts : Dt} {f g : Nat → Int} {al : Int} {n : Nat} (hT : Sp.TsIn ts n) (h : ∀ k, k < n → f k ≤ g k) : Sp.chance ts al f ≤ Sp.chance ts al g :=
  chance_le al rfl fun j hj => by
    have := hT.sk j hj
    have := h (Sp.tSk ts j).toNat (by omega)
    unfold Sp.prob Sp.lev
    omega
theorem chanceN_of {sk is ts lv : Dt} {al : Int} (h : Sp.StrOk sk is ts al) (h2 : lv.length = sk.length) (h3 : Sp.LvOk lv) : Sp.chanceE sk is ts al lv = 0 ∧ Sp.chanceN sk is ts al lv = Sp.chance ts al (Sp.fLv lv) := by
  have e := chanceE_iff.2 ⟨h, h2, h3⟩
  exact ⟨e, by rw [Sp.chanceN, if_pos e]⟩
theorem fLv_set {lv : Dt} {k : Nat} {n : Int} (h : k < lv.length) (j : Nat) : Sp.fLv (lv.set k [.i n]) j = if k = j then n else Sp.fLv lv j := by
  unfold Sp.fLv
  rw [cel_set]
  by_cases e : k = j
  · rw [if_pos ⟨e, h⟩, if_pos e]; rfl
  · rw [if_neg (fun x => e x.1), if_neg e]
theorem tSk_set {ts : Dt} {k : Nat} {n : Int} (h : k < ts.length) (j : Nat) : Sp.tSk (ts.set k (setCls (ts.getD k []) 1 [.i n])) j = Sp.tSk ts j := by
  unfold Sp.tSk
  rw [cel_setCls h, if_neg (by omega)]
theorem tLv_set {ts : Dt} {k : Nat} {n : Int} (h : k < ts.length) (j : Nat) : Sp.tLv (ts.set k (setCls (ts.getD k []) 1 [.i n])) j = if k = j then n else Sp.tLv ts j := by
  unfold Sp.tLv
  rw [cel_setCls h]
  by_cases e : k = j
  · rw [if_pos ⟨e, by omega, by simp⟩, if_pos e]; rfl
  · rw [if_neg (fun x => e x.1), if_neg e]
theorem easier_law {sk is ts lv : Dt} {al : Int} (h : Sp.chanceE sk is ts al lv = 0) {k i : Nat} {by' more : Int} (hk : k < lv.length) (hi : i < ts.length) (b0 : 0 ≤ by') (m0 : 0 ≤ more) :
    (Sp.chanceE sk is ts al (lv.set k [.i (min 1000 ((cel lv k 0).int + by'))]) = 0 ∧ Sp.chanceE sk is (ts.set i (setCls (ts.getD i []) 1 [.i (min 1000 ((cel ts i 1).int + by'))])) al lv = 0 ∧ Sp.chanceE sk is ts (min ((ts.length : Int) - 1) (al + more)) lv = 0) ∧
    Sp.chanceN sk is ts al lv ≤ Sp.chanceN sk is ts al (lv.set k [.i (min 1000 ((cel lv k 0).int + by'))]) ∧
    Sp.chanceN sk is (ts.set i (setCls (ts.getD i []) 1 [.i (min 1000 ((cel ts i 1).int + by'))])) al lv ≤ Sp.chanceN sk is ts al lv ∧
    Sp.chanceN sk is ts al lv ≤ Sp.chanceN sk is ts (min ((ts.length : Int) - 1) (al + more)) lv := by
  obtain ⟨hS, hl, hL⟩ := chanceE_iff.1 h
  have a0 := hS.a0
  have a1 := hS.a1
  have h0 := (chanceN_of hS hl hL).2
  have hk1 : 0 ≤ (cel lv k 0).int ∧ (cel lv k 0).int ≤ 1000 := hL k hk
  have hi1 : 0 ≤ (cel ts i 1).int ∧ (cel ts i 1).int ≤ 1000 := hS.tin.lv i hi
  have c1 := chanceN_of (lv := lv.set k [.i (min 1000 ((cel lv k 0).int + by'))]) hS (by simpa using hl) fun j hj => by
    rw [fLv_set hk]
    have := hL j (by simpa using hj)
    split <;> omega
  have c2 := chanceN_of (ts := ts.set i (setCls (ts.getD i []) 1 [.i (min 1000 ((cel ts i 1).int + by'))])) (lv := lv) (al := al) ⟨hS.sch, by simpa using hS.t1, ⟨by simpa using hS.tin.l6, fun j hj => by rw [tSk_set hi]; exact hS.tin.sk j (by simpa using hj), fun j hj => by
    rw [tLv_set hi]
    have := hS.tin.lv j (by simpa using hj)
    split <;> omega⟩, a0, by simpa using a1⟩ hl hL
  have c3 := chanceN_of (al := min ((ts.length : Int) - 1) (al + more)) ⟨hS.sch, hS.t1, hS.tin, by omega, by omega⟩ hl hL
  refine ⟨⟨c1.1, c2.1, c3.1⟩, ?_, ?_, ?_⟩
  · rw [h0, c1.2]
    exact chance_at hS.tin fun j hj => by
      rw [fLv_set hk]
      split
      · rename_i e; subst e; unfold Sp.fLv; omega
      · exact Int.le_refl _
  · rw [h0, c2.2]
    exact chance_le al (by simp) fun j hj => by
      have hq : Sp.tLv ts j ≤ Sp.tLv (ts.set i (setCls (ts.getD i []) 1 [.i (min 1000 ((cel ts i 1).int + by'))])) j := by
        rw [tLv_set hi]
        split
        · rename_i e; subst e; unfold Sp.tLv; omega
        · exact Int.le_refl _
      unfold Sp.prob Sp.lev
      rw [tSk_set hi]
      omega
  · rw [h0, c3.2]
    exact chance_up (by omega)
end Go.Proofs.Ytdokbocmgdhmmaa
namespace Go.Proofs.Ytdokbocmgdhmmaa
open Go.RowKit
set_option linter.unusedVariables false
set_option maxRecDepth 100000
set_option maxHeartbeats 1600000
namespace Sp
def trn (l : Dt) (n : Int) : Int := if l.length = 0 then 0 else (cel l (n.tmod l.length).toNat 0).int
def amg (lo hi n : Int) : Int := lo + n.tmod (hi - lo + 1)
def U16 (l : Dt) : Prop := ∀ i, 0 ≤ (cel l i 0).int ∧ (cel l i 0).int ≤ 65535
end Sp
noncomputable def TB13 : Tab Try.prog := ⟨[], [], []⟩
def VC_turn [W : InW] (l : Ro [.int .u16]) (n : Int) (Q : DS → Prop) : Prop :=
  Vif (decide ((↑(l.xs.length) : Int) = (0 : Int))) (Q [[Cl.i (0 : Int)]]) (Need (!decide ((↑(l.xs.length) : Int) = (0 : Int))) (Need (decide ((0 : Int) ≤ n.tmod (↑(l.xs.length) : Int)) && decide (n.tmod (↑(l.xs.length) : Int) < (↑(l.xs.length) : Int))) (Need (decide ((n.tmod (↑(l.xs.length) : Int)).toNat < l.xs.length)) (Ar .i64 (cel l.xs (n.tmod (↑(l.xs.length) : Int)).toNat (0 : Nat)).int fun z => Q [[Cl.i z]]))))
theorem vc_turn (W : InW) (l n Q) : bodyK (cxT Try.prog TT TB13 1000 50) 1000 48 [.rs _ l, .si .i64 n] [] 0 (leafK [(false, [.int .i64])] Q) (fun _ _ _ _ => Stuck 421) = VC_turn l n Q := by kernel_rfl
abbrev ats_turn : List AT := [.one (.sl [.int .u16]), .one (.int .i64)]
theorem ok_turn {pre : DS → Prop} {res : DS → DS} (hyp_ : ∀ (W : InW) (l : Ro [.int .u16]) (n : Int), pre [[.l l.xs], [.i n]] → ∀ Q : DS → Prop, Q (res [[.l l.xs], [.i n]]) → VC_turn l n Q) : PureOk Try.prog 48 ats_turn [(false, [.int .i64])] pre res :=
  PureOk.of' (fun W => @TT W) (fun W => @TT_ok W) mixed_ok TB13 1000 50 fun W l n hp =>
    (vc_turn W l n (fun o => o = res [[.l l.xs], [.i n]])).mpr (hyp_ W l n hp _ rfl)
def VC_among [W : InW] (s_Lo s_Hi n : Int) (Q : DS → Prop) : Prop :=
  Ar .i64 (s_Hi - s_Lo) fun z => Ar .i64 (z + (1 : Int)) fun z => Need (!decide (z = (0 : Int))) (Ar .i64 (s_Lo + n.tmod z) fun z => Q [[Cl.i z]])
theorem vc_among (W : InW) (s_Lo s_Hi n Q) : bodyK (cxT Try.prog TT TB13 1000 50) 1000 47 [.agg [.si .i64 s_Lo, .si .i64 s_Hi], .si .i64 n] [] 0 (leafK [(false, [.int .i64])] Q) (fun _ _ _ _ => Stuck 421) = VC_among s_Lo s_Hi n Q := by kernel_rfl
abbrev ats_among : List AT := [.agg [.int .i64, .int .i64], .one (.int .i64)]
theorem ok_among {pre : DS → Prop} {res : DS → DS} (hyp_ : ∀ (W : InW) (s_Lo : Int) (s_Hi : Int) (n : Int), pre [[.i s_Lo, .i s_Hi], [.i n]] → ∀ Q : DS → Prop, Q (res [[.i s_Lo, .i s_Hi], [.i n]]) → VC_among s_Lo s_Hi n Q) : PureOk Try.prog 47 ats_among [(false, [.int .i64])] pre res :=
  PureOk.of' (fun W => @TT W) (fun W => @TT_ok W) mixed_ok TB13 1000 50 fun W s_Lo s_Hi n hp =>
    (vc_among W s_Lo s_Hi n (fun o => o = res [[.i s_Lo, .i s_Hi], [.i n]])).mpr (hyp_ W s_Lo s_Hi n hp _ rfl)
abbrev pre_turn (ds : DS) : Prop := match ds with | [[.l l], [.i n]] => 0 ≤ n ∧ n ≤ 1000000000 ∧ Sp.U16 l | _ => False
abbrev res_turn (ds : DS) : DS := match ds with | [[.l l], [.i n]] => [[.i (Sp.trn l n)]] | _ => []
abbrev pre_among (ds : DS) : Prop := match ds with | [[.i lo, .i hi], [.i n]] => -1000000 ≤ lo ∧ lo ≤ hi ∧ hi ≤ 1000000 ∧ 0 ≤ n ∧ n ≤ 1000000000 | _ => False
abbrev res_among (ds : DS) : DS := match ds with | [[.i lo, .i hi], [.i n]] => [[.i (Sp.amg lo hi n)]] | _ => []
theorem okturn : PureOk Try.prog 48 ats_turn [(false, [.int .i64])] pre_turn res_turn :=
  ok_turn fun W l n hp Q h => by
    obtain ⟨h0, h1, hu⟩ := hp
    unfold VC_turn
    simp only [res_turn, Sp.trn] at h
    refine vifd (fun e => ?_) fun e => ?_
    · rw [if_pos (by omega)] at h; exact h
    · rw [if_neg (by omega)] at h
      have ti := tm_in h0 (show (0 : Int) < l.xs.length by omega)
      have := hu (n.tmod l.xs.length).toNat
      exact need_not (by omega) (need_in (by omega) (nedd (by omega) (ar64 (by omega) h)))
theorem okamong : PureOk Try.prog 47 ats_among [(false, [.int .i64])] pre_among res_among :=
  ok_among fun W lo hi n hp Q h => by
    obtain ⟨h0, h1, h2, h3, h4⟩ := hp
    unfold VC_among
    have ti := tm_in h3 (show (0 : Int) < hi - lo + 1 by omega)
    exact ar64 (by omega) (ar64 (by omega) (need_not (by omega) (ar64 (by omega) h)))
theorem trn_in {l : Dt} (h : Sp.U16 l) (n : Int) : 0 ≤ Sp.trn l n ∧ Sp.trn l n ≤ 65535 := by
  unfold Sp.trn
  split
  · omega
  · exact h _
theorem amg_in {lo hi n : Int} (h : lo ≤ hi) (hn : 0 ≤ n) : lo ≤ Sp.amg lo hi n ∧ Sp.amg lo hi n ≤ hi := by
  have ti := tm_in hn (show (0 : Int) < hi - lo + 1 by omega)
  unfold Sp.amg
  omega
theorem u16_of {l : Dt} (h : WfC (.sl [.int .u16]) (.l l)) : Sp.U16 l := fun i => by
  by_cases hi : i < l.length
  · have g := h.cell (k := 0) hi rfl
    generalize cel l i 0 = c at g ⊢
    cases g with
    | int _ m hm => simp [Lit.wf, IntKind.min, IntKind.max, IntKind.signed, IntKind.bits] at hm; simp only [Cl.int]; omega
  · rw [fin_z (by omega)]; omega
noncomputable def pc_turn : PC Try.prog := ⟨48, ats_turn, [(false, [.int .i64])], pre_turn, res_turn, okturn⟩
noncomputable def pc_among : PC Try.prog := ⟨47, ats_among, [(false, [.int .i64])], pre_among, res_among, okamong⟩
end Go.Proofs.Ytdokbocmgdhmmaa
