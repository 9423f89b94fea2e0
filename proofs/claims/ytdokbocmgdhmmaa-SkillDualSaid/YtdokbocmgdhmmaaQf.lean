/-
  A machine over abstract states, proved sound: the help of the proof of a law.
-/
import Derived.Test.YtdokbocmgdhmmaaQe
set_option linter.unusedVariables false
set_option linter.unusedSectionVars false
set_option linter.unusedSimpArgs false
namespace Go.Proofs.Ytdokbocmgdhmmaa
noncomputable def pc_Awake : PC Try.prog := ⟨24, [], [(false, [.bool])], fun _ => True, fun _ => [[.b true]], pure_of_closed ok_M1 rfl rfl rfl fun _ _ _ => rfl⟩
end Go.Proofs.Ytdokbocmgdhmmaa
namespace Go.Proofs.Ytdokbocmgdhmmaa
open Go.RowKit
set_option linter.unusedVariables false
set_option maxRecDepth 100000
noncomputable def TK3 : Tab Try.prog := ⟨[pc_bCheck, pc_Check, pc_Marks, pc_rMarks, pc_Behind, pc_rBehind, pc_Awake], [], []⟩
def VC_lawMarks [W : InW] (s_Skills : Ro [.str, .int .i64, .int .i64, .int .i64, .int .i64]) (s_Instrs : Ro [.str, .int .i64, .int .i64]) (x_i x_o x_n : Int) (Q : DS → Prop) : Prop :=
  Pre True (Pre (Sp.NamesOk s_Skills.xs ∧ Sp.NamesOk s_Instrs.xs) (Vif (!decide (Sp.chkP s_Skills.xs s_Instrs.xs = Sp.chkP s_Skills.xs s_Instrs.xs)) (Q [[Cl.b false]]) (Vif (!decide (Sp.chkI s_Skills.xs s_Instrs.xs = Sp.chkI s_Skills.xs s_Instrs.xs)) (Q [[Cl.b false]]) (Vif (!decide (Sp.chkE s_Skills.xs s_Instrs.xs = Sp.chkE s_Skills.xs s_Instrs.xs)) (Q [[Cl.b false]]) (Pre True (Pre (Sp.NamesOk s_Skills.xs ∧ Sp.NamesOk s_Instrs.xs) (Vif (!(decide (Sp.mkLo s_Skills.xs s_Instrs.xs x_i x_n = Sp.mkLo s_Skills.xs s_Instrs.xs x_i x_n) && (decide (Sp.mkHi s_Skills.xs s_Instrs.xs x_i x_n = Sp.mkHi s_Skills.xs s_Instrs.xs x_i x_n) && true))) (Q [[Cl.b false]]) (Vif (!decide (Sp.askE s_Skills.xs s_Instrs.xs x_i x_n = Sp.askE s_Skills.xs s_Instrs.xs x_i x_n)) (Q [[Cl.b false]]) (Pre True (Pre (Sp.NamesOk s_Skills.xs ∧ Sp.NamesOk s_Instrs.xs) (Vif (decide (Sp.bdLo s_Skills.xs s_Instrs.xs x_i x_n = Sp.bdLo s_Skills.xs s_Instrs.xs x_i x_n) && (decide (Sp.bdHi s_Skills.xs s_Instrs.xs x_i x_n = Sp.bdHi s_Skills.xs s_Instrs.xs x_i x_n) && true)) (Vif (decide (Sp.bdE s_Skills.xs s_Instrs.xs x_i x_n = Sp.bdE s_Skills.xs s_Instrs.xs x_i x_n)) (Pre True (Q [[Cl.b true]])) (Q [[Cl.b false]])) (Q [[Cl.b false]]))))))))))))
theorem vc_lawMarks (W : InW) (s_Skills s_Instrs x_i x_o x_n Q) : bodyK (cxT Try.prog TT TK3 1000 50) 1000 3 [.agg [.rs _ s_Skills, .rs _ s_Instrs], .agg [.si .i64 x_i, .si .i64 x_o, .si .i64 x_n]] [] 0 (leafK [(false, [.bool])] Q) (fun _ _ _ _ => Stuck 421) = VC_lawMarks s_Skills s_Instrs x_i x_o x_n Q := by kernel_rfl
abbrev ats_lawMarks : List AT := [.agg [.sl [.str, .int .i64, .int .i64, .int .i64, .int .i64], .sl [.str, .int .i64, .int .i64]], .agg [.int .i64, .int .i64, .int .i64]]
theorem ok_lawMarks {pre : DS → Prop} {res : DS → DS} (hyp_ : ∀ (W : InW) (s_Skills : Ro [.str, .int .i64, .int .i64, .int .i64, .int .i64]) (s_Instrs : Ro [.str, .int .i64, .int .i64]) (x_i : Int) (x_o : Int) (x_n : Int), pre [[.l s_Skills.xs, .l s_Instrs.xs], [.i x_i, .i x_o, .i x_n]] → ∀ Q : DS → Prop, Q (res [[.l s_Skills.xs, .l s_Instrs.xs], [.i x_i, .i x_o, .i x_n]]) → VC_lawMarks s_Skills s_Instrs x_i x_o x_n Q) : PureOk Try.prog 3 ats_lawMarks [(false, [.bool])] pre res :=
  PureOk.of' (fun W => @TT W) (fun W => @TT_ok W) mixed_ok TK3 1000 50 fun W s_Skills s_Instrs x_i x_o x_n hp =>
    (vc_lawMarks W s_Skills s_Instrs x_i x_o x_n (fun o => o = res [[.l s_Skills.xs, .l s_Instrs.xs], [.i x_i, .i x_o, .i x_n]])).mpr (hyp_ W s_Skills s_Instrs x_i x_o x_n hp _ rfl)
theorem WfC.str_le {c : Cl} (h : WfC .str c) : c.str.size ≤ maxLen := by cases h; assumption
theorem WfC.cell {ts : List Ty} {xs : Dt} (h : WfC (.sl ts) (.l xs)) {i k : Nat} {t : Ty} (hi : i < xs.length) (ht : ts[k]? = some t) : WfC t (cel xs i k) := by
  cases h with
  | sl _ _ _ _ h => exact h i k t hi ht
theorem names_ok {ts : List Ty} {xs : Dt} (h : WfC (.sl (.str :: ts)) (.l xs)) : Sp.NamesOk xs := fun i => by
  by_cases hi : i < xs.length
  · have := (h.cell hi (k := 0) rfl).str_le
    simp only [maxLen] at this
    show (cel xs i 0).str.size ≤ _
    omega
  · have : cel xs i 0 = .z := by simp [cel, List.getD_eq_getElem?_getD, List.getElem?_eq_none (Nat.le_of_not_lt hi)]
    show (cel xs i 0).str.size ≤ _
    rw [this]; decide
theorem school_names {sk is : Dt} (h : WfL [.sl [.str, .int .i64, .int .i64, .int .i64, .int .i64], .sl [.str, .int .i64, .int .i64]] [.l sk, .l is]) : Sp.NamesOk sk ∧ Sp.NamesOk is := by
  cases h with
  | cons h1 h =>
    cases h with
    | cons h2 h => exact ⟨names_ok h1, names_ok h2⟩
theorem marks_pure : PureOk Try.prog 3 ats_lawMarks [(false, [.bool])] (WfD ats_lawMarks) fun _ => [[.b true]] :=
  ok_lawMarks fun W sk is i o n hp Q h => by
    obtain ⟨d, ds, e1, hp1, _⟩ := hp
    cases e1
    have hn := school_names hp1
    unfold VC_lawMarks
    simp [Vif_iff, Pre_iff, hn, h]
end Go.Proofs.Ytdokbocmgdhmmaa
namespace Go.Proofs.Ytdokbocmgdhmmaa
open Go.RowKit
set_option linter.unusedVariables false
theorem setCls_getD : ∀ (k : Nat) (l cs : List Cl) (j : Nat), (setCls l k cs).getD j .z = if k ≤ j ∧ j < k + cs.length then cs.getD (j - k) .z else l.getD j .z
  | 0, l, cs, j => by
    simp only [setCls, Nat.zero_le, true_and, Nat.zero_add, Nat.sub_zero, List.getD_eq_getElem?_getD]
    by_cases h : j < cs.length
    · rw [if_pos h, List.getElem?_append_left h]
    · rw [if_neg h, List.getElem?_append_right (by omega), List.getElem?_drop, show cs.length + (j - cs.length) = j by omega]
  | k + 1, l, cs, 0 => by cases l <;> simp [setCls]
  | k + 1, l, cs, j + 1 => by
    have h := setCls_getD k l.tail cs j
    simp only [setCls, List.getD_cons_succ, h, Nat.add_sub_add_right]
    have e : l.tail.getD j .z = l.getD (j + 1) .z := by cases l <;> simp
    rw [e]
    by_cases c : k ≤ j ∧ j < k + cs.length
    · rw [if_pos c, if_pos (by omega)]
    · rw [if_neg c, if_neg (by omega)]
theorem cel_set (xs : Dt) (i j k : Nat) (r : List Cl) : cel (xs.set i r) j k = if i = j ∧ i < xs.length then r.getD k .z else cel xs j k := by
  unfold cel
  simp only [List.getD_eq_getElem?_getD, List.getElem?_set]
  by_cases h : i = j
  · subst h
    by_cases h2 : i < xs.length
    · simp [h2]
    · simp [h2, List.getElem?_eq_none (Nat.le_of_not_lt h2)]
  · simp [h]
theorem cel_setCls {xs : Dt} {i k : Nat} {cs : List Cl} (h : i < xs.length) (j m : Nat) : cel (xs.set i (setCls (xs.getD i []) k cs)) j m = if i = j ∧ k ≤ m ∧ m < k + cs.length then cs.getD (m - k) .z else cel xs j m := by
  rw [cel_set, setCls_getD]
  by_cases e : i = j
  · subst e
    by_cases c : k ≤ m ∧ m < k + cs.length
    · rw [if_pos ⟨rfl, h⟩, if_pos c, if_pos ⟨rfl, c⟩]
    · rw [if_pos ⟨rfl, h⟩, if_neg c, if_neg (fun x => c x.2)]; rfl
  · rw [if_neg (fun x => e x.1), if_neg (fun x => e x.1)]
theorem tm_in {n m : Int} (h : 0 ≤ n) (hm : 0 < m) : 0 ≤ n.tmod m ∧ n.tmod m < m := ⟨Int.tmod_nonneg _ h, Int.tmod_lt_of_pos _ hm⟩
theorem wf_u8 {n : Int} (h : WfC (.int .u8) (.i n)) : 0 ≤ n ∧ n ≤ 255 := by
  cases h with
  | int _ _ h => simp [Lit.wf, IntKind.min, IntKind.max, IntKind.signed, IntKind.bits] at h; omega
theorem wf_u16 {n : Int} (h : WfC (.int .u16) (.i n)) : 0 ≤ n ∧ n ≤ 65535 := by
  cases h with
  | int _ _ h => simp [Lit.wf, IntKind.min, IntKind.max, IntKind.signed, IntKind.bits] at h; omega
theorem WfL.head {t : Ty} {ts : List Ty} {c : Cl} {cs : List Cl} (h : WfL (t :: ts) (c :: cs)) : WfC t c ∧ WfL ts cs := by
  cases h with
  | cons h hs => exact ⟨h, hs⟩
theorem WfD.head {a : AT} {ats : List AT} {d : List Cl} {ds : DS} (h : WfD (a :: ats) (d :: ds)) : WfA a d ∧ WfD ats ds := by
  obtain ⟨d', ds', e, h1, h2⟩ := h
  cases e
  exact ⟨h1, h2⟩
theorem vifq [InW] {p q : Prop} {_ : Decidable p} {_ : Decidable q} {A B : Prop} (h : ¬ (p ↔ q) → A) (h2 : (p ↔ q) → B) : Vif (!(decide p == decide q)) A B :=
  ⟨fun e => h (by simpa using notT e), fun e => h2 (by simpa using notF e)⟩
theorem vifq0 [InW] {p : Prop} {_ : Decidable p} {A B : Prop} (h : p → A) (h2 : ¬ p → B) : Vif (!(decide p == false)) A B :=
  ⟨fun e => h (by simpa using e), fun e => h2 (by simpa using e)⟩
theorem vifq1 [InW] {p : Prop} {_ : Decidable p} {A B : Prop} (h : p → A) (h2 : ¬ p → B) : Vif (!(false == decide p)) A B :=
  ⟨fun e => h (by simpa using e), fun e => h2 (by simpa using e)⟩
end Go.Proofs.Ytdokbocmgdhmmaa
