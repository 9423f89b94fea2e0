/-
  A machine over abstract states, proved sound: the help of the proof of a law.
-/
import Derived.Test.YtdokbocmgdhmmaaQe
set_option linter.unusedVariables false
set_option linter.unusedSectionVars false
set_option linter.unusedSimpArgs false
namespace Go.Proofs.Ytdokbocmgdhmmaa
noncomputable def pc_Awake : PC Try.prog := ⟨24, [], [(false, [.bool])], fun _ => True, fun _ => [[.b true]], pure_of_closed ok_M1 rfl rfl rfl fun _ _ _ => rfl⟩
end Go.Proofs.Ytdokbocmgdhmmaa
namespace Go.Proofs.Ytdokbocmgdhmmaa
open Go.RowKit
set_option linter.unusedVariables false
set_option maxRecDepth 100000
theorem WfC.str_le {c : Cl} (h : WfC .str c) : c.str.size ≤ maxLen := by cases h; assumption
theorem WfC.cell {ts : List Ty} {xs : Dt} (h : WfC (.sl ts) (.l xs)) {i k : Nat} {t : Ty} (hi : i < xs.length) (ht : ts[k]? = some t) : WfC t (cel xs i k) := by
  cases h with
  | sl _ _ _ _ h => exact h i k t hi ht
theorem names_ok {ts : List Ty} {xs : Dt} (h : WfC (.sl (.str :: ts)) (.l xs)) : Sp.NamesOk xs := fun i => by
  by_cases hi : i < xs.length
  · have := (h.cell hi (k := 0) rfl).str_le
    simp only [maxLen] at this
    show (cel xs i 0).str.size ≤ _
    omega
  · have : cel xs i 0 = .z := by simp [cel, List.getD_eq_getElem?_getD, List.getElem?_eq_none (Nat.le_of_not_lt hi)]
    show (cel xs i 0).str.size ≤ _
    rw [this]; decide
theorem school_names {sk is : Dt} (h : WfL [.sl [.str, .int .i64, .int .i64, .int .i64, .int .i64], .sl [.str, .int .i64, .int .i64]] [.l sk, .l is]) : Sp.NamesOk sk ∧ Sp.NamesOk is := by
  cases h with
  | cons h1 h =>
    cases h with
    | cons h2 h => exact ⟨names_ok h1, names_ok h2⟩
end Go.Proofs.Ytdokbocmgdhmmaa
namespace Go.Proofs.Ytdokbocmgdhmmaa
open Go.RowKit
set_option linter.unusedVariables false
theorem setCls_getD : ∀ (k : Nat) (l cs : List Cl) (j : Nat), (setCls l k cs).getD j .z = if k ≤ j ∧ j < k + cs.length then cs.getD (j - k) .z else l.getD j .z
  | 0, l, cs, j => by
    simp only [setCls, Nat.zero_le, true_and, Nat.zero_add, Nat.sub_zero, List.getD_eq_getElem?_getD]
    by_cases h : j < cs.length
    · rw [if_pos h, List.getElem?_append_left h]
    · rw [if_neg h, List.getElem?_append_right (by omega), List.getElem?_drop, show cs.length + (j - cs.length) = j by omega]
  | k + 1, l, cs, 0 => by cases l <;> simp [setCls]
  | k + 1, l, cs, j + 1 => by
    have h := setCls_getD k l.tail cs j
    simp only [setCls, List.getD_cons_succ, h, Nat.add_sub_add_right]
    have e : l.tail.getD j .z = l.getD (j + 1) .z := by cases l <;> simp
    rw [e]
    by_cases c : k ≤ j ∧ j < k + cs.length
    · rw [if_pos c, if_pos (by omega)]
    · rw [if_neg c, if_neg (by omega)]
theorem cel_set (xs : Dt) (i j k : Nat) (r : List Cl) : cel (xs.set i r) j k = if i = j ∧ i < xs.length then r.getD k .z else cel xs j k := by
  unfold cel
  simp only [List.getD_eq_getElem?_getD, List.getElem?_set]
  by_cases h : i = j
  · subst h
    by_cases h2 : i < xs.length
    · simp [h2]
    · simp [h2, List.getElem?_eq_none (Nat.le_of_not_lt h2)]
  · simp [h]
theorem cel_setCls {xs : Dt} {i k : Nat} {cs : List Cl} (h : i < xs.length) (j m : Nat) : cel (xs.set i (setCls (xs.getD i []) k cs)) j m = if i = j ∧ k ≤ m ∧ m < k + cs.length then cs.getD (m - k) .z else cel xs j m := by
  rw [cel_set, setCls_getD]
  by_cases e : i = j
  · subst e
    by_cases c : k ≤ m ∧ m < k + cs.length
    · rw [if_pos ⟨rfl, h⟩, if_pos c, if_pos ⟨rfl, c⟩]
    · rw [if_pos ⟨rfl, h⟩, if_neg c, if_neg (fun x => c x.2)]; rfl
  · rw [if_neg (fun x => e x.1), if_neg (fun x => e x.1)]
theorem tm_in {n m : Int} (h : 0 ≤ n) (hm : 0 < m) : 0 ≤ n.tmod m ∧ n.tmod m < m := ⟨Int.tmod_nonneg _ h, Int.tmod_lt_of_pos _ hm⟩
theorem wf_u8 {n : Int} (h : WfC (.int .u8) (.i n)) : 0 ≤ n ∧ n ≤ 255 := by
  cases h with
  | int _ _ h => simp [Lit.wf, IntKind.min, IntKind.max, IntKind.signed, IntKind.bits] at h; omega
theorem WfL.head {t : Ty} {ts : List Ty} {c : Cl} {cs : List Cl} (h : WfL (t :: ts) (c :: cs)) : WfC t c ∧ WfL ts cs := by
  cases h with
  | cons h hs => exact ⟨h, hs⟩
theorem WfD.head {a : AT} {ats : List AT} {d : List Cl} {ds : DS} (h : WfD (a :: ats) (d :: ds)) : WfA a d ∧ WfD ats ds := by
  obtain ⟨d', ds', e, h1, h2⟩ := h
  cases e
  exact ⟨h1, h2⟩
theorem vifq [InW] {p q : Prop} {_ : Decidable p} {_ : Decidable q} {A B : Prop} (h : ¬ (p ↔ q) → A) (h2 : (p ↔ q) → B) : Vif (!(decide p == decide q)) A B :=
  ⟨fun e => h (by simpa using notT e), fun e => h2 (by simpa using notF e)⟩
theorem vifq0 [InW] {p : Prop} {_ : Decidable p} {A B : Prop} (h : p → A) (h2 : ¬ p → B) : Vif (!(decide p == false)) A B :=
  ⟨fun e => h (by simpa using e), fun e => h2 (by simpa using e)⟩
theorem vifq1 [InW] {p : Prop} {_ : Decidable p} {A B : Prop} (h : p → A) (h2 : ¬ p → B) : Vif (!(false == decide p)) A B :=
  ⟨fun e => h (by simpa using e), fun e => h2 (by simpa using e)⟩
end Go.Proofs.Ytdokbocmgdhmmaa
namespace Go.Proofs.Ytdokbocmgdhmmaa
open Go.RowKit
set_option linter.unusedVariables false
set_option maxRecDepth 100000
set_option maxHeartbeats 1600000
namespace Sp
def tSk (ts : Dt) (i : Nat) : Int := (cel ts i 0).int
def tLv (ts : Dt) (i : Nat) : Int := (cel ts i 1).int
def errE (f : Nat → Int) (i n : Nat) : Int := if hasE f i n then f (idxE f i n) else 0
def rgE (rg : Dt) (i : Nat) : Int := spanE (cel rg i 0).int (cel rg i 1).int 0 1000
def rgsE (n : Int) (rg : Dt) : Int := if (rg.length : Int) = n then errE (rgE rg) 0 rg.length else 3
end Sp
theorem errE_step {f : Nat → Int} {i n : Nat} : (f i ≠ 0 → Sp.errE f i (n + 1) = f i) ∧ (f i = 0 → Sp.errE f i (n + 1) = Sp.errE f (i + 1) n) := by
  unfold Sp.errE
  rw [show Sp.hasE f i (n + 1) = (!decide (f i = 0) || Sp.hasE f (i + 1) n) from rfl, show Sp.idxE f i (n + 1) = (if f i = 0 then Sp.idxE f (i + 1) n else i) from rfl]
  refine ⟨fun e => ?_, fun e => ?_⟩
  · rw [if_pos (by simp only [e, decide_false, Bool.not_false, Bool.true_or]), if_neg e]
  · rw [if_pos e, show (!decide (f i = 0) || Sp.hasE f (i + 1) n) = Sp.hasE f (i + 1) n by simp only [e, decide_true, Bool.not_true, Bool.false_or]]
noncomputable def Tf : Tab Try.prog := ⟨[pc_in, pc_out, pc_odd, pc_rspan, pc_bCheck, pc_Check], [], []⟩
end Go.Proofs.Ytdokbocmgdhmmaa
namespace Go.Proofs.Ytdokbocmgdhmmaa
open Go.RowKit
set_option linter.unusedVariables false
set_option maxRecDepth 100000
set_option maxHeartbeats 1600000
theorem dt_ext {a b : Dt} (h : a.length = b.length) (hj : ∀ j, j < a.length → a.getD j [] = b.getD j []) : a = b := by
  apply List.ext_getElem h
  intro j h1 h2
  have := hj j h1
  simpa [List.getD_eq_getElem?_getD, List.getElem?_eq_getElem h1, List.getElem?_eq_getElem h2] using this
theorem getD_set {xs : Dt} {i : Nat} {r : List Cl} (j : Nat) : (xs.set i r).getD j [] = if i = j ∧ i < xs.length then r else xs.getD j [] := by
  simp only [List.getD_eq_getElem?_getD, List.getElem?_set]
  by_cases h : i = j
  · subst h
    by_cases h2 : i < xs.length
    · simp [h2]
    · simp [h2, List.getElem?_eq_none (Nat.le_of_not_lt h2)]
  · simp [h]
end Go.Proofs.Ytdokbocmgdhmmaa
namespace Go.Proofs.Ytdokbocmgdhmmaa
open Go.RowKit
set_option linter.unusedVariables false
set_option maxRecDepth 100000
set_option maxHeartbeats 1600000
namespace Sp
def rLo (rg : Dt) (k : Nat) : Int := (cel rg k 0).int
def rHi (rg : Dt) (k : Nat) : Int := (cel rg k 1).int
def prob (ts : Dt) (f : Nat → Int) (i : Nat) : Int := lev (500 + f (tSk ts i).toNat - tLv ts i)
def done (ts : Dt) (f : Nat → Int) : Nat → List Int
  | 0 => []
  | n + 1 => prob ts f n :: done ts f n
end Sp
theorem lev_in (n : Int) : 0 ≤ Sp.lev n ∧ Sp.lev n ≤ 1000 := by unfold Sp.lev; omega
end Go.Proofs.Ytdokbocmgdhmmaa
namespace Go.Proofs.Ytdokbocmgdhmmaa
open Go.RowKit
set_option linter.unusedVariables false
set_option maxRecDepth 100000
set_option maxHeartbeats 1600000
def sp_rgd [InW] (e : List Ed) (K : Nat → List Ed → Prop) : Prop := match e with
  | [.ro _ rg, .i n, .i i] => Pre (n = (rg.xs.length : Int) ∧ 0 ≤ i ∧ i ≤ n) (Vif (decide (Sp.errE (Sp.rgE rg.xs) i.toNat (rg.xs.length - i.toNat) = 0)) (K 0 []) (K 1 [.i (Sp.errE (Sp.rgE rg.xs) i.toNat (rg.xs.length - i.toNat))]))
  | _ => False
noncomputable def lc_rgd : LC where
  len := 26
  T := [(14, .rs [.int .i64, .int .i64]), (15, .int .i64), (16, .int .i64)]
  H := []
  W := [4, 6, 7, 17, 18, 19, 20, 21, 22, 23, 24, 25]
  outs := [⟨.exit 0, [], [], [4, 6, 7, 14, 15, 16, 17, 18, 19, 20, 21, 22, 23, 24, 25]⟩, ⟨.ret, [(4, .int .i64)], [], [6, 7, 14, 15, 16, 17, 18, 19, 20, 21, 22, 23, 24, 25]⟩]
  spec := sp_rgd
def VCL_rgd [W : InW] (rg : Ro [.int .i64, .int .i64]) (n i : Int) (A : List Ed → Prop) (K : Nat → List Ed → Prop) : Prop :=
  Vif (decide (i < n)) (Need (decide ((0 : Int) ≤ i) && decide (i < (↑(rg.xs.length) : Int))) (Need (decide (i.toNat < rg.xs.length)) (Pre True (Vif (!decide (Sp.spanE (cel rg.xs i.toNat (0 : Nat)).int (cel rg.xs i.toNat (0+1 : Nat)).int (0 : Int) (1000 : Int) = (0 : Int))) (K (0+1 : Nat) [.i (Sp.spanE (cel rg.xs i.toNat (0 : Nat)).int (cel rg.xs i.toNat (0+1 : Nat)).int (0 : Int) (1000 : Int))]) (Ar .i64 (i + (1 : Int)) fun z => A [.ro _ rg, .i n, .i z]))))) (K (0 : Nat) [])
theorem vcl_rgd (W : InW) (rg n i A K) : vcTop { cxT Try.prog TT Tf 1000 50 with fn := 96 } 1000 (loopAt Try.prog 96 5) (tmOut 26 [(14, .rs _ rg), (15, .si .i64 n), (16, .si .i64 i)] [4, 6, 7, 17, 18, 19, 20, 21, 22, 23, 24, 25]) [] (roundL lc_rgd A K) = VCL_rgd rg n i A K := by kernel_rfl
def okLt_rgd : Prop := ∀ (W : InW) (body a : Code), (Try.prog.funcs[96]?).bind (·.body) = some body → a ∈ loopsIn body → keyOf a = 5 → @LoopOk W Try.prog a (@loopRun W lc_rgd)
theorem okl_rgd (meas : [InW] → List Ed → Nat) (hyp_ : ∀ (W : InW) (rg : Ro [.int .i64, .int .i64]) (n : Int) (i : Int) (K : Nat → List Ed → Prop), sp_rgd [.ro _ rg, .i n, .i i] K → ∀ A : List Ed → Prop, (∀ e, meas e < meas [.ro _ rg, .i n, .i i] → sp_rgd e K → A e) → VCL_rgd rg n i A K) : okLt_rgd :=
  LE.okOf' (fun W => @TT W) (fun W => @TT_ok W) mixed_ok Tf 1000 50 (by kernel_rfl) lc_rgd (fun W => @meas W) fun W rg n i K hs =>
    (vcl_rgd W rg n i (fun e => meas e < meas [.ro _ rg, .i n, .i i] ∧ sp_rgd e K) K).mpr (hyp_ W rg n i K hs _ fun e h1 h2 => ⟨h1, h2⟩)
def sp_rgr [InW] (e : List Ed) (K : Nat → List Ed → Prop) : Prop := match e with
  | [.ro _ rg, .i i] => Pre (0 ≤ i ∧ i ≤ rg.xs.length) (Vif (decide (Sp.errE (Sp.rgE rg.xs) i.toNat (rg.xs.length - i.toNat) = 0)) (K 0 []) (K 1 [.i (Sp.errE (Sp.rgE rg.xs) i.toNat (rg.xs.length - i.toNat))]))
  | _ => False
noncomputable def lc_rgr : LC where
  len := 27
  T := [(1, .rs [.int .i64, .int .i64]), (5, .int .i64)]
  H := []
  W := [4, 6, 13, 14, 15, 16, 17, 18, 19, 20, 21, 22, 23, 24, 25, 26]
  outs := [⟨.exit 0, [], [], [1, 4, 5, 6, 13, 14, 15, 16, 17, 18, 19, 20, 21, 22, 23, 24, 25, 26]⟩, ⟨.ret, [(4, .int .i64)], [], [1, 5, 6, 13, 14, 15, 16, 17, 18, 19, 20, 21, 22, 23, 24, 25, 26]⟩]
  spec := sp_rgr
def VCL_rgr [W : InW] (rg : Ro [.int .i64, .int .i64]) (i : Int) (A : List Ed → Prop) (K : Nat → List Ed → Prop) : Prop :=
  Vif (decide (i < (↑(rg.xs.length) : Int))) (Need (decide ((0 : Int) ≤ i) && decide (i < (↑(rg.xs.length) : Int))) (Need (decide (i.toNat < rg.xs.length)) (Pre True (Vif (!decide (Sp.spanE (cel rg.xs i.toNat (0 : Nat)).int (cel rg.xs i.toNat (0+1 : Nat)).int (0 : Int) (1000 : Int) = (0 : Int))) (K (0+1 : Nat) [.i (Sp.spanE (cel rg.xs i.toNat (0 : Nat)).int (cel rg.xs i.toNat (0+1 : Nat)).int (0 : Int) (1000 : Int))]) (Ar .i64 (i + (1 : Int)) fun z => A [.ro _ rg, .i z]))))) (K (0 : Nat) [])
theorem vcl_rgr (W : InW) (rg i A K) : vcTop { cxT Try.prog TT Tf 1000 50 with fn := 102 } 1000 (loopAt Try.prog 102 5) (tmOut 27 [(1, .rs _ rg), (5, .si .i64 i)] [4, 6, 13, 14, 15, 16, 17, 18, 19, 20, 21, 22, 23, 24, 25, 26]) [] (roundL lc_rgr A K) = VCL_rgr rg i A K := by kernel_rfl
def okLt_rgr : Prop := ∀ (W : InW) (body a : Code), (Try.prog.funcs[102]?).bind (·.body) = some body → a ∈ loopsIn body → keyOf a = 5 → @LoopOk W Try.prog a (@loopRun W lc_rgr)
theorem okl_rgr (meas : [InW] → List Ed → Nat) (hyp_ : ∀ (W : InW) (rg : Ro [.int .i64, .int .i64]) (i : Int) (K : Nat → List Ed → Prop), sp_rgr [.ro _ rg, .i i] K → ∀ A : List Ed → Prop, (∀ e, meas e < meas [.ro _ rg, .i i] → sp_rgr e K → A e) → VCL_rgr rg i A K) : okLt_rgr :=
  LE.okOf' (fun W => @TT W) (fun W => @TT_ok W) mixed_ok Tf 1000 50 (by kernel_rfl) lc_rgr (fun W => @meas W) fun W rg i K hs =>
    (vcl_rgr W rg i (fun e => meas e < meas [.ro _ rg, .i i] ∧ sp_rgr e K) K).mpr (hyp_ W rg i K hs _ fun e h1 h2 => ⟨h1, h2⟩)
theorem okLrgd : okLt_rgd := okl_rgd (fun e => match e with | _ :: .i n :: .i i :: _ => (n - i).toNat | _ => 0) fun W rg n i K hs A hA => by
  obtain ⟨⟨rfl, h0, h1⟩, hk⟩ := hs
  unfold VCL_rgd
  have hm := rg.len
  simp only [maxLen] at hm
  simp only [Nat.zero_add, Nat.reduceAdd]
  refine vifd (fun e => ?_) fun e => ?_
  · rw [show rg.xs.length - i.toNat = (rg.xs.length - (i.toNat + 1)) + 1 by omega] at hk
    have ez : (i + 1).toNat = i.toNat + 1 := by omega
    have st := errE_step (f := Sp.rgE rg.xs) (i := i.toNat) (n := rg.xs.length - (i.toNat + 1))
    have hE : Sp.spanE (cel rg.xs i.toNat 0).int (cel rg.xs i.toNat 1).int 0 1000 = Sp.rgE rg.xs i.toNat := rfl
    refine ned (by simp; omega) (nedd (by omega) ⟨trivial, ?_⟩)
    rw [hE]
    refine vifn (fun e2 => ?_) fun e2 => ar64 (by omega) (hA _ (by show ((rg.xs.length : Int) - (i + 1)).toNat < ((rg.xs.length : Int) - i).toNat; omega) ⟨⟨rfl, by omega, by omega⟩, by rw [ez, ← st.2 e2]; exact hk⟩)
    rw [st.1 e2] at hk
    exact hk.2 (by simp [e2])
  · rw [show rg.xs.length - i.toNat = 0 by omega] at hk
    exact hk.1 rfl
theorem okLrgr : okLt_rgr := okl_rgr (fun e => match e with | .ro _ rg :: .i i :: _ => (rg.xs.length - i).toNat | _ => 0) fun W rg i K hs A hA => by
  obtain ⟨⟨h0, h1⟩, hk⟩ := hs
  unfold VCL_rgr
  have hm := rg.len
  simp only [maxLen] at hm
  simp only [Nat.zero_add, Nat.reduceAdd]
  refine vifd (fun e => ?_) fun e => ?_
  · rw [show rg.xs.length - i.toNat = (rg.xs.length - (i.toNat + 1)) + 1 by omega] at hk
    have ez : (i + 1).toNat = i.toNat + 1 := by omega
    have st := errE_step (f := Sp.rgE rg.xs) (i := i.toNat) (n := rg.xs.length - (i.toNat + 1))
    have hE : Sp.spanE (cel rg.xs i.toNat 0).int (cel rg.xs i.toNat 1).int 0 1000 = Sp.rgE rg.xs i.toNat := rfl
    refine ned (by simp; omega) (nedd (by omega) ⟨trivial, ?_⟩)
    rw [hE]
    refine vifn (fun e2 => ?_) fun e2 => ar64 (by omega) (hA _ (by show ((rg.xs.length : Int) - (i + 1)).toNat < ((rg.xs.length : Int) - i).toNat; omega) ⟨⟨by omega, by omega⟩, by rw [ez, ← st.2 e2]; exact hk⟩)
    rw [st.1 e2] at hk
    exact hk.2 (by simp [e2])
  · rw [show rg.xs.length - i.toNat = 0 by omega] at hk
    exact hk.1 rfl
noncomputable def le_rgd : LE Try.prog := ⟨96, 5, fun W => @loopRun W lc_rgd, okLrgd⟩
noncomputable def le_rgr : LE Try.prog := ⟨102, 5, fun W => @loopRun W lc_rgr, okLrgr⟩
noncomputable def Tl : Tab Try.prog := ⟨Tf.pcs, [le_rgd, le_rgr], []⟩
def VC_ranged [W : InW] (s_Skills : Ro [.str, .int .i64, .int .i64, .int .i64, .int .i64]) (s_Instrs : Ro [.str, .int .i64, .int .i64]) (rg : Ro [.int .i64, .int .i64]) (Q : DS → Prop) : Prop :=
  Vif (!decide ((↑(rg.xs.length) : Int) = (↑(s_Skills.xs.length) : Int))) (Q [[Cl.i (3 : Int)]]) (Pre ((↑(rg.xs.length) : Int) = (↑(rg.xs.length) : Int) ∧ (0 : Int) ≤ (0 : Int) ∧ (0 : Int) ≤ (↑(rg.xs.length) : Int)) (Vif (decide (Sp.errE (Sp.rgE rg.xs) (Int.toNat (0 : Int)) (rg.xs.length - Int.toNat (0 : Int)) = (0 : Int))) (Q [[Cl.i (0 : Int)]]) (Q [[Cl.i (Sp.errE (Sp.rgE rg.xs) (Int.toNat (0 : Int)) (rg.xs.length - Int.toNat (0 : Int)))]])))
theorem vc_ranged (W : InW) (s_Skills s_Instrs rg Q) : bodyK (cxT Try.prog TT Tl 1000 50) 1000 96 [.agg [.rs _ s_Skills, .rs _ s_Instrs], .rs _ rg] [] 0 (leafK [(false, [.int .i64])] Q) (fun _ _ _ _ => Stuck 421) = VC_ranged s_Skills s_Instrs rg Q := by kernel_rfl
abbrev ats_ranged : List AT := [.agg [.sl [.str, .int .i64, .int .i64, .int .i64, .int .i64], .sl [.str, .int .i64, .int .i64]], .one (.sl [.int .i64, .int .i64])]
theorem ok_ranged {pre : DS → Prop} {res : DS → DS} (hyp_ : ∀ (W : InW) (s_Skills : Ro [.str, .int .i64, .int .i64, .int .i64, .int .i64]) (s_Instrs : Ro [.str, .int .i64, .int .i64]) (rg : Ro [.int .i64, .int .i64]), pre [[.l s_Skills.xs, .l s_Instrs.xs], [.l rg.xs]] → ∀ Q : DS → Prop, Q (res [[.l s_Skills.xs, .l s_Instrs.xs], [.l rg.xs]]) → VC_ranged s_Skills s_Instrs rg Q) : PureOk Try.prog 96 ats_ranged [(false, [.int .i64])] pre res :=
  PureOk.of' (fun W => @TT W) (fun W => @TT_ok W) mixed_ok Tl 1000 50 fun W s_Skills s_Instrs rg hp =>
    (vc_ranged W s_Skills s_Instrs rg (fun o => o = res [[.l s_Skills.xs, .l s_Instrs.xs], [.l rg.xs]])).mpr (hyp_ W s_Skills s_Instrs rg hp _ rfl)
abbrev res_ranged (ds : DS) : DS := match ds with | [[.l sk, _], [.l rg]] => [[.i (Sp.rgsE sk.length rg)]] | _ => []
theorem okranged : PureOk Try.prog 96 ats_ranged [(false, [.int .i64])] (fun _ => True) res_ranged :=
  ok_ranged fun W sk is rg _ Q h => by
    unfold VC_ranged
    simp only [res_ranged, Sp.rgsE] at h
    simp only [show Int.toNat 0 = 0 from rfl, Nat.sub_zero]
    repeat' (first | omega | with_reducible refine vifd (fun _ => ?_) fun _ => ?_ | with_reducible refine vifn (fun _ => ?_) fun _ => ?_ | with_reducible refine vifq (fun _ => ?_) fun _ => ?_ | with_reducible refine vifq0 (fun _ => ?_) fun _ => ?_ | with_reducible refine vifq1 (fun _ => ?_) fun _ => ?_ | with_reducible refine vifb (fun _ => ?_) fun _ => ?_ | with_reducible refine vif (fun _ => ?_) fun _ => ?_ | (with_reducible refine nedd ?_ ?_; omega) | (with_reducible refine ned ?_ ?_; simp only [Bool.and_eq_true, decide_eq_true_eq]; omega) | (with_reducible refine ar64 ?_ ?_; omega) | (with_reducible refine pre_of ?_ ?_; (first | trivial | omega | assumption | (refine ⟨?_, ?_⟩ <;> first | trivial | omega | assumption) | (refine ⟨?_, ?_, ?_⟩ <;> first | trivial | omega | assumption) | (refine ⟨?_, ?_, ?_, ?_⟩ <;> first | trivial | omega | assumption))))
    all_goals ((repeat' split at h) <;> first | exact h | omega | (simp_all; done) | (simp_all; omega))
noncomputable def pc_ranged : PC Try.prog := ⟨96, ats_ranged, [(false, [.int .i64])], fun _ => True, res_ranged, okranged⟩
end Go.Proofs.Ytdokbocmgdhmmaa
namespace Go.Proofs.Ytdokbocmgdhmmaa
open Go.RowKit
set_option linter.unusedVariables false
set_option maxRecDepth 100000
set_option maxHeartbeats 1600000
namespace Sp
def RgOk (rg : Dt) : Prop := ∀ i, i < rg.length → 0 ≤ rLo rg i ∧ rLo rg i ≤ rHi rg i ∧ rHi rg i ≤ 1000
end Sp
theorem errE_no {f : Nat → Int} {n : Nat} (h : Sp.errE f 0 n = 0) : ∀ k, k < n → f k = 0 := by
  unfold Sp.errE at h
  by_cases e : Sp.hasE f 0 n = true
  · rw [if_pos e] at h; exact absurd h (hasE_at e)
  · exact fun k hk => hasE_no (Bool.not_eq_true _ ▸ e) k (by omega) (by omega)
theorem errE_of {f : Nat → Int} {n : Nat} (h : ∀ k, k < n → f k = 0) : Sp.errE f 0 n = 0 := by
  unfold Sp.errE
  rw [hasE_of fun k _ hk => h k (by omega)]
  rfl
theorem rgE_iff {rg : Dt} {i : Nat} : Sp.rgE rg i = 0 ↔ 0 ≤ Sp.rLo rg i ∧ Sp.rLo rg i ≤ Sp.rHi rg i ∧ Sp.rHi rg i ≤ 1000 := by
  unfold Sp.rgE Sp.spanE
  rw [show (cel rg i 0).int = Sp.rLo rg i from rfl, show (cel rg i 1).int = Sp.rHi rg i from rfl]
  by_cases h : (Sp.inr (Sp.rLo rg i) 0 1000 && Sp.inr (Sp.rHi rg i) 0 1000) = true
  · rw [if_pos h]
    simp only [Bool.and_eq_true, inr_iff] at h
    split <;> omega
  · rw [if_neg h]
    simp only [Bool.and_eq_true, inr_iff] at h
    omega
theorem rgs_iff {n : Nat} {rg : Dt} : Sp.rgsE n rg = 0 ↔ rg.length = n ∧ Sp.RgOk rg := by
  unfold Sp.rgsE
  by_cases h : (rg.length : Int) = n
  · rw [if_pos h]
    exact ⟨fun e => ⟨by omega, fun i hi => rgE_iff.1 (errE_no e i hi)⟩, fun e => errE_of fun k hk => rgE_iff.2 (e.2 k hk)⟩
  · rw [if_neg h]
    exact ⟨fun e => by omega, fun e => by omega⟩
end Go.Proofs.Ytdokbocmgdhmmaa
namespace Go.Proofs.Ytdokbocmgdhmmaa
open Go.RowKit
set_option linter.unusedVariables false
set_option maxRecDepth 100000
set_option maxHeartbeats 1600000
end Go.Proofs.Ytdokbocmgdhmmaa
namespace Go.Proofs.Ytdokbocmgdhmmaa
open Go.RowKit
set_option linter.unusedVariables false
set_option maxRecDepth 100000
set_option maxHeartbeats 1600000
end Go.Proofs.Ytdokbocmgdhmmaa
namespace Go.Proofs.Ytdokbocmgdhmmaa
open Go.RowKit
set_option linter.unusedVariables false
theorem need_not [InW] {p : Prop} {_ : Decidable p} {A : Prop} (h : ¬ p) (h2 : A) : Need (!decide p) A := ⟨by simp [h], h2⟩
theorem need_in [InW] {p q : Prop} {_ : Decidable p} {_ : Decidable q} {A : Prop} (h : p ∧ q) (h2 : A) : Need (decide p && decide q) A := ⟨by simp [h.1, h.2], h2⟩
end Go.Proofs.Ytdokbocmgdhmmaa
namespace Go.Proofs.Ytdokbocmgdhmmaa
open Go.RowKit
set_option linter.unusedVariables false
set_option maxRecDepth 100000
set_option maxHeartbeats 1600000
end Go.Proofs.Ytdokbocmgdhmmaa
namespace Go.Proofs.Ytdokbocmgdhmmaa
open Go.RowKit
set_option linter.unusedVariables false
set_option maxRecDepth 100000
set_option maxHeartbeats 1600000
namespace Sp
def evW (ev : Dt) (i : Nat) : Int := (cel ev i 0).int
def evK (ev : Dt) (i : Nat) : Int := (cel ev i 1).int
def evS (ev : Dt) (i : Nat) : Int := (cel ev i 2).int
def evI (ev : Dt) (i : Nat) : Int := (cel ev i 3).int
def evM (ev : Dt) (i : Nat) : Int := (cel ev i 4).int
def fdLo (sk rg : Dt) (k : Int) (i : Nat) : Int := max 0 (rLo rg i - fHi sk i * k)
def fdHi (sk rg : Dt) (k : Int) (i : Nat) : Int := max 0 (rHi rg i - fLo sk i * k)
def fadF (sk rg : Dt) (k : Int) (i : Nat) : Dt := (List.range rg.length).map fun j => if j < i then rg.getD j [] else [.i (fdLo sk rg k j), .i (fdHi sk rg k j)]
def fadeD (sk rg : Dt) (k : Int) : Dt := fadF sk rg k 0
def Two (rg : Dt) : Prop := ∀ i, i < rg.length → ∃ a b, rg.getD i [] = [.i a, .i b]
def FdOk (sk : Dt) : Prop := ∀ i, i < sk.length → 0 ≤ fLo sk i ∧ fLo sk i ≤ fHi sk i ∧ fHi sk i ≤ 1000
end Sp
noncomputable def Tp0 : Tab Try.prog := ⟨[], [], []⟩
def sp_wt [InW] (e : List Ed) (K : Nat → List Ed → Prop) : Prop := match e with
  | [.ro _ sk2, .i n, .i i, .i w, .ro _ sk, .ro _ is, .i wk, .l rg] => Pre (sk2.xs = sk.xs ∧ n = (sk.xs.length : Int) ∧ rg.length = sk.xs.length ∧ 0 ≤ i ∧ i ≤ n ∧ Sp.FdOk sk.xs ∧ 0 ≤ w - wk ∧ -100000 ≤ wk ∧ w ≤ 100000 ∧ Sp.RgOk rg ∧ Sp.Two rg) (K 0 [.i w, .ro _ sk, .ro _ is, .i wk, .l (Sp.fadF sk.xs rg (w - wk) i.toNat)])
  | _ => False
noncomputable def lc_wt : LC where
  len := 48
  T := [(2, (.ptr 4 0)), (3, (.ptr 7 0)), (11, .rs [.str, .int .i64, .int .i64, .int .i64, .int .i64]), (12, .int .i64), (13, .int .i64)]
  H := [(4, .blk 115 [(.ptr 1 0)]), (7, .blk 3 [.int .i64]), (1, .blk 120 [.rs [.str, .int .i64, .int .i64, .int .i64, .int .i64], .rs [.str, .int .i64, .int .i64], (.row 6), .int .i64]), (6, .arr 32 [.int .i64, .int .i64])]
  W := [4, 5, 6, 14, 15, 16, 17, 18, 19, 20, 21, 22, 23, 24, 25, 26, 27, 28, 29, 30, 31, 32, 33, 34, 35, 36, 37, 38, 39, 40, 41, 42, 43]
  outs := [⟨.exit 0, [(2, (.ptr 4 0)), (3, (.ptr 7 0))], [(4, .blk 115 [(.ptr 1 0)]), (7, .blk 3 [.int .i64]), (1, .blk 120 [.rs [.str, .int .i64, .int .i64, .int .i64, .int .i64], .rs [.str, .int .i64, .int .i64], (.row 12), .int .i64]), (12, .arr 32 [.int .i64, .int .i64])], [4, 5, 6, 11, 12, 13, 14, 15, 16, 17, 18, 19, 20, 21, 22, 23, 24, 25, 26, 27, 28, 29, 30, 31, 32, 33, 34, 35, 36, 37, 38, 39, 40, 41, 42, 43]⟩]
  spec := sp_wt
def VCL_wt [W : InW] (sk2 : Ro [.str, .int .i64, .int .i64, .int .i64, .int .i64]) (n i w : Int) (sk : Ro [.str, .int .i64, .int .i64, .int .i64, .int .i64]) (is : Ro [.str, .int .i64, .int .i64]) (wk : Int) (rg : Dt) (A : List Ed → Prop) (K : Nat → List Ed → Prop) : Prop :=
  Vif (decide (i < n)) (Need (decide ((0 : Int) ≤ i) && decide (i < (↑(sk2.xs.length) : Int))) (Need (decide (i.toNat < sk2.xs.length)) (Need (decide ((0 : Int) ≤ i) && decide (i < (↑(rg.length) : Int))) (Need (decide (i.toNat < rg.length)) (Ar .i64 (w - wk) fun z => Ar .i64 ((cel sk2.xs i.toNat (0+1+1+1+1 : Nat)).int * z) fun z => Ar .i64 ((cel rg i.toNat (0 : Nat)).int - z) fun z => Need (decide (i.toNat < rg.length)) (Need (decide ((0 : Int) ≤ i) && decide (i < (↑(List.set rg i.toNat (setCls (List.getD rg i.toNat []) (0 : Nat) [Cl.i (max (0 : Int) z)])).length : Int))) (Need (decide (i.toNat < (List.set rg i.toNat (setCls (List.getD rg i.toNat []) (0 : Nat) [Cl.i (max (0 : Int) z)])).length)) (Ar .i64 (w - wk) fun z_1 => Ar .i64 ((cel sk2.xs i.toNat (0+1+1+1 : Nat)).int * z_1) fun z_2 => Ar .i64 ((cel (List.set rg i.toNat (setCls (List.getD rg i.toNat []) (0 : Nat) [Cl.i (max (0 : Int) z)])) i.toNat (0+1 : Nat)).int - z_2) fun z_3 => Need (decide (i.toNat < (List.set rg i.toNat (setCls (List.getD rg i.toNat []) (0 : Nat) [Cl.i (max (0 : Int) z)])).length)) (Ar .i64 (i + (1 : Int)) fun z_4 => A [.ro _ sk2, .i n, .i z_4, .i w, .ro _ sk, .ro _ is, .i wk, .l ((List.set rg i.toNat (setCls (List.getD rg i.toNat []) (0 : Nat) [Cl.i (max (0 : Int) z)])).set i.toNat (setCls ((List.set rg i.toNat (setCls (List.getD rg i.toNat []) (0 : Nat) [Cl.i (max (0 : Int) z)])).getD i.toNat []) (0+1 : Nat) [Cl.i (max (0 : Int) z_3)]))]))))))))) (K (0 : Nat) [.i w, .ro _ sk, .ro _ is, .i wk, .l rg])
theorem vcl_wt (W : InW) (sk2 n i w sk is wk rg A K) : vcTop { cxT Try.prog TT Tp0 1000 50 with fn := 69 } 1000 (loopAt Try.prog 69 3) (tmOut 48 [(2, .ptr 4 0), (3, .ptr 7 0), (11, .rs _ sk2), (12, .si .i64 n), (13, .si .i64 i)] [4, 5, 6, 14, 15, 16, 17, 18, 19, 20, 21, 22, 23, 24, 25, 26, 27, 28, 29, 30, 31, 32, 33, 34, 35, 36, 37, 38, 39, 40, 41, 42, 43]) [(4, .blk 115 [.ptr 1 0]), (7, .blk 3 [.si .i64 w]), (1, .blk 120 [.rs _ sk, .rs _ is, .rw 6, .si .i64 wk]), (6, .arr 32 [.int .i64, .int .i64] rg)] (roundL lc_wt A K) = VCL_wt sk2 n i w sk is wk rg A K := by kernel_rfl
def okLt_wt : Prop := ∀ (W : InW) (body a : Code), (Try.prog.funcs[69]?).bind (·.body) = some body → a ∈ loopsIn body → keyOf a = 3 → @LoopOk W Try.prog a (@loopRun W lc_wt)
theorem okl_wt (meas : [InW] → List Ed → Nat) (hyp_ : ∀ (W : InW) (sk2 : Ro [.str, .int .i64, .int .i64, .int .i64, .int .i64]) (n : Int) (i : Int) (w : Int) (sk : Ro [.str, .int .i64, .int .i64, .int .i64, .int .i64]) (is : Ro [.str, .int .i64, .int .i64]) (wk : Int) (rg : Dt) (K : Nat → List Ed → Prop), sp_wt [.ro _ sk2, .i n, .i i, .i w, .ro _ sk, .ro _ is, .i wk, .l rg] K → ∀ A : List Ed → Prop, (∀ e, meas e < meas [.ro _ sk2, .i n, .i i, .i w, .ro _ sk, .ro _ is, .i wk, .l rg] → sp_wt e K → A e) → VCL_wt sk2 n i w sk is wk rg A K) : okLt_wt :=
  LE.okOf' (fun W => @TT W) (fun W => @TT_ok W) mixed_ok Tp0 1000 50 (by kernel_rfl) lc_wt (fun W => @meas W) fun W sk2 n i w sk is wk rg K hs =>
    (vcl_wt W sk2 n i w sk is wk rg (fun e => meas e < meas [.ro _ sk2, .i n, .i i, .i w, .ro _ sk, .ro _ is, .i wk, .l rg] ∧ sp_wt e K) K).mpr (hyp_ W sk2 n i w sk is wk rg K hs _ fun e h1 h2 => ⟨h1, h2⟩)
theorem fad_len (sk rg : Dt) (k : Int) (i : Nat) : (Sp.fadF sk rg k i).length = rg.length := by simp [Sp.fadF]
theorem fad_at {sk rg : Dt} {k : Int} {i j : Nat} (h : j < rg.length) : (Sp.fadF sk rg k i).getD j [] = if j < i then rg.getD j [] else [.i (Sp.fdLo sk rg k j), .i (Sp.fdHi sk rg k j)] := by
  simp [Sp.fadF, List.getD_eq_getElem?_getD, List.getElem?_range h]
theorem fad_end {sk rg : Dt} {k : Int} : Sp.fadF sk rg k rg.length = rg :=
  dt_ext (fad_len _ _ _ _) fun j hj => by
    rw [fad_len] at hj
    rw [fad_at hj, if_pos hj]
theorem rg_set {rg : Dt} {i j : Nat} {a b : Int} (h : i < rg.length) : Sp.rLo (rg.set i [.i a, .i b]) j = (if i = j then a else Sp.rLo rg j) ∧ Sp.rHi (rg.set i [.i a, .i b]) j = (if i = j then b else Sp.rHi rg j) := by
  unfold Sp.rLo Sp.rHi
  rw [cel_set, cel_set]
  by_cases e : i = j
  · rw [if_pos ⟨e, h⟩, if_pos e, if_pos ⟨e, h⟩, if_pos e]; exact ⟨rfl, rfl⟩
  · rw [if_neg (fun x => e x.1), if_neg e, if_neg (fun x => e x.1), if_neg e]; exact ⟨rfl, rfl⟩
theorem fad_step {sk rg : Dt} {k : Int} {i : Nat} (h : i < rg.length) : Sp.fadF sk (rg.set i [.i (Sp.fdLo sk rg k i), .i (Sp.fdHi sk rg k i)]) k (i + 1) = Sp.fadF sk rg k i :=
  dt_ext (by simp [fad_len]) fun j hj => by
    rw [fad_len, List.length_set] at hj
    rw [fad_at (by simpa using hj), fad_at hj, getD_set]
    unfold Sp.fdLo Sp.fdHi
    rw [(rg_set h).1, (rg_set h).2]
    by_cases e : i = j
    · subst e
      rw [if_pos (show i < i + 1 by omega), if_pos ⟨rfl, h⟩, if_neg (show ¬ i < i by omega)]
    · rw [if_neg e, if_neg e, if_neg (show ¬ (i = j ∧ i < rg.length) from fun x => e x.1)]
      by_cases c : j < i
      · rw [if_pos (show j < i + 1 by omega), if_pos c]
      · rw [if_neg (show ¬ j < i + 1 by omega), if_neg c]
theorem two_set {rg : Dt} {i : Nat} {a b : Int} (h : Sp.Two rg) : Sp.Two (rg.set i [.i a, .i b]) := fun j hj => by
  rw [getD_set]
  split
  · exact ⟨a, b, rfl⟩
  · exact h j (by simpa using hj)
theorem rgok_set {rg : Dt} {i : Nat} {a b : Int} (h : Sp.RgOk rg) (hi : i < rg.length) (h0 : 0 ≤ a) (h1 : a ≤ b) (h2 : b ≤ 1000) : Sp.RgOk (rg.set i [.i a, .i b]) := fun j hj => by
  rw [(rg_set hi).1, (rg_set hi).2]
  have := h j (by simpa using hj)
  split <;> omega
theorem fd_in {sk rg : Dt} {k : Int} {j : Nat} (hR : Sp.RgOk rg) (hF : Sp.FdOk sk) (hk : 0 ≤ k) (h1 : j < rg.length) (h2 : j < sk.length) : 0 ≤ Sp.fdLo sk rg k j ∧ Sp.fdLo sk rg k j ≤ Sp.fdHi sk rg k j ∧ Sp.fdHi sk rg k j ≤ 1000 ∧ 0 ≤ Sp.fHi sk j * k ∧ Sp.fHi sk j * k ≤ 1000 * k ∧ 0 ≤ Sp.fLo sk j * k ∧ Sp.fLo sk j * k ≤ 1000 * k := by
  have a := hR j h1
  have b := hF j h2
  have c := Int.mul_le_mul_of_nonneg_right b.2.1 hk
  have d := Int.mul_nonneg b.1 hk
  have e := Int.mul_le_mul_of_nonneg_right b.2.2 hk
  unfold Sp.fdLo Sp.fdHi
  omega
theorem set_two {rg : Dt} {i : Nat} {a b : Int} (h : Sp.Two rg) (hi : i < rg.length) : (rg.set i (setCls (rg.getD i []) 0 [.i a])).set i (setCls ((rg.set i (setCls (rg.getD i []) 0 [.i a])).getD i []) 1 [.i b]) = rg.set i [.i a, .i b] := by
  obtain ⟨x, y, e⟩ := h i hi
  rw [List.set_set, getD_set, if_pos ⟨rfl, hi⟩, e]
  rfl
theorem cel_two {rg : Dt} {i : Nat} {a : Int} (hi : i < rg.length) : (cel (rg.set i (setCls (rg.getD i []) 0 [.i a])) i 1).int = Sp.rHi rg i := by
  rw [cel_setCls hi, if_neg (by simp)]
  rfl
theorem okLwt : okLt_wt := okl_wt (fun e => match e with | _ :: .i n :: .i i :: _ => (n - i).toNat | _ => 0) fun W sk2 n i w sk is wk rg K hs A hA => by
  obtain ⟨⟨e2, rfl, hl, h0, h1, hF, hk0, w0, w1, hR, hT⟩, hk⟩ := hs
  unfold VCL_wt
  rw [e2]
  have hm := sk.len
  simp only [maxLen] at hm
  refine vifd (fun e => ?_) fun e => ?_
  · have e1 : (i + 1).toNat = i.toNat + 1 := by omega
    have hi : i.toNat < rg.length := by omega
    have hb := fd_in hR hF hk0 hi (by omega)
    have hr := hR i.toNat hi
    have hA' := hA [.ro _ sk2, .i sk.xs.length, .i (i + 1), .i w, .ro _ sk, .ro _ is, .i wk, .l (rg.set i.toNat [.i (Sp.fdLo sk.xs rg (w - wk) i.toNat), .i (Sp.fdHi sk.xs rg (w - wk) i.toNat)])] (by show ((sk.xs.length : Int) - (i + 1)).toNat < ((sk.xs.length : Int) - i).toNat; omega) ⟨⟨e2, rfl, by simpa using hl, by omega, by omega, hF, hk0, w0, w1, rgok_set hR hi hb.1 hb.2.1 hb.2.2.1, two_set hT⟩, by
      rw [e1, fad_step hi]
      exact hk⟩
    rw [← set_two hT hi] at hA'
    unfold Sp.fdLo Sp.fdHi at hA' hb
    unfold Sp.rLo Sp.rHi at hr
    clear hA hk hF hR hT
    simp only [Nat.zero_add, Nat.reduceAdd, cel_two hi, List.length_set]
    unfold Sp.fHi Sp.fLo Sp.rLo Sp.rHi at *
    refine need_in (by omega) (nedd (by omega) (need_in (by omega) (nedd (by omega) (ar64 (by omega) (ar64 (by omega) (ar64 (by omega) (nedd (by omega) (need_in (by omega) (nedd (by omega) (ar64 (by omega) (ar64 (by omega) (ar64 (by omega) (nedd (by omega) (ar64 (by omega) hA'))))))))))))))
  · rw [show i.toNat = rg.length by omega, fad_end] at hk
    exact hk
noncomputable def le_wt : LE Try.prog := ⟨69, 3, fun W => @loopRun W lc_wt, okLwt⟩
noncomputable def Tp1 : Tab Try.prog := ⟨[], [le_wt], []⟩
def sp_wait [InW] (e : List Ed) (K : Nat → List Ed → Prop) : Prop := match e with
  | [.i w, .ro _ sk, .ro _ is, .i wk, .l rg] => Pre (rg.length = sk.xs.length ∧ Sp.FdOk sk.xs ∧ wk ≤ w ∧ -100000 ≤ wk ∧ w ≤ 100000 ∧ Sp.RgOk rg ∧ Sp.Two rg) (K 0 [.ro _ sk, .ro _ is, .i w, .l (Sp.fadeD sk.xs rg (w - wk))])
  | _ => False
noncomputable def cc_wait : CC where
  g := 69
  args := [(.ptr 1 0), .int .i64]
  H := [(1, .blk 120 [.rs [.str, .int .i64, .int .i64, .int .i64, .int .i64], .rs [.str, .int .i64, .int .i64], (.row 6), .int .i64]), (6, .arr 32 [.int .i64, .int .i64])]
  outs := [⟨false, .tup [], [(1, .blk 120 [.rs [.str, .int .i64, .int .i64, .int .i64, .int .i64], .rs [.str, .int .i64, .int .i64], (.row 12), .int .i64]), (12, .arr 32 [.int .i64, .int .i64])], false⟩]
  spec := sp_wait
def VCC_wait [W : InW] (w : Int) (sk : Ro [.str, .int .i64, .int .i64, .int .i64, .int .i64]) (is : Ro [.str, .int .i64, .int .i64]) (wk : Int) (rg : Dt) (K : Nat → List Ed → Prop) : Prop :=
  Pre (sk.xs = sk.xs ∧ (↑(sk.xs.length) : Int) = (↑(sk.xs.length) : Int) ∧ rg.length = sk.xs.length ∧ (0 : Int) ≤ (0 : Int) ∧ (0 : Int) ≤ (↑(sk.xs.length) : Int) ∧ Sp.FdOk sk.xs ∧ (0 : Int) ≤ w - wk ∧ (-100000 : Int) ≤ wk ∧ w ≤ (100000 : Int) ∧ Sp.RgOk rg ∧ Sp.Two rg) (K (0 : Nat) [.ro _ sk, .ro _ is, .i w, .l (Sp.fadF sk.xs rg (w - wk) (Int.toNat (0 : Int)))])
theorem vcc_wait (W : InW) (w sk is wk rg K) : coreK (cxT Try.prog TT Tp1 1000 50) 1000 69 [.ptr 1 0, .si .i64 w] [(1, .blk 120 [.rs _ sk, .rs _ is, .rw 6, .si .i64 wk]), (6, .arr 32 [.int .i64, .int .i64] rg)] (fun v h => outC cc_wait.H [.ro _ sk, .ro _ is, .i wk, .l rg] cc_wait.outs 0 false v h K) (fun v h => outC cc_wait.H [.ro _ sk, .ro _ is, .i wk, .l rg] cc_wait.outs 0 true v h K) = VCC_wait w sk is wk rg K := by kernel_rfl
theorem okc_wait (hyp_ : ∀ (W : InW) (w : Int) (sk : Ro [.str, .int .i64, .int .i64, .int .i64, .int .i64]) (is : Ro [.str, .int .i64, .int .i64]) (wk : Int) (rg : Dt) (K : Nat → List Ed → Prop), sp_wait [.i w, .ro _ sk, .ro _ is, .i wk, .l rg] K → VCC_wait w sk is wk rg K) : ∀ W : InW, @CallC W Try.prog cc_wait :=
  CC.okOf (fun W => @TT W) (fun W => @TT_ok W) mixed_ok Tp1 1000 50 cc_wait fun W w sk is wk rg K hs => (vcc_wait W w sk is wk rg K).mpr (hyp_ W w sk is wk rg K hs)
theorem okCwait : ∀ W : InW, @CallC W Try.prog cc_wait := okc_wait fun W w sk is wk rg K hs => by
  obtain ⟨⟨hl, hF, h0, h1, h2, hR, hT⟩, hk⟩ := hs
  unfold VCC_wait
  exact ⟨⟨rfl, rfl, hl, by omega, by omega, hF, by omega, h1, h2, hR, hT⟩, hk⟩
end Go.Proofs.Ytdokbocmgdhmmaa
namespace Go.Proofs.Ytdokbocmgdhmmaa
open Go.RowKit
set_option linter.unusedVariables false
set_option maxRecDepth 100000
set_option maxHeartbeats 1600000
namespace Sp
def hpLo (sk is rg ev : Dt) (i : Nat) : Int := if evK ev i = 0 then lev (rLo rg (evS ev i).toNat + gLo sk (evS ev i).toNat) else max (rLo rg (evS ev i).toNat) (bhLo (bHi is (evI ev i).toNat) (evM ev i))
def hpHi (sk is rg ev : Dt) (i : Nat) : Int := if evK ev i = 0 then lev (rHi rg (evS ev i).toNat + gHi sk (evS ev i).toNat) else min (rHi rg (evS ev i).toNat) (bhHi (bLo is (evI ev i).toNat) (evM ev i))
def hpD (sk is rg ev : Dt) (i : Nat) : Dt := rg.set (evS ev i).toNat [.i (hpLo sk is rg ev i), .i (hpHi sk is rg ev i)]
def lvS (sk is ev : Dt) : Nat → Nat → Int → Dt → Bool × Int × Dt
  | 0, _, w, rg => (true, w, rg)
  | n + 1, i, w, rg => if hpHi sk is (fadeD sk rg (evW ev i - w)) ev i < hpLo sk is (fadeD sk rg (evW ev i - w)) ev i then (false, evW ev i, hpD sk is (fadeD sk rg (evW ev i - w)) ev i) else lvS sk is ev n (i + 1) (evW ev i) (hpD sk is (fadeD sk rg (evW ev i - w)) ev i)
structure EvOk (sk is ev : Dt) : Prop where
  l60 : ev.length ≤ 60
  wk : ∀ i, i < ev.length → 0 ≤ evW ev i ∧ evW ev i ≤ 200
  up : ∀ i, i + 1 < ev.length → evW ev i ≤ evW ev (i + 1)
  kd : ∀ i, i < ev.length → evK ev i = 0 ∨ evK ev i = 1
  sk : ∀ i, i < ev.length → 0 ≤ evS ev i ∧ evS ev i < sk.length
  is : ∀ i, i < ev.length → evK ev i = 1 → 0 ≤ evI ev i ∧ evI ev i < is.length ∧ 0 ≤ evM ev i ∧ evM ev i ≤ 1000
end Sp
noncomputable def Tq : Tab Try.prog := ⟨[pc_lev, pc_behind], [], []⟩
def sp_tgt [InW] (e : List Ed) (K : Nat → List Ed → Prop) : Prop := match e with
  | [.i ew, .i ek, .i es, .i ei, .i em, .ro _ sk, .ro _ is, .i wk, .l rg] => Pre (0 ≤ es ∧ es < sk.xs.length ∧ rg.length = sk.xs.length ∧ Sp.SchOk sk.xs is.xs ∧ Sp.RgOk rg ∧ Sp.Two rg) (K 0 [.ro _ sk, .ro _ is, .i wk, .l (rg.set es.toNat [.i (Sp.lev (Sp.rLo rg es.toNat + Sp.gLo sk.xs es.toNat)), .i (Sp.lev (Sp.rHi rg es.toNat + Sp.gHi sk.xs es.toNat))])])
  | _ => False
noncomputable def cc_tgt : CC where
  g := 99
  args := [(.ptr 1 0), .agg [.int .i64, .int .i64, .int .i64, .int .i64, .int .i64]]
  H := [(1, .blk 120 [.rs [.str, .int .i64, .int .i64, .int .i64, .int .i64], .rs [.str, .int .i64, .int .i64], (.row 6), .int .i64]), (6, .arr 32 [.int .i64, .int .i64])]
  outs := [⟨false, .tup [], [(1, .blk 120 [.rs [.str, .int .i64, .int .i64, .int .i64, .int .i64], .rs [.str, .int .i64, .int .i64], (.row 12), .int .i64]), (12, .arr 32 [.int .i64, .int .i64])], false⟩]
  spec := sp_tgt
def VCC_tgt [W : InW] (ew ek es ei em : Int) (sk : Ro [.str, .int .i64, .int .i64, .int .i64, .int .i64]) (is : Ro [.str, .int .i64, .int .i64]) (wk : Int) (rg : Dt) (K : Nat → List Ed → Prop) : Prop :=
  Need (decide ((0 : Int) ≤ es) && decide (es < (↑(rg.length) : Int))) (Need (decide ((0 : Int) ≤ es) && decide (es < (↑(sk.xs.length) : Int))) (Need (decide (es.toNat < sk.xs.length)) (Need (decide (es.toNat < rg.length)) (Ar .i64 ((cel rg es.toNat (0 : Nat)).int + (cel sk.xs es.toNat (0+1 : Nat)).int) fun z => Pre True (Need (decide (es.toNat < rg.length)) (Ar .i64 ((cel rg es.toNat (0+1 : Nat)).int + (cel sk.xs es.toNat (0+1+1 : Nat)).int) fun z_1 => Pre True (Need (decide (es.toNat < rg.length)) (Need (decide (es.toNat < (List.set rg es.toNat (setCls (List.getD rg es.toNat []) (0 : Nat) [Cl.i (Sp.lev z)])).length)) (K (0 : Nat) [.ro _ sk, .ro _ is, .i wk, .l ((List.set rg es.toNat (setCls (List.getD rg es.toNat []) (0 : Nat) [Cl.i (Sp.lev z)])).set es.toNat (setCls ((List.set rg es.toNat (setCls (List.getD rg es.toNat []) (0 : Nat) [Cl.i (Sp.lev z)])).getD es.toNat []) (0+1 : Nat) [Cl.i (Sp.lev z_1)]))])))))))))
theorem vcc_tgt (W : InW) (ew ek es ei em sk is wk rg K) : coreK (cxT Try.prog TT Tq 1000 50) 1000 99 [.ptr 1 0, .agg [.si .i64 ew, .si .i64 ek, .si .i64 es, .si .i64 ei, .si .i64 em]] [(1, .blk 120 [.rs _ sk, .rs _ is, .rw 6, .si .i64 wk]), (6, .arr 32 [.int .i64, .int .i64] rg)] (fun v h => outC cc_tgt.H [.ro _ sk, .ro _ is, .i wk, .l rg] cc_tgt.outs 0 false v h K) (fun v h => outC cc_tgt.H [.ro _ sk, .ro _ is, .i wk, .l rg] cc_tgt.outs 0 true v h K) = VCC_tgt ew ek es ei em sk is wk rg K := by kernel_rfl
theorem okc_tgt (hyp_ : ∀ (W : InW) (ew : Int) (ek : Int) (es : Int) (ei : Int) (em : Int) (sk : Ro [.str, .int .i64, .int .i64, .int .i64, .int .i64]) (is : Ro [.str, .int .i64, .int .i64]) (wk : Int) (rg : Dt) (K : Nat → List Ed → Prop), sp_tgt [.i ew, .i ek, .i es, .i ei, .i em, .ro _ sk, .ro _ is, .i wk, .l rg] K → VCC_tgt ew ek es ei em sk is wk rg K) : ∀ W : InW, @CallC W Try.prog cc_tgt :=
  CC.okOf (fun W => @TT W) (fun W => @TT_ok W) mixed_ok Tq 1000 50 cc_tgt fun W ew ek es ei em sk is wk rg K hs => (vcc_tgt W ew ek es ei em sk is wk rg K).mpr (hyp_ W ew ek es ei em sk is wk rg K hs)
def sp_mkd [InW] (e : List Ed) (K : Nat → List Ed → Prop) : Prop := match e with
  | [.i ew, .i ek, .i es, .i ei, .i em, .ro _ sk, .ro _ is, .i wk, .l rg] => Pre (0 ≤ es ∧ es < sk.xs.length ∧ 0 ≤ ei ∧ ei < is.xs.length ∧ 0 ≤ em ∧ em ≤ 1000 ∧ rg.length = sk.xs.length ∧ Sp.SchOk sk.xs is.xs ∧ Sp.Two rg)
    (Vif (decide (min (Sp.rHi rg es.toNat) (Sp.bhHi (Sp.bLo is.xs ei.toNat) em) < max (Sp.rLo rg es.toNat) (Sp.bhLo (Sp.bHi is.xs ei.toNat) em)))
      (K 1 [.ro _ sk, .ro _ is, .i wk, .l (rg.set es.toNat [.i (max (Sp.rLo rg es.toNat) (Sp.bhLo (Sp.bHi is.xs ei.toNat) em)), .i (min (Sp.rHi rg es.toNat) (Sp.bhHi (Sp.bLo is.xs ei.toNat) em))])])
      (K 0 [.ro _ sk, .ro _ is, .i wk, .l (rg.set es.toNat [.i (max (Sp.rLo rg es.toNat) (Sp.bhLo (Sp.bHi is.xs ei.toNat) em)), .i (min (Sp.rHi rg es.toNat) (Sp.bhHi (Sp.bLo is.xs ei.toNat) em))])]))
  | _ => False
noncomputable def cc_mkd : CC where
  g := 100
  args := [(.ptr 1 0), .agg [.int .i64, .int .i64, .int .i64, .int .i64, .int .i64]]
  H := [(1, .blk 120 [.rs [.str, .int .i64, .int .i64, .int .i64, .int .i64], .rs [.str, .int .i64, .int .i64], (.row 6), .int .i64]), (6, .arr 32 [.int .i64, .int .i64])]
  outs := [⟨false, .tup [], [(1, .blk 120 [.rs [.str, .int .i64, .int .i64, .int .i64, .int .i64], .rs [.str, .int .i64, .int .i64], (.row 12), .int .i64]), (12, .arr 32 [.int .i64, .int .i64])], false⟩, ⟨true, (.lit (.iface 28 (.int .i64 9))), [(1, .blk 120 [.rs [.str, .int .i64, .int .i64, .int .i64, .int .i64], .rs [.str, .int .i64, .int .i64], (.row 12), .int .i64]), (12, .arr 32 [.int .i64, .int .i64])], false⟩]
  spec := sp_mkd
def VCC_mkd [W : InW] (ew ek es ei em : Int) (sk : Ro [.str, .int .i64, .int .i64, .int .i64, .int .i64]) (is : Ro [.str, .int .i64, .int .i64]) (wk : Int) (rg : Dt) (K : Nat → List Ed → Prop) : Prop :=
  Need (decide ((0 : Int) ≤ es) && decide (es < (↑(rg.length) : Int))) (Need (decide ((0 : Int) ≤ ei) && decide (ei < (↑(is.xs.length) : Int))) (Need (decide (ei.toNat < is.xs.length)) (Pre (Sp.Small (cel is.xs ei.toNat (0+1 : Nat)).int ∧ Sp.Small (cel is.xs ei.toNat (0+1+1 : Nat)).int ∧ Sp.Small em) (Need (decide (es.toNat < rg.length)) (Need (decide (es.toNat < rg.length)) (Need (decide (es.toNat < rg.length)) (Need (decide (es.toNat < (List.set rg es.toNat (setCls (List.getD rg es.toNat []) (0 : Nat) [Cl.i (max (cel rg es.toNat (0 : Nat)).int (Sp.bhLo (cel is.xs ei.toNat (0+1+1 : Nat)).int em))])).length)) (Need (decide (es.toNat < ((List.set rg es.toNat (setCls (List.getD rg es.toNat []) (0 : Nat) [Cl.i (max (cel rg es.toNat (0 : Nat)).int (Sp.bhLo (cel is.xs ei.toNat (0+1+1 : Nat)).int em))])).set es.toNat (setCls ((List.set rg es.toNat (setCls (List.getD rg es.toNat []) (0 : Nat) [Cl.i (max (cel rg es.toNat (0 : Nat)).int (Sp.bhLo (cel is.xs ei.toNat (0+1+1 : Nat)).int em))])).getD es.toNat []) (0+1 : Nat) [Cl.i (min (cel rg es.toNat (0+1 : Nat)).int (Sp.bhHi (cel is.xs ei.toNat (0+1 : Nat)).int em))])).length)) (Need (decide (es.toNat < ((List.set rg es.toNat (setCls (List.getD rg es.toNat []) (0 : Nat) [Cl.i (max (cel rg es.toNat (0 : Nat)).int (Sp.bhLo (cel is.xs ei.toNat (0+1+1 : Nat)).int em))])).set es.toNat (setCls ((List.set rg es.toNat (setCls (List.getD rg es.toNat []) (0 : Nat) [Cl.i (max (cel rg es.toNat (0 : Nat)).int (Sp.bhLo (cel is.xs ei.toNat (0+1+1 : Nat)).int em))])).getD es.toNat []) (0+1 : Nat) [Cl.i (min (cel rg es.toNat (0+1 : Nat)).int (Sp.bhHi (cel is.xs ei.toNat (0+1 : Nat)).int em))])).length)) (Vif (decide ((cel ((List.set rg es.toNat (setCls (List.getD rg es.toNat []) (0 : Nat) [Cl.i (max (cel rg es.toNat (0 : Nat)).int (Sp.bhLo (cel is.xs ei.toNat (0+1+1 : Nat)).int em))])).set es.toNat (setCls ((List.set rg es.toNat (setCls (List.getD rg es.toNat []) (0 : Nat) [Cl.i (max (cel rg es.toNat (0 : Nat)).int (Sp.bhLo (cel is.xs ei.toNat (0+1+1 : Nat)).int em))])).getD es.toNat []) (0+1 : Nat) [Cl.i (min (cel rg es.toNat (0+1 : Nat)).int (Sp.bhHi (cel is.xs ei.toNat (0+1 : Nat)).int em))])) es.toNat (0+1 : Nat)).int < (cel ((List.set rg es.toNat (setCls (List.getD rg es.toNat []) (0 : Nat) [Cl.i (max (cel rg es.toNat (0 : Nat)).int (Sp.bhLo (cel is.xs ei.toNat (0+1+1 : Nat)).int em))])).set es.toNat (setCls ((List.set rg es.toNat (setCls (List.getD rg es.toNat []) (0 : Nat) [Cl.i (max (cel rg es.toNat (0 : Nat)).int (Sp.bhLo (cel is.xs ei.toNat (0+1+1 : Nat)).int em))])).getD es.toNat []) (0+1 : Nat) [Cl.i (min (cel rg es.toNat (0+1 : Nat)).int (Sp.bhHi (cel is.xs ei.toNat (0+1 : Nat)).int em))])) es.toNat (0 : Nat)).int)) (K (0+1 : Nat) [.ro _ sk, .ro _ is, .i wk, .l ((List.set rg es.toNat (setCls (List.getD rg es.toNat []) (0 : Nat) [Cl.i (max (cel rg es.toNat (0 : Nat)).int (Sp.bhLo (cel is.xs ei.toNat (0+1+1 : Nat)).int em))])).set es.toNat (setCls ((List.set rg es.toNat (setCls (List.getD rg es.toNat []) (0 : Nat) [Cl.i (max (cel rg es.toNat (0 : Nat)).int (Sp.bhLo (cel is.xs ei.toNat (0+1+1 : Nat)).int em))])).getD es.toNat []) (0+1 : Nat) [Cl.i (min (cel rg es.toNat (0+1 : Nat)).int (Sp.bhHi (cel is.xs ei.toNat (0+1 : Nat)).int em))]))]) (K (0 : Nat) [.ro _ sk, .ro _ is, .i wk, .l ((List.set rg es.toNat (setCls (List.getD rg es.toNat []) (0 : Nat) [Cl.i (max (cel rg es.toNat (0 : Nat)).int (Sp.bhLo (cel is.xs ei.toNat (0+1+1 : Nat)).int em))])).set es.toNat (setCls ((List.set rg es.toNat (setCls (List.getD rg es.toNat []) (0 : Nat) [Cl.i (max (cel rg es.toNat (0 : Nat)).int (Sp.bhLo (cel is.xs ei.toNat (0+1+1 : Nat)).int em))])).getD es.toNat []) (0+1 : Nat) [Cl.i (min (cel rg es.toNat (0+1 : Nat)).int (Sp.bhHi (cel is.xs ei.toNat (0+1 : Nat)).int em))]))])))))))))))
theorem vcc_mkd (W : InW) (ew ek es ei em sk is wk rg K) : coreK (cxT Try.prog TT Tq 1000 50) 1000 100 [.ptr 1 0, .agg [.si .i64 ew, .si .i64 ek, .si .i64 es, .si .i64 ei, .si .i64 em]] [(1, .blk 120 [.rs _ sk, .rs _ is, .rw 6, .si .i64 wk]), (6, .arr 32 [.int .i64, .int .i64] rg)] (fun v h => outC cc_mkd.H [.ro _ sk, .ro _ is, .i wk, .l rg] cc_mkd.outs 0 false v h K) (fun v h => outC cc_mkd.H [.ro _ sk, .ro _ is, .i wk, .l rg] cc_mkd.outs 0 true v h K) = VCC_mkd ew ek es ei em sk is wk rg K := by kernel_rfl
theorem okc_mkd (hyp_ : ∀ (W : InW) (ew : Int) (ek : Int) (es : Int) (ei : Int) (em : Int) (sk : Ro [.str, .int .i64, .int .i64, .int .i64, .int .i64]) (is : Ro [.str, .int .i64, .int .i64]) (wk : Int) (rg : Dt) (K : Nat → List Ed → Prop), sp_mkd [.i ew, .i ek, .i es, .i ei, .i em, .ro _ sk, .ro _ is, .i wk, .l rg] K → VCC_mkd ew ek es ei em sk is wk rg K) : ∀ W : InW, @CallC W Try.prog cc_mkd :=
  CC.okOf (fun W => @TT W) (fun W => @TT_ok W) mixed_ok Tq 1000 50 cc_mkd fun W ew ek es ei em sk is wk rg K hs => (vcc_mkd W ew ek es ei em sk is wk rg K).mpr (hyp_ W ew ek es ei em sk is wk rg K hs)
theorem cel_s0 {rg : Dt} {i : Nat} {a b : Int} (hi : i < rg.length) : (cel (rg.set i [.i a, .i b]) i 0).int = a := by rw [cel_set, if_pos ⟨rfl, hi⟩]; rfl
theorem cel_s1 {rg : Dt} {i : Nat} {a b : Int} (hi : i < rg.length) : (cel (rg.set i [.i a, .i b]) i 1).int = b := by rw [cel_set, if_pos ⟨rfl, hi⟩]; rfl
theorem okCtgt : ∀ W : InW, @CallC W Try.prog cc_tgt := okc_tgt fun W ew ek es ei em sk is wk rg K hs => by
  obtain ⟨⟨h0, h1, hl, hS, hR, hT⟩, hk⟩ := hs
  unfold VCC_tgt
  have hi : es.toNat < rg.length := by omega
  have hg := hS.skG es.toNat (by omega)
  have hr := hR es.toNat hi
  simp only [Nat.zero_add, Nat.reduceAdd, List.length_set, set_two hT hi]
  unfold Sp.gLo Sp.gHi at hk hg
  unfold Sp.rLo Sp.rHi at hk hr
  clear hS hR hT
  exact need_in (by omega) (need_in (by omega) (nedd (by omega) (nedd (by omega) (ar64 (by omega) ⟨trivial, nedd (by omega) (ar64 (by omega) ⟨trivial, nedd (by omega) (nedd (by omega) hk)⟩)⟩))))
theorem okCmkd : ∀ W : InW, @CallC W Try.prog cc_mkd := okc_mkd fun W ew ek es ei em sk is wk rg K hs => by
  obtain ⟨⟨h0, h1, h2, h3, h4, h5, hl, hS, hT⟩, hk⟩ := hs
  unfold VCC_mkd
  have hi : es.toNat < rg.length := by omega
  have hb := hS.isB ei.toNat (by omega)
  simp only [Nat.zero_add, Nat.reduceAdd, set_two hT hi, List.length_set, cel_s0 hi, cel_s1 hi]
  unfold Sp.bLo Sp.bHi at hk hb
  unfold Sp.rLo Sp.rHi at hk
  clear hS hT
  exact need_in (by omega) (need_in (by omega) (nedd (by omega) ⟨⟨by unfold Sp.Small; omega, by unfold Sp.Small; omega, by unfold Sp.Small; omega⟩, nedd (by omega) (nedd (by omega) (nedd (by omega) (nedd (by omega) (nedd (by omega) (nedd (by omega) hk)))))⟩))
noncomputable def Tq0 : Tab Try.prog := ⟨[], [], [ceOf cc_wait okCwait, ceOf cc_tgt okCtgt, ceOf cc_mkd okCmkd]⟩
def sp_lv [InW] (e : List Ed) (K : Nat → List Ed → Prop) : Prop := match e with
  | [.ro _ ev, .i n, .i i, .i er, .ro _ sk, .ro _ is, .i wk, .l rg] => Pre (n = (ev.xs.length : Int) ∧ 0 ≤ i ∧ i ≤ n ∧ Sp.SchOk sk.xs is.xs ∧ Sp.EvOk sk.xs is.xs ev.xs ∧ rg.length = sk.xs.length ∧ 0 ≤ wk ∧ wk ≤ 200 ∧ (i < n → wk ≤ Sp.evW ev.xs i.toNat) ∧ Sp.RgOk rg ∧ Sp.Two rg)
    (Vif (Sp.lvS sk.xs is.xs ev.xs (n - i).toNat i.toNat wk rg).1 (K 0 [.i er, .ro _ sk, .ro _ is, .i (Sp.lvS sk.xs is.xs ev.xs (n - i).toNat i.toNat wk rg).2.1, .l (Sp.lvS sk.xs is.xs ev.xs (n - i).toNat i.toNat wk rg).2.2]) (K 1 [.i er, .ro _ sk, .ro _ is, .i (Sp.lvS sk.xs is.xs ev.xs (n - i).toNat i.toNat wk rg).2.1, .l (Sp.lvS sk.xs is.xs ev.xs (n - i).toNat i.toNat wk rg).2.2]))
  | _ => False
noncomputable def lc_lv : LC where
  len := 41
  T := [(6, (.ptr 4 0)), (7, (.ptr 7 0)), (8, (.ptr 10 0)), (22, .rs Iv5), (23, .int .i64), (24, .int .i64), (40, (.held ((.fn (.func 98) [] [(.ptr 4 0), (.ptr 7 0)]))))]
  H := [(4, .blk 115 [(.ptr 1 0)]), (7, .blk 28 [.int .i64]), (1, .blk 120 [.rs [.str, .int .i64, .int .i64, .int .i64, .int .i64], .rs [.str, .int .i64, .int .i64], (.row 6), .int .i64]), (10, .blk 145 [(.fn (.func 99) [(.ptr 1 0)] []), (.fn (.func 100) [(.ptr 1 0)] [])]), (6, .arr 32 [.int .i64, .int .i64])]
  W := [10, 25, 26, 27, 28, 29, 30, 31, 32, 33, 34, 35, 36, 37, 38]
  outs := [⟨.exit 0, [(6, (.ptr 4 0)), (7, (.ptr 7 0)), (40, (.held ((.fn (.func 98) [] [(.ptr 4 0), (.ptr 7 0)]))))], [(4, .blk 115 [(.ptr 1 0)]), (7, .blk 28 [.int .i64]), (1, .blk 120 [.rs [.str, .int .i64, .int .i64, .int .i64, .int .i64], .rs [.str, .int .i64, .int .i64], (.row 12), .int .i64]), (12, .arr 32 [.int .i64, .int .i64])], [8, 10, 22, 23, 24, 25, 26, 27, 28, 29, 30, 31, 32, 33, 34, 35, 36, 37, 38]⟩, ⟨.pan (Value.iface 28 (Value.int .i64 9)), [(6, (.ptr 4 0)), (7, (.ptr 7 0)), (40, (.held ((.fn (.func 98) [] [(.ptr 4 0), (.ptr 7 0)]))))], [(4, .blk 115 [(.ptr 1 0)]), (7, .blk 28 [.int .i64]), (1, .blk 120 [.rs [.str, .int .i64, .int .i64, .int .i64, .int .i64], .rs [.str, .int .i64, .int .i64], (.row 15), .int .i64]), (15, .arr 32 [.int .i64, .int .i64])], [8, 10, 22, 23, 24, 25, 26, 27, 28, 29, 30, 31, 32, 33, 34, 35, 36, 37, 38]⟩]
  spec := sp_lv
def VCL_lv [W : InW] (ev : Ro Iv5) (n i er : Int) (sk : Ro [.str, .int .i64, .int .i64, .int .i64, .int .i64]) (is : Ro [.str, .int .i64, .int .i64]) (wk : Int) (rg : Dt) (A : List Ed → Prop) (K : Nat → List Ed → Prop) : Prop :=
  Vif (decide (i < n)) (Need (decide ((0 : Int) ≤ i) && decide (i < (↑(ev.xs.length) : Int))) (Need (decide (i.toNat < ev.xs.length)) (Pre (rg.length = sk.xs.length ∧ Sp.FdOk sk.xs ∧ wk ≤ (cel ev.xs i.toNat (0 : Nat)).int ∧ (-100000 : Int) ≤ wk ∧ (cel ev.xs i.toNat (0 : Nat)).int ≤ (100000 : Int) ∧ Sp.RgOk rg ∧ Sp.Two rg) (Need (decide ((0 : Int) ≤ (cel ev.xs i.toNat (0+1 : Nat)).int) && decide ((cel ev.xs i.toNat (0+1 : Nat)).int < (↑(2 : Nat) : Int))) (Vif (decide ((cel ev.xs i.toNat (0+1 : Nat)).int = (↑(0 : Nat) : Int))) (Pre ((0 : Int) ≤ (cel ev.xs i.toNat (0+1+1 : Nat)).int ∧ (cel ev.xs i.toNat (0+1+1 : Nat)).int < (↑(sk.xs.length) : Int) ∧ List.length (Sp.fadeD sk.xs rg ((cel ev.xs i.toNat (0 : Nat)).int - wk)) = sk.xs.length ∧ Sp.SchOk sk.xs is.xs ∧ Sp.RgOk (Sp.fadeD sk.xs rg ((cel ev.xs i.toNat (0 : Nat)).int - wk)) ∧ Sp.Two (Sp.fadeD sk.xs rg ((cel ev.xs i.toNat (0 : Nat)).int - wk))) (Ar .i64 (i + (1 : Int)) fun z => A [.ro _ ev, .i n, .i z, .i er, .ro _ sk, .ro _ is, .i (cel ev.xs i.toNat (0 : Nat)).int, .l (List.set (Sp.fadeD sk.xs rg ((cel ev.xs i.toNat (0 : Nat)).int - wk)) (cel ev.xs i.toNat (0+1+1 : Nat)).int.toNat [Cl.i (Sp.lev (Sp.rLo (Sp.fadeD sk.xs rg ((cel ev.xs i.toNat (0 : Nat)).int - wk)) (cel ev.xs i.toNat (0+1+1 : Nat)).int.toNat + Sp.gLo sk.xs (cel ev.xs i.toNat (0+1+1 : Nat)).int.toNat)), Cl.i (Sp.lev (Sp.rHi (Sp.fadeD sk.xs rg ((cel ev.xs i.toNat (0 : Nat)).int - wk)) (cel ev.xs i.toNat (0+1+1 : Nat)).int.toNat + Sp.gHi sk.xs (cel ev.xs i.toNat (0+1+1 : Nat)).int.toNat))])])) (Pre ((0 : Int) ≤ (cel ev.xs i.toNat (0+1+1 : Nat)).int ∧ (cel ev.xs i.toNat (0+1+1 : Nat)).int < (↑(sk.xs.length) : Int) ∧ (0 : Int) ≤ (cel ev.xs i.toNat (0+1+1+1 : Nat)).int ∧ (cel ev.xs i.toNat (0+1+1+1 : Nat)).int < (↑(is.xs.length) : Int) ∧ (0 : Int) ≤ (cel ev.xs i.toNat (0+1+1+1+1 : Nat)).int ∧ (cel ev.xs i.toNat (0+1+1+1+1 : Nat)).int ≤ (1000 : Int) ∧ List.length (Sp.fadeD sk.xs rg ((cel ev.xs i.toNat (0 : Nat)).int - wk)) = sk.xs.length ∧ Sp.SchOk sk.xs is.xs ∧ Sp.Two (Sp.fadeD sk.xs rg ((cel ev.xs i.toNat (0 : Nat)).int - wk))) (Vif (decide (min (Sp.rHi (Sp.fadeD sk.xs rg ((cel ev.xs i.toNat (0 : Nat)).int - wk)) (cel ev.xs i.toNat (0+1+1 : Nat)).int.toNat) (Sp.bhHi (Sp.bLo is.xs (cel ev.xs i.toNat (0+1+1+1 : Nat)).int.toNat) (cel ev.xs i.toNat (0+1+1+1+1 : Nat)).int) < max (Sp.rLo (Sp.fadeD sk.xs rg ((cel ev.xs i.toNat (0 : Nat)).int - wk)) (cel ev.xs i.toNat (0+1+1 : Nat)).int.toNat) (Sp.bhLo (Sp.bHi is.xs (cel ev.xs i.toNat (0+1+1+1 : Nat)).int.toNat) (cel ev.xs i.toNat (0+1+1+1+1 : Nat)).int))) (K (0+1 : Nat) [.i er, .ro _ sk, .ro _ is, .i (cel ev.xs i.toNat (0 : Nat)).int, .l (List.set (Sp.fadeD sk.xs rg ((cel ev.xs i.toNat (0 : Nat)).int - wk)) (cel ev.xs i.toNat (0+1+1 : Nat)).int.toNat [Cl.i (max (Sp.rLo (Sp.fadeD sk.xs rg ((cel ev.xs i.toNat (0 : Nat)).int - wk)) (cel ev.xs i.toNat (0+1+1 : Nat)).int.toNat) (Sp.bhLo (Sp.bHi is.xs (cel ev.xs i.toNat (0+1+1+1 : Nat)).int.toNat) (cel ev.xs i.toNat (0+1+1+1+1 : Nat)).int)), Cl.i (min (Sp.rHi (Sp.fadeD sk.xs rg ((cel ev.xs i.toNat (0 : Nat)).int - wk)) (cel ev.xs i.toNat (0+1+1 : Nat)).int.toNat) (Sp.bhHi (Sp.bLo is.xs (cel ev.xs i.toNat (0+1+1+1 : Nat)).int.toNat) (cel ev.xs i.toNat (0+1+1+1+1 : Nat)).int))])]) (Ar .i64 (i + (1 : Int)) fun z => A [.ro _ ev, .i n, .i z, .i er, .ro _ sk, .ro _ is, .i (cel ev.xs i.toNat (0 : Nat)).int, .l (List.set (Sp.fadeD sk.xs rg ((cel ev.xs i.toNat (0 : Nat)).int - wk)) (cel ev.xs i.toNat (0+1+1 : Nat)).int.toNat [Cl.i (max (Sp.rLo (Sp.fadeD sk.xs rg ((cel ev.xs i.toNat (0 : Nat)).int - wk)) (cel ev.xs i.toNat (0+1+1 : Nat)).int.toNat) (Sp.bhLo (Sp.bHi is.xs (cel ev.xs i.toNat (0+1+1+1 : Nat)).int.toNat) (cel ev.xs i.toNat (0+1+1+1+1 : Nat)).int)), Cl.i (min (Sp.rHi (Sp.fadeD sk.xs rg ((cel ev.xs i.toNat (0 : Nat)).int - wk)) (cel ev.xs i.toNat (0+1+1 : Nat)).int.toNat) (Sp.bhHi (Sp.bLo is.xs (cel ev.xs i.toNat (0+1+1+1 : Nat)).int.toNat) (cel ev.xs i.toNat (0+1+1+1+1 : Nat)).int))])])))))))) (K (0 : Nat) [.i er, .ro _ sk, .ro _ is, .i wk, .l rg])
theorem vcl_lv (W : InW) (ev n i er sk is wk rg A K) : vcTop { cxT Try.prog TT Tq0 1000 50 with fn := 68 } 1000 (loopAt Try.prog 68 6) (tmOut 41 [(6, .ptr 4 0), (7, .ptr 7 0), (8, .ptr 10 0), (22, .rs _ ev), (23, .si .i64 n), (24, .si .i64 i), (40, .held (.fn (.func 98) [] [.ptr 4 0, .ptr 7 0]))] [10, 25, 26, 27, 28, 29, 30, 31, 32, 33, 34, 35, 36, 37, 38]) [(4, .blk 115 [.ptr 1 0]), (7, .blk 28 [.si .i64 er]), (1, .blk 120 [.rs _ sk, .rs _ is, .rw 6, .si .i64 wk]), (10, .blk 145 [.fn (.func 99) [.ptr 1 0] [], .fn (.func 100) [.ptr 1 0] []]), (6, .arr 32 [.int .i64, .int .i64] rg)] (roundL lc_lv A K) = VCL_lv ev n i er sk is wk rg A K := by kernel_rfl
def okLt_lv : Prop := ∀ (W : InW) (body a : Code), (Try.prog.funcs[68]?).bind (·.body) = some body → a ∈ loopsIn body → keyOf a = 6 → @LoopOk W Try.prog a (@loopRun W lc_lv)
theorem okl_lv (meas : [InW] → List Ed → Nat) (hyp_ : ∀ (W : InW) (ev : Ro Iv5) (n : Int) (i : Int) (er : Int) (sk : Ro [.str, .int .i64, .int .i64, .int .i64, .int .i64]) (is : Ro [.str, .int .i64, .int .i64]) (wk : Int) (rg : Dt) (K : Nat → List Ed → Prop), sp_lv [.ro _ ev, .i n, .i i, .i er, .ro _ sk, .ro _ is, .i wk, .l rg] K → ∀ A : List Ed → Prop, (∀ e, meas e < meas [.ro _ ev, .i n, .i i, .i er, .ro _ sk, .ro _ is, .i wk, .l rg] → sp_lv e K → A e) → VCL_lv ev n i er sk is wk rg A K) : okLt_lv :=
  LE.okOf' (fun W => @TT W) (fun W => @TT_ok W) mixed_ok Tq0 1000 50 (by kernel_rfl) lc_lv (fun W => @meas W) fun W ev n i er sk is wk rg K hs =>
    (vcl_lv W ev n i er sk is wk rg (fun e => meas e < meas [.ro _ ev, .i n, .i i, .i er, .ro _ sk, .ro _ is, .i wk, .l rg] ∧ sp_lv e K) K).mpr (hyp_ W ev n i er sk is wk rg K hs _ fun e h1 h2 => ⟨h1, h2⟩)
theorem fd_at {sk rg : Dt} {k : Int} {j : Nat} (h : j < rg.length) : Sp.rLo (Sp.fadeD sk rg k) j = Sp.fdLo sk rg k j ∧ Sp.rHi (Sp.fadeD sk rg k) j = Sp.fdHi sk rg k j := by
  have e : (Sp.fadeD sk rg k).getD j [] = [.i (Sp.fdLo sk rg k j), .i (Sp.fdHi sk rg k j)] := by rw [Sp.fadeD, fad_at h, if_neg (Nat.not_lt_zero j)]
  refine ⟨?_, ?_⟩
  · show (((Sp.fadeD sk rg k).getD j []).getD 0 .z).int = _
    rw [e]; rfl
  · show (((Sp.fadeD sk rg k).getD j []).getD 1 .z).int = _
    rw [e]; rfl
theorem fd_len (sk rg : Dt) (k : Int) : (Sp.fadeD sk rg k).length = rg.length := fad_len _ _ _ _
theorem fd_two (sk rg : Dt) (k : Int) : Sp.Two (Sp.fadeD sk rg k) := fun j hj => by
  rw [fd_len] at hj
  exact ⟨_, _, by rw [Sp.fadeD, fad_at hj, if_neg (Nat.not_lt_zero j)]⟩
theorem fd_ok {sk rg : Dt} {k : Int} (hR : Sp.RgOk rg) (hF : Sp.FdOk sk) (hk : 0 ≤ k) (hl : rg.length = sk.length) : Sp.RgOk (Sp.fadeD sk rg k) := fun j hj => by
  rw [fd_len] at hj
  have := fd_in hR hF hk hj (by omega)
  rw [(fd_at hj).1, (fd_at hj).2]
  omega
theorem hp_two {sk is rg ev : Dt} {i : Nat} (h : Sp.Two rg) : Sp.Two (Sp.hpD sk is rg ev i) := two_set h
theorem hp_ok {sk is rg ev : Dt} {i : Nat} (hS : Sp.SchOk sk is) (hE : Sp.EvOk sk is ev) (hi : i < ev.length) (hl : rg.length = sk.length) (hR : Sp.RgOk rg) (h : ¬ Sp.hpHi sk is rg ev i < Sp.hpLo sk is rg ev i) : Sp.RgOk (Sp.hpD sk is rg ev i) := by
  have hs := hE.sk i hi
  have hr := hR (Sp.evS ev i).toNat (by omega)
  refine rgok_set hR (by omega) ?_ (by omega) ?_
  · unfold Sp.hpLo Sp.lev
    split <;> omega
  · unfold Sp.hpHi Sp.lev
    split <;> omega
theorem hp_up {sk is rg ev : Dt} {i : Nat} (hS : Sp.SchOk sk is) (hE : Sp.EvOk sk is ev) (hi : i < ev.length) (hl : rg.length = sk.length) (hR : Sp.RgOk rg) (h : Sp.evK ev i = 0) : ¬ Sp.hpHi sk is rg ev i < Sp.hpLo sk is rg ev i := by
  have hs := hE.sk i hi
  have hr := hR (Sp.evS ev i).toNat (by omega)
  have hg := hS.skG (Sp.evS ev i).toNat (by omega)
  unfold Sp.hpLo Sp.hpHi Sp.lev
  rw [if_pos h, if_pos h]
  omega
theorem lv_step {sk is ev rg : Dt} {n i : Nat} {w : Int} :
    (Sp.hpHi sk is (Sp.fadeD sk rg (Sp.evW ev i - w)) ev i < Sp.hpLo sk is (Sp.fadeD sk rg (Sp.evW ev i - w)) ev i → Sp.lvS sk is ev (n + 1) i w rg = (false, Sp.evW ev i, Sp.hpD sk is (Sp.fadeD sk rg (Sp.evW ev i - w)) ev i)) ∧
    (¬ Sp.hpHi sk is (Sp.fadeD sk rg (Sp.evW ev i - w)) ev i < Sp.hpLo sk is (Sp.fadeD sk rg (Sp.evW ev i - w)) ev i → Sp.lvS sk is ev (n + 1) i w rg = Sp.lvS sk is ev n (i + 1) (Sp.evW ev i) (Sp.hpD sk is (Sp.fadeD sk rg (Sp.evW ev i - w)) ev i)) :=
  ⟨fun h => by rw [Sp.lvS, if_pos h], fun h => by rw [Sp.lvS, if_neg h]⟩
theorem okLlv : okLt_lv := okl_lv (fun e => match e with | .ro _ ev :: _ :: .i i :: _ => (ev.xs.length - i).toNat | _ => 0) fun W ev n i er sk is wk rg K hs A hA => by
  obtain ⟨⟨rfl, h0, h1, hS, hE, hl, w0, w1, hw, hR, hT⟩, hk⟩ := hs
  unfold VCL_lv
  have hm := ev.len
  simp only [maxLen] at hm
  refine vifd (fun e => ?_) fun e => ?_
  · have e1 : (i + 1).toNat = i.toNat + 1 := by omega
    have hi : i.toNat < ev.xs.length := by omega
    have qw := hE.wk i.toNat hi
    have qk := hE.kd i.toNat hi
    have qs := hE.sk i.toNat hi
    have hw' := hw e
    have hF : Sp.FdOk sk.xs := fun j hj => hS.skF j hj
    have f1 := fd_ok hR hF (show 0 ≤ Sp.evW ev.xs i.toNat - wk by omega) hl
    have f2 := fd_two sk.xs rg (Sp.evW ev.xs i.toNat - wk)
    have f3 := fd_len sk.xs rg (Sp.evW ev.xs i.toNat - wk)
    rw [show ((ev.xs.length : Int) - i).toNat = ((ev.xs.length : Int) - (i + 1)).toNat + 1 by omega] at hk
    have st := lv_step (sk := sk.xs) (is := is.xs) (ev := ev.xs) (rg := rg) (n := ((ev.xs.length : Int) - (i + 1)).toNat) (i := i.toNat) (w := wk)
    have go : ¬ Sp.hpHi sk.xs is.xs (Sp.fadeD sk.xs rg (Sp.evW ev.xs i.toNat - wk)) ev.xs i.toNat < Sp.hpLo sk.xs is.xs (Sp.fadeD sk.xs rg (Sp.evW ev.xs i.toNat - wk)) ev.xs i.toNat → A [.ro _ ev, .i ev.xs.length, .i (i + 1), .i er, .ro _ sk, .ro _ is, .i (Sp.evW ev.xs i.toNat), .l (Sp.hpD sk.xs is.xs (Sp.fadeD sk.xs rg (Sp.evW ev.xs i.toNat - wk)) ev.xs i.toNat)] := fun hd => hA _ (by show ((ev.xs.length : Int) - (i + 1)).toNat < ((ev.xs.length : Int) - i).toNat; omega)
      ⟨⟨rfl, by omega, by omega, hS, hE, by rw [Sp.hpD, List.length_set, f3]; exact hl, qw.1, qw.2, fun hj => by rw [e1]; exact hE.up i.toNat (by omega), hp_ok hS hE hi (by rw [f3]; exact hl) f1 hd, hp_two f2⟩, by
        rw [st.2 hd] at hk
        rw [e1]
        exact hk⟩
    refine need_in (by omega) (nedd (by omega) ⟨⟨hl, hF, hw', by omega, by show Sp.evW ev.xs i.toNat ≤ 100000; omega, hR, hT⟩, need_in (by show 0 ≤ Sp.evK ev.xs i.toNat ∧ Sp.evK ev.xs i.toNat < 2; omega) (vifd (fun ek => ?_) fun ek => ?_)⟩)
    · have hd := hp_up hS hE hi (show (Sp.fadeD sk.xs rg (Sp.evW ev.xs i.toNat - wk)).length = sk.xs.length by rw [f3]; exact hl) f1 ek
      have g := go hd
      unfold Sp.hpD Sp.hpLo Sp.hpHi at g
      rw [if_pos (show Sp.evK ev.xs i.toNat = 0 from ek), if_pos (show Sp.evK ev.xs i.toNat = 0 from ek)] at g
      exact ⟨⟨qs.1, qs.2, f3.trans hl, hS, f1, f2⟩, ar64 (by omega) g⟩
    · have ek1 : ¬ Sp.evK ev.xs i.toNat = 0 := ek
      have qi := hE.is i.toNat hi (by omega)
      refine ⟨⟨qs.1, qs.2, qi.1, qi.2.1, qi.2.2.1, qi.2.2.2, f3.trans hl, hS, f2⟩, vifd (fun hd => ?_) fun hd => ar64 (by omega) ?_⟩
      · have hd' : Sp.hpHi sk.xs is.xs (Sp.fadeD sk.xs rg (Sp.evW ev.xs i.toNat - wk)) ev.xs i.toNat < Sp.hpLo sk.xs is.xs (Sp.fadeD sk.xs rg (Sp.evW ev.xs i.toNat - wk)) ev.xs i.toNat := by
          unfold Sp.hpHi Sp.hpLo
          rw [if_neg ek1, if_neg ek1]
          exact hd
        rw [st.1 hd'] at hk
        have := hk.2 rfl
        unfold Sp.hpD Sp.hpLo Sp.hpHi at this
        rw [if_neg ek1, if_neg ek1] at this
        exact this
      · have hd' : ¬ Sp.hpHi sk.xs is.xs (Sp.fadeD sk.xs rg (Sp.evW ev.xs i.toNat - wk)) ev.xs i.toNat < Sp.hpLo sk.xs is.xs (Sp.fadeD sk.xs rg (Sp.evW ev.xs i.toNat - wk)) ev.xs i.toNat := by
          unfold Sp.hpHi Sp.hpLo
          rw [if_neg ek1, if_neg ek1]
          exact hd
        have g := go hd'
        unfold Sp.hpD Sp.hpLo Sp.hpHi at g
        rw [if_neg ek1, if_neg ek1] at g
        exact g
  · rw [show ((ev.xs.length : Int) - i).toNat = 0 by omega] at hk
    exact hk.1 rfl
noncomputable def le_lv : LE Try.prog := ⟨68, 6, fun W => @loopRun W lc_lv, okLlv⟩
end Go.Proofs.Ytdokbocmgdhmmaa
namespace Go.Proofs.Ytdokbocmgdhmmaa
open Go.RowKit
set_option linter.unusedVariables false
set_option maxRecDepth 100000
set_option maxHeartbeats 1600000
namespace Sp
def ev1 (n m : Int) (ev : Dt) (i : Nat) (w : Int) : Int :=
  if inr (evW ev i) 0 200 then (if evW ev i < w ∨ inr (evK ev i) 0 1 = false then 2 else (if inr (evS ev i) 0 (n - 1) = false ∨ (evK ev i = 1 ∧ inr (evI ev i) 0 (m - 1) = false) then 4 else (if evK ev i = 1 ∧ inr (evM ev i) 0 1000 = false then 7 else 0))) else 7
def evsF (n m : Int) (ev : Dt) : Nat → Nat → Int → Int
  | 0, _, _ => 0
  | k + 1, i, w => if ev1 n m ev i w = 0 then evsF n m ev k (i + 1) (evW ev i) else ev1 n m ev i w
def evsE (n m : Int) (ev : Dt) : Int := if (60 : Int) < ev.length then 3 else evsF n m ev ev.length 0 0
def hisE (sk is st ev : Dt) : Int := if chkE sk is = 0 then (if rgsE sk.length st = 0 then evsE sk.length is.length ev else rgsE sk.length st) else chkE sk is
end Sp
noncomputable def Tr0 : Tab Try.prog := ⟨[pc_in, pc_out], [], []⟩
def sp_his [InW] (e : List Ed) (K : Nat → List Ed → Prop) : Prop := match e with
  | [.i w, .ro _ ev, .i n, .i i, .ro _ sk, .ro _ is] => Pre (n = (ev.xs.length : Int) ∧ 0 ≤ i ∧ i ≤ n) (Vif (decide (Sp.evsF sk.xs.length is.xs.length ev.xs (n - i).toNat i.toNat w = 0)) (K 0 []) (K 1 [.i (Sp.evsF sk.xs.length is.xs.length ev.xs (n - i).toNat i.toNat w)]))
  | _ => False
noncomputable def lc_his : LC where
  len := 91
  T := [(3, (.ptr 1 0)), (11, .int .i64), (33, .rs Iv5), (34, .int .i64), (35, .int .i64)]
  H := [(1, .blk 25 [.rs [.str, .int .i64, .int .i64, .int .i64, .int .i64], .rs [.str, .int .i64, .int .i64]])]
  W := [6, 13, 14, 36, 37, 38, 39, 40, 41, 42, 43, 44, 45, 46, 47, 48, 49, 50, 51, 52, 53, 54, 55, 56, 57, 58, 59, 60, 61, 62, 63, 64, 65, 66, 67, 68, 69, 70, 71, 72, 73, 74, 75, 76, 77, 78, 79, 80, 81, 82, 83, 84, 85, 86, 87, 88, 89, 90]
  outs := [⟨.exit 0, [], [], [3, 6, 11, 13, 14, 33, 34, 35, 36, 37, 38, 39, 40, 41, 42, 43, 44, 45, 46, 47, 48, 49, 50, 51, 52, 53, 54, 55, 56, 57, 58, 59, 60, 61, 62, 63, 64, 65, 66, 67, 68, 69, 70, 71, 72, 73, 74, 75, 76, 77, 78, 79, 80, 81, 82, 83, 84, 85, 86, 87, 88, 89, 90]⟩, ⟨.ret, [(6, .int .i64)], [], [3, 11, 13, 14, 33, 34, 35, 36, 37, 38, 39, 40, 41, 42, 43, 44, 45, 46, 47, 48, 49, 50, 51, 52, 53, 54, 55, 56, 57, 58, 59, 60, 61, 62, 63, 64, 65, 66, 67, 68, 69, 70, 71, 72, 73, 74, 75, 76, 77, 78, 79, 80, 81, 82, 83, 84, 85, 86, 87, 88, 89, 90]⟩]
  spec := sp_his
def VCL_his [W : InW] (w : Int) (ev : Ro Iv5) (n i : Int) (sk : Ro [.str, .int .i64, .int .i64, .int .i64, .int .i64]) (is : Ro [.str, .int .i64, .int .i64]) (A : List Ed → Prop) (K : Nat → List Ed → Prop) : Prop :=
  Vif (decide (i < n)) (Need (decide ((0 : Int) ≤ i) && decide (i < (↑(ev.xs.length) : Int))) (Need (decide (i.toNat < ev.xs.length)) (Pre True (Vif (Sp.out (0 : Int) (200 : Int) [[Cl.i (cel ev.xs i.toNat (0 : Nat)).int]]) (K (0+1 : Nat) [.i (7 : Int)]) (Vif (decide ((cel ev.xs i.toNat (0 : Nat)).int < w)) (K (0+1 : Nat) [.i (2 : Int)]) (Pre True (Vif (Sp.out (0 : Int) (1 : Int) [[Cl.i (cel ev.xs i.toNat (0+1 : Nat)).int]]) (K (0+1 : Nat) [.i (2 : Int)]) (Ar .i64 ((↑(sk.xs.length) : Int) - (1 : Int)) fun z => Pre True (Vif (Sp.out (0 : Int) z [[Cl.i (cel ev.xs i.toNat (0+1+1 : Nat)).int]]) (K (0+1 : Nat) [.i (4 : Int)]) (Vif (decide ((cel ev.xs i.toNat (0+1 : Nat)).int = (1 : Int))) (Ar .i64 ((↑(is.xs.length) : Int) - (1 : Int)) fun z => Pre True (Vif (Sp.out (0 : Int) z [[Cl.i (cel ev.xs i.toNat (0+1+1+1 : Nat)).int]]) (K (0+1 : Nat) [.i (4 : Int)]) (Vif (decide ((cel ev.xs i.toNat (0+1 : Nat)).int = (1 : Int))) (Pre True (Vif (Sp.out (0 : Int) (1000 : Int) [[Cl.i (cel ev.xs i.toNat (0+1+1+1+1 : Nat)).int]]) (K (0+1 : Nat) [.i (7 : Int)]) (Ar .i64 (i + (1 : Int)) fun z => A [.i (cel ev.xs i.toNat (0 : Nat)).int, .ro _ ev, .i n, .i z, .ro _ sk, .ro _ is]))) (Ar .i64 (i + (1 : Int)) fun z => A [.i (cel ev.xs i.toNat (0 : Nat)).int, .ro _ ev, .i n, .i z, .ro _ sk, .ro _ is])))) (Vif (decide ((cel ev.xs i.toNat (0+1 : Nat)).int = (1 : Int))) (Pre True (Vif (Sp.out (0 : Int) (1000 : Int) [[Cl.i (cel ev.xs i.toNat (0+1+1+1+1 : Nat)).int]]) (K (0+1 : Nat) [.i (7 : Int)]) (Ar .i64 (i + (1 : Int)) fun z => A [.i (cel ev.xs i.toNat (0 : Nat)).int, .ro _ ev, .i n, .i z, .ro _ sk, .ro _ is]))) (Ar .i64 (i + (1 : Int)) fun z => A [.i (cel ev.xs i.toNat (0 : Nat)).int, .ro _ ev, .i n, .i z, .ro _ sk, .ro _ is])))))))))))) (K (0 : Nat) [])
theorem vcl_his (W : InW) (w ev n i sk is A K) : vcTop { cxT Try.prog TT Tr0 1000 50 with fn := 67 } 1000 (loopAt Try.prog 67 12) (tmOut 91 [(3, .ptr 1 0), (11, .si .i64 w), (33, .rs _ ev), (34, .si .i64 n), (35, .si .i64 i)] [6, 13, 14, 36, 37, 38, 39, 40, 41, 42, 43, 44, 45, 46, 47, 48, 49, 50, 51, 52, 53, 54, 55, 56, 57, 58, 59, 60, 61, 62, 63, 64, 65, 66, 67, 68, 69, 70, 71, 72, 73, 74, 75, 76, 77, 78, 79, 80, 81, 82, 83, 84, 85, 86, 87, 88, 89, 90]) [(1, .blk 25 [.rs _ sk, .rs _ is])] (roundL lc_his A K) = VCL_his w ev n i sk is A K := by kernel_rfl
def okLt_his : Prop := ∀ (W : InW) (body a : Code), (Try.prog.funcs[67]?).bind (·.body) = some body → a ∈ loopsIn body → keyOf a = 12 → @LoopOk W Try.prog a (@loopRun W lc_his)
theorem okl_his (meas : [InW] → List Ed → Nat) (hyp_ : ∀ (W : InW) (w : Int) (ev : Ro Iv5) (n : Int) (i : Int) (sk : Ro [.str, .int .i64, .int .i64, .int .i64, .int .i64]) (is : Ro [.str, .int .i64, .int .i64]) (K : Nat → List Ed → Prop), sp_his [.i w, .ro _ ev, .i n, .i i, .ro _ sk, .ro _ is] K → ∀ A : List Ed → Prop, (∀ e, meas e < meas [.i w, .ro _ ev, .i n, .i i, .ro _ sk, .ro _ is] → sp_his e K → A e) → VCL_his w ev n i sk is A K) : okLt_his :=
  LE.okOf' (fun W => @TT W) (fun W => @TT_ok W) mixed_ok Tr0 1000 50 (by kernel_rfl) lc_his (fun W => @meas W) fun W w ev n i sk is K hs =>
    (vcl_his W w ev n i sk is (fun e => meas e < meas [.i w, .ro _ ev, .i n, .i i, .ro _ sk, .ro _ is] ∧ sp_his e K) K).mpr (hyp_ W w ev n i sk is K hs _ fun e h1 h2 => ⟨h1, h2⟩)
def sp_evs [InW] (e : List Ed) (K : Nat → List Ed → Prop) : Prop := match e with
  | [.ro _ ev, .i w, .i i, .ro _ sk, .ro _ is] => Pre (0 ≤ i ∧ i ≤ (ev.xs.length : Int)) (Vif (decide (Sp.evsF sk.xs.length is.xs.length ev.xs ((ev.xs.length : Int) - i).toNat i.toNat w = 0)) (K 0 []) (K 1 [.i (Sp.evsF sk.xs.length is.xs.length ev.xs ((ev.xs.length : Int) - i).toNat i.toNat w)]))
  | _ => False
noncomputable def lc_evs : LC where
  len := 69
  T := [(1, .rs Iv5), (2, (.ptr 1 0)), (5, .int .i64), (6, .int .i64)]
  H := [(1, .blk 25 [.rs [.str, .int .i64, .int .i64, .int .i64, .int .i64], .rs [.str, .int .i64, .int .i64]])]
  W := [4, 7, 11, 12, 13, 14, 15, 16, 17, 18, 19, 20, 21, 22, 23, 24, 25, 26, 27, 28, 29, 30, 31, 32, 33, 34, 35, 36, 37, 38, 39, 40, 41, 42, 43, 44, 45, 46, 47, 48, 49, 50, 51, 52, 53, 54, 55, 56, 57, 58, 59, 60, 61, 62, 63, 64, 65, 66, 67, 68]
  outs := [⟨.exit 0, [], [], [1, 2, 4, 5, 6, 7, 11, 12, 13, 14, 15, 16, 17, 18, 19, 20, 21, 22, 23, 24, 25, 26, 27, 28, 29, 30, 31, 32, 33, 34, 35, 36, 37, 38, 39, 40, 41, 42, 43, 44, 45, 46, 47, 48, 49, 50, 51, 52, 53, 54, 55, 56, 57, 58, 59, 60, 61, 62, 63, 64, 65, 66, 67, 68]⟩, ⟨.ret, [(4, .int .i64)], [], [1, 2, 5, 6, 7, 11, 12, 13, 14, 15, 16, 17, 18, 19, 20, 21, 22, 23, 24, 25, 26, 27, 28, 29, 30, 31, 32, 33, 34, 35, 36, 37, 38, 39, 40, 41, 42, 43, 44, 45, 46, 47, 48, 49, 50, 51, 52, 53, 54, 55, 56, 57, 58, 59, 60, 61, 62, 63, 64, 65, 66, 67, 68]⟩]
  spec := sp_evs
def VCL_evs [W : InW] (ev : Ro Iv5) (w i : Int) (sk : Ro [.str, .int .i64, .int .i64, .int .i64, .int .i64]) (is : Ro [.str, .int .i64, .int .i64]) (A : List Ed → Prop) (K : Nat → List Ed → Prop) : Prop :=
  Vif (decide (i < (↑(ev.xs.length) : Int))) (Need (decide ((0 : Int) ≤ i) && decide (i < (↑(ev.xs.length) : Int))) (Need (decide (i.toNat < ev.xs.length)) (Pre True (Vif (!Sp.inr (cel ev.xs i.toNat (0 : Nat)).int (0 : Int) (200 : Int)) (K (0+1 : Nat) [.i (7 : Int)]) (Vif (decide ((cel ev.xs i.toNat (0 : Nat)).int < w)) (K (0+1 : Nat) [.i (2 : Int)]) (Pre True (Vif (!Sp.inr (cel ev.xs i.toNat (0+1 : Nat)).int (0 : Int) (1 : Int)) (K (0+1 : Nat) [.i (2 : Int)]) (Ar .i64 ((↑(sk.xs.length) : Int) - (1 : Int)) fun z => Pre True (Vif (!Sp.inr (cel ev.xs i.toNat (0+1+1 : Nat)).int (0 : Int) z) (K (0+1 : Nat) [.i (4 : Int)]) (Vif (decide ((cel ev.xs i.toNat (0+1 : Nat)).int = (1 : Int))) (Ar .i64 ((↑(is.xs.length) : Int) - (1 : Int)) fun z => Pre True (Vif (!Sp.inr (cel ev.xs i.toNat (0+1+1+1 : Nat)).int (0 : Int) z) (K (0+1 : Nat) [.i (4 : Int)]) (Vif (decide ((cel ev.xs i.toNat (0+1 : Nat)).int = (1 : Int))) (Pre True (Vif (!Sp.inr (cel ev.xs i.toNat (0+1+1+1+1 : Nat)).int (0 : Int) (1000 : Int)) (K (0+1 : Nat) [.i (7 : Int)]) (Ar .i64 (i + (1 : Int)) fun z => A [.ro _ ev, .i (cel ev.xs i.toNat (0 : Nat)).int, .i z, .ro _ sk, .ro _ is]))) (Ar .i64 (i + (1 : Int)) fun z => A [.ro _ ev, .i (cel ev.xs i.toNat (0 : Nat)).int, .i z, .ro _ sk, .ro _ is])))) (Vif (decide ((cel ev.xs i.toNat (0+1 : Nat)).int = (1 : Int))) (Pre True (Vif (!Sp.inr (cel ev.xs i.toNat (0+1+1+1+1 : Nat)).int (0 : Int) (1000 : Int)) (K (0+1 : Nat) [.i (7 : Int)]) (Ar .i64 (i + (1 : Int)) fun z => A [.ro _ ev, .i (cel ev.xs i.toNat (0 : Nat)).int, .i z, .ro _ sk, .ro _ is]))) (Ar .i64 (i + (1 : Int)) fun z => A [.ro _ ev, .i (cel ev.xs i.toNat (0 : Nat)).int, .i z, .ro _ sk, .ro _ is])))))))))))) (K (0 : Nat) [])
theorem vcl_evs (W : InW) (ev w i sk is A K) : vcTop { cxT Try.prog TT Tr0 1000 50 with fn := 44 } 1000 (loopAt Try.prog 44 6) (tmOut 69 [(1, .rs _ ev), (2, .ptr 1 0), (5, .si .i64 w), (6, .si .i64 i)] [4, 7, 11, 12, 13, 14, 15, 16, 17, 18, 19, 20, 21, 22, 23, 24, 25, 26, 27, 28, 29, 30, 31, 32, 33, 34, 35, 36, 37, 38, 39, 40, 41, 42, 43, 44, 45, 46, 47, 48, 49, 50, 51, 52, 53, 54, 55, 56, 57, 58, 59, 60, 61, 62, 63, 64, 65, 66, 67, 68]) [(1, .blk 25 [.rs _ sk, .rs _ is])] (roundL lc_evs A K) = VCL_evs ev w i sk is A K := by kernel_rfl
def okLt_evs : Prop := ∀ (W : InW) (body a : Code), (Try.prog.funcs[44]?).bind (·.body) = some body → a ∈ loopsIn body → keyOf a = 6 → @LoopOk W Try.prog a (@loopRun W lc_evs)
theorem okl_evs (meas : [InW] → List Ed → Nat) (hyp_ : ∀ (W : InW) (ev : Ro Iv5) (w : Int) (i : Int) (sk : Ro [.str, .int .i64, .int .i64, .int .i64, .int .i64]) (is : Ro [.str, .int .i64, .int .i64]) (K : Nat → List Ed → Prop), sp_evs [.ro _ ev, .i w, .i i, .ro _ sk, .ro _ is] K → ∀ A : List Ed → Prop, (∀ e, meas e < meas [.ro _ ev, .i w, .i i, .ro _ sk, .ro _ is] → sp_evs e K → A e) → VCL_evs ev w i sk is A K) : okLt_evs :=
  LE.okOf' (fun W => @TT W) (fun W => @TT_ok W) mixed_ok Tr0 1000 50 (by kernel_rfl) lc_evs (fun W => @meas W) fun W ev w i sk is K hs =>
    (vcl_evs W ev w i sk is (fun e => meas e < meas [.ro _ ev, .i w, .i i, .ro _ sk, .ro _ is] ∧ sp_evs e K) K).mpr (hyp_ W ev w i sk is K hs _ fun e h1 h2 => ⟨h1, h2⟩)
theorem evs_step {n m : Int} {ev : Dt} {k i : Nat} {w : Int} : (Sp.ev1 n m ev i w ≠ 0 → Sp.evsF n m ev (k + 1) i w = Sp.ev1 n m ev i w) ∧ (Sp.ev1 n m ev i w = 0 → Sp.evsF n m ev (k + 1) i w = Sp.evsF n m ev k (i + 1) (Sp.evW ev i)) :=
  ⟨fun h => by rw [Sp.evsF, if_neg h], fun h => by rw [Sp.evsF, if_pos h]⟩
theorem okLhis : okLt_his := okl_his (fun e => match e with | _ :: _ :: .i n :: .i i :: _ => (n - i).toNat | _ => 0) fun W w ev n i sk is K hs A hA => by
  obtain ⟨⟨rfl, h0, h1⟩, hk⟩ := hs
  unfold VCL_his
  have hm := ev.len
  have hm2 := sk.len
  have hm3 := is.len
  simp only [maxLen] at hm hm2 hm3
  simp only [Nat.zero_add, Nat.reduceAdd, out1]
  refine vifd (fun e => ?_) fun e => ?_
  · rw [show ((ev.xs.length : Int) - i).toNat = ((ev.xs.length : Int) - (i + 1)).toNat + 1 by omega] at hk
    have ez : (i + 1).toNat = i.toNat + 1 := by omega
    have st := evs_step (n := sk.xs.length) (m := is.xs.length) (ev := ev.xs) (k := ((ev.xs.length : Int) - (i + 1)).toNat) (i := i.toNat) (w := w)
    have bad : ∀ n, Sp.ev1 sk.xs.length is.xs.length ev.xs i.toNat w = n → n ≠ 0 → K 1 [.i n] := fun n hn h => by
      have := st.1 (by omega)
      rw [this, hn] at hk
      exact hk.2 (by simp [h])
    have hA' : Sp.ev1 sk.xs.length is.xs.length ev.xs i.toNat w = 0 → A [.i (Sp.evW ev.xs i.toNat), .ro _ ev, .i ev.xs.length, .i (i + 1), .ro _ sk, .ro _ is] := fun f => hA _ (by show ((ev.xs.length : Int) - (i + 1)).toNat < ((ev.xs.length : Int) - i).toNat; omega) ⟨⟨rfl, by omega, by omega⟩, by rw [ez, ← st.2 f]; exact hk⟩
    have eS := Lib.hid (show Sp.ev1 sk.xs.length is.xs.length ev.xs i.toNat w = if Sp.inr (cel ev.xs i.toNat 0).int 0 200 then (if (cel ev.xs i.toNat 0).int < w ∨ Sp.inr (cel ev.xs i.toNat 1).int 0 1 = false then 2 else (if Sp.inr (cel ev.xs i.toNat 2).int 0 (sk.xs.length - 1) = false ∨ ((cel ev.xs i.toNat 1).int = 1 ∧ Sp.inr (cel ev.xs i.toNat 3).int 0 (is.xs.length - 1) = false) then 4 else (if (cel ev.xs i.toNat 1).int = 1 ∧ Sp.inr (cel ev.xs i.toNat 4).int 0 1000 = false then 7 else 0))) else 7 from rfl)
    unfold Sp.evW at hA'
    clear hk hA st
    repeat' (first | omega | with_reducible refine vifd (fun _ => ?_) fun _ => ?_ | with_reducible refine vifn (fun _ => ?_) fun _ => ?_ | with_reducible refine vifq (fun _ => ?_) fun _ => ?_ | with_reducible refine vifq0 (fun _ => ?_) fun _ => ?_ | with_reducible refine vifq1 (fun _ => ?_) fun _ => ?_ | with_reducible refine vifb (fun _ => ?_) fun _ => ?_ | with_reducible refine vif (fun _ => ?_) fun _ => ?_ | (with_reducible refine nedd ?_ ?_; omega) | (with_reducible refine ned ?_ ?_; simp only [Bool.and_eq_true, decide_eq_true_eq]; omega) | (with_reducible refine ar64 ?_ ?_; omega) | (with_reducible refine pre_of ?_ ?_; (first | trivial | omega | assumption | (refine ⟨?_, ?_⟩ <;> first | trivial | omega | assumption) | (refine ⟨?_, ?_, ?_⟩ <;> first | trivial | omega | assumption) | (refine ⟨?_, ?_, ?_, ?_⟩ <;> first | trivial | omega | assumption))))
    all_goals first | exact bad _ (by rw [eS.out]; simp_all) (by omega) | exact hA' (by rw [eS.out]; simp_all)
  · rw [show ((ev.xs.length : Int) - i).toNat = 0 by omega] at hk
    exact hk.1 rfl
theorem okLevs : okLt_evs := okl_evs (fun e => match e with | .ro _ ev :: _ :: .i i :: _ => ((ev.xs.length : Int) - i).toNat | _ => 0) fun W ev w i sk is K hs A hA => by
  obtain ⟨⟨h0, h1⟩, hk⟩ := hs
  unfold VCL_evs
  have hm := ev.len
  have hm2 := sk.len
  have hm3 := is.len
  simp only [maxLen] at hm hm2 hm3
  simp only [Nat.zero_add, Nat.reduceAdd, out1]
  refine vifd (fun e => ?_) fun e => ?_
  · rw [show ((ev.xs.length : Int) - i).toNat = ((ev.xs.length : Int) - (i + 1)).toNat + 1 by omega] at hk
    have ez : (i + 1).toNat = i.toNat + 1 := by omega
    have st := evs_step (n := sk.xs.length) (m := is.xs.length) (ev := ev.xs) (k := ((ev.xs.length : Int) - (i + 1)).toNat) (i := i.toNat) (w := w)
    have bad : ∀ n, Sp.ev1 sk.xs.length is.xs.length ev.xs i.toNat w = n → n ≠ 0 → K 1 [.i n] := fun n hn h => by
      have := st.1 (by omega)
      rw [this, hn] at hk
      exact hk.2 (by simp [h])
    have hA' : Sp.ev1 sk.xs.length is.xs.length ev.xs i.toNat w = 0 → A [.ro _ ev, .i (Sp.evW ev.xs i.toNat), .i (i + 1), .ro _ sk, .ro _ is] := fun f => hA _ (by show ((ev.xs.length : Int) - (i + 1)).toNat < ((ev.xs.length : Int) - i).toNat; omega) ⟨⟨by omega, by omega⟩, by rw [ez, ← st.2 f]; exact hk⟩
    have eS := Lib.hid (show Sp.ev1 sk.xs.length is.xs.length ev.xs i.toNat w = if Sp.inr (cel ev.xs i.toNat 0).int 0 200 then (if (cel ev.xs i.toNat 0).int < w ∨ Sp.inr (cel ev.xs i.toNat 1).int 0 1 = false then 2 else (if Sp.inr (cel ev.xs i.toNat 2).int 0 (sk.xs.length - 1) = false ∨ ((cel ev.xs i.toNat 1).int = 1 ∧ Sp.inr (cel ev.xs i.toNat 3).int 0 (is.xs.length - 1) = false) then 4 else (if (cel ev.xs i.toNat 1).int = 1 ∧ Sp.inr (cel ev.xs i.toNat 4).int 0 1000 = false then 7 else 0))) else 7 from rfl)
    unfold Sp.evW at hA'
    clear hk hA st
    repeat' (first | omega | with_reducible refine vifd (fun _ => ?_) fun _ => ?_ | with_reducible refine vifn (fun _ => ?_) fun _ => ?_ | with_reducible refine vifq (fun _ => ?_) fun _ => ?_ | with_reducible refine vifq0 (fun _ => ?_) fun _ => ?_ | with_reducible refine vifq1 (fun _ => ?_) fun _ => ?_ | with_reducible refine vifb (fun _ => ?_) fun _ => ?_ | with_reducible refine vif (fun _ => ?_) fun _ => ?_ | (with_reducible refine nedd ?_ ?_; omega) | (with_reducible refine ned ?_ ?_; simp only [Bool.and_eq_true, decide_eq_true_eq]; omega) | (with_reducible refine ar64 ?_ ?_; omega) | (with_reducible refine pre_of ?_ ?_; (first | trivial | omega | assumption | (refine ⟨?_, ?_⟩ <;> first | trivial | omega | assumption) | (refine ⟨?_, ?_, ?_⟩ <;> first | trivial | omega | assumption) | (refine ⟨?_, ?_, ?_, ?_⟩ <;> first | trivial | omega | assumption))))
    all_goals first | exact bad _ (by rw [eS.out]; simp_all) (by omega) | exact hA' (by rw [eS.out]; simp_all)
  · rw [show ((ev.xs.length : Int) - i).toNat = 0 by omega] at hk
    exact hk.1 rfl
noncomputable def le_his : LE Try.prog := ⟨67, 12, fun W => @loopRun W lc_his, okLhis⟩
noncomputable def le_evs : LE Try.prog := ⟨44, 6, fun W => @loopRun W lc_evs, okLevs⟩
noncomputable def Tr1 : Tab Try.prog := ⟨[pc_bCheck, pc_ranged], [le_his, le_evs], []⟩
def VC_history [W : InW] (s_Skills : Ro [.str, .int .i64, .int .i64, .int .i64, .int .i64]) (s_Instrs : Ro [.str, .int .i64, .int .i64]) (st : Ro [.int .i64, .int .i64]) (ev : Ro Iv5) (Q : DS → Prop) : Prop :=
  Pre True (Vif (!decide (Sp.chkE s_Skills.xs s_Instrs.xs = (0 : Int))) (Q [[Cl.i (Sp.chkE s_Skills.xs s_Instrs.xs)]]) (Pre True (Vif (!decide (Sp.rgsE (↑(s_Skills.xs.length) : Int) st.xs = (0 : Int))) (Q [[Cl.i (Sp.rgsE (↑(s_Skills.xs.length) : Int) st.xs)]]) (Vif (decide ((60 : Int) < (↑(ev.xs.length) : Int))) (Q [[Cl.i (3 : Int)]]) (Pre ((↑(ev.xs.length) : Int) = (↑(ev.xs.length) : Int) ∧ (0 : Int) ≤ (0 : Int) ∧ (0 : Int) ≤ (↑(ev.xs.length) : Int)) (Vif (decide (Sp.evsF (↑(s_Skills.xs.length) : Int) (↑(s_Instrs.xs.length) : Int) ev.xs ((↑(ev.xs.length) : Int) - (0 : Int)).toNat (Int.toNat (0 : Int)) (0 : Int) = (0 : Int))) (Q [[Cl.i (0 : Int)]]) (Q [[Cl.i (Sp.evsF (↑(s_Skills.xs.length) : Int) (↑(s_Instrs.xs.length) : Int) ev.xs ((↑(ev.xs.length) : Int) - (0 : Int)).toNat (Int.toNat (0 : Int)) (0 : Int))]])))))))
theorem vc_history (W : InW) (s_Skills s_Instrs st ev Q) : bodyK (cxT Try.prog TT Tr1 1000 50) 1000 67 [.agg [.rs _ s_Skills, .rs _ s_Instrs], .rs _ st, .rs _ ev] [] 0 (leafK [(false, [.int .i64])] Q) (fun _ _ _ _ => Stuck 421) = VC_history s_Skills s_Instrs st ev Q := by kernel_rfl
abbrev ats_history : List AT := [.agg [.sl [.str, .int .i64, .int .i64, .int .i64, .int .i64], .sl [.str, .int .i64, .int .i64]], .one (.sl [.int .i64, .int .i64]), .one (.sl Iv5)]
theorem ok_history {pre : DS → Prop} {res : DS → DS} (hyp_ : ∀ (W : InW) (s_Skills : Ro [.str, .int .i64, .int .i64, .int .i64, .int .i64]) (s_Instrs : Ro [.str, .int .i64, .int .i64]) (st : Ro [.int .i64, .int .i64]) (ev : Ro Iv5), pre [[.l s_Skills.xs, .l s_Instrs.xs], [.l st.xs], [.l ev.xs]] → ∀ Q : DS → Prop, Q (res [[.l s_Skills.xs, .l s_Instrs.xs], [.l st.xs], [.l ev.xs]]) → VC_history s_Skills s_Instrs st ev Q) : PureOk Try.prog 67 ats_history [(false, [.int .i64])] pre res :=
  PureOk.of' (fun W => @TT W) (fun W => @TT_ok W) mixed_ok Tr1 1000 50 fun W s_Skills s_Instrs st ev hp =>
    (vc_history W s_Skills s_Instrs st ev (fun o => o = res [[.l s_Skills.xs, .l s_Instrs.xs], [.l st.xs], [.l ev.xs]])).mpr (hyp_ W s_Skills s_Instrs st ev hp _ rfl)
def VC_Events [W : InW] (s_Skills : Ro [.str, .int .i64, .int .i64, .int .i64, .int .i64]) (s_Instrs : Ro [.str, .int .i64, .int .i64]) (ev : Ro Iv5) (Q : DS → Prop) : Prop :=
  Vif (decide ((60 : Int) < (↑(ev.xs.length) : Int))) (Q [[Cl.i (3 : Int)]]) (Pre ((0 : Int) ≤ (0 : Int) ∧ (0 : Int) ≤ (↑(ev.xs.length) : Int)) (Vif (decide (Sp.evsF (↑(s_Skills.xs.length) : Int) (↑(s_Instrs.xs.length) : Int) ev.xs ((↑(ev.xs.length) : Int) - (0 : Int)).toNat (Int.toNat (0 : Int)) (0 : Int) = (0 : Int))) (Q [[Cl.i (0 : Int)]]) (Q [[Cl.i (Sp.evsF (↑(s_Skills.xs.length) : Int) (↑(s_Instrs.xs.length) : Int) ev.xs ((↑(ev.xs.length) : Int) - (0 : Int)).toNat (Int.toNat (0 : Int)) (0 : Int))]])))
theorem vc_Events (W : InW) (s_Skills s_Instrs ev Q) : bodyK (cxT Try.prog TT Tr1 1000 50) 1000 44 [.agg [.rs _ s_Skills, .rs _ s_Instrs], .rs _ ev] [] 0 (leafK [(false, [.int .i64])] Q) (fun _ _ _ _ => Stuck 421) = VC_Events s_Skills s_Instrs ev Q := by kernel_rfl
abbrev ats_Events : List AT := [.agg [.sl [.str, .int .i64, .int .i64, .int .i64, .int .i64], .sl [.str, .int .i64, .int .i64]], .one (.sl Iv5)]
theorem ok_Events {pre : DS → Prop} {res : DS → DS} (hyp_ : ∀ (W : InW) (s_Skills : Ro [.str, .int .i64, .int .i64, .int .i64, .int .i64]) (s_Instrs : Ro [.str, .int .i64, .int .i64]) (ev : Ro Iv5), pre [[.l s_Skills.xs, .l s_Instrs.xs], [.l ev.xs]] → ∀ Q : DS → Prop, Q (res [[.l s_Skills.xs, .l s_Instrs.xs], [.l ev.xs]]) → VC_Events s_Skills s_Instrs ev Q) : PureOk Try.prog 44 ats_Events [(false, [.int .i64])] pre res :=
  PureOk.of' (fun W => @TT W) (fun W => @TT_ok W) mixed_ok Tr1 1000 50 fun W s_Skills s_Instrs ev hp =>
    (vc_Events W s_Skills s_Instrs ev (fun o => o = res [[.l s_Skills.xs, .l s_Instrs.xs], [.l ev.xs]])).mpr (hyp_ W s_Skills s_Instrs ev hp _ rfl)
abbrev res_history (ds : DS) : DS := match ds with | [[.l sk, .l is], [.l st], [.l ev]] => [[.i (Sp.hisE sk is st ev)]] | _ => []
abbrev res_Events (ds : DS) : DS := match ds with | [[.l sk, .l is], [.l ev]] => [[.i (Sp.evsE sk.length is.length ev)]] | _ => []
end Go.Proofs.Ytdokbocmgdhmmaa
namespace Go.Proofs.Ytdokbocmgdhmmaa
open Go.RowKit
set_option linter.unusedVariables false
set_option maxRecDepth 100000
set_option maxHeartbeats 1600000
namespace Sp
structure HisOk (sk is st ev : Dt) : Prop where
  sch : SchOk sk is
  len : st.length = sk.length
  rg : RgOk st
  ev : EvOk sk is ev
def lvA (sk is st ev : Dt) : Bool × Int × Dt := lvS sk is ev ev.length 0 0 st
def aftE (sk is st ev : Dt) (w : Int) : Int := if hisE sk is st ev = 0 then (if inr w 0 200 then (if 0 < ev.length ∧ w < evW ev (ev.length - 1) then 2 else (if (lvA sk is st ev).1 then 0 else 9)) else 7) else hisE sk is st ev
def aftD (sk is st ev : Dt) (w : Int) : Dt := if aftE sk is st ev w = 0 then fadeD sk (lvA sk is st ev).2.2 (w - (lvA sk is st ev).2.1) else []
end Sp
theorem ev1_iff {n m : Int} {ev : Dt} {i : Nat} {w : Int} : Sp.ev1 n m ev i w = 0 ↔ (0 ≤ Sp.evW ev i ∧ Sp.evW ev i ≤ 200) ∧ w ≤ Sp.evW ev i ∧ (Sp.evK ev i = 0 ∨ Sp.evK ev i = 1) ∧ (0 ≤ Sp.evS ev i ∧ Sp.evS ev i < n) ∧ (Sp.evK ev i = 1 → 0 ≤ Sp.evI ev i ∧ Sp.evI ev i < m ∧ 0 ≤ Sp.evM ev i ∧ Sp.evM ev i ≤ 1000) := by
  unfold Sp.ev1
  by_cases h1 : Sp.inr (Sp.evW ev i) 0 200 = true
  · rw [if_pos h1]
    rw [inr_iff] at h1
    by_cases h2 : Sp.evW ev i < w ∨ Sp.inr (Sp.evK ev i) 0 1 = false
    · rw [if_pos h2]
      rw [inr_ff] at h2
      omega
    · rw [if_neg h2]
      rw [inr_ff] at h2
      by_cases h3 : Sp.inr (Sp.evS ev i) 0 (n - 1) = false ∨ (Sp.evK ev i = 1 ∧ Sp.inr (Sp.evI ev i) 0 (m - 1) = false)
      · rw [if_pos h3]
        rw [inr_ff, inr_ff] at h3
        refine ⟨fun e => by omega, fun e => ?_⟩
        have := e.2.2.2.2
        omega
      · rw [if_neg h3]
        rw [inr_ff, inr_ff] at h3
        by_cases h4 : Sp.evK ev i = 1 ∧ Sp.inr (Sp.evM ev i) 0 1000 = false
        · rw [if_pos h4]
          rw [inr_ff] at h4
          refine ⟨fun e => by omega, fun e => ?_⟩
          have := e.2.2.2.2 h4.1
          omega
        · rw [if_neg h4]
          rw [inr_ff] at h4
          exact ⟨fun _ => ⟨h1, by omega, by omega, by omega, fun e => by omega⟩, fun _ => rfl⟩
  · rw [if_neg h1]
    rw [inr_iff] at h1
    exact ⟨fun e => by omega, fun e => absurd e.1 h1⟩
theorem evs_no {n m : Int} {ev : Dt} : ∀ {k i : Nat} {w : Int}, Sp.evsF n m ev k i w = 0 → ∀ j, i ≤ j → j < i + k → Sp.ev1 n m ev j (if j = i then w else Sp.evW ev (j - 1)) = 0
  | 0, i, w, _, j, h1, h2 => by omega
  | k + 1, i, w, h, j, h1, h2 => by
    have st := evs_step (n := n) (m := m) (ev := ev) (k := k) (i := i) (w := w)
    have h0 : Sp.ev1 n m ev i w = 0 := by
      by_cases e : Sp.ev1 n m ev i w = 0
      · exact e
      · rw [st.1 e] at h; exact h
    rw [st.2 h0] at h
    by_cases e : j = i
    · rw [if_pos e, e]; exact h0
    · rw [if_neg e]
      have := evs_no h j (by omega) (by omega)
      by_cases e2 : j = i + 1
      · rw [if_pos e2] at this
        rw [e2] at this ⊢
        exact this
      · rwa [if_neg e2] at this
theorem evs_of {n m : Int} {ev : Dt} : ∀ {k i : Nat} {w : Int}, (∀ j, i ≤ j → j < i + k → Sp.ev1 n m ev j (if j = i then w else Sp.evW ev (j - 1)) = 0) → Sp.evsF n m ev k i w = 0
  | 0, _, _, _ => rfl
  | k + 1, i, w, h => by
    have st := evs_step (n := n) (m := m) (ev := ev) (k := k) (i := i) (w := w)
    have h0 := h i (by omega) (by omega)
    rw [if_pos rfl] at h0
    rw [st.2 h0]
    refine evs_of fun j h1 h2 => ?_
    have := h j (by omega) (by omega)
    rw [if_neg (by omega)] at this
    by_cases e2 : j = i + 1
    · rw [if_pos e2]
      rw [e2] at this ⊢
      exact this
    · rwa [if_neg e2]
theorem evs_iff {sk is ev : Dt} : Sp.evsE sk.length is.length ev = 0 ↔ Sp.EvOk sk is ev := by
  unfold Sp.evsE
  by_cases h6 : (60 : Int) < ev.length
  · rw [if_pos h6]
    exact ⟨fun e => by omega, fun e => by have := e.l60; omega⟩
  · rw [if_neg h6]
    refine ⟨fun e => ?_, fun e => evs_of fun j h1 h2 => ?_⟩
    · have a := fun j (hj : j < ev.length) => ev1_iff.1 (evs_no e j (by omega) (by omega))
      refine ⟨by omega, fun j hj => (a j hj).1, fun j hj => ?_, fun j hj => (a j hj).2.2.1, fun j hj => (a j hj).2.2.2.1, fun j hj => (a j hj).2.2.2.2⟩
      have := (a (j + 1) hj).2.1
      rw [if_neg (by omega)] at this
      exact this
    · rw [Nat.zero_add] at h2
      refine ev1_iff.2 ⟨e.wk j h2, ?_, e.kd j h2, e.sk j h2, e.is j h2⟩
      by_cases e0 : j = 0
      · rw [if_pos e0]; exact (e.wk j h2).1
      · rw [if_neg e0]
        have := e.up (j - 1) (by omega)
        rwa [show j - 1 + 1 = j by omega] at this
theorem his_iff {sk is st ev : Dt} : Sp.hisE sk is st ev = 0 ↔ Sp.HisOk sk is st ev := by
  unfold Sp.hisE
  by_cases h1 : Sp.chkE sk is = 0
  · rw [if_pos h1]
    by_cases h2 : Sp.rgsE sk.length st = 0
    · rw [if_pos h2]
      have := rgs_iff.1 h2
      exact ⟨fun e => ⟨chk_iff.1 h1, this.1, this.2, evs_iff.1 e⟩, fun e => evs_iff.2 e.ev⟩
    · rw [if_neg h2]
      exact ⟨fun e => absurd e h2, fun e => absurd (rgs_iff.2 ⟨e.len, e.rg⟩) h2⟩
  · rw [if_neg h1]
    exact ⟨fun e => absurd e h1, fun e => absurd (chk_iff.2 e.sch) h1⟩
theorem okhistory : PureOk Try.prog 67 ats_history [(false, [.int .i64])] (fun _ => True) res_history :=
  ok_history fun W sk is st ev _ Q h => by
    unfold VC_history
    simp only [res_history, Sp.hisE, Sp.evsE] at h
    refine ⟨trivial, vifn (fun e1 => ?_) fun e1 => ⟨trivial, vifn (fun e2 => ?_) fun e2 => vifd (fun e3 => ?_) fun e3 => ⟨⟨rfl, by omega, by omega⟩, ?_⟩⟩⟩
    · rw [if_neg e1] at h; exact h
    · rw [if_pos e1, if_neg e2] at h; exact h
    · rw [if_pos e1, if_pos e2, if_pos e3] at h; exact h
    · rw [if_pos e1, if_pos e2, if_neg e3] at h
      rw [show ((ev.xs.length : Int) - 0).toNat = ev.xs.length by omega, show Int.toNat 0 = 0 from rfl]
      exact vifd (fun e => by rw [e] at h; exact h) fun e => h
theorem okEvents : PureOk Try.prog 44 ats_Events [(false, [.int .i64])] (fun _ => True) res_Events :=
  ok_Events fun W sk is ev _ Q h => by
    unfold VC_Events
    simp only [res_Events, Sp.evsE] at h
    refine vifd (fun e3 => ?_) fun e3 => ⟨⟨by omega, by omega⟩, ?_⟩
    · rw [if_pos e3] at h; exact h
    · rw [if_neg e3] at h
      rw [show ((ev.xs.length : Int) - 0).toNat = ev.xs.length by omega, show Int.toNat 0 = 0 from rfl]
      exact vifd (fun e => by rw [e] at h; exact h) fun e => h
noncomputable def pc_history : PC Try.prog := ⟨67, ats_history, [(false, [.int .i64])], fun _ => True, res_history, okhistory⟩
noncomputable def pc_Events : PC Try.prog := ⟨44, ats_Events, [(false, [.int .i64])], fun _ => True, res_Events, okEvents⟩
theorem lv_ok {sk is ev : Dt} (hS : Sp.SchOk sk is) (hE : Sp.EvOk sk is ev) : ∀ (n i : Nat) (w : Int) (rg : Dt), i + n ≤ ev.length → rg.length = sk.length → Sp.RgOk rg → Sp.Two rg → (0 < n → w ≤ Sp.evW ev i) → (Sp.lvS sk is ev n i w rg).1 = true →
    (Sp.lvS sk is ev n i w rg).2.1 = (if n = 0 then w else Sp.evW ev (i + n - 1)) ∧ (Sp.lvS sk is ev n i w rg).2.2.length = sk.length ∧ Sp.RgOk (Sp.lvS sk is ev n i w rg).2.2 ∧ Sp.Two (Sp.lvS sk is ev n i w rg).2.2
  | 0, i, w, rg, _, hl, hR, hT, _, _ => ⟨rfl, hl, hR, hT⟩
  | n + 1, i, w, rg, hi, hl, hR, hT, hw, h => by
    have st := lv_step (sk := sk) (is := is) (ev := ev) (rg := rg) (n := n) (i := i) (w := w)
    have hF : Sp.FdOk sk := fun j hj => hS.skF j hj
    have f1 := fd_ok hR hF (show 0 ≤ Sp.evW ev i - w by have := hw (by omega); omega) hl
    have f3 := fd_len sk rg (Sp.evW ev i - w)
    by_cases hd : Sp.hpHi sk is (Sp.fadeD sk rg (Sp.evW ev i - w)) ev i < Sp.hpLo sk is (Sp.fadeD sk rg (Sp.evW ev i - w)) ev i
    · rw [st.1 hd] at h; cases h
    · rw [st.2 hd] at h ⊢
      have r := lv_ok hS hE n (i + 1) (Sp.evW ev i) _ (by omega) (by rw [Sp.hpD, List.length_set, f3]; exact hl) (hp_ok hS hE (by omega) (by rw [f3]; exact hl) f1 hd) (hp_two (fd_two _ _ _)) (fun _ => hE.up i (by omega)) h
      refine ⟨?_, r.2⟩
      rw [r.1, if_neg (Nat.succ_ne_zero n)]
      by_cases e : n = 0
      · rw [if_pos e, e]; rfl
      · rw [if_neg e, show i + 1 + n - 1 = i + (n + 1) - 1 by omega]
noncomputable def Tq2 : Tab Try.prog := ⟨[], [le_lv], []⟩
def sp_liv [InW] (e : List Ed) (K : Nat → List Ed → Prop) : Prop := match e with
  | [.ro _ sk, .ro _ is, .ro _ st, .ro _ ev] => Pre (Sp.HisOk sk.xs is.xs st.xs ev.xs ∧ Sp.Two st.xs) (Vif (Sp.lvA sk.xs is.xs st.xs ev.xs).1 (K 0 [.ro _ sk, .ro _ is, .i (Sp.lvA sk.xs is.xs st.xs ev.xs).2.1, .l (Sp.lvA sk.xs is.xs st.xs ev.xs).2.2]) (K 1 []))
  | _ => False
noncomputable def cc_liv : CC where
  g := 68
  args := [.agg [.rs [.str, .int .i64, .int .i64, .int .i64, .int .i64], .rs [.str, .int .i64, .int .i64]], .rs [.int .i64, .int .i64], .rs Iv5]
  H := []
  outs := [⟨false, .tup [(.ptr 6 0), (.lit (.int .i64 0))], [(6, .blk 120 [.rs [.str, .int .i64, .int .i64, .int .i64, .int .i64], .rs [.str, .int .i64, .int .i64], (.row 12), .int .i64]), (12, .arr 32 [.int .i64, .int .i64])], false⟩, ⟨false, .tup [(.lit (.pointer none)), (.lit (.int .i64 9))], [], false⟩]
  spec := sp_liv
def VCC_liv [W : InW] (sk : Ro [.str, .int .i64, .int .i64, .int .i64, .int .i64]) (is : Ro [.str, .int .i64, .int .i64]) (st : Ro [.int .i64, .int .i64]) (ev : Ro [.int .i64, .int .i64, .int .i64, .int .i64, .int .i64]) (K : Nat → List Ed → Prop) : Prop :=
  Vif (match st.v with | Value.slice none len cap => true | x => false) (Pre ((↑(ev.xs.length) : Int) = (↑(ev.xs.length) : Int) ∧ (0 : Int) ≤ (0 : Int) ∧ (0 : Int) ≤ (↑(ev.xs.length) : Int) ∧ Sp.SchOk sk.xs is.xs ∧ Sp.EvOk sk.xs is.xs ev.xs ∧ (0 : Nat) = sk.xs.length ∧ (0 : Int) ≤ (0 : Int) ∧ (0 : Int) ≤ (200 : Int) ∧ ((0 : Int) < (↑(ev.xs.length) : Int) → (0 : Int) ≤ Sp.evW (rsK._proof_1 [Ty.int IntKind.i64, Ty.int IntKind.i64, Ty.int IntKind.i64, Ty.int IntKind.i64, Ty.int IntKind.i64] [Ty.int IntKind.i64, Ty.int IntKind.i64, Ty.int IntKind.i64, Ty.int IntKind.i64, Ty.int IntKind.i64] rfl ▸ ev).xs (Int.toNat (0 : Int))) ∧ Sp.RgOk [] ∧ Sp.Two []) (Vif (Sp.lvS (rsK._proof_1 [Ty.str, Ty.int IntKind.i64, Ty.int IntKind.i64, Ty.int IntKind.i64, Ty.int IntKind.i64] [Ty.str, Ty.int IntKind.i64, Ty.int IntKind.i64, Ty.int IntKind.i64, Ty.int IntKind.i64] rfl ▸ sk).xs (rsK._proof_1 [Ty.str, Ty.int IntKind.i64, Ty.int IntKind.i64] [Ty.str, Ty.int IntKind.i64, Ty.int IntKind.i64] rfl ▸ is).xs (rsK._proof_1 [Ty.int IntKind.i64, Ty.int IntKind.i64, Ty.int IntKind.i64, Ty.int IntKind.i64, Ty.int IntKind.i64] [Ty.int IntKind.i64, Ty.int IntKind.i64, Ty.int IntKind.i64, Ty.int IntKind.i64, Ty.int IntKind.i64] rfl ▸ ev).xs ((↑(ev.xs.length) : Int) - (0 : Int)).toNat (Int.toNat (0 : Int)) (0 : Int) []).1 (K (0 : Nat) [Ed.ro _ sk, Ed.ro _ is, Ed.i (Sp.lvS (rsK._proof_1 [Ty.str, Ty.int IntKind.i64, Ty.int IntKind.i64, Ty.int IntKind.i64, Ty.int IntKind.i64] [Ty.str, Ty.int IntKind.i64, Ty.int IntKind.i64, Ty.int IntKind.i64, Ty.int IntKind.i64] rfl ▸ sk).xs (rsK._proof_1 [Ty.str, Ty.int IntKind.i64, Ty.int IntKind.i64] [Ty.str, Ty.int IntKind.i64, Ty.int IntKind.i64] rfl ▸ is).xs (rsK._proof_1 [Ty.int IntKind.i64, Ty.int IntKind.i64, Ty.int IntKind.i64, Ty.int IntKind.i64, Ty.int IntKind.i64] [Ty.int IntKind.i64, Ty.int IntKind.i64, Ty.int IntKind.i64, Ty.int IntKind.i64, Ty.int IntKind.i64] rfl ▸ ev).xs ((↑(ev.xs.length) : Int) - (0 : Int)).toNat (Int.toNat (0 : Int)) (0 : Int) []).snd.1, Ed.l (Sp.lvS (rsK._proof_1 [Ty.str, Ty.int IntKind.i64, Ty.int IntKind.i64, Ty.int IntKind.i64, Ty.int IntKind.i64] [Ty.str, Ty.int IntKind.i64, Ty.int IntKind.i64, Ty.int IntKind.i64, Ty.int IntKind.i64] rfl ▸ sk).xs (rsK._proof_1 [Ty.str, Ty.int IntKind.i64, Ty.int IntKind.i64] [Ty.str, Ty.int IntKind.i64, Ty.int IntKind.i64] rfl ▸ is).xs (rsK._proof_1 [Ty.int IntKind.i64, Ty.int IntKind.i64, Ty.int IntKind.i64, Ty.int IntKind.i64, Ty.int IntKind.i64] [Ty.int IntKind.i64, Ty.int IntKind.i64, Ty.int IntKind.i64, Ty.int IntKind.i64, Ty.int IntKind.i64] rfl ▸ ev).xs ((↑(ev.xs.length) : Int) - (0 : Int)).toNat (Int.toNat (0 : Int)) (0 : Int) []).snd.2]) (K (0+1 : Nat) []))) (Need (decide (((0 : Nat) + st.xs.length) * (16 : Nat) ≤ (140737488355328 : Nat))) (Pre ((↑(ev.xs.length) : Int) = (↑(ev.xs.length) : Int) ∧ (0 : Int) ≤ (0 : Int) ∧ (0 : Int) ≤ (↑(ev.xs.length) : Int) ∧ Sp.SchOk sk.xs is.xs ∧ Sp.EvOk sk.xs is.xs ev.xs ∧ st.xs.length = sk.xs.length ∧ (0 : Int) ≤ (0 : Int) ∧ (0 : Int) ≤ (200 : Int) ∧ ((0 : Int) < (↑(ev.xs.length) : Int) → (0 : Int) ≤ Sp.evW (rsK._proof_1 [Ty.int IntKind.i64, Ty.int IntKind.i64, Ty.int IntKind.i64, Ty.int IntKind.i64, Ty.int IntKind.i64] [Ty.int IntKind.i64, Ty.int IntKind.i64, Ty.int IntKind.i64, Ty.int IntKind.i64, Ty.int IntKind.i64] rfl ▸ ev).xs (Int.toNat (0 : Int))) ∧ Sp.RgOk st.xs ∧ Sp.Two st.xs) (Vif (Sp.lvS (rsK._proof_1 [Ty.str, Ty.int IntKind.i64, Ty.int IntKind.i64, Ty.int IntKind.i64, Ty.int IntKind.i64] [Ty.str, Ty.int IntKind.i64, Ty.int IntKind.i64, Ty.int IntKind.i64, Ty.int IntKind.i64] rfl ▸ sk).xs (rsK._proof_1 [Ty.str, Ty.int IntKind.i64, Ty.int IntKind.i64] [Ty.str, Ty.int IntKind.i64, Ty.int IntKind.i64] rfl ▸ is).xs (rsK._proof_1 [Ty.int IntKind.i64, Ty.int IntKind.i64, Ty.int IntKind.i64, Ty.int IntKind.i64, Ty.int IntKind.i64] [Ty.int IntKind.i64, Ty.int IntKind.i64, Ty.int IntKind.i64, Ty.int IntKind.i64, Ty.int IntKind.i64] rfl ▸ ev).xs ((↑(ev.xs.length) : Int) - (0 : Int)).toNat (Int.toNat (0 : Int)) (0 : Int) ([] ++ st.xs)).1 (K (0 : Nat) [Ed.ro _ sk, Ed.ro _ is, Ed.i (Sp.lvS (rsK._proof_1 [Ty.str, Ty.int IntKind.i64, Ty.int IntKind.i64, Ty.int IntKind.i64, Ty.int IntKind.i64] [Ty.str, Ty.int IntKind.i64, Ty.int IntKind.i64, Ty.int IntKind.i64, Ty.int IntKind.i64] rfl ▸ sk).xs (rsK._proof_1 [Ty.str, Ty.int IntKind.i64, Ty.int IntKind.i64] [Ty.str, Ty.int IntKind.i64, Ty.int IntKind.i64] rfl ▸ is).xs (rsK._proof_1 [Ty.int IntKind.i64, Ty.int IntKind.i64, Ty.int IntKind.i64, Ty.int IntKind.i64, Ty.int IntKind.i64] [Ty.int IntKind.i64, Ty.int IntKind.i64, Ty.int IntKind.i64, Ty.int IntKind.i64, Ty.int IntKind.i64] rfl ▸ ev).xs ((↑(ev.xs.length) : Int) - (0 : Int)).toNat (Int.toNat (0 : Int)) (0 : Int) ([] ++ st.xs)).snd.1, Ed.l (Sp.lvS (rsK._proof_1 [Ty.str, Ty.int IntKind.i64, Ty.int IntKind.i64, Ty.int IntKind.i64, Ty.int IntKind.i64] [Ty.str, Ty.int IntKind.i64, Ty.int IntKind.i64, Ty.int IntKind.i64, Ty.int IntKind.i64] rfl ▸ sk).xs (rsK._proof_1 [Ty.str, Ty.int IntKind.i64, Ty.int IntKind.i64] [Ty.str, Ty.int IntKind.i64, Ty.int IntKind.i64] rfl ▸ is).xs (rsK._proof_1 [Ty.int IntKind.i64, Ty.int IntKind.i64, Ty.int IntKind.i64, Ty.int IntKind.i64, Ty.int IntKind.i64] [Ty.int IntKind.i64, Ty.int IntKind.i64, Ty.int IntKind.i64, Ty.int IntKind.i64, Ty.int IntKind.i64] rfl ▸ ev).xs ((↑(ev.xs.length) : Int) - (0 : Int)).toNat (Int.toNat (0 : Int)) (0 : Int) ([] ++ st.xs)).snd.2]) (K (0+1 : Nat) []))))
theorem vcc_liv (W : InW) (sk is st ev K) : coreK (cxT Try.prog TT Tq2 1000 50) 1000 68 [.agg [.rs _ sk, .rs _ is], .rs _ st, .rs _ ev] [] (fun v h => outC cc_liv.H [] cc_liv.outs 0 false v h K) (fun v h => outC cc_liv.H [] cc_liv.outs 0 true v h K) = VCC_liv sk is st ev K := by kernel_rfl
theorem okc_liv (hyp_ : ∀ (W : InW) (sk : Ro [.str, .int .i64, .int .i64, .int .i64, .int .i64]) (is : Ro [.str, .int .i64, .int .i64]) (st : Ro [.int .i64, .int .i64]) (ev : Ro Iv5) (K : Nat → List Ed → Prop), sp_liv [.ro _ sk, .ro _ is, .ro _ st, .ro _ ev] K → VCC_liv sk is st ev K) : ∀ W : InW, @CallC W Try.prog cc_liv :=
  CC.okOf (fun W => @TT W) (fun W => @TT_ok W) mixed_ok Tq2 1000 50 cc_liv fun W sk is st ev K hs => (vcc_liv W sk is st ev K).mpr (hyp_ W sk is st ev K hs)
theorem okCliv : ∀ W : InW, @CallC W Try.prog cc_liv := okc_liv fun W sk is st ev K hs => by
  obtain ⟨⟨hH, hT⟩, hk⟩ := hs
  unfold VCC_liv
  have n1 := hH.sch.n1
  have n5 := hH.sch.n5
  have hl := hH.len
  have e0 : ((ev.xs.length : Int) - 0).toNat = ev.xs.length := by omega
  refine vif (fun e => ?_) fun e => nedd (by omega) ⟨⟨rfl, by omega, by omega, hH.sch, hH.ev, hl, by omega, by omega, fun h => (hH.ev.wk 0 (by omega)).1, hH.rg, hT⟩, ?_⟩
  · have := isNilV_of (r := st) e
    rw [this] at hl
    exact absurd hl (by simp; omega)
  · rw [e0]
    exact hk
noncomputable def Ts : Tab Try.prog := ⟨[pc_out, pc_history], [], [ceOf cc_liv okCliv, ceOf cc_wait okCwait]⟩
def VC_After [W : InW] (s_Skills : Ro [.str, .int .i64, .int .i64, .int .i64, .int .i64]) (s_Instrs : Ro [.str, .int .i64, .int .i64]) (st : Ro [.int .i64, .int .i64]) (ev : Ro [.int .i64, .int .i64, .int .i64, .int .i64, .int .i64]) (w : Int) (Q : DS → Prop) : Prop :=
  Pre True (Vif (!decide (Sp.hisE s_Skills.xs s_Instrs.xs st.xs ev.xs = (0 : Int))) (Q [[Cl.l []], [Cl.i (Sp.hisE s_Skills.xs s_Instrs.xs st.xs ev.xs)]]) (Pre True (Vif (Sp.out (0 : Int) (200 : Int) [[Cl.i w]]) (Q [[Cl.l []], [Cl.i (7 : Int)]]) (Vif (decide ((0 : Int) < (↑(ev.xs.length) : Int))) (Ar .i64 ((↑(ev.xs.length) : Int) - (1 : Int)) fun z => Need (decide ((0 : Int) ≤ z) && decide (z < (↑(ev.xs.length) : Int))) (Need (decide (z.toNat < ev.xs.length)) (Vif (decide (w < (cel ev.xs z.toNat (0 : Nat)).int)) (Q [[Cl.l []], [Cl.i (2 : Int)]]) (Pre (Sp.HisOk s_Skills.xs s_Instrs.xs st.xs ev.xs ∧ Sp.Two st.xs) (Vif (Sp.lvA (rsK._proof_1 [Ty.str, Ty.int IntKind.i64, Ty.int IntKind.i64, Ty.int IntKind.i64, Ty.int IntKind.i64] [Ty.str, Ty.int IntKind.i64, Ty.int IntKind.i64, Ty.int IntKind.i64, Ty.int IntKind.i64] rfl ▸ s_Skills).xs (rsK._proof_1 [Ty.str, Ty.int IntKind.i64, Ty.int IntKind.i64] [Ty.str, Ty.int IntKind.i64, Ty.int IntKind.i64] rfl ▸ s_Instrs).xs (rsK._proof_1 [Ty.int IntKind.i64, Ty.int IntKind.i64] [Ty.int IntKind.i64, Ty.int IntKind.i64] rfl ▸ st).xs (rsK._proof_1 [Ty.int IntKind.i64, Ty.int IntKind.i64, Ty.int IntKind.i64, Ty.int IntKind.i64, Ty.int IntKind.i64] [Ty.int IntKind.i64, Ty.int IntKind.i64, Ty.int IntKind.i64, Ty.int IntKind.i64, Ty.int IntKind.i64] rfl ▸ ev).xs).1 (Pre (List.length (Sp.lvA (rsK._proof_1 [Ty.str, Ty.int IntKind.i64, Ty.int IntKind.i64, Ty.int IntKind.i64, Ty.int IntKind.i64] [Ty.str, Ty.int IntKind.i64, Ty.int IntKind.i64, Ty.int IntKind.i64, Ty.int IntKind.i64] rfl ▸ s_Skills).xs (rsK._proof_1 [Ty.str, Ty.int IntKind.i64, Ty.int IntKind.i64] [Ty.str, Ty.int IntKind.i64, Ty.int IntKind.i64] rfl ▸ s_Instrs).xs (rsK._proof_1 [Ty.int IntKind.i64, Ty.int IntKind.i64] [Ty.int IntKind.i64, Ty.int IntKind.i64] rfl ▸ st).xs (rsK._proof_1 [Ty.int IntKind.i64, Ty.int IntKind.i64, Ty.int IntKind.i64, Ty.int IntKind.i64, Ty.int IntKind.i64] [Ty.int IntKind.i64, Ty.int IntKind.i64, Ty.int IntKind.i64, Ty.int IntKind.i64, Ty.int IntKind.i64] rfl ▸ ev).xs).snd.2 = s_Skills.xs.length ∧ Sp.FdOk s_Skills.xs ∧ (Sp.lvA (rsK._proof_1 [Ty.str, Ty.int IntKind.i64, Ty.int IntKind.i64, Ty.int IntKind.i64, Ty.int IntKind.i64] [Ty.str, Ty.int IntKind.i64, Ty.int IntKind.i64, Ty.int IntKind.i64, Ty.int IntKind.i64] rfl ▸ s_Skills).xs (rsK._proof_1 [Ty.str, Ty.int IntKind.i64, Ty.int IntKind.i64] [Ty.str, Ty.int IntKind.i64, Ty.int IntKind.i64] rfl ▸ s_Instrs).xs (rsK._proof_1 [Ty.int IntKind.i64, Ty.int IntKind.i64] [Ty.int IntKind.i64, Ty.int IntKind.i64] rfl ▸ st).xs (rsK._proof_1 [Ty.int IntKind.i64, Ty.int IntKind.i64, Ty.int IntKind.i64, Ty.int IntKind.i64, Ty.int IntKind.i64] [Ty.int IntKind.i64, Ty.int IntKind.i64, Ty.int IntKind.i64, Ty.int IntKind.i64, Ty.int IntKind.i64] rfl ▸ ev).xs).snd.1 ≤ w ∧ (-100000 : Int) ≤ (Sp.lvA (rsK._proof_1 [Ty.str, Ty.int IntKind.i64, Ty.int IntKind.i64, Ty.int IntKind.i64, Ty.int IntKind.i64] [Ty.str, Ty.int IntKind.i64, Ty.int IntKind.i64, Ty.int IntKind.i64, Ty.int IntKind.i64] rfl ▸ s_Skills).xs (rsK._proof_1 [Ty.str, Ty.int IntKind.i64, Ty.int IntKind.i64] [Ty.str, Ty.int IntKind.i64, Ty.int IntKind.i64] rfl ▸ s_Instrs).xs (rsK._proof_1 [Ty.int IntKind.i64, Ty.int IntKind.i64] [Ty.int IntKind.i64, Ty.int IntKind.i64] rfl ▸ st).xs (rsK._proof_1 [Ty.int IntKind.i64, Ty.int IntKind.i64, Ty.int IntKind.i64, Ty.int IntKind.i64, Ty.int IntKind.i64] [Ty.int IntKind.i64, Ty.int IntKind.i64, Ty.int IntKind.i64, Ty.int IntKind.i64, Ty.int IntKind.i64] rfl ▸ ev).xs).snd.1 ∧ w ≤ (100000 : Int) ∧ Sp.RgOk (Sp.lvA (rsK._proof_1 [Ty.str, Ty.int IntKind.i64, Ty.int IntKind.i64, Ty.int IntKind.i64, Ty.int IntKind.i64] [Ty.str, Ty.int IntKind.i64, Ty.int IntKind.i64, Ty.int IntKind.i64, Ty.int IntKind.i64] rfl ▸ s_Skills).xs (rsK._proof_1 [Ty.str, Ty.int IntKind.i64, Ty.int IntKind.i64] [Ty.str, Ty.int IntKind.i64, Ty.int IntKind.i64] rfl ▸ s_Instrs).xs (rsK._proof_1 [Ty.int IntKind.i64, Ty.int IntKind.i64] [Ty.int IntKind.i64, Ty.int IntKind.i64] rfl ▸ st).xs (rsK._proof_1 [Ty.int IntKind.i64, Ty.int IntKind.i64, Ty.int IntKind.i64, Ty.int IntKind.i64, Ty.int IntKind.i64] [Ty.int IntKind.i64, Ty.int IntKind.i64, Ty.int IntKind.i64, Ty.int IntKind.i64, Ty.int IntKind.i64] rfl ▸ ev).xs).snd.2 ∧ Sp.Two (Sp.lvA (rsK._proof_1 [Ty.str, Ty.int IntKind.i64, Ty.int IntKind.i64, Ty.int IntKind.i64, Ty.int IntKind.i64] [Ty.str, Ty.int IntKind.i64, Ty.int IntKind.i64, Ty.int IntKind.i64, Ty.int IntKind.i64] rfl ▸ s_Skills).xs (rsK._proof_1 [Ty.str, Ty.int IntKind.i64, Ty.int IntKind.i64] [Ty.str, Ty.int IntKind.i64, Ty.int IntKind.i64] rfl ▸ s_Instrs).xs (rsK._proof_1 [Ty.int IntKind.i64, Ty.int IntKind.i64] [Ty.int IntKind.i64, Ty.int IntKind.i64] rfl ▸ st).xs (rsK._proof_1 [Ty.int IntKind.i64, Ty.int IntKind.i64, Ty.int IntKind.i64, Ty.int IntKind.i64, Ty.int IntKind.i64] [Ty.int IntKind.i64, Ty.int IntKind.i64, Ty.int IntKind.i64, Ty.int IntKind.i64, Ty.int IntKind.i64] rfl ▸ ev).xs).snd.2) (Q [[Cl.l (Sp.fadeD s_Skills.xs (Sp.lvA (rsK._proof_1 [Ty.str, Ty.int IntKind.i64, Ty.int IntKind.i64, Ty.int IntKind.i64, Ty.int IntKind.i64] [Ty.str, Ty.int IntKind.i64, Ty.int IntKind.i64, Ty.int IntKind.i64, Ty.int IntKind.i64] rfl ▸ s_Skills).xs (rsK._proof_1 [Ty.str, Ty.int IntKind.i64, Ty.int IntKind.i64] [Ty.str, Ty.int IntKind.i64, Ty.int IntKind.i64] rfl ▸ s_Instrs).xs (rsK._proof_1 [Ty.int IntKind.i64, Ty.int IntKind.i64] [Ty.int IntKind.i64, Ty.int IntKind.i64] rfl ▸ st).xs (rsK._proof_1 [Ty.int IntKind.i64, Ty.int IntKind.i64, Ty.int IntKind.i64, Ty.int IntKind.i64, Ty.int IntKind.i64] [Ty.int IntKind.i64, Ty.int IntKind.i64, Ty.int IntKind.i64, Ty.int IntKind.i64, Ty.int IntKind.i64] rfl ▸ ev).xs).snd.2 (w - (Sp.lvA (rsK._proof_1 [Ty.str, Ty.int IntKind.i64, Ty.int IntKind.i64, Ty.int IntKind.i64, Ty.int IntKind.i64] [Ty.str, Ty.int IntKind.i64, Ty.int IntKind.i64, Ty.int IntKind.i64, Ty.int IntKind.i64] rfl ▸ s_Skills).xs (rsK._proof_1 [Ty.str, Ty.int IntKind.i64, Ty.int IntKind.i64] [Ty.str, Ty.int IntKind.i64, Ty.int IntKind.i64] rfl ▸ s_Instrs).xs (rsK._proof_1 [Ty.int IntKind.i64, Ty.int IntKind.i64] [Ty.int IntKind.i64, Ty.int IntKind.i64] rfl ▸ st).xs (rsK._proof_1 [Ty.int IntKind.i64, Ty.int IntKind.i64, Ty.int IntKind.i64, Ty.int IntKind.i64, Ty.int IntKind.i64] [Ty.int IntKind.i64, Ty.int IntKind.i64, Ty.int IntKind.i64, Ty.int IntKind.i64, Ty.int IntKind.i64] rfl ▸ ev).xs).snd.1))], [Cl.i (0 : Int)]])) (Q [[Cl.l []], [Cl.i (9 : Int)]])))))) (Pre (Sp.HisOk s_Skills.xs s_Instrs.xs st.xs ev.xs ∧ Sp.Two st.xs) (Vif (Sp.lvA (rsK._proof_1 [Ty.str, Ty.int IntKind.i64, Ty.int IntKind.i64, Ty.int IntKind.i64, Ty.int IntKind.i64] [Ty.str, Ty.int IntKind.i64, Ty.int IntKind.i64, Ty.int IntKind.i64, Ty.int IntKind.i64] rfl ▸ s_Skills).xs (rsK._proof_1 [Ty.str, Ty.int IntKind.i64, Ty.int IntKind.i64] [Ty.str, Ty.int IntKind.i64, Ty.int IntKind.i64] rfl ▸ s_Instrs).xs (rsK._proof_1 [Ty.int IntKind.i64, Ty.int IntKind.i64] [Ty.int IntKind.i64, Ty.int IntKind.i64] rfl ▸ st).xs (rsK._proof_1 [Ty.int IntKind.i64, Ty.int IntKind.i64, Ty.int IntKind.i64, Ty.int IntKind.i64, Ty.int IntKind.i64] [Ty.int IntKind.i64, Ty.int IntKind.i64, Ty.int IntKind.i64, Ty.int IntKind.i64, Ty.int IntKind.i64] rfl ▸ ev).xs).1 (Pre (List.length (Sp.lvA (rsK._proof_1 [Ty.str, Ty.int IntKind.i64, Ty.int IntKind.i64, Ty.int IntKind.i64, Ty.int IntKind.i64] [Ty.str, Ty.int IntKind.i64, Ty.int IntKind.i64, Ty.int IntKind.i64, Ty.int IntKind.i64] rfl ▸ s_Skills).xs (rsK._proof_1 [Ty.str, Ty.int IntKind.i64, Ty.int IntKind.i64] [Ty.str, Ty.int IntKind.i64, Ty.int IntKind.i64] rfl ▸ s_Instrs).xs (rsK._proof_1 [Ty.int IntKind.i64, Ty.int IntKind.i64] [Ty.int IntKind.i64, Ty.int IntKind.i64] rfl ▸ st).xs (rsK._proof_1 [Ty.int IntKind.i64, Ty.int IntKind.i64, Ty.int IntKind.i64, Ty.int IntKind.i64, Ty.int IntKind.i64] [Ty.int IntKind.i64, Ty.int IntKind.i64, Ty.int IntKind.i64, Ty.int IntKind.i64, Ty.int IntKind.i64] rfl ▸ ev).xs).snd.2 = s_Skills.xs.length ∧ Sp.FdOk s_Skills.xs ∧ (Sp.lvA (rsK._proof_1 [Ty.str, Ty.int IntKind.i64, Ty.int IntKind.i64, Ty.int IntKind.i64, Ty.int IntKind.i64] [Ty.str, Ty.int IntKind.i64, Ty.int IntKind.i64, Ty.int IntKind.i64, Ty.int IntKind.i64] rfl ▸ s_Skills).xs (rsK._proof_1 [Ty.str, Ty.int IntKind.i64, Ty.int IntKind.i64] [Ty.str, Ty.int IntKind.i64, Ty.int IntKind.i64] rfl ▸ s_Instrs).xs (rsK._proof_1 [Ty.int IntKind.i64, Ty.int IntKind.i64] [Ty.int IntKind.i64, Ty.int IntKind.i64] rfl ▸ st).xs (rsK._proof_1 [Ty.int IntKind.i64, Ty.int IntKind.i64, Ty.int IntKind.i64, Ty.int IntKind.i64, Ty.int IntKind.i64] [Ty.int IntKind.i64, Ty.int IntKind.i64, Ty.int IntKind.i64, Ty.int IntKind.i64, Ty.int IntKind.i64] rfl ▸ ev).xs).snd.1 ≤ w ∧ (-100000 : Int) ≤ (Sp.lvA (rsK._proof_1 [Ty.str, Ty.int IntKind.i64, Ty.int IntKind.i64, Ty.int IntKind.i64, Ty.int IntKind.i64] [Ty.str, Ty.int IntKind.i64, Ty.int IntKind.i64, Ty.int IntKind.i64, Ty.int IntKind.i64] rfl ▸ s_Skills).xs (rsK._proof_1 [Ty.str, Ty.int IntKind.i64, Ty.int IntKind.i64] [Ty.str, Ty.int IntKind.i64, Ty.int IntKind.i64] rfl ▸ s_Instrs).xs (rsK._proof_1 [Ty.int IntKind.i64, Ty.int IntKind.i64] [Ty.int IntKind.i64, Ty.int IntKind.i64] rfl ▸ st).xs (rsK._proof_1 [Ty.int IntKind.i64, Ty.int IntKind.i64, Ty.int IntKind.i64, Ty.int IntKind.i64, Ty.int IntKind.i64] [Ty.int IntKind.i64, Ty.int IntKind.i64, Ty.int IntKind.i64, Ty.int IntKind.i64, Ty.int IntKind.i64] rfl ▸ ev).xs).snd.1 ∧ w ≤ (100000 : Int) ∧ Sp.RgOk (Sp.lvA (rsK._proof_1 [Ty.str, Ty.int IntKind.i64, Ty.int IntKind.i64, Ty.int IntKind.i64, Ty.int IntKind.i64] [Ty.str, Ty.int IntKind.i64, Ty.int IntKind.i64, Ty.int IntKind.i64, Ty.int IntKind.i64] rfl ▸ s_Skills).xs (rsK._proof_1 [Ty.str, Ty.int IntKind.i64, Ty.int IntKind.i64] [Ty.str, Ty.int IntKind.i64, Ty.int IntKind.i64] rfl ▸ s_Instrs).xs (rsK._proof_1 [Ty.int IntKind.i64, Ty.int IntKind.i64] [Ty.int IntKind.i64, Ty.int IntKind.i64] rfl ▸ st).xs (rsK._proof_1 [Ty.int IntKind.i64, Ty.int IntKind.i64, Ty.int IntKind.i64, Ty.int IntKind.i64, Ty.int IntKind.i64] [Ty.int IntKind.i64, Ty.int IntKind.i64, Ty.int IntKind.i64, Ty.int IntKind.i64, Ty.int IntKind.i64] rfl ▸ ev).xs).snd.2 ∧ Sp.Two (Sp.lvA (rsK._proof_1 [Ty.str, Ty.int IntKind.i64, Ty.int IntKind.i64, Ty.int IntKind.i64, Ty.int IntKind.i64] [Ty.str, Ty.int IntKind.i64, Ty.int IntKind.i64, Ty.int IntKind.i64, Ty.int IntKind.i64] rfl ▸ s_Skills).xs (rsK._proof_1 [Ty.str, Ty.int IntKind.i64, Ty.int IntKind.i64] [Ty.str, Ty.int IntKind.i64, Ty.int IntKind.i64] rfl ▸ s_Instrs).xs (rsK._proof_1 [Ty.int IntKind.i64, Ty.int IntKind.i64] [Ty.int IntKind.i64, Ty.int IntKind.i64] rfl ▸ st).xs (rsK._proof_1 [Ty.int IntKind.i64, Ty.int IntKind.i64, Ty.int IntKind.i64, Ty.int IntKind.i64, Ty.int IntKind.i64] [Ty.int IntKind.i64, Ty.int IntKind.i64, Ty.int IntKind.i64, Ty.int IntKind.i64, Ty.int IntKind.i64] rfl ▸ ev).xs).snd.2) (Q [[Cl.l (Sp.fadeD s_Skills.xs (Sp.lvA (rsK._proof_1 [Ty.str, Ty.int IntKind.i64, Ty.int IntKind.i64, Ty.int IntKind.i64, Ty.int IntKind.i64] [Ty.str, Ty.int IntKind.i64, Ty.int IntKind.i64, Ty.int IntKind.i64, Ty.int IntKind.i64] rfl ▸ s_Skills).xs (rsK._proof_1 [Ty.str, Ty.int IntKind.i64, Ty.int IntKind.i64] [Ty.str, Ty.int IntKind.i64, Ty.int IntKind.i64] rfl ▸ s_Instrs).xs (rsK._proof_1 [Ty.int IntKind.i64, Ty.int IntKind.i64] [Ty.int IntKind.i64, Ty.int IntKind.i64] rfl ▸ st).xs (rsK._proof_1 [Ty.int IntKind.i64, Ty.int IntKind.i64, Ty.int IntKind.i64, Ty.int IntKind.i64, Ty.int IntKind.i64] [Ty.int IntKind.i64, Ty.int IntKind.i64, Ty.int IntKind.i64, Ty.int IntKind.i64, Ty.int IntKind.i64] rfl ▸ ev).xs).snd.2 (w - (Sp.lvA (rsK._proof_1 [Ty.str, Ty.int IntKind.i64, Ty.int IntKind.i64, Ty.int IntKind.i64, Ty.int IntKind.i64] [Ty.str, Ty.int IntKind.i64, Ty.int IntKind.i64, Ty.int IntKind.i64, Ty.int IntKind.i64] rfl ▸ s_Skills).xs (rsK._proof_1 [Ty.str, Ty.int IntKind.i64, Ty.int IntKind.i64] [Ty.str, Ty.int IntKind.i64, Ty.int IntKind.i64] rfl ▸ s_Instrs).xs (rsK._proof_1 [Ty.int IntKind.i64, Ty.int IntKind.i64] [Ty.int IntKind.i64, Ty.int IntKind.i64] rfl ▸ st).xs (rsK._proof_1 [Ty.int IntKind.i64, Ty.int IntKind.i64, Ty.int IntKind.i64, Ty.int IntKind.i64, Ty.int IntKind.i64] [Ty.int IntKind.i64, Ty.int IntKind.i64, Ty.int IntKind.i64, Ty.int IntKind.i64, Ty.int IntKind.i64] rfl ▸ ev).xs).snd.1))], [Cl.i (0 : Int)]])) (Q [[Cl.l []], [Cl.i (9 : Int)]])))))))
theorem vc_After (W : InW) (s_Skills s_Instrs st ev w Q) : bodyK (cxT Try.prog TT Ts 1000 50) 1000 25 [.agg [.rs _ s_Skills, .rs _ s_Instrs], .rs _ st, .rs _ ev, .si .i64 w] [] 0 (leafK [(false, [.row 32 [.int .i64, .int .i64]]), (false, [.int .i64])] Q) (fun _ _ _ _ => Stuck 421) = VC_After s_Skills s_Instrs st ev w Q := by kernel_rfl
abbrev ats_After : List AT := [.agg [.sl [.str, .int .i64, .int .i64, .int .i64, .int .i64], .sl [.str, .int .i64, .int .i64]], .one (.sl [.int .i64, .int .i64]), .one (.sl Iv5), .one (.int .i64)]
theorem ok_After {pre : DS → Prop} {res : DS → DS} (hyp_ : ∀ (W : InW) (s_Skills : Ro [.str, .int .i64, .int .i64, .int .i64, .int .i64]) (s_Instrs : Ro [.str, .int .i64, .int .i64]) (st : Ro [.int .i64, .int .i64]) (ev : Ro Iv5) (w : Int), pre [[.l s_Skills.xs, .l s_Instrs.xs], [.l st.xs], [.l ev.xs], [.i w]] → ∀ Q : DS → Prop, Q (res [[.l s_Skills.xs, .l s_Instrs.xs], [.l st.xs], [.l ev.xs], [.i w]]) → VC_After s_Skills s_Instrs st ev w Q) : PureOk Try.prog 25 ats_After [(false, [.row 32 [.int .i64, .int .i64]]), (false, [.int .i64])] pre res :=
  PureOk.of' (fun W => @TT W) (fun W => @TT_ok W) mixed_ok Ts 1000 50 fun W s_Skills s_Instrs st ev w hp =>
    (vc_After W s_Skills s_Instrs st ev w (fun o => o = res [[.l s_Skills.xs, .l s_Instrs.xs], [.l st.xs], [.l ev.xs], [.i w]])).mpr (hyp_ W s_Skills s_Instrs st ev w hp _ rfl)
abbrev pre_After (ds : DS) : Prop := match ds with | [_, [.l st], _, _] => Sp.Two st | _ => False
abbrev res_After (ds : DS) : DS := match ds with | [[.l sk, .l is], [.l st], [.l ev], [.i w]] => [[.l (Sp.aftD sk is st ev w)], [.i (Sp.aftE sk is st ev w)]] | _ => []
theorem lvA_ok {sk is st ev : Dt} (hH : Sp.HisOk sk is st ev) (hT : Sp.Two st) (h : (Sp.lvA sk is st ev).1 = true) :
    (Sp.lvA sk is st ev).2.1 = (if ev.length = 0 then 0 else Sp.evW ev (ev.length - 1)) ∧ (Sp.lvA sk is st ev).2.2.length = sk.length ∧ Sp.RgOk (Sp.lvA sk is st ev).2.2 ∧ Sp.Two (Sp.lvA sk is st ev).2.2 := by
  have := lv_ok hH.sch hH.ev ev.length 0 0 st (by omega) hH.len hH.rg hT (fun h => (hH.ev.wk 0 h).1) h
  rwa [Nat.zero_add] at this
theorem aft_end [InW] {sk is st ev : Dt} {w : Int} {Q : DS → Prop} (hH : Sp.HisOk sk is st ev) (hT : Sp.Two st) (w0 : 0 ≤ w) (w1 : w ≤ 200) (hw : ¬ (0 < ev.length ∧ w < Sp.evW ev (ev.length - 1))) (h : Q [[.l (Sp.aftD sk is st ev w)], [.i (Sp.aftE sk is st ev w)]]) :
    Pre (Sp.HisOk sk is st ev ∧ Sp.Two st) (Vif (Sp.lvA sk is st ev).1 (Pre ((Sp.lvA sk is st ev).2.2.length = sk.length ∧ Sp.FdOk sk ∧ (Sp.lvA sk is st ev).2.1 ≤ w ∧ -100000 ≤ (Sp.lvA sk is st ev).2.1 ∧ w ≤ 100000 ∧ Sp.RgOk (Sp.lvA sk is st ev).2.2 ∧ Sp.Two (Sp.lvA sk is st ev).2.2) (Q [[.l (Sp.fadeD sk (Sp.lvA sk is st ev).2.2 (w - (Sp.lvA sk is st ev).2.1))], [.i 0]])) (Q [[.l []], [.i 9]])) := by
  have hE : Sp.aftE sk is st ev w = if (Sp.lvA sk is st ev).1 then 0 else 9 := by rw [Sp.aftE, if_pos (his_iff.2 hH), if_pos (inr_iff.2 ⟨w0, w1⟩), if_neg hw]
  rw [Sp.aftD, hE] at h
  refine ⟨⟨hH, hT⟩, vif (fun e => ?_) fun e => ?_⟩
  · have r := lvA_ok hH hT e
    rw [e, if_pos rfl, if_pos rfl] at h
    refine ⟨⟨r.2.1, fun j hj => hH.sch.skF j hj, ?_, ?_, by omega, r.2.2.1, r.2.2.2⟩, h⟩
    · rw [r.1]
      split
      · omega
      · omega
    · rw [r.1]
      split
      · omega
      · have := hH.ev.wk (ev.length - 1) (by omega)
        omega
  · rw [e, if_neg (show ¬ false = true by decide), if_neg (show ¬ (9 : Int) = 0 by decide)] at h
    exact h
theorem okAfter : PureOk Try.prog 25 ats_After [(false, [.row 32 [.int .i64, .int .i64]]), (false, [.int .i64])] pre_After res_After :=
  ok_After fun W sk is st ev w hp Q h => by
    unfold VC_After
    simp only [res_After] at h
    refine ⟨trivial, vifn (fun e1 => ?_) fun e1 => ⟨trivial, vif (fun e2 => ?_) fun e2 => vifd (fun e3 => ?_) fun e3 => ?_⟩⟩
    · rw [Sp.aftD, Sp.aftE, if_neg e1, if_neg e1] at h; exact h
    · rw [out1] at e2
      rw [Sp.aftD, Sp.aftE, if_pos e1, if_neg (show ¬ Sp.inr w 0 200 = true by rw [notT e2]; decide), if_neg (show ¬ (7 : Int) = 0 by decide)] at h; exact h
    · rw [out1] at e2
      have e2 := notF e2
      have w0 := inr_iff.1 e2
      have hm := ev.len
      simp only [maxLen] at hm
      have ez : ((ev.xs.length : Int) - 1).toNat = ev.xs.length - 1 := by omega
      refine ar64 (by omega) (need_in (by omega) (nedd (by omega) (vifd (fun e4 => ?_) fun e4 => ?_)))
      · rw [ez] at e4
        have c : 0 < ev.xs.length ∧ w < Sp.evW ev.xs (ev.xs.length - 1) := ⟨by omega, e4⟩
        rw [Sp.aftD, Sp.aftE, if_pos e1, if_pos e2, if_pos c, if_neg (show ¬ (2 : Int) = 0 by decide)] at h; exact h
      · rw [ez] at e4
        exact aft_end (his_iff.1 e1) hp w0.1 w0.2 (fun c => e4 c.2) h
    · rw [out1] at e2
      have w0 := inr_iff.1 (notF e2)
      exact aft_end (his_iff.1 e1) hp w0.1 w0.2 (fun c => by omega) h
noncomputable def pc_After : PC Try.prog := ⟨25, ats_After, [(false, [.row 32 [.int .i64, .int .i64]]), (false, [.int .i64])], pre_After, res_After, okAfter⟩
end Go.Proofs.Ytdokbocmgdhmmaa
namespace Go.Proofs.Ytdokbocmgdhmmaa
open Go.RowKit
set_option linter.unusedVariables false
set_option maxRecDepth 100000
set_option maxHeartbeats 1600000
end Go.Proofs.Ytdokbocmgdhmmaa
namespace Go.Proofs.Ytdokbocmgdhmmaa
open Go.RowKit
set_option linter.unusedVariables false
theorem nameErr_le (xs : Dt) (i : Nat) : Sp.nameErr xs i ≤ 7 := by unfold Sp.nameErr; split <;> (try split) <;> omega
theorem spanE_le (a b c d : Int) : Sp.spanE a b c d ≤ 7 := by unfold Sp.spanE; split <;> (try split) <;> omega
theorem skErr_le (sk : Dt) (i : Nat) : Sp.skErr sk i ≤ 7 := by
  have := nameErr_le sk i
  unfold Sp.skErr
  split <;> (try split) <;> (try split) <;> omega
theorem inErr_le (is : Dt) (i : Nat) : Sp.inErr is i ≤ 7 := by
  have := nameErr_le is i
  have := spanE_le (Sp.bLo is i) (Sp.bHi is i) (-300) 300
  unfold Sp.inErr
  split <;> omega
theorem chkE_le (sk is : Dt) : Sp.chkE sk is ≤ 7 := by
  have h1 := skErr_le sk (Sp.idxE (Sp.skErr sk) 0 sk.length)
  have h2 := inErr_le is (Sp.idxE (Sp.inErr is) 0 is.length)
  unfold Sp.chkE Sp.check
  split
  · exact (by decide : (3 : Int) ≤ 7)
  · split
    · exact h1
    · split
      · exact h2
      · exact (by decide : (0 : Int) ≤ 7)
theorem errE_le {f : Nat → Int} (h : ∀ i, f i ≤ 7) (i n : Nat) : Sp.errE f i n ≤ 7 := by
  unfold Sp.errE
  split
  · exact h _
  · decide
theorem rgsE_le (n : Int) (rg : Dt) : Sp.rgsE n rg ≤ 7 := by
  unfold Sp.rgsE
  split
  · exact errE_le (fun i => spanE_le _ _ _ _) _ _
  · decide
theorem ev1_le (n m : Int) (ev : Dt) (i : Nat) (w : Int) : Sp.ev1 n m ev i w ≤ 7 := by
  unfold Sp.ev1
  split <;> (try split) <;> (try split) <;> (try split) <;> omega
theorem evsF_le (n m : Int) (ev : Dt) : ∀ (k i : Nat) (w : Int), Sp.evsF n m ev k i w ≤ 7
  | 0, _, _ => show (0 : Int) ≤ 7 by decide
  | k + 1, i, w => by
    unfold Sp.evsF
    split
    · exact evsF_le n m ev k _ _
    · exact ev1_le _ _ _ _ _
theorem hisE_le (sk is st ev : Dt) : Sp.hisE sk is st ev ≤ 7 := by
  unfold Sp.hisE Sp.evsE
  split
  · split
    · split
      · decide
      · exact evsF_le _ _ _ _ _ _
    · exact rgsE_le _ _
  · exact chkE_le _ _
structure AskOk (sk is st ev : Dt) (w : Int) : Prop where
  his : Sp.HisOk sk is st ev
  w0 : 0 ≤ w
  w2 : w ≤ 200
  wl : ¬ (0 < ev.length ∧ w < Sp.evW ev (ev.length - 1))
theorem aftE_of {sk is st ev : Dt} {w : Int} (h : AskOk sk is st ev w) : Sp.aftE sk is st ev w = if (Sp.lvA sk is st ev).1 then 0 else 9 := by
  rw [Sp.aftE, if_pos (his_iff.2 h.his), if_pos (inr_iff.2 ⟨h.w0, h.w2⟩), if_neg h.wl]
theorem ask_iff {sk is st ev : Dt} {w : Int} : (Sp.aftE sk is st ev w = 0 ∨ Sp.aftE sk is st ev w = 9) ↔ AskOk sk is st ev w := by
  refine ⟨fun h => ?_, fun h => by rw [aftE_of h]; split <;> simp⟩
  have hle := hisE_le sk is st ev
  unfold Sp.aftE at h
  by_cases h1 : Sp.hisE sk is st ev = 0
  · rw [if_pos h1] at h
    by_cases h2 : Sp.inr w 0 200 = true
    · rw [if_pos h2] at h
      by_cases h3 : 0 < ev.length ∧ w < Sp.evW ev (ev.length - 1)
      · rw [if_pos h3] at h; omega
      · exact ⟨his_iff.1 h1, (inr_iff.1 h2).1, (inr_iff.1 h2).2, h3⟩
    · rw [if_neg h2] at h; omega
  · rw [if_neg h1] at h; omega
theorem aftD_of {sk is st ev : Dt} {w : Int} (h : AskOk sk is st ev w) (h2 : (Sp.lvA sk is st ev).1 = true) : Sp.aftD sk is st ev w = Sp.fadeD sk (Sp.lvA sk is st ev).2.2 (w - (Sp.lvA sk is st ev).2.1) := by
  rw [Sp.aftD, aftE_of h, if_pos h2, if_pos rfl]
theorem aftD_no {sk is st ev : Dt} {w : Int} (h : Sp.aftE sk is st ev w ≠ 0) : Sp.aftD sk is st ev w = [] := by rw [Sp.aftD, if_neg h]
structure SameEv (e1 e2 : Dt) (i j n : Nat) (c : Int) : Prop where
  wk : ∀ k, k < n → Sp.evW e2 (j + k) = Sp.evW e1 (i + k) - c
  kd : ∀ k, k < n → Sp.evK e2 (j + k) = Sp.evK e1 (i + k)
  sk : ∀ k, k < n → Sp.evS e2 (j + k) = Sp.evS e1 (i + k)
  is : ∀ k, k < n → Sp.evI e2 (j + k) = Sp.evI e1 (i + k)
  mrk : ∀ k, k < n → Sp.evM e2 (j + k) = Sp.evM e1 (i + k)
theorem SameEv.next {e1 e2 : Dt} {i j n : Nat} {c : Int} (h : SameEv e1 e2 i j (n + 1) c) : SameEv e1 e2 (i + 1) (j + 1) n c where
  wk := fun k hk => by have := h.wk (k + 1) (by omega); rwa [show j + (k + 1) = j + 1 + k by omega, show i + (k + 1) = i + 1 + k by omega] at this
  kd := fun k hk => by have := h.kd (k + 1) (by omega); rwa [show j + (k + 1) = j + 1 + k by omega, show i + (k + 1) = i + 1 + k by omega] at this
  sk := fun k hk => by have := h.sk (k + 1) (by omega); rwa [show j + (k + 1) = j + 1 + k by omega, show i + (k + 1) = i + 1 + k by omega] at this
  is := fun k hk => by have := h.is (k + 1) (by omega); rwa [show j + (k + 1) = j + 1 + k by omega, show i + (k + 1) = i + 1 + k by omega] at this
  mrk := fun k hk => by have := h.mrk (k + 1) (by omega); rwa [show j + (k + 1) = j + 1 + k by omega, show i + (k + 1) = i + 1 + k by omega] at this
end Go.Proofs.Ytdokbocmgdhmmaa
namespace Go.Proofs.Ytdokbocmgdhmmaa
open Go.RowKit
set_option linter.unusedVariables false
set_option maxRecDepth 100000
set_option maxHeartbeats 1600000
theorem ev_up {sk is ev : Dt} (h : Sp.EvOk sk is ev) : ∀ n i, i + n < ev.length → Sp.evW ev i ≤ Sp.evW ev (i + n)
  | 0, i, _ => Int.le_refl _
  | n + 1, i, hi => Int.le_trans (ev_up h n i (by omega)) (h.up (i + n) (by omega))
theorem two_of {xs : Dt} (h : WfC (.sl [.int .i64, .int .i64]) (.l xs)) : Sp.Two xs := fun i hi => by
  have h0 := h.cell (k := 0) hi rfl
  have h1 := h.cell (k := 1) hi rfl
  cases h with
  | sl _ _ _ hl _ =>
    have hr := hl _ (List.getElem_mem hi)
    have e : xs.getD i [] = xs[i] := by simp [List.getD_eq_getElem?_getD, List.getElem?_eq_getElem hi]
    unfold cel at h0 h1
    rw [e] at h0 h1 ⊢
    revert h0 h1 hr
    generalize xs[i] = r
    intro h0 h1 hr
    match r, hr with
    | [x, y], _ =>
      cases x <;> first | (cases h0; done) | skip
      cases y <;> first | (cases h1; done) | exact ⟨_, _, rfl⟩
end Go.Proofs.Ytdokbocmgdhmmaa
