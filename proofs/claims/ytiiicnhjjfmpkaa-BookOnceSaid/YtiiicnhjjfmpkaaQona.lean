/-
  'BookOnce': for every input the law returns true, and what is handed in reads as before. No condition.
-/
import Derived.Test.YtiiicnhjjfmpkaaQf
import Derived.Test.YtiiicnhjjfmpkaaRows
import Derived.WalkKit
import Derived.ProofKit
set_option linter.unusedVariables false
set_option linter.unusedSectionVars false
set_option linter.unusedSimpArgs false
namespace Go.Proofs.Ytiiicnhjjfmpkaa
open Go.RowKit
set_option linter.unusedVariables false
set_option maxRecDepth 100000
namespace Sp
def pays (ps : Dt) : Nat → Nat → Dt → Dt
  | 0, _, h => h
  | n + 1, i, h => pays ps n (i + 1) (addA (addA h (cel ps i 1).int (-(cel ps i 3).int)) (cel ps i 2).int (cel ps i 3).int)
structure PsOk (na n : Int) (ps : Dt) : Prop where
  row : ∀ j, j < ps.length → (0 ≤ (cel ps j 0).int ∧ (cel ps j 0).int < n) ∧ (0 ≤ (cel ps j 1).int ∧ (cel ps j 1).int < na) ∧ (0 ≤ (cel ps j 2).int ∧ (cel ps j 2).int < na) ∧ (cel ps j 1).int ≠ (cel ps j 2).int ∧ (0 < (cel ps j 3).int ∧ (cel ps j 3).int ≤ 10000000)
  up : ∀ j, j + 1 < ps.length → (cel ps j 0).int ≤ (cel ps (j + 1) 0).int
def sumI (a : Dt) : Nat → Nat → Int
  | _, 0 => 0
  | i, n + 1 => (cel a i 0).int + sumI a (i + 1) n
end Sp
end Go.Proofs.Ytiiicnhjjfmpkaa
namespace Go.Proofs.Ytiiicnhjjfmpkaa
set_option linter.unusedVariables false
namespace Sp
theorem runB_ind {s : Sch} {evs : Dt} {P : Int → Bks → Prop} (hs : ∀ (i : Int) (b : Bks), 0 ≤ i → i < evs.length → Inv s b i → P i b → P (i + 1) (doB s b i (evt evs i))) : ∀ (n : Nat) (i : Int) (b : Bks), 0 ≤ i → i + n ≤ 60 → i + n ≤ evs.length → Inv s b i → P i b → P (i + n) (runB s evs n i b)
  | 0, i, b, h0, _, _, hI, h => by simpa [runB] using h
  | n + 1, i, b, h0, h1, h2, hI, h => by
    rw [show i + ((n + 1 : Nat) : Int) = i + 1 + n by omega]
    exact runB_ind hs n (i + 1) _ (by omega) (by omega) (by omega) (hI.step (by omega) _) (hs i b h0 (by omega) hI h)
theorem run_ind {s : Sch} {evs : Dt} {P : Int → Bks → Prop} (h : rErr s evs = 0) (h0 : P 0 (open0 s)) (hs : ∀ (i : Int) (b : Bks), 0 ≤ i → i < evs.length → Inv s b i → P i b → P (i + 1) (doB s b i (evt evs i))) : P evs.length (runAll s evs) := by
  obtain ⟨h1, h2⟩ := rErr_ok h
  have := runB_ind hs evs.length 0 (open0 s) (by omega) (by omega) (by omega) (Inv.zero h1) h0
  rw [Int.zero_add] at this
  exact this
theorem doB_cases {s : Sch} {b : Bks} {n : Int} {x : Evt} {P : Bks → Prop} (h0 : P b) (h1 : P { b with ev := n }) (h2 : inr x.kind 0 6 = true → b.tm ≤ x.at_ → x.at_ ≤ 4800 → err s b x = 0 → P { eff s { b with ev := n } x with tm := x.at_ }) : P (doB s b n x) := by
  unfold doB
  split
  · exact h0
  rename_i e1
  split
  · exact h0
  rename_i e2
  simp only [Bool.not_eq_true, Bool.not_eq_false'] at e1 e2
  have ht := inr_iff.1 e2
  split
  · rename_i e3
    exact h2 e1 ht.1 ht.2 e3
  · exact h1
theorem rB_ok {s : Sch} {evs : Dt} (h : rErr s evs = 0) : rB s evs = runAll s evs := if_pos h
theorem rB_no {s : Sch} {evs : Dt} (h : ¬ rErr s evs = 0) : rB s evs = ⟨[], [], [], [], [], [], 0, 0⟩ := if_neg h
theorem rE_ok {s : Sch} {evs : Dt} (h : rErr s evs = 0) : rE s evs = errAll s evs := if_pos h
theorem rE_no {s : Sch} {evs : Dt} (h : ¬ rErr s evs = 0) : rE s evs = [] := if_neg h
theorem sumI_set (a : Dt) (v : Int) (i : Nat) (hi : i < a.length) : ∀ (n k : Nat), sumI (a.set i [.i v]) k n = sumI a k n + if k ≤ i ∧ i < k + n then v - (cel a i 0).int else 0
  | 0, k => by simp [sumI]; omega
  | n + 1, k => by
    unfold sumI
    rw [sumI_set a v i hi n (k + 1), cel_set]
    by_cases h : i = k
    · subst h
      rw [if_pos ⟨rfl, hi⟩, if_neg (by omega), if_pos (by omega)]
      show v + _ = _
      omega
    · rw [if_neg (fun e => h e.1)]
      by_cases h2 : k + 1 ≤ i ∧ i < k + 1 + n
      · rw [if_pos h2, if_pos (by omega)]; omega
      · rw [if_neg h2, if_neg (by omega)]; omega
theorem sumI_addA (a : Dt) (i c : Int) (h : 0 ≤ i ∧ i < a.length) : sumI (addA a i c) 0 a.length = sumI a 0 a.length + c := by
  unfold addA
  rw [sumI_set a _ i.toNat (by omega), if_pos (by omega)]
  omega
theorem sumI_zero (n : Nat) : ∀ (m k : Nat), sumI (List.replicate n [.i 0]) k m = 0
  | 0, _ => rfl
  | m + 1, k => by
    unfold sumI
    rw [sumI_zero n m, cel_rep]
    split <;> rfl
theorem pays_app (ps : Dt) (r : List Cl) : ∀ (n i : Nat) (h : Dt), i + n = ps.length → pays (ps ++ [r]) (n + 1) i h = addA (addA (pays ps n i h) (r.getD 1 .z).int (-(r.getD 3 .z).int)) (r.getD 2 .z).int (r.getD 3 .z).int
  | 0, i, h, e => by
    have : ∀ k, cel (ps ++ [r]) i k = r.getD k .z := fun k => by
      rw [show i = ps.length by omega]
      simp [cel, List.getD_eq_getElem?_getD]
    simp only [pays, this]
  | n + 1, i, h, e => by
    have : ∀ k, cel (ps ++ [r]) i k = cel ps i k := fun k => by simp [cel, List.getD_eq_getElem?_getD, List.getElem?_append_left (show i < ps.length by omega)]
    rw [pays, pays_app ps r n (i + 1) _ (by omega), this, this, this]
    rfl
structure Led (s : Sch) (b : Bks) (n : Int) : Prop where
  ac : b.ac = pays b.ps b.ps.length 0 (List.replicate (s.rl.length + 4) [.i 0])
  ps : PsOk ((s.rl.length : Int) + 4) n b.ps
  sum : sumI b.ac 0 b.ac.length = 0
theorem PsOk.up1 {na n : Int} {ps : Dt} (h : PsOk na n ps) : PsOk na (n + 1) ps := ⟨fun j hj => by have := h.row j hj; exact ⟨by omega, this.2⟩, h.up⟩
theorem PsOk.post {na n : Int} {ps : Dt} (h : PsOk na (n + 1) ps) (h0 : 0 ≤ n) {u v c : Int} (hu : 0 ≤ u ∧ u < na) (hv : 0 ≤ v ∧ v < na) (hn : u ≠ v) (hc : 0 ≤ c ∧ c ≤ 10000000) : PsOk na (n + 1) (postP ps n u v c) := by
  unfold postP
  split
  · exact h
  · rename_i e
    have a1 : ∀ j k, j < ps.length → cel (ps ++ [[Cl.i n, .i u, .i v, .i c]]) j k = cel ps j k := fun j k hj => by simp [cel, List.getD_eq_getElem?_getD, List.getElem?_append_left hj]
    have a2 : ∀ k, cel (ps ++ [[Cl.i n, .i u, .i v, .i c]]) ps.length k = [Cl.i n, .i u, .i v, .i c].getD k .z := fun k => by simp [cel, List.getD_eq_getElem?_getD]
    refine ⟨fun j hj => ?_, fun j hj => ?_⟩
    · simp only [List.length_append, List.length_singleton] at hj
      by_cases hj' : j < ps.length
      · simp only [a1 j _ hj']; exact h.row j hj'
      · rw [show j = ps.length by omega]
        simp only [a2]
        exact ⟨⟨h0, by show n < n + 1; omega⟩, hu, hv, hn, by show 0 < c ∧ c ≤ _; omega⟩
    · simp only [List.length_append, List.length_singleton] at hj
      by_cases hj' : j + 1 < ps.length
      · rw [a1 _ _ hj', a1 _ _ (by omega)]; exact h.up j hj'
      · rw [a1 _ _ (by omega), show j + 1 = ps.length by omega, a2]
        have := (h.row j (by omega)).1.2
        show _ ≤ n
        omega
theorem Led.post {s : Sch} {b : Bks} {n : Int} (h : Led s b (n + 1)) (h0 : 0 ≤ n) (he : b.ev = n) (hl : b.ac.length = s.rl.length + 4) {u v c : Int} (hu : 0 ≤ u ∧ u < (s.rl.length : Int) + 4) (hv : 0 ≤ v ∧ v < (s.rl.length : Int) + 4) (hn : u ≠ v) (hc : 0 ≤ c ∧ c ≤ 10000000) : Led s (b.post u v c) (n + 1) := by
  refine ⟨?_, ?_, ?_⟩
  · show postA b.ac u v c = pays (postP b.ps b.ev u v c) (postP b.ps b.ev u v c).length 0 _
    unfold postA postP
    split
    · exact h.ac
    · rw [List.length_append, List.length_singleton, pays_app b.ps _ b.ps.length 0 _ (by omega), ← h.ac]
      rfl
  · show PsOk _ _ (postP b.ps b.ev u v c)
    rw [he]
    exact h.ps.post h0 hu hv hn hc
  · show sumI (postA b.ac u v c) 0 (postA b.ac u v c).length = 0
    rw [postA_len]
    unfold postA
    split
    · exact h.sum
    · have e1 := sumI_addA b.ac u (-c) (by omega)
      have e2 := sumI_addA (addA b.ac u (-c)) v c (by rw [addA_len]; omega)
      rw [addA_len] at e2
      rw [e2, e1, h.sum]
      omega
theorem Led.up1 {s : Sch} {b : Bks} {n : Int} (h : Led s b n) : Led s b (n + 1) := ⟨h.ac, h.ps.up1, h.sum⟩
theorem led_step {s : Sch} {b : Bks} {n : Int} (x : Evt) (hI : Inv s b n) (h : Led s b n) : Led s (doB s b n x) (n + 1) := by
  have h0 := hI.nn.1
  have hu := h.up1
  have hL := hI.sch.learners
  refine doB_cases (P := fun B => Led s B (n + 1)) hu ⟨hu.ac, hu.ps, hu.sum⟩ fun hk t1 t2 he => ?_
  have fin : ∀ B : Bks, Led s B (n + 1) → Led s { B with tm := x.at_ } (n + 1) := fun B h => ⟨h.ac, h.ps, h.sum⟩
  refine fin _ ?_
  have hS : school s = s.rl.length := rfl
  have start : ∀ B : Bks, B.ac = b.ac → B.ps = b.ps → Led s B (n + 1) := fun B e1 e2 => ⟨by rw [e1, e2]; exact hu.ac, by rw [e2]; exact hu.ps, by rw [e1]; exact hu.sum⟩
  rcases err_ok hk he with ⟨k, e⟩ | ⟨k, e, f⟩ | ⟨k, e, f⟩ | ⟨k, e, f, g, q⟩ | ⟨k, e, f⟩ | ⟨k, e, f⟩ | ⟨k, e, f⟩
  · rw [show eff s { b with ev := n } x = { b with ev := n, ls := b.ls ++ [[.i x.l, .i x.c, .i x.s, .i x.h, .i 0]] } by simp [eff, k]]
    exact start _ rfl rfl
  · rw [eff1 k]
    have hr := hI.row e
    have hf := fee_in hI.sch.fees hr.2.2.2 hI.sch.price ((cel b.ls x.b.toNat 2).int - x.at_)
    exact (start { b with ev := n, ls := setSt b.ls x.b 1 } rfl rfl).post h0 rfl hI.ac.1 (by show 0 ≤ (cel b.ls x.b.toNat 0).int ∧ (cel b.ls x.b.toNat 0).int < _; omega) (by omega) (by show (cel b.ls x.b.toNat 0).int ≠ _; omega) (by show 0 ≤ fee s.rt s.pr (cel b.ls x.b.toNat 3).int ((cel b.ls x.b.toNat 2).int - x.at_) ∧ fee s.rt s.pr (cel b.ls x.b.toNat 3).int ((cel b.ls x.b.toNat 2).int - x.at_) ≤ _; omega)
  · rw [show eff s { b with ev := n } x = { b with ev := n, es := seeE b.es x.d x.w, ls := weatherL s.rc (seeE b.es x.d x.w) x b.ls.length 0 b.ls } by simp [eff, k]]
    exact start _ rfl rfl
  · rw [eff3 k]
    have hr := hI.row e
    have hf := price_in hI.sch hr.2.2.2
    exact (start { b with ev := n, ls := setSt b.ls x.b 2, km := addA b.km (cel b.ls x.b.toNat 1).int x.k, si := addA b.si (cel b.ls x.b.toNat 1).int x.k } rfl rfl).post h0 rfl hI.ac.1 (by show 0 ≤ (cel b.ls x.b.toNat 0).int ∧ (cel b.ls x.b.toNat 0).int < _; omega) (by omega) (by show (cel b.ls x.b.toNat 0).int ≠ _; omega) (by show 0 ≤ (cel b.ls x.b.toNat 3).int * s.pr ∧ (cel b.ls x.b.toNat 3).int * s.pr ≤ _; omega)
  · rw [show eff s { b with ev := n } x = Bks.post { b with ev := n, si := b.si.set x.c.toNat [.i 0] } (school s) (school s + 1) x.m by simp [eff, k]]
    exact (start { b with ev := n, si := b.si.set x.c.toNat [.i 0] } rfl rfl).post h0 rfl hI.ac.1 (by omega) (by omega) (by omega) f
  · rw [eff5 k]
    have hx := hI.sch.excess
    have hx' : 0 ≤ s.ex ∧ s.ex ≤ 10000000 := hx
    refine ((start { b with ev := n, ls := setSt b.ls x.b 3 } rfl rfl).post h0 rfl hI.ac.1 (u := school s) (v := school s + 1) (c := min x.m s.ex) (by omega) (by omega) (by omega) (by omega)).post h0 rfl ?_ (by omega) (by omega) (by omega) (by omega)
    show (postA b.ac _ _ _).length = _
    rw [postA_len]; exact hI.ac.1
  · rw [show eff s { b with ev := n } x = Bks.post { b with ev := n } (school s + 3) x.l x.m by simp [eff, k]]
    exact (start { b with ev := n } rfl rfl).post h0 rfl hI.ac.1 (by omega) (by omega) (by omega) f
theorem led_run {s : Sch} {evs : Dt} (h : rErr s evs = 0) : Led s (runAll s evs) evs.length :=
  run_ind (P := fun i b => Led s b i) h ⟨rfl, ⟨fun j hj => by simp [open0] at hj, fun j hj => by simp [open0] at hj⟩, sumI_zero _ _ _⟩ fun i b h0 h1 hI h => led_step _ hI h
theorem shaped_run {s : Sch} {evs : Dt} (h : rErr s evs = 0) : shapedE s.rl.length s.rc.length (runAll s evs).ls (runAll s evs).km (runAll s evs).si (runAll s evs).ac = true := by
  have hI := rErr_inv h
  have row : ∀ (n i : Nat), i + n = (runAll s evs).ls.length → shN s.rl.length s.rc.length (runAll s evs).ls i n = true := by
    intro n
    induction n with
    | zero => intro i _; rfl
    | succ n ih =>
      intro i hi
      rw [shN, shR_iff.2 (by have := hI.ls i (by omega); omega), ih (i + 1) (by omega)]
      rfl
  unfold shapedE
  rw [decide_eq_true hI.km.1, decide_eq_true hI.si.1, decide_eq_true hI.ac.1, row _ _ (by omega)]
  rfl
end Sp
end Go.Proofs.Ytiiicnhjjfmpkaa
namespace Go.Proofs.Ytiiicnhjjfmpkaa
open Go.RowKit
set_option linter.unusedVariables false
set_option maxRecDepth 100000
theorem Sp.rB_led {s : Sp.Sch} {evs : Dt} (e : Sp.rErr s evs = 0) : Sp.Led s (Sp.rB s evs) evs.length ∧ Sp.Inv s (Sp.rB s evs) evs.length ∧ evs.length ≤ 60 ∧ Sp.shapedE s.rl.length s.rc.length (Sp.rB s evs).ls (Sp.rB s evs).km (Sp.rB s evs).si (Sp.rB s evs).ac = true := by
  rw [Sp.rB_ok e]
  exact ⟨Sp.led_run e, Sp.rErr_inv e, (Sp.rErr_ok e).2, Sp.shaped_run e⟩
end Go.Proofs.Ytiiicnhjjfmpkaa
namespace Go.Proofs.Ytiiicnhjjfmpkaa
set_option linter.unusedVariables false
namespace Sp
def iter {α : Type} (f : Nat → α → α) : Nat → Nat → α → α
  | 0, _, a => a
  | n + 1, i, a => iter f n (i + 1) (f i a)
theorem iter_succ {α : Type} (f : Nat → α → α) : ∀ (n i : Nat) (a : α), iter f (n + 1) i a = f (i + n) (iter f n i a)
  | 0, i, a => rfl
  | n + 1, i, a => by
    rw [iter, iter_succ f n (i + 1), iter, show i + 1 + n = i + (n + 1) by omega]
def bk (s : Sch) (evs : Dt) (j : Nat) : Bks := runB s evs j 0 (open0 s)
theorem runB_succ (s : Sch) (evs : Dt) : ∀ (n : Nat) (i : Int) (b : Bks), runB s evs (n + 1) i b = doB s (runB s evs n i b) (i + n) (evt evs (i + n))
  | 0, i, b => by simp [runB]
  | n + 1, i, b => by
    rw [runB, runB_succ s evs n (i + 1), runB, show i + 1 + (n : Int) = i + ((n + 1 : Nat) : Int) by omega]
theorem bk_succ (s : Sch) (evs : Dt) (j : Nat) : bk s evs (j + 1) = doB s (bk s evs j) j (evt evs j) := by
  unfold bk
  rw [runB_succ, Int.zero_add]
theorem runE_len (s : Sch) (evs : Dt) : ∀ (n : Nat) (i : Int) (b : Bks), (runE s evs n i b).length = n
  | 0, _, _ => rfl
  | n + 1, i, b => by simp [runE, runE_len s evs n]
theorem runE_cel (s : Sch) (evs : Dt) : ∀ (n : Nat) (i : Int) (b : Bks) (j : Nat), j < n → cel (runE s evs n i b) j 0 = .i (doE s (runB s evs j i b) (i + j) (evt evs (i + j)))
  | 0, _, _, _, h => by omega
  | n + 1, i, b, 0, h => by simp [runE, runB, cel]
  | n + 1, i, b, j + 1, h => by
    have := runE_cel s evs n (i + 1) (doB s b i (evt evs i)) j (by omega)
    rw [show i + 1 + (j : Int) = i + ((j + 1 : Nat) : Int) by omega] at this
    rw [runB]
    rw [← this]
    rfl
theorem runAll_bk (s : Sch) (evs : Dt) : runAll s evs = bk s evs evs.length := rfl
theorem errAll_len (s : Sch) (evs : Dt) : (errAll s evs).length = evs.length := runE_len _ _ _ _ _
theorem errAll_cel (s : Sch) (evs : Dt) (j : Nat) (h : j < evs.length) : cel (errAll s evs) j 0 = .i (doE s (bk s evs j) j (evt evs j)) := by
  have := runE_cel s evs evs.length 0 (open0 s) j h
  rw [Int.zero_add] at this
  exact this
theorem bk_inv {s : Sch} {evs : Dt} (h : rErr s evs = 0) (j : Nat) (hj : j ≤ evs.length) : Inv s (bk s evs j) j := by
  obtain ⟨h1, h2⟩ := rErr_ok h
  have := Inv.run (evs := evs) j 0 _ (Inv.zero h1) (by omega)
  rw [Int.zero_add] at this
  exact this
theorem cel_left (a b : Dt) (j k : Nat) (h : j < a.length) : cel (a ++ b) j k = cel a j k := by simp [cel, List.getD_eq_getElem?_getD, List.getElem?_append_left h]
theorem cel_right (a b : Dt) (j k : Nat) (h : a.length ≤ j) : cel (a ++ b) j k = cel b (j - a.length) k := by simp [cel, List.getD_eq_getElem?_getD, List.getElem?_append_right h]
theorem cel_take (a : Dt) (m j k : Nat) (h : j < m) : cel (a.take m) j k = cel a j k := by simp [cel, List.getD_eq_getElem?_getD, List.getElem?_take, h]
theorem step_cases (s : Sch) (b : Bks) (n : Int) (x : Evt) :
    (doE s b n x = 0 ∧ inr x.kind 0 6 = true ∧ b.tm ≤ x.at_ ∧ x.at_ ≤ 4800 ∧ err s b x = 0 ∧ doB s b n x = { eff s { b with ev := n } x with tm := x.at_ }) ∨
    (doE s b n x ≠ 0 ∧ ∃ e, doB s b n x = { b with ev := e }) := by
  unfold doE doB
  by_cases e1 : inr x.kind 0 6 = true
  · by_cases e2 : inr x.at_ b.tm 4800 = true
    · by_cases e3 : err s b x = 0
      · have ht := inr_iff.1 e2
        simp only [e1, e2, e3, Bool.not_true, Bool.false_eq_true, if_false, if_true]
        exact .inl ⟨trivial, trivial, ht.1, ht.2, trivial, trivial⟩
      · simp only [e1, e2, e3, Bool.not_true, Bool.false_eq_true, if_false]
        exact .inr ⟨e3, _, rfl⟩
    · simp only [e1, Bool.not_eq_true] at e2 ⊢
      simp only [e2, Bool.not_true, Bool.false_eq_true, if_false, Bool.not_false, if_true]
      exact .inr ⟨by decide, b.ev, rfl⟩
  · rw [Bool.not_eq_true] at e1
    simp only [e1, Bool.not_false, if_true]
    exact .inr ⟨by decide, b.ev, rfl⟩
structure Kept (a b : Dt) : Prop where
  len : a.length ≤ b.length
  row : ∀ j, j < a.length → (cel b j 0).int = (cel a j 0).int ∧ (cel b j 1).int = (cel a j 1).int ∧ (cel b j 3).int = (cel a j 3).int
theorem Kept.refl (a : Dt) : Kept a a := ⟨Nat.le_refl _, fun _ _ => ⟨rfl, rfl, rfl⟩⟩
theorem Kept.trans {a b c : Dt} (h : Kept a b) (h2 : Kept b c) : Kept a c := ⟨Nat.le_trans h.len h2.len, fun j hj => by
  have := h.row j hj
  have := h2.row j (by have := h.len; omega)
  omega⟩
theorem Kept.setSt (a : Dt) (i st : Int) : Kept a (setSt a i st) := ⟨by rw [setSt_len]; exact Nat.le_refl _, fun j hj => by
  rw [cel_setSt _ _ _ _ _ (by decide), cel_setSt _ _ _ _ _ (by decide), cel_setSt _ _ _ _ _ (by decide)]
  exact ⟨rfl, rfl, rfl⟩⟩
theorem eff_ls {s : Sch} {b : Bks} {x : Evt} (hk : inr x.kind 0 6 = true) : (eff s b x).ls =
    (if x.kind = 0 then b.ls ++ [[.i x.l, .i x.c, .i x.s, .i x.h, .i 0]] else if x.kind = 1 then setSt b.ls x.b 1 else if x.kind = 2 then weatherL s.rc (seeE b.es x.d x.w) x b.ls.length 0 b.ls else if x.kind = 3 then setSt b.ls x.b 2 else if x.kind = 5 then setSt b.ls x.b 3 else b.ls) := by
  have h := inr_iff.1 hk
  have hc : x.kind = 0 ∨ x.kind = 1 ∨ x.kind = 2 ∨ x.kind = 3 ∨ x.kind = 4 ∨ x.kind = 5 ∨ x.kind = 6 := by omega
  rcases hc with e | e | e | e | e | e | e <;> simp [eff, e, Bks.post]
end Sp
end Go.Proofs.Ytiiicnhjjfmpkaa
namespace Go.Proofs.Ytiiicnhjjfmpkaa
open Go.RowKit
set_option linter.unusedVariables false
set_option maxRecDepth 100000
end Go.Proofs.Ytiiicnhjjfmpkaa
namespace Go.Proofs.Ytiiicnhjjfmpkaa
open Go.RowKit
set_option linter.unusedVariables false
set_option maxRecDepth 100000
namespace Sp
theorem done_ok {s : Sch} {evs : Dt} {j : Nat} (hj : j < evs.length) (he : (cel (errAll s evs) j 0).int = 0) :
    inr (evt evs j).kind 0 6 = true ∧ (bk s evs j).tm ≤ (evt evs j).at_ ∧ (evt evs j).at_ ≤ 4800 ∧ err s (bk s evs j) (evt evs j) = 0 ∧ bk s evs (j + 1) = { eff s { bk s evs j with ev := j } (evt evs j) with tm := (evt evs j).at_ } := by
  rw [errAll_cel s evs j hj] at he
  rcases step_cases s (bk s evs j) j (evt evs j) with ⟨_, h1, h2, h3, h4, h5⟩ | ⟨h1, _⟩
  · exact ⟨h1, h2, h3, h4, by rw [bk_succ]; exact h5⟩
  · exact absurd he h1
theorem done_no {s : Sch} {evs : Dt} {j : Nat} (hj : j < evs.length) (he : ¬ (cel (errAll s evs) j 0).int = 0) : ∃ e, bk s evs (j + 1) = { bk s evs j with ev := e } := by
  rw [errAll_cel s evs j hj] at he
  rcases step_cases s (bk s evs j) j (evt evs j) with ⟨h1, _⟩ | ⟨_, h1⟩
  · exact absurd h1 he
  · rw [bk_succ]; exact h1
theorem rErr_chk {s : Sch} {evs : Dt} (e : rErr s evs = 0) : chkE s.rl s.rc s.pr s.ex s.lo s.hi s.rt = 0 := by
  unfold rErr runErr at e
  split at e
  · assumption
  · exact e
end Sp
end Go.Proofs.Ytiiicnhjjfmpkaa
namespace Go.Proofs.Ytiiicnhjjfmpkaa
set_option linter.unusedVariables false
end Go.Proofs.Ytiiicnhjjfmpkaa
namespace Go.Proofs.Ytiiicnhjjfmpkaa
open Go.RowKit
set_option linter.unusedVariables false
set_option maxRecDepth 100000
end Go.Proofs.Ytiiicnhjjfmpkaa
namespace Go.Proofs.Ytiiicnhjjfmpkaa
open Go.RowKit
set_option linter.unusedVariables false
set_option maxRecDepth 100000
end Go.Proofs.Ytiiicnhjjfmpkaa
namespace Go.Proofs.Ytiiicnhjjfmpkaa
open Go.RowKit
set_option linter.unusedVariables false
set_option maxRecDepth 100000
end Go.Proofs.Ytiiicnhjjfmpkaa
namespace Go.Proofs.Ytiiicnhjjfmpkaa
set_option linter.unusedVariables false
namespace Sp
theorem setCls_at (cs : List Cl) : ∀ (n : Nat) (l : List Cl) (k : Nat), k < cs.length → (setCls l n cs).getD (n + k) .z = cs.getD k .z
  | 0, l, k, h => by simp [setCls, List.getD_eq_getElem?_getD, List.getElem?_append_left h]
  | n + 1, l, k, h => by
    rw [show n + 1 + k = (n + k) + 1 by omega, setCls]
    exact setCls_at cs n l.tail k h
theorem cel_setSt4 {ls : Dt} {i st : Int} (h : i.toNat < ls.length) (j : Nat) : cel (setSt ls i st) j 4 = if i.toNat = j then .i st else cel ls j 4 := by
  unfold setSt
  rw [cel_set]
  by_cases e : i.toNat = j
  · rw [if_pos ⟨e, h⟩, if_pos e]
    exact setCls_at [.i st] 4 _ 0 (by simp)
  · rw [if_neg (fun x => e x.1), if_neg e]
theorem moveL_row {rc ls : Dt} {es : List (Int × Int)} {i : Int} (hi : i.toNat < ls.length) (j : Nat) :
    (i.toNat ≠ j → ∀ k, cel (moveL rc ls es i) j k = cel ls j k) ∧
    (i.toNat = j → (cel (moveL rc ls es i) j 0).int = (cel ls j 0).int ∧ (cel (moveL rc ls es i) j 1).int = (cel ls j 1).int ∧ (cel (moveL rc ls es i) j 3).int = (cel ls j 3).int ∧
      ((moveTo rc ls es (cel ls j 0).int (cel ls j 1).int (cel ls j 3).int i (days ((cel ls j 2).int + 24)) ((cel ls j 2).int + 24) = none ∧ (cel (moveL rc ls es i) j 2).int = (cel ls j 2).int ∧ (cel (moveL rc ls es i) j 4).int = 1) ∨
       (moveTo rc ls es (cel ls j 0).int (cel ls j 1).int (cel ls j 3).int i (days ((cel ls j 2).int + 24)) ((cel ls j 2).int + 24) = some (cel (moveL rc ls es i) j 2).int ∧ (cel (moveL rc ls es i) j 4).int = (cel ls j 4).int))) := by
  refine ⟨fun e k => ?_, fun e => ?_⟩
  · unfold moveL setSt
    split
    · rw [cel_set, if_neg (fun h => e h.1)]
    · rw [cel_set, if_neg (fun h => e h.1)]
  · subst e
    unfold moveL
    split
    · rename_i s hs
      have e : ∀ k, cel (ls.set i.toNat [.i (cel ls i.toNat 0).int, .i (cel ls i.toNat 1).int, .i s, .i (cel ls i.toNat 3).int, .i (cel ls i.toNat 4).int]) i.toNat k = [Cl.i (cel ls i.toNat 0).int, .i (cel ls i.toNat 1).int, .i s, .i (cel ls i.toNat 3).int, .i (cel ls i.toNat 4).int].getD k .z := fun k => by rw [cel_set, if_pos ⟨rfl, hi⟩]
      rw [e, e, e, e, e]
      exact ⟨rfl, rfl, rfl, .inr ⟨hs, rfl⟩⟩
    · rename_i hs
      rw [cel_setSt _ _ _ _ _ (by decide), cel_setSt _ _ _ _ _ (by decide), cel_setSt _ _ _ _ _ (by decide), cel_setSt _ _ _ _ _ (by decide), cel_setSt4 hi, if_pos rfl]
      exact ⟨rfl, rfl, rfl, .inl ⟨hs, rfl, rfl⟩⟩
end Sp
end Go.Proofs.Ytiiicnhjjfmpkaa
namespace Go.Proofs.Ytiiicnhjjfmpkaa
open Go.RowKit
set_option linter.unusedVariables false
set_option maxRecDepth 100000
end Go.Proofs.Ytiiicnhjjfmpkaa
namespace Go.Proofs.Ytiiicnhjjfmpkaa
set_option linter.unusedVariables false
namespace Sp
theorem ofInt_nat {m : Int} (h : 0 ≤ m ∧ m ≤ 255) : (BitVec.ofInt 64 m).toNat = m.toNat := by
  rw [BitVec.toNat_ofInt]
  have : (2 ^ 64 : Nat) = 18446744073709551616 := by decide
  rw [this]
  omega
theorem andI_nat {m n : Int} (h : 0 ≤ m ∧ m ≤ 255) (h2 : 0 ≤ n ∧ n ≤ 255) : andI .i64 m n = ((m.toNat &&& n.toNat : Nat) : Int) := by
  unfold andI
  rw [show IntKind.i64.bits = 64 from rfl, BitVec.toNat_and, ofInt_nat h, ofInt_nat h2]
  have := Nat.and_le_left (n := m.toNat) (m := n.toNat)
  rw [IntWalk.i64_in _ (by omega)]
theorem orI_nat {m n : Int} (h : 0 ≤ m ∧ m ≤ 255) (h2 : 0 ≤ n ∧ n ≤ 255) : orI .i64 m n = ((m.toNat ||| n.toNat : Nat) : Int) := by
  unfold orI
  rw [show IntKind.i64.bits = 64 from rfl, BitVec.toNat_or, ofInt_nat h, ofInt_nat h2]
  have : m.toNat ||| n.toNat < 2 ^ 8 := Nat.or_lt_two_pow (by omega) (by omega)
  rw [IntWalk.i64_in _ (by omega)]
theorem pow_in {w : Nat} (h : w ≤ 7) : (1 : Int) ≤ 2 ^ w ∧ (2 : Int) ^ w ≤ 255 ∧ ((2 : Int) ^ w).toNat = 2 ^ w := by
  have hc : w = 0 ∨ w = 1 ∨ w = 2 ∨ w = 3 ∨ w = 4 ∨ w = 5 ∨ w = 6 ∨ w = 7 := by omega
  rcases hc with rfl | rfl | rfl | rfl | rfl | rfl | rfl | rfl <;> decide
theorem halve_div : ∀ (k : Nat) (n : Int), 0 ≤ n → halve k n = n / 2 ^ k
  | 0, n, _ => by simp [halve]
  | k + 1, n, h => by
    rw [halve, halve_div k _ (by rw [Int.tdiv_eq_ediv_of_nonneg h]; omega), Int.tdiv_eq_ediv_of_nonneg h, Int.pow_succ', Int.ediv_ediv_of_nonneg (by decide)]
theorem bit_div (n : Int) (h : 0 ≤ n) (w : Nat) : n.toNat.testBit w = decide ((n / 2 ^ w) % 2 = 1) := by
  obtain ⟨m, rfl⟩ := Int.eq_ofNat_of_zero_le h
  rw [Int.toNat_natCast, Nat.testBit_eq_decide_div_mod_eq]
  congr 1
  apply propext
  have : ((m : Int) / 2 ^ w) % 2 = ((m / 2 ^ w % 2 : Nat) : Int) := by
    rw [Int.natCast_emod, Int.natCast_ediv, Int.natCast_pow]
    rfl
  omega
theorem and_pow (n w : Nat) : n &&& 2 ^ w = if n.testBit w then 2 ^ w else 0 := by
  apply Nat.eq_of_testBit_eq
  intro i
  rw [Nat.testBit_and, Nat.testBit_two_pow]
  by_cases e : w = i
  · subst e
    cases h : n.testBit w
    · simp
    · simp [Nat.testBit_two_pow]
  · rw [decide_eq_false e, Bool.and_false]
    split
    · rw [Nat.testBit_two_pow, decide_eq_false e]
    · simp
theorem drives_bit {n w : Int} (h : 0 ≤ n) : drives n w = !n.toNat.testBit w.toNat := by
  unfold drives
  rw [halve_div _ _ h, bit_div n h]
  have h2 : 0 ≤ n / 2 ^ w.toNat := Int.ediv_nonneg h (Int.le_of_lt (Int.pow_pos (by decide)))
  rw [Int.tmod_eq_emod_of_nonneg h2]
  by_cases e : n / 2 ^ w.toNat % 2 = 1
  · rw [decide_eq_true e, decide_eq_false (by omega)]; rfl
  · rw [decide_eq_false e, decide_eq_true (by omega)]; rfl
theorem hit_bit {n w : Int} (h : 0 ≤ n ∧ n ≤ 255) : decide (andI .i64 (n.fdiv (2 ^ w.toNat)) 1 = 1) = !drives n w := by
  rw [drives_bit h.1, Bool.not_not, Int.fdiv_eq_ediv_of_nonneg _ (Int.le_of_lt (Int.pow_pos (by decide))), bit_div n h.1]
  have h2 : 0 ≤ n / 2 ^ w.toNat := Int.ediv_nonneg h.1 (Int.le_of_lt (Int.pow_pos (by decide)))
  have h3 : n / 2 ^ w.toNat ≤ n := Int.ediv_le_self _ h.1
  rw [andI_nat (by omega) (by omega), show (1 : Int).toNat = 1 from rfl, Nat.and_one_is_mod]
  congr 1
  apply propext
  omega
theorem dry_bits {n e : Int} (h : 0 ≤ n ∧ n ≤ 255) (he : 0 ≤ e ∧ e ≤ 255) {w : Int} (hw : 0 ≤ w ∧ w ≤ 7) : decide (andI .i64 n (orI .i64 e (2 ^ w.toNat)) = 0) = (decide (andI .i64 n e = 0) && drives n w) := by
  have hp := pow_in (w := w.toNat) (by omega)
  have ho : (e.toNat ||| 2 ^ w.toNat) < 2 ^ 8 := Nat.or_lt_two_pow (by omega) (by omega)
  rw [orI_nat he (by omega), hp.2.2, andI_nat h (by omega), andI_nat h he, drives_bit h.1, Int.toNat_natCast, Nat.and_or_distrib_left, and_pow]
  have ht : 0 < 2 ^ w.toNat := Nat.pow_pos (by decide)
  generalize 2 ^ w.toNat = p at *
  generalize n.toNat &&& e.toNat = a at *
  cases n.toNat.testBit w.toNat
  · simp
  · simp only [if_true, Bool.not_true, Bool.and_false, decide_eq_false_iff_not]
    intro hx
    have : a ||| p = 0 := by omega
    have := (Nat.or_eq_zero_iff.1 this).2
    omega
theorem dryB_see {rc : Dt} {es : List (Int × Int)} {d w c s : Int} (hn : 0 ≤ (cel rc c.toNat 3).int ∧ (cel rc c.toNat 3).int ≤ 255) (he : ∀ d, 0 ≤ getI es d ∧ getI es d ≤ 255) (hw : 0 ≤ w ∧ w ≤ 7) :
    dryB rc (seeE es d w) c s = if d = s.tdiv 24 then dryB rc es c s && drives (cel rc c.toNat 3).int w else dryB rc es c s := by
  unfold dryB seeE
  rw [getI_setI]
  split
  · rename_i e
    rw [dry_bits hn (he d) hw, e]
  · rfl
theorem hit_drives {rc ls : Dt} {i : Int} {x : Evt} (hn : 0 ≤ (cel rc (cel ls i.toNat 1).int.toNat 3).int ∧ (cel rc (cel ls i.toNat 1).int.toNat 3).int ≤ 255) :
    hit rc ls i x = (decide ((cel ls i.toNat 4).int = 0) && (decide ((cel ls i.toNat 2).int.tdiv 24 = x.d) && (decide (x.at_ < (cel ls i.toNat 2).int) && !drives (cel rc (cel ls i.toNat 1).int.toNat 3).int x.w))) := by
  unfold hit
  rw [hit_bit hn]
end Sp
end Go.Proofs.Ytiiicnhjjfmpkaa
namespace Go.Proofs.Ytiiicnhjjfmpkaa
set_option linter.unusedVariables false
namespace Sp
def isOp (ls : Dt) (j : Nat) : Prop := (cel ls j 4).int = 0
theorem apart_comm (a b c d : Int) : apart a b c d = apart c d a b := by unfold apart; rw [Bool.or_comm]
theorem blocked_no {ls : Dt} {but l c s h : Int} : ∀ (n i : Nat), blocked ls but l c s h i n = false → ∀ j, i ≤ j → j < i + n → (j : Int) ≠ but → way ls j l c s h = false
  | 0, i, _, j, h1, h2, _ => by omega
  | n + 1, i, e, j, h1, h2, h3 => by
    rw [blocked, Bool.or_eq_false_iff] at e
    by_cases hj : i = j
    · subst hj
      rw [if_neg h3] at e
      exact e.1
    · exact blocked_no n (i + 1) e.2 j (by omega) (by omega) h3
theorem way_no {ls : Dt} {j : Nat} {l c s h : Int} (e : way ls j l c s h = false) (ho : isOp ls j) (hs : (cel ls j 0).int = l ∨ (cel ls j 1).int = c) : apart (cel ls j 2).int (cel ls j 3).int s h = true := by
  unfold way at e
  rw [if_pos (show (cel ls j 4).int = 0 from ho), if_pos hs] at e
  exact notF e
theorem moveTo_ok {rc ls : Dt} {es : List (Int × Int)} {l c h i : Int} : ∀ (n : Nat) (s t : Int), moveTo rc ls es l c h i n s = some t → (∃ k : Nat, t = s + 24 * k) ∧ t + h ≤ 4800 ∧ dryB rc es c t = true ∧ blocked ls i l c t h 0 ls.length = false
  | 0, s, t, e => by simp [moveTo] at e
  | n + 1, s, t, e => by
    unfold moveTo at e
    split at e
    · rename_i h1
      split at e
      · rename_i h2
        cases e
        simp only [Bool.and_eq_true, Bool.not_eq_true'] at h2
        exact ⟨⟨0, by simp⟩, h1, h2.1, h2.2⟩
      · obtain ⟨⟨k, hk⟩, r⟩ := moveTo_ok n (s + 24) t e
        exact ⟨⟨k + 1, by omega⟩, r⟩
    · cases e
theorem tmod_day {s : Int} (h : 0 ≤ s) (k : Nat) : (s + 24 + 24 * k).tmod 24 = s.tmod 24 := by
  rw [Int.tmod_eq_emod_of_nonneg (by omega), Int.tmod_eq_emod_of_nonneg h]
  omega
theorem fits_day {lo hi s h : Int} (h0 : 0 ≤ s) (k : Nat) : fits lo hi (s + 24 + 24 * k) h = fits lo hi s h := by
  unfold fits
  rw [tmod_day h0 k]
structure Good (lo hi : Int) (ls : Dt) : Prop where
  fit : ∀ j, j < ls.length → isOp ls j → fits lo hi (cel ls j 2).int (cel ls j 3).int = true
  apart : ∀ j k, j < ls.length → k < ls.length → j ≠ k → isOp ls j → isOp ls k → ((cel ls j 0).int = (cel ls k 0).int ∨ (cel ls j 1).int = (cel ls k 1).int) → Sp.apart (cel ls j 2).int (cel ls j 3).int (cel ls k 2).int (cel ls k 3).int = true
theorem Good.setSt {lo hi : Int} {ls : Dt} (h : Good lo hi ls) {i st : Int} (hi' : i.toNat < ls.length) (hs : st ≠ 0) : Good lo hi (setSt ls i st) := by
  have op : ∀ j, isOp (Sp.setSt ls i st) j → isOp ls j := fun j e => by
    unfold isOp at *
    rw [cel_setSt4 hi'] at e
    split at e
    · exact absurd e hs
    · exact e
  refine ⟨fun j hj ho => ?_, fun j k hj hk hn h1 h2 h3 => ?_⟩
  · rw [cel_setSt _ _ _ _ 2 (by decide), cel_setSt _ _ _ _ 3 (by decide)]
    rw [setSt_len] at hj
    exact h.fit j hj (op j ho)
  · rw [setSt_len] at hj hk
    simp only [cel_setSt _ _ _ _ 0 (by decide), cel_setSt _ _ _ _ 1 (by decide), cel_setSt _ _ _ _ 2 (by decide), cel_setSt _ _ _ _ 3 (by decide)] at *
    exact h.apart j k hj hk hn (op j h1) (op k h2) h3
theorem Good.book {lo hi : Int} {ls : Dt} (h : Good lo hi ls) {l c s hr : Int} (hf : fits lo hi s hr = true) (hb : blocked ls (-1) l c s hr 0 ls.length = false) : Good lo hi (ls ++ [[.i l, .i c, .i s, .i hr, .i 0]]) := by
  have e1 : ∀ j k, j < ls.length → cel (ls ++ [[Cl.i l, .i c, .i s, .i hr, .i 0]]) j k = cel ls j k := fun j k hj => cel_left _ _ _ _ hj
  have e2 : ∀ k, cel (ls ++ [[Cl.i l, .i c, .i s, .i hr, .i 0]]) ls.length k = [Cl.i l, .i c, .i s, .i hr, .i 0].getD k .z := fun k => by rw [cel_right _ _ _ _ (Nat.le_refl _), Nat.sub_self]; rfl
  have key : ∀ j, j < ls.length → isOp ls j → ((cel ls j 0).int = l ∨ (cel ls j 1).int = c) → Sp.apart (cel ls j 2).int (cel ls j 3).int s hr = true := fun j hj ho hs => way_no (blocked_no _ _ hb j (by omega) (by omega) (by omega)) ho hs
  have op : ∀ j, j < ls.length → isOp (ls ++ [[Cl.i l, .i c, .i s, .i hr, .i 0]]) j → isOp ls j := fun j hj e => by
    unfold isOp at *
    rwa [e1 j 4 hj] at e
  have len : ∀ j, j < (ls ++ [[Cl.i l, .i c, .i s, .i hr, .i 0]]).length → j < ls.length ∨ j = ls.length := fun j hj => by simp only [List.length_append, List.length_singleton] at hj; omega
  refine ⟨fun j hj ho => ?_, fun j k hj hk hn h1 h2 h3 => ?_⟩
  · rcases len j hj with hj | rfl
    · rw [e1 j 2 hj, e1 j 3 hj]
      exact h.fit j hj (op j hj ho)
    · rw [e2, e2]
      exact hf
  · rcases len j hj with hj | rfl <;> rcases len k hk with hk | rfl
    · simp only [e1 j _ hj, e1 k _ hk] at *
      exact h.apart j k hj hk hn (op j hj h1) (op k hk h2) h3
    · simp only [e1 j _ hj, e2] at *
      exact key j hj (op j hj h1) h3
    · simp only [e1 k _ hk, e2] at *
      rw [apart_comm]
      exact key k hk (op k hk h2) (h3.imp Eq.symm Eq.symm)
    · exact absurd rfl hn
theorem Good.move {lo hi : Int} {rc ls : Dt} {es : List (Int × Int)} (h : Good lo hi ls) {i : Int} (h0 : 0 ≤ i) (hi' : i.toNat < ls.length) (hs : 0 ≤ (cel ls i.toNat 2).int) (ho : isOp ls i.toNat) :
    Good lo hi (moveL rc ls es i) ∧ (isOp (moveL rc ls es i) i.toNat → dryB rc es (cel (moveL rc ls es i) i.toNat 1).int (cel (moveL rc ls es i) i.toNat 2).int = true) := by
  have hrow := fun j => moveL_row (rc := rc) (es := es) hi' j
  obtain ⟨r0, r1, r3, r4⟩ := (hrow i.toNat).2 rfl
  have hlen := moveL_len rc ls es i
  have mv : isOp (moveL rc ls es i) i.toNat → (∃ k : Nat, (cel (moveL rc ls es i) i.toNat 2).int = (cel ls i.toNat 2).int + 24 + 24 * k) ∧ dryB rc es (cel ls i.toNat 1).int (cel (moveL rc ls es i) i.toNat 2).int = true ∧ blocked ls i (cel ls i.toNat 0).int (cel ls i.toNat 1).int (cel (moveL rc ls es i) i.toNat 2).int (cel ls i.toNat 3).int 0 ls.length = false := fun e => by
    rcases r4 with ⟨_, _, r4⟩ | ⟨r4, _⟩
    · unfold isOp at e; rw [r4] at e; exact absurd e (by decide)
    · obtain ⟨a, b, c, d⟩ := moveTo_ok _ _ _ r4
      exact ⟨a, c, d⟩
  have op : ∀ j, i.toNat ≠ j → isOp (moveL rc ls es i) j → isOp ls j := fun j hj e => by
    unfold isOp at *
    rwa [(hrow j).1 hj] at e
  have key : isOp (moveL rc ls es i) i.toNat → ∀ k, k < ls.length → i.toNat ≠ k → isOp ls k → ((cel ls k 0).int = (cel ls i.toNat 0).int ∨ (cel ls k 1).int = (cel ls i.toNat 1).int) → Sp.apart (cel ls k 2).int (cel ls k 3).int (cel (moveL rc ls es i) i.toNat 2).int (cel ls i.toNat 3).int = true := fun e k hk hn h1 h2 =>
    way_no (blocked_no _ _ (mv e).2.2 k (by omega) (by omega) (by omega)) h1 h2
  refine ⟨⟨fun j hj e => ?_, fun j k hj hk hn h1 h2 h3 => ?_⟩, fun e => ?_⟩
  · rw [hlen] at hj
    by_cases hj' : i.toNat = j
    · subst hj'
      obtain ⟨⟨k, hk⟩, _⟩ := mv e
      rw [r3, hk, fits_day hs]
      exact h.fit _ hj ho
    · rw [(hrow j).1 hj', (hrow j).1 hj']
      exact h.fit j hj (op j hj' e)
  · rw [hlen] at hj hk
    by_cases hj' : i.toNat = j
    · subst hj'
      simp only [(hrow k).1 hn, r0, r1, r3] at *
      rw [apart_comm]
      exact key h1 k hk hn (op k hn h2) (h3.imp Eq.symm Eq.symm)
    · by_cases hk' : i.toNat = k
      · subst hk'
        simp only [(hrow j).1 hj', r0, r1, r3] at *
        exact key h2 j hj hj' (op j hj' h1) h3
      · simp only [(hrow j).1 hj', (hrow k).1 hk'] at *
        exact h.apart j k hj hk hn (op j hj' h1) (op k hk' h2) h3
  · rw [r1]
    exact (mv e).2.1
theorem weatherL_good {lo hi : Int} {rc : Dt} {es0 : List (Int × Int)} {x : Evt} (hn : ∀ j, j < rc.length → 0 ≤ (cel rc j 3).int ∧ (cel rc j 3).int ≤ 255) (he : ∀ d, 0 ≤ getI es0 d ∧ getI es0 d ≤ 255) (hw : 0 ≤ x.w ∧ x.w ≤ 7) :
    ∀ (n : Nat) (i : Int) (ls : Dt), 0 ≤ i → i + n = ls.length → WOk rc ls → Good lo hi ls →
      (∀ j : Nat, (j : Int) < i → isOp ls j → x.at_ < (cel ls j 2).int → dryB rc (seeE es0 x.d x.w) (cel ls j 1).int (cel ls j 2).int = true) →
      (∀ j : Nat, i ≤ j → j < ls.length → isOp ls j → x.at_ < (cel ls j 2).int → dryB rc es0 (cel ls j 1).int (cel ls j 2).int = true) →
      Good lo hi (weatherL rc (seeE es0 x.d x.w) x n i ls) ∧ ∀ j : Nat, j < ls.length → isOp (weatherL rc (seeE es0 x.d x.w) x n i ls) j → x.at_ < (cel (weatherL rc (seeE es0 x.d x.w) x n i ls) j 2).int → dryB rc (seeE es0 x.d x.w) (cel (weatherL rc (seeE es0 x.d x.w) x n i ls) j 1).int (cel (weatherL rc (seeE es0 x.d x.w) x n i ls) j 2).int = true
  | 0, i, ls, h0, h1, hW, hG, hA, hB => ⟨hG, fun j hj => hA j (by omega)⟩
  | n + 1, i, ls, h0, h1, hW, hG, hA, hB => by
    unfold weatherL
    have hi' : i.toNat < ls.length := by omega
    have hr := hW.rows i.toNat hi'
    have hcar := hn (cel ls i.toNat 1).int.toNat (by omega)
    have hrow := fun j => moveL_row (rc := rc) (es := seeE es0 x.d x.w) hi' j
    by_cases e : hit rc ls i x = true
    · rw [if_pos e]
      have ho : isOp ls i.toNat := by
        unfold hit at e
        simp only [Bool.and_eq_true, decide_eq_true_eq] at e
        exact e.1
      obtain ⟨g1, g2⟩ := hG.move (rc := rc) (es := seeE es0 x.d x.w) h0 hi' hr.2.2.1.1 ho
      have := weatherL_good hn he hw n (i + 1) (moveL rc ls (seeE es0 x.d x.w) i) (by omega) (by rw [moveL_len]; omega) (hW.move h0 (by omega)) g1 (fun j hj ho ht => ?_) (fun j hj hj2 ho ht => ?_)
      · rw [moveL_len] at this; exact this
      · by_cases hj' : i.toNat = j
        · subst hj'; exact g2 ho
        · rw [(hrow j).1 hj'] at ht ⊢
          rw [(hrow j).1 hj']
          unfold isOp at ho
          rw [(hrow j).1 hj'] at ho
          exact hA j (by omega) ho ht
      · have hj' : i.toNat ≠ j := by omega
        rw [(hrow j).1 hj'] at ht ⊢
        rw [(hrow j).1 hj']
        unfold isOp at ho
        rw [(hrow j).1 hj'] at ho
        rw [moveL_len] at hj2
        exact hB j (by omega) hj2 ho ht
    · rw [if_neg e]
      refine weatherL_good hn he hw n (i + 1) ls (by omega) (by omega) hW hG (fun j hj ho ht => ?_) (fun j hj hj2 ho ht => hB j (by omega) hj2 ho ht)
      by_cases hj' : i.toNat = j
      · subst hj'
        have h2 := hB i.toNat (by omega) hi' ho ht
        rw [dryB_see hcar he hw]
        split
        · rename_i hd
          rw [h2, Bool.true_and]
          rw [hit_drives hcar, decide_eq_true (show (cel ls i.toNat 4).int = 0 from ho), decide_eq_true hd.symm, decide_eq_true ht, Bool.true_and, Bool.true_and, Bool.true_and] at e
          simpa using e
        · exact h2
      · exact hA j (by omega) ho ht
structure Once (s : Sch) (b : Bks) : Prop where
  good : Good s.lo s.hi b.ls
  dry : ∀ j, j < b.ls.length → isOp b.ls j → b.tm < (cel b.ls j 2).int → dryB s.rc b.es (cel b.ls j 1).int (cel b.ls j 2).int = true
theorem once_step {s : Sch} {b : Bks} {n : Int} (x : Evt) (hI : Inv s b n) (h : Once s b) : Once s (doB s b n x) := by
  refine doB_cases (P := fun B => Once s B) h ⟨h.good, h.dry⟩ fun hk t1 t2 he => ?_
  have later : ∀ (ls : Dt), (∀ j, j < ls.length → isOp ls j → b.tm < (cel ls j 2).int → dryB s.rc b.es (cel ls j 1).int (cel ls j 2).int = true) → (∀ j, j < ls.length → isOp ls j → x.at_ < (cel ls j 2).int → dryB s.rc b.es (cel ls j 1).int (cel ls j 2).int = true) := fun ls h j hj ho ht => h j hj ho (by omega)
  have closed : ∀ (i st : Int), i.toNat < b.ls.length → st ≠ 0 → Once s { b with ls := setSt b.ls i st, tm := x.at_ } := fun i st hi hs => by
    refine ⟨h.good.setSt hi hs, fun j hj ho ht => ?_⟩
    have hj' : j < b.ls.length := by rw [← setSt_len b.ls i st]; exact hj
    have ho' : (cel (setSt b.ls i st) j 4).int = 0 := ho
    have ht' : x.at_ < (cel (setSt b.ls i st) j 2).int := ht
    show dryB s.rc b.es (cel (setSt b.ls i st) j 1).int (cel (setSt b.ls i st) j 2).int = true
    rw [cel_setSt _ _ _ _ 2 (by decide)] at ht'
    rw [cel_setSt _ _ _ _ 2 (by decide), cel_setSt _ _ _ _ 1 (by decide)]
    rw [cel_setSt4 hi] at ho'
    split at ho'
    · exact absurd ho' hs
    · exact h.dry j hj' ho' (by omega)
  have fin : ∀ B : Bks, Once s { b with ls := B.ls, es := B.es, tm := x.at_ } → Once s { B with tm := x.at_ } := fun B h => ⟨h.good, h.dry⟩
  refine fin _ ?_
  have hx := eff_ls (s := s) (b := { b with ev := n }) hk
  rcases err_ok hk he with ⟨k, e⟩ | ⟨k, e, f⟩ | ⟨k, e, f⟩ | ⟨k, e, f, g, q⟩ | ⟨k, e, f⟩ | ⟨k, e, f⟩ | ⟨k, e, f⟩
  · obtain ⟨a1, a2, a3, a4, a5, a6, a7, a8⟩ := canE_ok e
    rw [show eff s { b with ev := n } x = { b with ev := n, ls := b.ls ++ [[.i x.l, .i x.c, .i x.s, .i x.h, .i 0]] } by simp [eff, k]]
    refine ⟨h.good.book a6 a8, fun j hj ho ht => ?_⟩
    have hj' : j < b.ls.length + 1 := by simpa using hj
    have ho' : (cel (b.ls ++ [[Cl.i x.l, .i x.c, .i x.s, .i x.h, .i 0]]) j 4).int = 0 := ho
    have ht' : x.at_ < (cel (b.ls ++ [[Cl.i x.l, .i x.c, .i x.s, .i x.h, .i 0]]) j 2).int := ht
    show dryB s.rc b.es (cel (b.ls ++ [[Cl.i x.l, .i x.c, .i x.s, .i x.h, .i 0]]) j 1).int (cel (b.ls ++ [[Cl.i x.l, .i x.c, .i x.s, .i x.h, .i 0]]) j 2).int = true
    by_cases hj2 : j < b.ls.length
    · rw [cel_left _ _ _ _ hj2] at ho' ht' ⊢
      rw [cel_left _ _ _ _ hj2]
      exact h.dry j hj2 ho' (by omega)
    · obtain rfl : j = b.ls.length := by omega
      rw [cel_right _ _ _ _ (Nat.le_refl _), cel_right _ _ _ _ (Nat.le_refl _), Nat.sub_self]
      exact a7
  · rw [eff1 k]
    have hb := hasB_iff.1 e
    exact closed x.b 1 (by show x.b.toNat < b.ls.length; have := hb.1; omega) (by decide)
  · rw [show eff s { b with ev := n } x = { b with ev := n, es := seeE b.es x.d x.w, ls := weatherL s.rc (seeE b.es x.d x.w) x b.ls.length 0 b.ls } by simp [eff, k]]
    obtain ⟨g1, g2⟩ := weatherL_good (lo := s.lo) (hi := s.hi) (x := x) hI.never hI.es f b.ls.length 0 b.ls (by omega) (by omega) hI.wok h.good (fun j hj => by omega) (fun j hj hj2 ho ht => h.dry j hj2 ho (by omega))
    refine ⟨g1, fun j hj ho ht => g2 j ?_ ho ht⟩
    rw [← (weatherL_in (es := seeE b.es x.d x.w) (x := x) b.ls.length 0 b.ls (by omega) (by omega) hI.wok).1]
    exact hj
  · rw [eff3 k]
    have hb := hasB_iff.1 e
    exact closed x.b 2 (by show x.b.toNat < b.ls.length; have := hb.1; omega) (by decide)
  · rw [show eff s { b with ev := n } x = Bks.post { b with ev := n, si := b.si.set x.c.toNat [.i 0] } (school s) (school s + 1) x.m by simp [eff, k]]
    exact ⟨h.good, later _ h.dry⟩
  · rw [eff5 k]
    have hb := hasB_iff.1 e
    exact closed x.b 3 (by show x.b.toNat < b.ls.length; have := hb.1; omega) (by decide)
  · rw [show eff s { b with ev := n } x = Bks.post { b with ev := n } (school s + 3) x.l x.m by simp [eff, k]]
    exact ⟨h.good, later _ h.dry⟩
theorem once_run {s : Sch} {evs : Dt} (h : rErr s evs = 0) : Once s (runAll s evs) :=
  run_ind (P := fun _ b => Once s b) h ⟨⟨fun j hj => by simp [open0] at hj, fun j k hj => by simp [open0] at hj⟩, fun j hj => by simp [open0] at hj⟩ fun i b h0 h1 hI h => once_step _ hI h
end Sp
end Go.Proofs.Ytiiicnhjjfmpkaa
namespace Go.Proofs.Ytiiicnhjjfmpkaa
set_option linter.unusedVariables false
namespace Sp
theorem eff_es {s : Sch} {b : Bks} {x : Evt} (hk : inr x.kind 0 6 = true) : (eff s b x).es = if x.kind = 2 then seeE b.es x.d x.w else b.es := by
  have h := inr_iff.1 hk
  have hc : x.kind = 0 ∨ x.kind = 1 ∨ x.kind = 2 ∨ x.kind = 3 ∨ x.kind = 4 ∨ x.kind = 5 ∨ x.kind = 6 := by omega
  rcases hc with e | e | e | e | e | e | e <;> simp [eff, e, Bks.post]
theorem bk_es {s : Sch} {evs : Dt} {j : Nat} (hj : j < evs.length) : (bk s evs (j + 1)).es = if (cel (errAll s evs) j 0).int = 0 ∧ (evt evs j).kind = 2 then seeE (bk s evs j).es (evt evs j).d (evt evs j).w else (bk s evs j).es := by
  by_cases he : (cel (errAll s evs) j 0).int = 0
  · obtain ⟨h1, _, _, _, h5⟩ := done_ok hj he
    rw [h5]
    show (eff s { bk s evs j with ev := (j : Int) } (evt evs j)).es = _
    rw [eff_es h1]
    by_cases k : (evt evs j).kind = 2
    · rw [if_pos k, if_pos ⟨he, k⟩]
    · rw [if_neg k, if_neg (fun h => k h.2)]
  · obtain ⟨e, h1⟩ := done_no hj he
    rw [h1, if_neg (fun h => he h.1)]
theorem seen_run {s : Sch} {evs : Dt} (h : rErr s evs = 0) : ∀ n, n ≤ evs.length → ∀ j, j < n → (cel (errAll s evs) j 0).int = 0 → (evt evs j).kind = 2 →
    (0 ≤ (evt evs j).w ∧ (evt evs j).w ≤ 7) ∧ ∀ c t : Int, 0 ≤ c → c < s.rc.length → dryB s.rc (bk s evs n).es c t = true → (evt evs j).d = t.tdiv 24 → drives (cel s.rc c.toNat 3).int (evt evs j).w = true
  | 0, _, j, hj, _, _ => by omega
  | n + 1, hn, j, hj, he, hk => by
    have hI := bk_inv h n (by omega)
    have hw : ∀ i, i < evs.length → (cel (errAll s evs) i 0).int = 0 → (evt evs i).kind = 2 → 0 ≤ (evt evs i).w ∧ (evt evs i).w ≤ 7 := fun i hi he hk => by
      obtain ⟨h1, _, _, h4, _⟩ := done_ok hi he
      rcases err_ok h1 h4 with ⟨k, e⟩ | ⟨k, e, f⟩ | ⟨k, e, f⟩ | ⟨k, e, f, g, q⟩ | ⟨k, e, f⟩ | ⟨k, e, f⟩ | ⟨k, e, f⟩ <;> first | exact f | (rw [hk] at k; exact absurd k (by decide))
    refine ⟨hw j (by omega) he hk, fun c t h0 h1 hd ht => ?_⟩
    rw [bk_es (evs := evs) (j := n) (by omega)] at hd
    have hcar := hI.never c.toNat (by omega)
    by_cases hx : (cel (errAll s evs) n 0).int = 0 ∧ (evt evs n).kind = 2
    · rw [if_pos hx, dryB_see hcar hI.es (hw n (by omega) hx.1 hx.2)] at hd
      by_cases hjn : j = n
      · subst hjn
        rw [if_pos ht, Bool.and_eq_true] at hd
        exact hd.2
      · refine (seen_run h n (by omega) j (by omega) he hk).2 c t h0 h1 ?_ ht
        split at hd
        · exact ((Bool.and_eq_true _ _).mp hd).1
        · exact hd
    · rw [if_neg hx] at hd
      by_cases hjn : j = n
      · subst hjn; exact absurd ⟨he, hk⟩ hx
      · exact (seen_run h n (by omega) j (by omega) he hk).2 c t h0 h1 hd ht
def onT (evs er : Dt) (j : Nat) (t : Int) : Int := if (cel er j 0).int = 0 then (cel evs j 1).int else t
theorem onT_def (evs er : Dt) (j : Nat) (t : Int) : onT evs er j t = if (cel er j 0).int = 0 then (cel evs j 1).int else t := rfl
theorem time_run (s : Sch) (evs : Dt) : ∀ n, n ≤ evs.length → (bk s evs n).tm = iter (onT evs (errAll s evs)) n 0 0
  | 0, _ => rfl
  | n + 1, hn => by
    rw [iter_succ, Nat.zero_add, ← time_run s evs n (by omega), onT_def]
    by_cases he : (cel (errAll s evs) n 0).int = 0
    · obtain ⟨_, _, _, _, h5⟩ := done_ok (show n < evs.length by omega) he
      rw [h5, if_pos he]
      rfl
    · obtain ⟨e, h1⟩ := done_no (show n < evs.length by omega) he
      rw [h1, if_neg he]
end Sp
end Go.Proofs.Ytiiicnhjjfmpkaa
namespace Go.Proofs.Ytiiicnhjjfmpkaa
open Go.RowKit
set_option linter.unusedVariables false
set_option maxRecDepth 100000
def sp_onA [InW] (e : List Ed) (K : Nat → List Ed → Prop) : Prop := match e with
  | [.ro _ evs, .i t, .i i, .ro _ rl, .ro _ rc, .i pr, .i ex, .i lo, .i hi, .ro _ rt, .l er, .l ls] =>
    Pre (0 ≤ i ∧ i ≤ evs.xs.length ∧ evs.xs.length ≤ 1000 ∧ er.length = evs.xs.length)
      (K 0 [.ro _ evs, .i (Sp.iter (Sp.onT evs.xs er) (evs.xs.length - i.toNat) i.toNat t), .ro _ rl, .ro _ rc, .i pr, .i ex, .i lo, .i hi, .ro _ rt, .l er, .l ls])
  | _ => False
noncomputable def lc_onA : LC where
  len := 171
  T := [(1, .rs Iv11), (2, (.ptr 1 0)), (5, (.row 28)), (6, (.ptr 4 0)), (8, .int .i64), (9, .int .i64)]
  H := [(1, .blk 28 [.rs [.str], .rs Ivs, .int .i64, .int .i64, .int .i64, .int .i64, .rs [.int .i64, .int .i64]]), (28, .arr 30 [.int .i64]), (4, .blk 42 [(.row 34), (.opq 1021), (.opq 1024), (.opq 1027)]), (34, .arr 63 Iv5)]
  W := [46, 47, 48, 49, 50, 51, 52, 53, 54, 55, 56, 57, 58, 59, 60, 61]
  outs := [⟨.exit 0, [(1, .rs Iv11), (2, (.ptr 1 0)), (5, (.row 28)), (6, (.ptr 4 0)), (8, .int .i64)], [(1, .blk 28 [.rs [.str], .rs Ivs, .int .i64, .int .i64, .int .i64, .int .i64, .rs [.int .i64, .int .i64]]), (28, .arr 30 [.int .i64]), (4, .blk 42 [(.row 34), (.opq 1021), (.opq 1024), (.opq 1027)]), (34, .arr 63 Iv5)], [9, 46, 47, 48, 49, 50, 51, 52, 53, 54, 55, 56, 57, 58, 59, 60, 61]⟩]
  spec := sp_onA
def VCL_onA [W : InW] (evs : Ro Iv11) (t : Int) (i : Int) (rl : Ro [.str]) (rc : Ro Ivs) (pr : Int) (ex : Int) (lo : Int) (hi : Int) (rt : Ro [.int .i64, .int .i64]) (er : Dt) (ls : Dt) (A : List Ed → Prop) (K : Nat → List Ed → Prop) : Prop :=
  Vif (decide (i < (↑(List.length evs.xs) : Int))) (Need (decide ((0 : Int) ≤ i) && decide (i < (↑(List.length er) : Int))) (Need (decide (i.toNat < List.length er)) (Vif (decide ((cel er i.toNat (0 : Nat)).int = (0 : Int))) (Need (decide ((0 : Int) ≤ i) && decide (i < (↑(List.length evs.xs) : Int))) (Need (decide (i.toNat < List.length evs.xs)) (Ar .i64 (i + (1 : Int)) fun z => A [.ro _ evs, .i (cel evs.xs i.toNat ((0 : Nat) + (1 : Nat))).int, .i z, .ro _ rl, .ro _ rc, .i pr, .i ex, .i lo, .i hi, .ro _ rt, .l er, .l ls]))) (Ar .i64 (i + (1 : Int)) fun z => A [.ro _ evs, .i t, .i z, .ro _ rl, .ro _ rc, .i pr, .i ex, .i lo, .i hi, .ro _ rt, .l er, .l ls])))) (K (0 : Nat) [.ro _ evs, .i t, .ro _ rl, .ro _ rc, .i pr, .i ex, .i lo, .i hi, .ro _ rt, .l er, .l ls])
theorem vcl_onA (W : InW) (evs : Ro Iv11) (t : Int) (i : Int) (rl : Ro [.str]) (rc : Ro Ivs) (pr : Int) (ex : Int) (lo : Int) (hi : Int) (rt : Ro [.int .i64, .int .i64]) (er : Dt) (ls : Dt) (A : List Ed → Prop) (K : Nat → List Ed → Prop) : vcTop { cxT Try.prog TT TPl 1000 50 with fn := 10 } 1000 (loopAt Try.prog 10 9) (tmOut 171 [(1, .rs _ evs), (2, .ptr 1 0), (5, .rw 28), (6, .ptr 4 0), (8, .si .i64 t), (9, .si .i64 i)] [46, 47, 48, 49, 50, 51, 52, 53, 54, 55, 56, 57, 58, 59, 60, 61]) [(1, .blk 28 [.rs _ rl, .rs _ rc, .si .i64 pr, .si .i64 ex, .si .i64 lo, .si .i64 hi, .rs _ rt]), (28, .arr 30 [.int .i64] er), (4, .blk 42 [.rw 34, .opq 1021, .opq 1024, .opq 1027]), (34, .arr 63 Iv5 ls)] (roundL lc_onA A K) = VCL_onA evs t i rl rc pr ex lo hi rt er ls A K := by kernel_rfl
def okLt_onA : Prop := ∀ (W : InW) (body a : Code), (Try.prog.funcs[10]?).bind (·.body) = some body → a ∈ loopsIn body → keyOf a = 9 → @LoopOk W Try.prog a (@loopRun W lc_onA)
theorem okl_onA (meas : [InW] → List Ed → Nat) (hyp_ : ∀ (W : InW) (evs : Ro Iv11) (t : Int) (i : Int) (rl : Ro [.str]) (rc : Ro Ivs) (pr : Int) (ex : Int) (lo : Int) (hi : Int) (rt : Ro [.int .i64, .int .i64]) (er : Dt) (ls : Dt) (K : Nat → List Ed → Prop), sp_onA [.ro _ evs, .i t, .i i, .ro _ rl, .ro _ rc, .i pr, .i ex, .i lo, .i hi, .ro _ rt, .l er, .l ls] K → ∀ A : List Ed → Prop, (∀ e, meas e < meas [.ro _ evs, .i t, .i i, .ro _ rl, .ro _ rc, .i pr, .i ex, .i lo, .i hi, .ro _ rt, .l er, .l ls] → sp_onA e K → A e) → VCL_onA evs t i rl rc pr ex lo hi rt er ls A K) : okLt_onA :=
  LE.okOf' (fun W => @TT W) (fun W => @TT_ok W) mixed_ok TPl 1000 50 (by kernel_rfl) lc_onA (fun W => @meas W) fun W evs t i rl rc pr ex lo hi rt er ls K hs =>
    (vcl_onA W evs t i rl rc pr ex lo hi rt er ls (fun e => meas e < meas [.ro _ evs, .i t, .i i, .ro _ rl, .ro _ rc, .i pr, .i ex, .i lo, .i hi, .ro _ rt, .l er, .l ls] ∧ sp_onA e K) K).mpr (hyp_ W evs t i rl rc pr ex lo hi rt er ls K hs _ fun e h1 h2 => ⟨h1, h2⟩)
theorem okLonA : okLt_onA := okl_onA (fun e => match e with | .ro _ evs :: _ :: .i i :: _ => ((evs.xs.length : Int) - i).toNat | _ => 0) fun W evs t i rl rc pr ex lo hi rt er ls K hs A hA => by
  obtain ⟨⟨h0, h1, h2, h3⟩, hk⟩ := hs
  unfold VCL_onA
  simp only [Nat.zero_add, Nat.reduceAdd]
  refine vifd (fun e => ?_) fun e => ?_
  · have hx : i.toNat < evs.xs.length := by omega
    have hA' : A [.ro _ evs, .i (Sp.onT evs.xs er i.toNat t), .i (i + 1), .ro _ rl, .ro _ rc, .i pr, .i ex, .i lo, .i hi, .ro _ rt, .l er, .l ls] := by
      refine hA _ (by show ((evs.xs.length : Int) - (i + 1)).toNat < ((evs.xs.length : Int) - i).toNat; omega) ⟨⟨by omega, by omega, h2, h3⟩, ?_⟩
      rw [show evs.xs.length - i.toNat = (evs.xs.length - (i.toNat + 1)) + 1 by omega, Sp.iter] at hk
      rw [show (i + 1).toNat = i.toNat + 1 by omega]
      exact hk
    clear hA hk
    unfold Sp.onT at hA'
    by_cases e1 : (cel er i.toNat 0).int = 0
    · rw [if_pos e1] at hA'
      repeat' (first | refine vifd (fun _ => ?_) fun _ => ?_ | refine vifn (fun _ => ?_) fun _ => ?_ | refine nedd (by omega) ?_ | refine ned (by simp only [Bool.and_eq_true, decide_eq_true_eq]; omega) ?_ | refine ar64 (by omega) ?_ | omega)
      all_goals exact hA'
    · rw [if_neg e1] at hA'
      repeat' (first | refine vifd (fun _ => ?_) fun _ => ?_ | refine vifn (fun _ => ?_) fun _ => ?_ | refine nedd (by omega) ?_ | refine ned (by simp only [Bool.and_eq_true, decide_eq_true_eq]; omega) ?_ | refine ar64 (by omega) ?_ | omega)
      all_goals exact hA'
  · rw [show evs.xs.length - i.toNat = 0 by omega] at hk
    exact hk
noncomputable def le_onA : LE Try.prog := ⟨10, 9, fun W => @loopRun W lc_onA, okLonA⟩
namespace Sp
def same (ls : Dt) (j k : Nat) : Prop := (cel ls j 0).int = (cel ls k 0).int ∨ (cel ls j 1).int = (cel ls k 1).int
structure AheadOk (ls : Dt) (l c s h i : Int) : Prop where
  small : ∀ k : Nat, k < ls.length → Small (cel ls k 2).int ∧ Small (cel ls k 3).int
  row : ∀ k : Nat, (k : Int) < i → (cel ls k 4).int = 0 → (l = (cel ls k 0).int ∨ c = (cel ls k 1).int) → Sp.apart s h (cel ls k 2).int (cel ls k 3).int = true
structure DryOk (evs er rc : Dt) (c s t : Int) : Prop where
  errs : er.length = evs.length
  row : ∀ k : Nat, k < evs.length → (cel er k 0).int = 0 → (cel evs k 0).int = 2 → (cel evs k 7).int = s.tdiv 24 → t < s → (0 ≤ (cel evs k 8).int ∧ (cel evs k 8).int < 8) ∧ Sp.drives (cel rc c.toNat 3).int (cel evs k 8).int = true
end Sp
noncomputable def TPm : Tab Try.prog := ⟨[pc_Apart], [], []⟩
def sp_onC [InW] (e : List Ed) (K : Nat → List Ed → Prop) : Prop := match e with
  | [.ro _ evs, .i t, .i i, .i k, .ro _ rl, .ro _ rc, .i pr, .i ex, .i lo, .i hi, .ro _ rt, .l er, .l ls, .i l, .i c, .i s, .i hr, .i st] =>
    Pre (0 ≤ k ∧ k ≤ i ∧ i < ls.length ∧ ls.length ≤ 1000 ∧ Sp.Small s ∧ Sp.Small hr ∧ Sp.AheadOk ls l c s hr i)
      (K 0 [.ro _ evs, .i t, .i i, .ro _ rl, .ro _ rc, .i pr, .i ex, .i lo, .i hi, .ro _ rt, .l er, .l ls, .i l, .i c, .i s, .i hr, .i st])
  | _ => False
noncomputable def lc_onC : LC where
  len := 171
  T := [(1, .rs Iv11), (2, (.ptr 1 0)), (5, (.row 28)), (6, (.ptr 4 0)), (8, .int .i64), (10, .int .i64), (11, (.ptr 40 0)), (12, .int .i64)]
  H := [(1, .blk 28 [.rs [.str], .rs Ivs, .int .i64, .int .i64, .int .i64, .int .i64, .rs [.int .i64, .int .i64]]), (28, .arr 30 [.int .i64]), (4, .blk 42 [(.row 34), (.opq 1021), (.opq 1024), (.opq 1027)]), (34, .arr 63 Iv5), (40, .blk 63 [.int .i64, .int .i64, .int .i64, .int .i64, .int .i64])]
  W := [4, 13, 84, 85, 86, 87, 88, 89, 90, 91, 92, 93, 94, 95, 96, 97, 98, 99, 100, 101, 102, 103, 104, 105, 106, 107, 108, 109, 110, 111, 112, 113, 114, 115, 116]
  outs := [⟨.exit 4, [(1, .rs Iv11), (2, (.ptr 1 0)), (5, (.row 28)), (6, (.ptr 4 0)), (8, .int .i64), (10, .int .i64), (11, (.ptr 40 0))], [(1, .blk 28 [.rs [.str], .rs Ivs, .int .i64, .int .i64, .int .i64, .int .i64, .rs [.int .i64, .int .i64]]), (28, .arr 30 [.int .i64]), (4, .blk 42 [(.row 34), (.opq 1021), (.opq 1024), (.opq 1027)]), (34, .arr 63 Iv5), (40, .blk 63 [.int .i64, .int .i64, .int .i64, .int .i64, .int .i64])], [4, 12, 13, 84, 85, 86, 87, 88, 89, 90, 91, 92, 93, 94, 95, 96, 97, 98, 99, 100, 101, 102, 103, 104, 105, 106, 107, 108, 109, 110, 111, 112, 113, 114, 115, 116]⟩]
  spec := sp_onC
def VCL_onC [W : InW] (evs : Ro Iv11) (t : Int) (i : Int) (k : Int) (rl : Ro [.str]) (rc : Ro Ivs) (pr : Int) (ex : Int) (lo : Int) (hi : Int) (rt : Ro [.int .i64, .int .i64]) (er : Dt) (ls : Dt) (l : Int) (c : Int) (s : Int) (hr : Int) (st : Int) (A : List Ed → Prop) (K : Nat → List Ed → Prop) : Prop :=
  Vif (decide (k < i)) (Need (decide ((0 : Int) ≤ k) && decide (k < (↑(List.length ls) : Int))) (Need (decide (k.toNat < List.length ls)) (Vif (decide ((cel ls k.toNat ((0 : Nat) + (1 : Nat) + (1 : Nat) + (1 : Nat) + (1 : Nat))).int = (0 : Int))) (Vif (decide (l = (cel ls k.toNat (0 : Nat)).int)) (Pre (Sp.Small s ∧ Sp.Small hr ∧ Sp.Small (cel ls k.toNat ((0 : Nat) + (1 : Nat) + (1 : Nat))).int ∧ Sp.Small (cel ls k.toNat ((0 : Nat) + (1 : Nat) + (1 : Nat) + (1 : Nat))).int) (Vif (!Sp.apart s hr (cel ls k.toNat ((0 : Nat) + (1 : Nat) + (1 : Nat))).int (cel ls k.toNat ((0 : Nat) + (1 : Nat) + (1 : Nat) + (1 : Nat))).int) ((472 : Nat) = (472 : Nat) + (1 : Nat)) (Ar .i64 (k + (1 : Int)) fun z => A [.ro _ evs, .i t, .i i, .i z, .ro _ rl, .ro _ rc, .i pr, .i ex, .i lo, .i hi, .ro _ rt, .l er, .l ls, .i l, .i c, .i s, .i hr, .i st]))) (Vif (decide (c = (cel ls k.toNat ((0 : Nat) + (1 : Nat))).int)) (Pre (Sp.Small s ∧ Sp.Small hr ∧ Sp.Small (cel ls k.toNat ((0 : Nat) + (1 : Nat) + (1 : Nat))).int ∧ Sp.Small (cel ls k.toNat ((0 : Nat) + (1 : Nat) + (1 : Nat) + (1 : Nat))).int) (Vif (!Sp.apart s hr (cel ls k.toNat ((0 : Nat) + (1 : Nat) + (1 : Nat))).int (cel ls k.toNat ((0 : Nat) + (1 : Nat) + (1 : Nat) + (1 : Nat))).int) ((472 : Nat) = (472 : Nat) + (1 : Nat)) (Ar .i64 (k + (1 : Int)) fun z => A [.ro _ evs, .i t, .i i, .i z, .ro _ rl, .ro _ rc, .i pr, .i ex, .i lo, .i hi, .ro _ rt, .l er, .l ls, .i l, .i c, .i s, .i hr, .i st]))) (Ar .i64 (k + (1 : Int)) fun z => A [.ro _ evs, .i t, .i i, .i z, .ro _ rl, .ro _ rc, .i pr, .i ex, .i lo, .i hi, .ro _ rt, .l er, .l ls, .i l, .i c, .i s, .i hr, .i st]))) (Ar .i64 (k + (1 : Int)) fun z => A [.ro _ evs, .i t, .i i, .i z, .ro _ rl, .ro _ rc, .i pr, .i ex, .i lo, .i hi, .ro _ rt, .l er, .l ls, .i l, .i c, .i s, .i hr, .i st])))) (K (0 : Nat) [.ro _ evs, .i t, .i i, .ro _ rl, .ro _ rc, .i pr, .i ex, .i lo, .i hi, .ro _ rt, .l er, .l ls, .i l, .i c, .i s, .i hr, .i st])
theorem vcl_onC (W : InW) (evs : Ro Iv11) (t : Int) (i : Int) (k : Int) (rl : Ro [.str]) (rc : Ro Ivs) (pr : Int) (ex : Int) (lo : Int) (hi : Int) (rt : Ro [.int .i64, .int .i64]) (er : Dt) (ls : Dt) (l : Int) (c : Int) (s : Int) (hr : Int) (st : Int) (A : List Ed → Prop) (K : Nat → List Ed → Prop) : vcTop { cxT Try.prog TT TPm 1000 50 with fn := 10 } 1000 (loopAt Try.prog 10 21) (tmOut 171 [(1, .rs _ evs), (2, .ptr 1 0), (5, .rw 28), (6, .ptr 4 0), (8, .si .i64 t), (10, .si .i64 i), (11, .ptr 40 0), (12, .si .i64 k)] [4, 13, 84, 85, 86, 87, 88, 89, 90, 91, 92, 93, 94, 95, 96, 97, 98, 99, 100, 101, 102, 103, 104, 105, 106, 107, 108, 109, 110, 111, 112, 113, 114, 115, 116]) [(1, .blk 28 [.rs _ rl, .rs _ rc, .si .i64 pr, .si .i64 ex, .si .i64 lo, .si .i64 hi, .rs _ rt]), (28, .arr 30 [.int .i64] er), (4, .blk 42 [.rw 34, .opq 1021, .opq 1024, .opq 1027]), (34, .arr 63 Iv5 ls), (40, .blk 63 [.si .i64 l, .si .i64 c, .si .i64 s, .si .i64 hr, .si .i64 st])] (roundL lc_onC A K) = VCL_onC evs t i k rl rc pr ex lo hi rt er ls l c s hr st A K := by kernel_rfl
def okLt_onC : Prop := ∀ (W : InW) (body a : Code), (Try.prog.funcs[10]?).bind (·.body) = some body → a ∈ loopsIn body → keyOf a = 21 → @LoopOk W Try.prog a (@loopRun W lc_onC)
theorem okl_onC (meas : [InW] → List Ed → Nat) (hyp_ : ∀ (W : InW) (evs : Ro Iv11) (t : Int) (i : Int) (k : Int) (rl : Ro [.str]) (rc : Ro Ivs) (pr : Int) (ex : Int) (lo : Int) (hi : Int) (rt : Ro [.int .i64, .int .i64]) (er : Dt) (ls : Dt) (l : Int) (c : Int) (s : Int) (hr : Int) (st : Int) (K : Nat → List Ed → Prop), sp_onC [.ro _ evs, .i t, .i i, .i k, .ro _ rl, .ro _ rc, .i pr, .i ex, .i lo, .i hi, .ro _ rt, .l er, .l ls, .i l, .i c, .i s, .i hr, .i st] K → ∀ A : List Ed → Prop, (∀ e, meas e < meas [.ro _ evs, .i t, .i i, .i k, .ro _ rl, .ro _ rc, .i pr, .i ex, .i lo, .i hi, .ro _ rt, .l er, .l ls, .i l, .i c, .i s, .i hr, .i st] → sp_onC e K → A e) → VCL_onC evs t i k rl rc pr ex lo hi rt er ls l c s hr st A K) : okLt_onC :=
  LE.okOf' (fun W => @TT W) (fun W => @TT_ok W) mixed_ok TPm 1000 50 (by kernel_rfl) lc_onC (fun W => @meas W) fun W evs t i k rl rc pr ex lo hi rt er ls l c s hr st K hs =>
    (vcl_onC W evs t i k rl rc pr ex lo hi rt er ls l c s hr st (fun e => meas e < meas [.ro _ evs, .i t, .i i, .i k, .ro _ rl, .ro _ rc, .i pr, .i ex, .i lo, .i hi, .ro _ rt, .l er, .l ls, .i l, .i c, .i s, .i hr, .i st] ∧ sp_onC e K) K).mpr (hyp_ W evs t i k rl rc pr ex lo hi rt er ls l c s hr st K hs _ fun e h1 h2 => ⟨h1, h2⟩)
noncomputable def TPn : Tab Try.prog := ⟨[pc_Drives], [], []⟩
def sp_onD [InW] (e : List Ed) (K : Nat → List Ed → Prop) : Prop := match e with
  | [.ro _ evs, .i t, .i i, .i k, .ro _ rl, .ro _ rc, .i pr, .i ex, .i lo, .i hi, .ro _ rt, .l er, .l ls, .i l, .i c, .i s, .i hr, .i st] =>
    Pre (0 ≤ k ∧ k ≤ evs.xs.length ∧ evs.xs.length ≤ 1000 ∧ Sp.Small s ∧ (0 ≤ c ∧ c < rc.xs.length) ∧ Sp.I64 (cel rc.xs c.toNat 3).int ∧ Sp.DryOk evs.xs er rc.xs c s t)
      (K 0 [.ro _ evs, .i t, .i i, .ro _ rl, .ro _ rc, .i pr, .i ex, .i lo, .i hi, .ro _ rt, .l er, .l ls])
  | _ => False
noncomputable def lc_onD : LC where
  len := 171
  T := [(1, .rs Iv11), (2, (.ptr 1 0)), (5, (.row 28)), (6, (.ptr 4 0)), (8, .int .i64), (10, .int .i64), (11, (.ptr 40 0)), (14, .int .i64)]
  H := [(1, .blk 28 [.rs [.str], .rs Ivs, .int .i64, .int .i64, .int .i64, .int .i64, .rs [.int .i64, .int .i64]]), (28, .arr 30 [.int .i64]), (4, .blk 42 [(.row 34), (.opq 1021), (.opq 1024), (.opq 1027)]), (34, .arr 63 Iv5), (40, .blk 63 [.int .i64, .int .i64, .int .i64, .int .i64, .int .i64])]
  W := [4, 15, 117, 118, 119, 120, 121, 122, 123, 124, 125, 126, 127, 128, 129, 130, 131, 132, 133, 134, 135, 136, 137, 138, 139, 140, 141, 142, 143, 144, 145, 146, 147, 148, 149, 150, 151, 152, 153, 154, 155, 156, 157, 158, 159, 160, 161, 162, 163, 164, 165, 166, 167, 168, 169]
  outs := [⟨.exit 6, [(1, .rs Iv11), (2, (.ptr 1 0)), (5, (.row 28)), (6, (.ptr 4 0)), (8, .int .i64), (10, .int .i64)], [(1, .blk 28 [.rs [.str], .rs Ivs, .int .i64, .int .i64, .int .i64, .int .i64, .rs [.int .i64, .int .i64]]), (28, .arr 30 [.int .i64]), (4, .blk 42 [(.row 34), (.opq 1021), (.opq 1024), (.opq 1027)]), (34, .arr 63 Iv5)], [4, 11, 14, 15, 117, 118, 119, 120, 121, 122, 123, 124, 125, 126, 127, 128, 129, 130, 131, 132, 133, 134, 135, 136, 137, 138, 139, 140, 141, 142, 143, 144, 145, 146, 147, 148, 149, 150, 151, 152, 153, 154, 155, 156, 157, 158, 159, 160, 161, 162, 163, 164, 165, 166, 167, 168, 169]⟩]
  spec := sp_onD
def VCL_onD [W : InW] (evs : Ro Iv11) (t : Int) (i : Int) (k : Int) (rl : Ro [.str]) (rc : Ro Ivs) (pr : Int) (ex : Int) (lo : Int) (hi : Int) (rt : Ro [.int .i64, .int .i64]) (er : Dt) (ls : Dt) (l : Int) (c : Int) (s : Int) (hr : Int) (st : Int) (A : List Ed → Prop) (K : Nat → List Ed → Prop) : Prop :=
  Vif (decide (k < (↑(List.length evs.xs) : Int))) (Need (decide ((0 : Int) ≤ k) && decide (k < (↑(List.length evs.xs) : Int))) (Need (decide (k.toNat < List.length evs.xs)) (Need (decide ((0 : Int) ≤ k) && decide (k < (↑(List.length er) : Int))) (Need (decide (k.toNat < List.length er)) (Vif (decide ((cel er k.toNat (0 : Nat)).int = (0 : Int))) (Vif (decide ((cel evs.xs k.toNat (0 : Nat)).int = (2 : Int))) (Ar .i64 (s.tdiv (24 : Int)) fun z => Vif (decide ((cel evs.xs k.toNat ((0 : Nat) + (1 : Nat) + (1 : Nat) + (1 : Nat) + (1 : Nat) + (1 : Nat) + (1 : Nat) + (1 : Nat))).int = z)) (Vif (decide (t < s)) (Vif (decide ((cel evs.xs k.toNat ((0 : Nat) + (1 : Nat) + (1 : Nat) + (1 : Nat) + (1 : Nat) + (1 : Nat) + (1 : Nat) + (1 : Nat) + (1 : Nat))).int < (0 : Int))) ((472 : Nat) = (472 : Nat) + (1 : Nat)) (Vif (decide ((8 : Int) ≤ (cel evs.xs k.toNat ((0 : Nat) + (1 : Nat) + (1 : Nat) + (1 : Nat) + (1 : Nat) + (1 : Nat) + (1 : Nat) + (1 : Nat) + (1 : Nat))).int)) ((472 : Nat) = (472 : Nat) + (1 : Nat)) (Pre ((0 : Int) ≤ c ∧ c < (↑(List.length rc.xs) : Int) ∧ Sp.I64 (cel rc.xs c.toNat (3 : Nat)).int ∧ Sp.Small (cel evs.xs k.toNat ((0 : Nat) + (1 : Nat) + (1 : Nat) + (1 : Nat) + (1 : Nat) + (1 : Nat) + (1 : Nat) + (1 : Nat) + (1 : Nat))).int) (Vif (!Sp.drives (cel rc.xs c.toNat (3 : Nat)).int (cel evs.xs k.toNat ((0 : Nat) + (1 : Nat) + (1 : Nat) + (1 : Nat) + (1 : Nat) + (1 : Nat) + (1 : Nat) + (1 : Nat) + (1 : Nat))).int) ((472 : Nat) = (472 : Nat) + (1 : Nat)) (Ar .i64 (k + (1 : Int)) fun z => A [.ro _ evs, .i t, .i i, .i z, .ro _ rl, .ro _ rc, .i pr, .i ex, .i lo, .i hi, .ro _ rt, .l er, .l ls, .i l, .i c, .i s, .i hr, .i st]))))) (Ar .i64 (k + (1 : Int)) fun z => A [.ro _ evs, .i t, .i i, .i z, .ro _ rl, .ro _ rc, .i pr, .i ex, .i lo, .i hi, .ro _ rt, .l er, .l ls, .i l, .i c, .i s, .i hr, .i st])) (Ar .i64 (k + (1 : Int)) fun z => A [.ro _ evs, .i t, .i i, .i z, .ro _ rl, .ro _ rc, .i pr, .i ex, .i lo, .i hi, .ro _ rt, .l er, .l ls, .i l, .i c, .i s, .i hr, .i st])) (Ar .i64 (k + (1 : Int)) fun z => A [.ro _ evs, .i t, .i i, .i z, .ro _ rl, .ro _ rc, .i pr, .i ex, .i lo, .i hi, .ro _ rt, .l er, .l ls, .i l, .i c, .i s, .i hr, .i st])) (Ar .i64 (k + (1 : Int)) fun z => A [.ro _ evs, .i t, .i i, .i z, .ro _ rl, .ro _ rc, .i pr, .i ex, .i lo, .i hi, .ro _ rt, .l er, .l ls, .i l, .i c, .i s, .i hr, .i st])))))) (K (0 : Nat) [.ro _ evs, .i t, .i i, .ro _ rl, .ro _ rc, .i pr, .i ex, .i lo, .i hi, .ro _ rt, .l er, .l ls])
theorem vcl_onD (W : InW) (evs : Ro Iv11) (t : Int) (i : Int) (k : Int) (rl : Ro [.str]) (rc : Ro Ivs) (pr : Int) (ex : Int) (lo : Int) (hi : Int) (rt : Ro [.int .i64, .int .i64]) (er : Dt) (ls : Dt) (l : Int) (c : Int) (s : Int) (hr : Int) (st : Int) (A : List Ed → Prop) (K : Nat → List Ed → Prop) : vcTop { cxT Try.prog TT TPn 1000 50 with fn := 10 } 1000 (loopAt Try.prog 10 27) (tmOut 171 [(1, .rs _ evs), (2, .ptr 1 0), (5, .rw 28), (6, .ptr 4 0), (8, .si .i64 t), (10, .si .i64 i), (11, .ptr 40 0), (14, .si .i64 k)] [4, 15, 117, 118, 119, 120, 121, 122, 123, 124, 125, 126, 127, 128, 129, 130, 131, 132, 133, 134, 135, 136, 137, 138, 139, 140, 141, 142, 143, 144, 145, 146, 147, 148, 149, 150, 151, 152, 153, 154, 155, 156, 157, 158, 159, 160, 161, 162, 163, 164, 165, 166, 167, 168, 169]) [(1, .blk 28 [.rs _ rl, .rs _ rc, .si .i64 pr, .si .i64 ex, .si .i64 lo, .si .i64 hi, .rs _ rt]), (28, .arr 30 [.int .i64] er), (4, .blk 42 [.rw 34, .opq 1021, .opq 1024, .opq 1027]), (34, .arr 63 Iv5 ls), (40, .blk 63 [.si .i64 l, .si .i64 c, .si .i64 s, .si .i64 hr, .si .i64 st])] (roundL lc_onD A K) = VCL_onD evs t i k rl rc pr ex lo hi rt er ls l c s hr st A K := by kernel_rfl
def okLt_onD : Prop := ∀ (W : InW) (body a : Code), (Try.prog.funcs[10]?).bind (·.body) = some body → a ∈ loopsIn body → keyOf a = 27 → @LoopOk W Try.prog a (@loopRun W lc_onD)
theorem okl_onD (meas : [InW] → List Ed → Nat) (hyp_ : ∀ (W : InW) (evs : Ro Iv11) (t : Int) (i : Int) (k : Int) (rl : Ro [.str]) (rc : Ro Ivs) (pr : Int) (ex : Int) (lo : Int) (hi : Int) (rt : Ro [.int .i64, .int .i64]) (er : Dt) (ls : Dt) (l : Int) (c : Int) (s : Int) (hr : Int) (st : Int) (K : Nat → List Ed → Prop), sp_onD [.ro _ evs, .i t, .i i, .i k, .ro _ rl, .ro _ rc, .i pr, .i ex, .i lo, .i hi, .ro _ rt, .l er, .l ls, .i l, .i c, .i s, .i hr, .i st] K → ∀ A : List Ed → Prop, (∀ e, meas e < meas [.ro _ evs, .i t, .i i, .i k, .ro _ rl, .ro _ rc, .i pr, .i ex, .i lo, .i hi, .ro _ rt, .l er, .l ls, .i l, .i c, .i s, .i hr, .i st] → sp_onD e K → A e) → VCL_onD evs t i k rl rc pr ex lo hi rt er ls l c s hr st A K) : okLt_onD :=
  LE.okOf' (fun W => @TT W) (fun W => @TT_ok W) mixed_ok TPn 1000 50 (by kernel_rfl) lc_onD (fun W => @meas W) fun W evs t i k rl rc pr ex lo hi rt er ls l c s hr st K hs =>
    (vcl_onD W evs t i k rl rc pr ex lo hi rt er ls l c s hr st (fun e => meas e < meas [.ro _ evs, .i t, .i i, .i k, .ro _ rl, .ro _ rc, .i pr, .i ex, .i lo, .i hi, .ro _ rt, .l er, .l ls, .i l, .i c, .i s, .i hr, .i st] ∧ sp_onD e K) K).mpr (hyp_ W evs t i k rl rc pr ex lo hi rt er ls l c s hr st K hs _ fun e h1 h2 => ⟨h1, h2⟩)
theorem td24 {s : Int} (h : Sp.Small s) : -9223372036854775808 ≤ s.tdiv 24 ∧ s.tdiv 24 ≤ 9223372036854775807 := by
  unfold Sp.Small at h
  rcases Int.le_total 0 s with h0 | h0
  · rw [Int.tdiv_eq_ediv_of_nonneg h0]; omega
  · have : s.tdiv 24 = -((-s) / 24) := by
      rw [← Int.tdiv_eq_ediv_of_nonneg (show 0 ≤ -s by omega), Int.neg_tdiv, Int.neg_neg]
    omega
theorem okLonC : okLt_onC := okl_onC (fun e => match e with | _ :: _ :: .i i :: .i k :: _ => (i - k).toNat | _ => 0) fun W evs t i k rl rc pr ex lo hi rt er ls l c s hr st K hs A hA => by
  obtain ⟨⟨h0, h1, h2, h3, h4, h5, hp⟩, hk⟩ := hs
  unfold VCL_onC
  simp only [Nat.zero_add, Nat.reduceAdd]
  refine vifd (fun e => ?_) fun e => hk
  have hA' : A [.ro _ evs, .i t, .i i, .i (k + 1), .ro _ rl, .ro _ rc, .i pr, .i ex, .i lo, .i hi, .ro _ rt, .l er, .l ls, .i l, .i c, .i s, .i hr, .i st] :=
    hA _ (by show (i - (k + 1)).toNat < (i - k).toNat; omega) ⟨⟨by omega, by omega, h2, h3, h4, h5, hp⟩, hk⟩
  have hsm := hp.small k.toNat (by omega)
  have hro := hp.row k.toNat (by omega)
  clear hA hk
  refine ned (by simp; omega) (nedd (by omega) (vifd (fun e1 => vifd (fun e2 => ⟨⟨h4, h5, hsm.1, hsm.2⟩, vif (fun x => ?_) fun _ => ar64 (by omega) hA'⟩) fun e2 => vifd (fun e3 => ⟨⟨h4, h5, hsm.1, hsm.2⟩, vif (fun x => ?_) fun _ => ar64 (by omega) hA'⟩) fun _ => ar64 (by omega) hA') fun _ => ar64 (by omega) hA'))
  · rw [hro e1 (.inl e2)] at x; cases x
  · rw [hro e1 (.inr e3)] at x; cases x
theorem okLonD : okLt_onD := okl_onD (fun e => match e with | .ro _ evs :: _ :: _ :: .i k :: _ => ((evs.xs.length : Int) - k).toNat | _ => 0) fun W evs t i k rl rc pr ex lo hi rt er ls l c s hr st K hs A hA => by
  obtain ⟨⟨h0, h1, h2, h3, h4, h5, hp⟩, hk⟩ := hs
  unfold VCL_onD
  simp only [Nat.zero_add, Nat.reduceAdd]
  have hel := hp.errs
  refine vifd (fun e => ?_) fun e => hk
  have hA' : A [.ro _ evs, .i t, .i i, .i (k + 1), .ro _ rl, .ro _ rc, .i pr, .i ex, .i lo, .i hi, .ro _ rt, .l er, .l ls, .i l, .i c, .i s, .i hr, .i st] :=
    hA _ (by show ((evs.xs.length : Int) - (k + 1)).toNat < ((evs.xs.length : Int) - k).toNat; omega) ⟨⟨by omega, by omega, h2, h3, h4, h5, hp⟩, hk⟩
  have hro := hp.row k.toNat (by omega)
  clear hA hk
  have again := ar64 (n := k + 1) (K := fun z => A [.ro _ evs, .i t, .i i, .i z, .ro _ rl, .ro _ rc, .i pr, .i ex, .i lo, .i hi, .ro _ rt, .l er, .l ls, .i l, .i c, .i s, .i hr, .i st]) (by omega) hA'
  refine ned (by simp; omega) (nedd (by omega) (ned (by simp; omega) (nedd (by omega) (vifd (fun e1 => vifd (fun e2 => ar64 (td24 h3) (vifd (fun e3 => vifd (fun e4 => ?_) fun _ => again) fun _ => again)) fun _ => again) fun _ => again))))
  obtain ⟨r1, r2⟩ := hro e1 e2 e3 e4
  refine vifd (fun _ => by omega) fun _ => vifd (fun _ => by omega) fun _ => ⟨⟨h4.1, h4.2, h5, by unfold Sp.Small; omega⟩, vif (fun x => ?_) fun _ => again⟩
  rw [r2] at x; cases x
noncomputable def le_onC : LE Try.prog := ⟨10, 21, fun W => @loopRun W lc_onC, okLonC⟩
noncomputable def le_onD : LE Try.prog := ⟨10, 27, fun W => @loopRun W lc_onD, okLonD⟩
noncomputable def TPo : Tab Try.prog := ⟨[pc_Fits], [le_onC, le_onD], []⟩
namespace Sp
structure OnceOk (lo hi : Int) (rc evs er ls : Dt) (t : Int) : Prop where
  row : ∀ j : Nat, j < ls.length → Small (cel ls j 2).int ∧ Small (cel ls j 3).int ∧ ((cel ls j 4).int = 0 → fits lo hi (cel ls j 2).int (cel ls j 3).int = true ∧ AheadOk ls (cel ls j 0).int (cel ls j 1).int (cel ls j 2).int (cel ls j 3).int j ∧ (0 ≤ (cel ls j 1).int ∧ (cel ls j 1).int < rc.length) ∧ I64 (cel rc (cel ls j 1).int.toNat 3).int ∧ DryOk evs er rc (cel ls j 1).int (cel ls j 2).int t)
end Sp
def sp_onB [InW] (e : List Ed) (K : Nat → List Ed → Prop) : Prop := match e with
  | [.ro _ evs, .i t, .i i, .ro _ rl, .ro _ rc, .i pr, .i ex, .i lo, .i hi, .ro _ rt, .l er, .l ls] =>
    Pre (0 ≤ i ∧ i ≤ ls.length ∧ ls.length ≤ 1000 ∧ evs.xs.length ≤ 1000 ∧ Sp.OnceOk lo hi rc.xs evs.xs er ls t) (K 0 [])
  | _ => False
noncomputable def lc_onB : LC where
  len := 171
  T := [(1, .rs Iv11), (2, (.ptr 1 0)), (5, (.row 28)), (6, (.ptr 4 0)), (8, .int .i64), (10, .int .i64)]
  H := [(1, .blk 28 [.rs [.str], .rs Ivs, .int .i64, .int .i64, .int .i64, .int .i64, .rs [.int .i64, .int .i64]]), (28, .arr 30 [.int .i64]), (4, .blk 42 [(.row 34), (.opq 1021), (.opq 1024), (.opq 1027)]), (34, .arr 63 Iv5)]
  W := [4, 11, 12, 13, 14, 15, 62, 63, 64, 65, 66, 67, 68, 69, 70, 71, 72, 73, 74, 75, 76, 77, 78, 79, 80, 81, 82, 83, 84, 85, 86, 87, 88, 89, 90, 91, 92, 93, 94, 95, 96, 97, 98, 99, 100, 101, 102, 103, 104, 105, 106, 107, 108, 109, 110, 111, 112, 113, 114, 115, 116, 117, 118, 119, 120, 121, 122, 123, 124, 125, 126, 127, 128, 129, 130, 131, 132, 133, 134, 135, 136, 137, 138, 139, 140, 141, 142, 143, 144, 145, 146, 147, 148, 149, 150, 151, 152, 153, 154, 155, 156, 157, 158, 159, 160, 161, 162, 163, 164, 165, 166, 167, 168, 169]
  outs := [⟨.exit 2, [], [], [1, 2, 4, 5, 6, 8, 10, 11, 12, 13, 14, 15, 62, 63, 64, 65, 66, 67, 68, 69, 70, 71, 72, 73, 74, 75, 76, 77, 78, 79, 80, 81, 82, 83, 84, 85, 86, 87, 88, 89, 90, 91, 92, 93, 94, 95, 96, 97, 98, 99, 100, 101, 102, 103, 104, 105, 106, 107, 108, 109, 110, 111, 112, 113, 114, 115, 116, 117, 118, 119, 120, 121, 122, 123, 124, 125, 126, 127, 128, 129, 130, 131, 132, 133, 134, 135, 136, 137, 138, 139, 140, 141, 142, 143, 144, 145, 146, 147, 148, 149, 150, 151, 152, 153, 154, 155, 156, 157, 158, 159, 160, 161, 162, 163, 164, 165, 166, 167, 168, 169]⟩]
  spec := sp_onB
def VCL_onB [W : InW] (evs : Ro Iv11) (t : Int) (i : Int) (rl : Ro [.str]) (rc : Ro Ivs) (pr : Int) (ex : Int) (lo : Int) (hi : Int) (rt : Ro [.int .i64, .int .i64]) (er : Dt) (ls : Dt) (A : List Ed → Prop) (K : Nat → List Ed → Prop) : Prop :=
  Vif (decide (i < (↑(List.length ls) : Int))) (Need (decide ((0 : Int) ≤ i) && decide (i < (↑(List.length ls) : Int))) (Need (decide (i.toNat < List.length ls)) (Vif (!decide ((cel ls i.toNat ((0 : Nat) + (1 : Nat) + (1 : Nat) + (1 : Nat) + (1 : Nat))).int = (0 : Int))) (Ar .i64 (i + (1 : Int)) fun z => A [.ro _ evs, .i t, .i z, .ro _ rl, .ro _ rc, .i pr, .i ex, .i lo, .i hi, .ro _ rt, .l er, .l ls]) (Pre (Sp.Small (cel ls i.toNat ((0 : Nat) + (1 : Nat) + (1 : Nat) + (1 : Nat))).int) (Vif (!Sp.fits lo hi (cel ls i.toNat ((0 : Nat) + (1 : Nat) + (1 : Nat))).int (cel ls i.toNat ((0 : Nat) + (1 : Nat) + (1 : Nat) + (1 : Nat))).int) ((472 : Nat) = (472 : Nat) + (1 : Nat)) (Pre ((0 : Int) ≤ (0 : Int) ∧ (0 : Int) ≤ i ∧ i < (↑(List.length ls) : Int) ∧ List.length ls ≤ (1000 : Nat) ∧ Sp.Small (cel ls i.toNat ((0 : Nat) + (1 : Nat) + (1 : Nat))).int ∧ Sp.Small (cel ls i.toNat ((0 : Nat) + (1 : Nat) + (1 : Nat) + (1 : Nat))).int ∧ Sp.AheadOk ls (cel ls i.toNat (0 : Nat)).int (cel ls i.toNat ((0 : Nat) + (1 : Nat))).int (cel ls i.toNat ((0 : Nat) + (1 : Nat) + (1 : Nat))).int (cel ls i.toNat ((0 : Nat) + (1 : Nat) + (1 : Nat) + (1 : Nat))).int i) (Pre ((0 : Int) ≤ (0 : Int) ∧ (0 : Int) ≤ (↑(List.length evs.xs) : Int) ∧ List.length evs.xs ≤ (1000 : Nat) ∧ Sp.Small (cel ls i.toNat ((0 : Nat) + (1 : Nat) + (1 : Nat))).int ∧ ((0 : Int) ≤ (cel ls i.toNat ((0 : Nat) + (1 : Nat))).int ∧ (cel ls i.toNat ((0 : Nat) + (1 : Nat))).int < (↑(List.length rc.xs) : Int)) ∧ Sp.I64 (cel rc.xs (cel ls i.toNat ((0 : Nat) + (1 : Nat))).int.toNat (3 : Nat)).int ∧ Sp.DryOk evs.xs er rc.xs (cel ls i.toNat ((0 : Nat) + (1 : Nat))).int (cel ls i.toNat ((0 : Nat) + (1 : Nat) + (1 : Nat))).int t) (Ar .i64 (i + (1 : Int)) fun z => A [.ro _ evs, .i t, .i z, .ro _ rl, .ro _ rc, .i pr, .i ex, .i lo, .i hi, .ro _ rt, .l er, .l ls])))))))) (K (0 : Nat) [])
theorem vcl_onB (W : InW) (evs : Ro Iv11) (t : Int) (i : Int) (rl : Ro [.str]) (rc : Ro Ivs) (pr : Int) (ex : Int) (lo : Int) (hi : Int) (rt : Ro [.int .i64, .int .i64]) (er : Dt) (ls : Dt) (A : List Ed → Prop) (K : Nat → List Ed → Prop) : vcTop { cxT Try.prog TT TPo 1000 50 with fn := 10 } 1000 (loopAt Try.prog 10 14) (tmOut 171 [(1, .rs _ evs), (2, .ptr 1 0), (5, .rw 28), (6, .ptr 4 0), (8, .si .i64 t), (10, .si .i64 i)] [4, 11, 12, 13, 14, 15, 62, 63, 64, 65, 66, 67, 68, 69, 70, 71, 72, 73, 74, 75, 76, 77, 78, 79, 80, 81, 82, 83, 84, 85, 86, 87, 88, 89, 90, 91, 92, 93, 94, 95, 96, 97, 98, 99, 100, 101, 102, 103, 104, 105, 106, 107, 108, 109, 110, 111, 112, 113, 114, 115, 116, 117, 118, 119, 120, 121, 122, 123, 124, 125, 126, 127, 128, 129, 130, 131, 132, 133, 134, 135, 136, 137, 138, 139, 140, 141, 142, 143, 144, 145, 146, 147, 148, 149, 150, 151, 152, 153, 154, 155, 156, 157, 158, 159, 160, 161, 162, 163, 164, 165, 166, 167, 168, 169]) [(1, .blk 28 [.rs _ rl, .rs _ rc, .si .i64 pr, .si .i64 ex, .si .i64 lo, .si .i64 hi, .rs _ rt]), (28, .arr 30 [.int .i64] er), (4, .blk 42 [.rw 34, .opq 1021, .opq 1024, .opq 1027]), (34, .arr 63 Iv5 ls)] (roundL lc_onB A K) = VCL_onB evs t i rl rc pr ex lo hi rt er ls A K := by kernel_rfl
def okLt_onB : Prop := ∀ (W : InW) (body a : Code), (Try.prog.funcs[10]?).bind (·.body) = some body → a ∈ loopsIn body → keyOf a = 14 → @LoopOk W Try.prog a (@loopRun W lc_onB)
theorem okl_onB (meas : [InW] → List Ed → Nat) (hyp_ : ∀ (W : InW) (evs : Ro Iv11) (t : Int) (i : Int) (rl : Ro [.str]) (rc : Ro Ivs) (pr : Int) (ex : Int) (lo : Int) (hi : Int) (rt : Ro [.int .i64, .int .i64]) (er : Dt) (ls : Dt) (K : Nat → List Ed → Prop), sp_onB [.ro _ evs, .i t, .i i, .ro _ rl, .ro _ rc, .i pr, .i ex, .i lo, .i hi, .ro _ rt, .l er, .l ls] K → ∀ A : List Ed → Prop, (∀ e, meas e < meas [.ro _ evs, .i t, .i i, .ro _ rl, .ro _ rc, .i pr, .i ex, .i lo, .i hi, .ro _ rt, .l er, .l ls] → sp_onB e K → A e) → VCL_onB evs t i rl rc pr ex lo hi rt er ls A K) : okLt_onB :=
  LE.okOf' (fun W => @TT W) (fun W => @TT_ok W) mixed_ok TPo 1000 50 (by kernel_rfl) lc_onB (fun W => @meas W) fun W evs t i rl rc pr ex lo hi rt er ls K hs =>
    (vcl_onB W evs t i rl rc pr ex lo hi rt er ls (fun e => meas e < meas [.ro _ evs, .i t, .i i, .ro _ rl, .ro _ rc, .i pr, .i ex, .i lo, .i hi, .ro _ rt, .l er, .l ls] ∧ sp_onB e K) K).mpr (hyp_ W evs t i rl rc pr ex lo hi rt er ls K hs _ fun e h1 h2 => ⟨h1, h2⟩)
theorem okLonB : okLt_onB := okl_onB (fun e => match e with | _ :: _ :: .i i :: r => (match r with | [_, _, _, _, _, _, _, _, .l ls] => ((ls.length : Int) - i).toNat | _ => 0) | _ => 0) fun W evs t i rl rc pr ex lo hi rt er ls K hs A hA => by
  obtain ⟨⟨h0, h1, h2, h3, hp⟩, hk⟩ := hs
  unfold VCL_onB
  simp only [Nat.zero_add, Nat.reduceAdd]
  refine vifd (fun e => ?_) fun e => hk
  have hx : i.toNat < ls.length := by omega
  have hA' : A [.ro _ evs, .i t, .i (i + 1), .ro _ rl, .ro _ rc, .i pr, .i ex, .i lo, .i hi, .ro _ rt, .l er, .l ls] :=
    hA _ (by show ((ls.length : Int) - (i + 1)).toNat < ((ls.length : Int) - i).toNat; omega) ⟨⟨by omega, by omega, h2, h3, hp⟩, hk⟩
  obtain ⟨r1, r2, r3⟩ := hp.row i.toNat hx
  refine ned (by simp; omega) (nedd hx (vifn (fun _ => ar64 (by omega) hA') fun e1 => ?_))
  obtain ⟨q1, q2, q3, q4, q5⟩ := r3 e1
  rw [Int.toNat_of_nonneg h0] at q2
  refine ⟨r2, vif (fun x => ?_) fun _ => ⟨⟨by omega, h0, by omega, h2, r1, r2, q2⟩, ⟨by omega, by omega, h3, r1, q3, q4, q5⟩, ar64 (by omega) hA'⟩⟩
  rw [q1] at x; cases x
noncomputable def le_onB : LE Try.prog := ⟨10, 14, fun W => @loopRun W lc_onB, okLonB⟩
noncomputable def TPp : Tab Try.prog := ⟨[pc_bRun, pc_valid, pc_shaped, pc_Awake], [le_onA, le_onB], []⟩
def VC_lawOnce [W : InW] (s_Learners : Ro [.str]) (s_Cars : Ro Ivs) (s_Price : Int) (s_Excess : Int) (s_Lo : Int) (s_Hi : Int) (s_Terms : Ro [.int .i64, .int .i64]) (evs : Ro Iv11) (Q : DS → Prop) : Prop :=
  Pre True (Vif (!decide (Sp.rErr ⟨s_Learners.xs, s_Cars.xs, s_Price, s_Excess, s_Lo, s_Hi, s_Terms.xs⟩ evs.xs = (0 : Int))) (Vif (!decide (Sp.rErr ⟨s_Learners.xs, s_Cars.xs, s_Price, s_Excess, s_Lo, s_Hi, s_Terms.xs⟩ evs.xs = (0 : Int))) (Pre True (Q [[Cl.b true]])) (Q [[Cl.b false]])) (Pre (Sp.NamesOk s_Learners.xs ∧ Sp.NamesOk s_Cars.xs) (Vif (!decide (Sp.chkE s_Learners.xs s_Cars.xs s_Price s_Excess s_Lo s_Hi s_Terms.xs = (0 : Int))) (Vif (!decide (Sp.rErr ⟨s_Learners.xs, s_Cars.xs, s_Price, s_Excess, s_Lo, s_Hi, s_Terms.xs⟩ evs.xs = (0 : Int))) (Pre True (Q [[Cl.b true]])) (Q [[Cl.b false]])) (Vif (!decide ((↑(List.length (Sp.rE ⟨s_Learners.xs, s_Cars.xs, s_Price, s_Excess, s_Lo, s_Hi, s_Terms.xs⟩ evs.xs)) : Int) = (↑(List.length evs.xs) : Int))) (Q [[Cl.b false]]) (Pre (List.length s_Learners.xs ≤ (1000 : Nat)) (Vif (!Sp.shapedE (List.length s_Learners.xs) (List.length s_Cars.xs) (Sp.rB ⟨s_Learners.xs, s_Cars.xs, s_Price, s_Excess, s_Lo, s_Hi, s_Terms.xs⟩ evs.xs).ls (Sp.rB ⟨s_Learners.xs, s_Cars.xs, s_Price, s_Excess, s_Lo, s_Hi, s_Terms.xs⟩ evs.xs).km (Sp.rB ⟨s_Learners.xs, s_Cars.xs, s_Price, s_Excess, s_Lo, s_Hi, s_Terms.xs⟩ evs.xs).si (Sp.rB ⟨s_Learners.xs, s_Cars.xs, s_Price, s_Excess, s_Lo, s_Hi, s_Terms.xs⟩ evs.xs).ac) (Q [[Cl.b false]]) (Pre ((0 : Int) ≤ (0 : Int) ∧ (0 : Int) ≤ (↑(List.length evs.xs) : Int) ∧ List.length evs.xs ≤ (1000 : Nat) ∧ List.length (Sp.rE ⟨s_Learners.xs, s_Cars.xs, s_Price, s_Excess, s_Lo, s_Hi, s_Terms.xs⟩ evs.xs) = List.length evs.xs) (Pre ((0 : Int) ≤ (0 : Int) ∧ (0 : Int) ≤ (↑(List.length (Sp.rB ⟨s_Learners.xs, s_Cars.xs, s_Price, s_Excess, s_Lo, s_Hi, s_Terms.xs⟩ evs.xs).ls) : Int) ∧ List.length (Sp.rB ⟨s_Learners.xs, s_Cars.xs, s_Price, s_Excess, s_Lo, s_Hi, s_Terms.xs⟩ evs.xs).ls ≤ (1000 : Nat) ∧ List.length evs.xs ≤ (1000 : Nat) ∧ Sp.OnceOk s_Lo s_Hi s_Cars.xs evs.xs (Sp.rE ⟨s_Learners.xs, s_Cars.xs, s_Price, s_Excess, s_Lo, s_Hi, s_Terms.xs⟩ evs.xs) (Sp.rB ⟨s_Learners.xs, s_Cars.xs, s_Price, s_Excess, s_Lo, s_Hi, s_Terms.xs⟩ evs.xs).ls (Sp.iter (Sp.onT evs.xs (Sp.rE ⟨s_Learners.xs, s_Cars.xs, s_Price, s_Excess, s_Lo, s_Hi, s_Terms.xs⟩ evs.xs)) (List.length evs.xs - Int.toNat (0 : Int)) (Int.toNat (0 : Int)) (0 : Int))) (Pre True (Q [[Cl.b true]]))))))))))
theorem vc_lawOnce (W : InW) (s_Learners : Ro [.str]) (s_Cars : Ro Ivs) (s_Price : Int) (s_Excess : Int) (s_Lo : Int) (s_Hi : Int) (s_Terms : Ro [.int .i64, .int .i64]) (evs : Ro Iv11) (Q : DS → Prop) : bodyK (cxT Try.prog TT TPp 1000 50) 1000 10 [.agg [.rs _ s_Learners, .rs _ s_Cars, .si .i64 s_Price, .si .i64 s_Excess, .si .i64 s_Lo, .si .i64 s_Hi, .rs _ s_Terms], .rs _ evs] [] 0 (leafK [(false, [.bool])] Q) (fun _ _ _ _ => Stuck 421) = VC_lawOnce s_Learners s_Cars s_Price s_Excess s_Lo s_Hi s_Terms evs Q := by kernel_rfl
abbrev ats_lawOnce : List AT := [.agg [.sl [.str], .sl Ivs, .int .i64, .int .i64, .int .i64, .int .i64, .sl [.int .i64, .int .i64]], .one (.sl Iv11)]
theorem ok_lawOnce {pre : DS → Prop} {res : DS → DS} (hyp_ : ∀ (W : InW) (s_Learners : Ro [.str]) (s_Cars : Ro Ivs) (s_Price : Int) (s_Excess : Int) (s_Lo : Int) (s_Hi : Int) (s_Terms : Ro [.int .i64, .int .i64]) (evs : Ro Iv11), pre [[.l s_Learners.xs, .l s_Cars.xs, .i s_Price, .i s_Excess, .i s_Lo, .i s_Hi, .l s_Terms.xs], [.l evs.xs]] → ∀ Q : DS → Prop, Q (res [[.l s_Learners.xs, .l s_Cars.xs, .i s_Price, .i s_Excess, .i s_Lo, .i s_Hi, .l s_Terms.xs], [.l evs.xs]]) → VC_lawOnce s_Learners s_Cars s_Price s_Excess s_Lo s_Hi s_Terms evs Q) : PureOk Try.prog 10 ats_lawOnce [(false, [.bool])] pre res :=
  PureOk.of' (fun W => @TT W) (fun W => @TT_ok W) mixed_ok TPp 1000 50 fun W s_Learners s_Cars s_Price s_Excess s_Lo s_Hi s_Terms evs hp =>
    (vc_lawOnce W s_Learners s_Cars s_Price s_Excess s_Lo s_Hi s_Terms evs (fun o => o = res [[.l s_Learners.xs, .l s_Cars.xs, .i s_Price, .i s_Excess, .i s_Lo, .i s_Hi, .l s_Terms.xs], [.l evs.xs]])).mpr (hyp_ W s_Learners s_Cars s_Price s_Excess s_Lo s_Hi s_Terms evs hp _ rfl)
end Go.Proofs.Ytiiicnhjjfmpkaa
namespace Go.Proofs.Ytiiicnhjjfmpkaa
open Go.RowKit
set_option linter.unusedVariables false
set_option maxRecDepth 100000
theorem Sp.once_ok {s : Sp.Sch} {evs : Dt} (h : Sp.rErr s evs = 0) : Sp.OnceOk s.lo s.hi s.rc evs (Sp.errAll s evs) (Sp.runAll s evs).ls (Sp.runAll s evs).tm := by
  have hI := Sp.rErr_inv h
  have hO := Sp.once_run h
  refine ⟨fun j hj => ?_⟩
  have hr := hI.ls j hj
  have small : ∀ k, k < (Sp.runAll s evs).ls.length → Sp.Small (cel (Sp.runAll s evs).ls k 2).int ∧ Sp.Small (cel (Sp.runAll s evs).ls k 3).int := fun k hk => by
    have := hI.ls k hk
    unfold Sp.Small
    omega
  refine ⟨(small j hj).1, (small j hj).2, fun ho => ⟨hO.good.fit j hj ho, ⟨small, fun k hk h1 h2 => ?_⟩, hr.2.1, ?_, ⟨Sp.errAll_len _ _, fun k hk he hkd hd ht => ?_⟩⟩⟩
  · exact hO.good.apart j k hj (by omega) (by omega) ho h1 h2
  · have := hI.never (cel (Sp.runAll s evs).ls j 1).int.toNat (by omega)
    unfold Sp.I64
    omega
  · have hdry := hO.dry j hj ho ht
    obtain ⟨q1, q2⟩ := Sp.seen_run h _ (Nat.le_refl _) k hk he hkd
    have := q2 _ _ hr.2.1.1 hr.2.1.2 hdry hd
    refine ⟨?_, this⟩
    show 0 ≤ (Sp.evt evs k).w ∧ (Sp.evt evs k).w < 8
    omega
theorem once_pure : PureOk Try.prog 10 ats_lawOnce [(false, [.bool])] (WfD ats_lawOnce) fun _ => [[.b true]] :=
  ok_lawOnce fun W rl rc pr ex lo hi rt evs hp Q h => by
    obtain ⟨d, ds, e1, hp1, _⟩ := hp
    cases e1
    have hn := school_names hp1
    unfold VC_lawOnce
    by_cases e : Sp.rErr ⟨rl.xs, rc.xs, pr, ex, lo, hi, rt.xs⟩ evs.xs = 0
    · have hc := (Sp.rErr_ok e).1
      have hz : Sp.chkE rl.xs rc.xs pr ex lo hi rt.xs = 0 := Sp.rErr_chk e
      obtain ⟨hL, hI, h60, hs⟩ := Sp.rB_led e
      have hl := hc.learners
      have hm := hI.many
      have hk := Sp.once_ok e
      have ht := Sp.time_run ⟨rl.xs, rc.xs, pr, ex, lo, hi, rt.xs⟩ evs.xs _ (Nat.le_refl _)
      rw [← Sp.runAll_bk] at ht
      rw [ht, ← Sp.rB_ok e, ← Sp.rE_ok e] at hk
      simp only at hl hk hs
      have hel : (Sp.rE ⟨rl.xs, rc.xs, pr, ex, lo, hi, rt.xs⟩ evs.xs).length = evs.xs.length := by rw [Sp.rE_ok e, Sp.errAll_len]
      exact ⟨trivial, vif (fun x => absurd e (by simpa using x)) fun _ => ⟨hn, vif (fun x => absurd hz (by simpa using x)) fun _ => vifn (fun x => absurd (by rw [hel]) x) fun _ => ⟨by omega, vif (fun x => by rw [hs] at x; cases x) fun _ => ⟨⟨by omega, by omega, by omega, hel⟩, ⟨by omega, by omega, by omega, by omega, hk⟩, trivial, h⟩⟩⟩⟩
    · simp [Vif_iff, Pre_iff, e, Sp.rB_no e, Sp.rE_no e, h]
end Go.Proofs.Ytiiicnhjjfmpkaa
namespace Go.Proofs.Ytiiicnhjjfmpkaa.bookOnce
open Go.ChangeShapes Go.WideShapes Go.ChangeAt Go.RowKit
set_option linter.unusedVariables false
set_option maxRecDepth 100000
theorem own : ownKnob Try.prog.godebug = none := by kernel_rfl
theorem laid : laidOutB Try.prog = true := by kernel_rfl
theorem lifted (os : Os) (started : os.Started) (H : Type) (enc : TypeId × Value → H) :
    ReturnsInHanded {} Try.checked os 10 .any (Rows.bookOnceSpec.pre6 enc Try.prog Try.f10 Rows.bookOnceRow.domain false) (Rows.bookOnceSpec.post enc Try.prog Try.f10 false true false false) := by
  refine returnsInHanded_of_change (C := Try.checked) own started (by kernel_rfl) Try.func10
    (ChangeSpec.witness6 (enc := enc) (C := Try.checked) false ⟨#[], #[(.agg #[.slice none 0 0, .slice none 0 0, .int .i64 0, .int .i64 0, .int .i64 0, .int .i64 0, .slice none 0 0]), (.slice none 0 0)], []⟩ 8 (by kernel_rfl) (by kernel_rfl) (by kernel_rfl) (by kernel_rfl)) ?_
  intro W base args ds gs before hval hW _ _
  exact law_end (f := Try.f10) (s := Rows.bookOnceSpec) (by kernel_rfl) Try.underlying4 (by kernel_rfl) rfl laid (by kernel_rfl)
    (fun ds h => by match ds, (show ds.length = 2 from h) with | [_, _], _ => exact ⟨rfl, rfl, rfl⟩) once_pure hval hW
theorem over : Rows.bookOnceRow.holds Try.pinned (OpenSpec.ofChange Rows.bookOnceSpec) :=
  OpenClaim.holds_of_wide 10 Try.f10 rfl rfl rfl rfl rfl rfl rfl ⟨rfl, rfl, rfl, rfl, rfl⟩ rfl rfl rfl rfl rfl (by kernel_rfl) Try.func10 (by kernel_rfl)
    (of_decide_eq_true (by kernel_rfl)) (by unfold Func.isWrapper; first | (rw [if_pos (by decide +kernel)]; kernel_rfl) | (rw [if_neg (by decide +kernel)]; exact ⟨rfl, rfl⟩))
    (fun os started H enc _ => lifted os started H enc)
theorem proved : Rows.BookOnceSaid := over
end Go.Proofs.Ytiiicnhjjfmpkaa.bookOnce
