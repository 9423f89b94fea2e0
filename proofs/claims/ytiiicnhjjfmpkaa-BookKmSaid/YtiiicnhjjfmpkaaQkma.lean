/-
  'BookKm': for every input the law returns true, and what is handed in reads as before. No condition.
-/
import Derived.Test.YtiiicnhjjfmpkaaQf
import Derived.Test.YtiiicnhjjfmpkaaRows
import Derived.WalkKit
import Derived.ProofKit
set_option linter.unusedVariables false
set_option linter.unusedSectionVars false
set_option linter.unusedSimpArgs false
namespace Go.Proofs.Ytiiicnhjjfmpkaa
open Go.RowKit
set_option linter.unusedVariables false
set_option maxRecDepth 100000
namespace Sp
def pays (ps : Dt) : Nat → Nat → Dt → Dt
  | 0, _, h => h
  | n + 1, i, h => pays ps n (i + 1) (addA (addA h (cel ps i 1).int (-(cel ps i 3).int)) (cel ps i 2).int (cel ps i 3).int)
structure PsOk (na n : Int) (ps : Dt) : Prop where
  row : ∀ j, j < ps.length → (0 ≤ (cel ps j 0).int ∧ (cel ps j 0).int < n) ∧ (0 ≤ (cel ps j 1).int ∧ (cel ps j 1).int < na) ∧ (0 ≤ (cel ps j 2).int ∧ (cel ps j 2).int < na) ∧ (cel ps j 1).int ≠ (cel ps j 2).int ∧ (0 < (cel ps j 3).int ∧ (cel ps j 3).int ≤ 10000000)
  up : ∀ j, j + 1 < ps.length → (cel ps j 0).int ≤ (cel ps (j + 1) 0).int
def sumI (a : Dt) : Nat → Nat → Int
  | _, 0 => 0
  | i, n + 1 => (cel a i 0).int + sumI a (i + 1) n
end Sp
end Go.Proofs.Ytiiicnhjjfmpkaa
namespace Go.Proofs.Ytiiicnhjjfmpkaa
set_option linter.unusedVariables false
namespace Sp
theorem runB_ind {s : Sch} {evs : Dt} {P : Int → Bks → Prop} (hs : ∀ (i : Int) (b : Bks), 0 ≤ i → i < evs.length → Inv s b i → P i b → P (i + 1) (doB s b i (evt evs i))) : ∀ (n : Nat) (i : Int) (b : Bks), 0 ≤ i → i + n ≤ 60 → i + n ≤ evs.length → Inv s b i → P i b → P (i + n) (runB s evs n i b)
  | 0, i, b, h0, _, _, hI, h => by simpa [runB] using h
  | n + 1, i, b, h0, h1, h2, hI, h => by
    rw [show i + ((n + 1 : Nat) : Int) = i + 1 + n by omega]
    exact runB_ind hs n (i + 1) _ (by omega) (by omega) (by omega) (hI.step (by omega) _) (hs i b h0 (by omega) hI h)
theorem run_ind {s : Sch} {evs : Dt} {P : Int → Bks → Prop} (h : rErr s evs = 0) (h0 : P 0 (open0 s)) (hs : ∀ (i : Int) (b : Bks), 0 ≤ i → i < evs.length → Inv s b i → P i b → P (i + 1) (doB s b i (evt evs i))) : P evs.length (runAll s evs) := by
  obtain ⟨h1, h2⟩ := rErr_ok h
  have := runB_ind hs evs.length 0 (open0 s) (by omega) (by omega) (by omega) (Inv.zero h1) h0
  rw [Int.zero_add] at this
  exact this
theorem doB_cases {s : Sch} {b : Bks} {n : Int} {x : Evt} {P : Bks → Prop} (h0 : P b) (h1 : P { b with ev := n }) (h2 : inr x.kind 0 6 = true → b.tm ≤ x.at_ → x.at_ ≤ 4800 → err s b x = 0 → P { eff s { b with ev := n } x with tm := x.at_ }) : P (doB s b n x) := by
  unfold doB
  split
  · exact h0
  rename_i e1
  split
  · exact h0
  rename_i e2
  simp only [Bool.not_eq_true, Bool.not_eq_false'] at e1 e2
  have ht := inr_iff.1 e2
  split
  · rename_i e3
    exact h2 e1 ht.1 ht.2 e3
  · exact h1
theorem rB_ok {s : Sch} {evs : Dt} (h : rErr s evs = 0) : rB s evs = runAll s evs := if_pos h
theorem rB_no {s : Sch} {evs : Dt} (h : ¬ rErr s evs = 0) : rB s evs = ⟨[], [], [], [], [], [], 0, 0⟩ := if_neg h
theorem rE_ok {s : Sch} {evs : Dt} (h : rErr s evs = 0) : rE s evs = errAll s evs := if_pos h
theorem rE_no {s : Sch} {evs : Dt} (h : ¬ rErr s evs = 0) : rE s evs = [] := if_neg h
theorem sumI_set (a : Dt) (v : Int) (i : Nat) (hi : i < a.length) : ∀ (n k : Nat), sumI (a.set i [.i v]) k n = sumI a k n + if k ≤ i ∧ i < k + n then v - (cel a i 0).int else 0
  | 0, k => by simp [sumI]; omega
  | n + 1, k => by
    unfold sumI
    rw [sumI_set a v i hi n (k + 1), cel_set]
    by_cases h : i = k
    · subst h
      rw [if_pos ⟨rfl, hi⟩, if_neg (by omega), if_pos (by omega)]
      show v + _ = _
      omega
    · rw [if_neg (fun e => h e.1)]
      by_cases h2 : k + 1 ≤ i ∧ i < k + 1 + n
      · rw [if_pos h2, if_pos (by omega)]; omega
      · rw [if_neg h2, if_neg (by omega)]; omega
theorem sumI_addA (a : Dt) (i c : Int) (h : 0 ≤ i ∧ i < a.length) : sumI (addA a i c) 0 a.length = sumI a 0 a.length + c := by
  unfold addA
  rw [sumI_set a _ i.toNat (by omega), if_pos (by omega)]
  omega
theorem sumI_zero (n : Nat) : ∀ (m k : Nat), sumI (List.replicate n [.i 0]) k m = 0
  | 0, _ => rfl
  | m + 1, k => by
    unfold sumI
    rw [sumI_zero n m, cel_rep]
    split <;> rfl
theorem pays_app (ps : Dt) (r : List Cl) : ∀ (n i : Nat) (h : Dt), i + n = ps.length → pays (ps ++ [r]) (n + 1) i h = addA (addA (pays ps n i h) (r.getD 1 .z).int (-(r.getD 3 .z).int)) (r.getD 2 .z).int (r.getD 3 .z).int
  | 0, i, h, e => by
    have : ∀ k, cel (ps ++ [r]) i k = r.getD k .z := fun k => by
      rw [show i = ps.length by omega]
      simp [cel, List.getD_eq_getElem?_getD]
    simp only [pays, this]
  | n + 1, i, h, e => by
    have : ∀ k, cel (ps ++ [r]) i k = cel ps i k := fun k => by simp [cel, List.getD_eq_getElem?_getD, List.getElem?_append_left (show i < ps.length by omega)]
    rw [pays, pays_app ps r n (i + 1) _ (by omega), this, this, this]
    rfl
structure Led (s : Sch) (b : Bks) (n : Int) : Prop where
  ac : b.ac = pays b.ps b.ps.length 0 (List.replicate (s.rl.length + 4) [.i 0])
  ps : PsOk ((s.rl.length : Int) + 4) n b.ps
  sum : sumI b.ac 0 b.ac.length = 0
theorem PsOk.up1 {na n : Int} {ps : Dt} (h : PsOk na n ps) : PsOk na (n + 1) ps := ⟨fun j hj => by have := h.row j hj; exact ⟨by omega, this.2⟩, h.up⟩
theorem PsOk.post {na n : Int} {ps : Dt} (h : PsOk na (n + 1) ps) (h0 : 0 ≤ n) {u v c : Int} (hu : 0 ≤ u ∧ u < na) (hv : 0 ≤ v ∧ v < na) (hn : u ≠ v) (hc : 0 ≤ c ∧ c ≤ 10000000) : PsOk na (n + 1) (postP ps n u v c) := by
  unfold postP
  split
  · exact h
  · rename_i e
    have a1 : ∀ j k, j < ps.length → cel (ps ++ [[Cl.i n, .i u, .i v, .i c]]) j k = cel ps j k := fun j k hj => by simp [cel, List.getD_eq_getElem?_getD, List.getElem?_append_left hj]
    have a2 : ∀ k, cel (ps ++ [[Cl.i n, .i u, .i v, .i c]]) ps.length k = [Cl.i n, .i u, .i v, .i c].getD k .z := fun k => by simp [cel, List.getD_eq_getElem?_getD]
    refine ⟨fun j hj => ?_, fun j hj => ?_⟩
    · simp only [List.length_append, List.length_singleton] at hj
      by_cases hj' : j < ps.length
      · simp only [a1 j _ hj']; exact h.row j hj'
      · rw [show j = ps.length by omega]
        simp only [a2]
        exact ⟨⟨h0, by show n < n + 1; omega⟩, hu, hv, hn, by show 0 < c ∧ c ≤ _; omega⟩
    · simp only [List.length_append, List.length_singleton] at hj
      by_cases hj' : j + 1 < ps.length
      · rw [a1 _ _ hj', a1 _ _ (by omega)]; exact h.up j hj'
      · rw [a1 _ _ (by omega), show j + 1 = ps.length by omega, a2]
        have := (h.row j (by omega)).1.2
        show _ ≤ n
        omega
theorem Led.post {s : Sch} {b : Bks} {n : Int} (h : Led s b (n + 1)) (h0 : 0 ≤ n) (he : b.ev = n) (hl : b.ac.length = s.rl.length + 4) {u v c : Int} (hu : 0 ≤ u ∧ u < (s.rl.length : Int) + 4) (hv : 0 ≤ v ∧ v < (s.rl.length : Int) + 4) (hn : u ≠ v) (hc : 0 ≤ c ∧ c ≤ 10000000) : Led s (b.post u v c) (n + 1) := by
  refine ⟨?_, ?_, ?_⟩
  · show postA b.ac u v c = pays (postP b.ps b.ev u v c) (postP b.ps b.ev u v c).length 0 _
    unfold postA postP
    split
    · exact h.ac
    · rw [List.length_append, List.length_singleton, pays_app b.ps _ b.ps.length 0 _ (by omega), ← h.ac]
      rfl
  · show PsOk _ _ (postP b.ps b.ev u v c)
    rw [he]
    exact h.ps.post h0 hu hv hn hc
  · show sumI (postA b.ac u v c) 0 (postA b.ac u v c).length = 0
    rw [postA_len]
    unfold postA
    split
    · exact h.sum
    · have e1 := sumI_addA b.ac u (-c) (by omega)
      have e2 := sumI_addA (addA b.ac u (-c)) v c (by rw [addA_len]; omega)
      rw [addA_len] at e2
      rw [e2, e1, h.sum]
      omega
theorem Led.up1 {s : Sch} {b : Bks} {n : Int} (h : Led s b n) : Led s b (n + 1) := ⟨h.ac, h.ps.up1, h.sum⟩
theorem led_step {s : Sch} {b : Bks} {n : Int} (x : Evt) (hI : Inv s b n) (h : Led s b n) : Led s (doB s b n x) (n + 1) := by
  have h0 := hI.nn.1
  have hu := h.up1
  have hL := hI.sch.learners
  refine doB_cases (P := fun B => Led s B (n + 1)) hu ⟨hu.ac, hu.ps, hu.sum⟩ fun hk t1 t2 he => ?_
  have fin : ∀ B : Bks, Led s B (n + 1) → Led s { B with tm := x.at_ } (n + 1) := fun B h => ⟨h.ac, h.ps, h.sum⟩
  refine fin _ ?_
  have hS : school s = s.rl.length := rfl
  have start : ∀ B : Bks, B.ac = b.ac → B.ps = b.ps → Led s B (n + 1) := fun B e1 e2 => ⟨by rw [e1, e2]; exact hu.ac, by rw [e2]; exact hu.ps, by rw [e1]; exact hu.sum⟩
  rcases err_ok hk he with ⟨k, e⟩ | ⟨k, e, f⟩ | ⟨k, e, f⟩ | ⟨k, e, f, g, q⟩ | ⟨k, e, f⟩ | ⟨k, e, f⟩ | ⟨k, e, f⟩
  · rw [show eff s { b with ev := n } x = { b with ev := n, ls := b.ls ++ [[.i x.l, .i x.c, .i x.s, .i x.h, .i 0]] } by simp [eff, k]]
    exact start _ rfl rfl
  · rw [eff1 k]
    have hr := hI.row e
    have hf := fee_in hI.sch.fees hr.2.2.2 hI.sch.price ((cel b.ls x.b.toNat 2).int - x.at_)
    exact (start { b with ev := n, ls := setSt b.ls x.b 1 } rfl rfl).post h0 rfl hI.ac.1 (by show 0 ≤ (cel b.ls x.b.toNat 0).int ∧ (cel b.ls x.b.toNat 0).int < _; omega) (by omega) (by show (cel b.ls x.b.toNat 0).int ≠ _; omega) (by show 0 ≤ fee s.rt s.pr (cel b.ls x.b.toNat 3).int ((cel b.ls x.b.toNat 2).int - x.at_) ∧ fee s.rt s.pr (cel b.ls x.b.toNat 3).int ((cel b.ls x.b.toNat 2).int - x.at_) ≤ _; omega)
  · rw [show eff s { b with ev := n } x = { b with ev := n, es := seeE b.es x.d x.w, ls := weatherL s.rc (seeE b.es x.d x.w) x b.ls.length 0 b.ls } by simp [eff, k]]
    exact start _ rfl rfl
  · rw [eff3 k]
    have hr := hI.row e
    have hf := price_in hI.sch hr.2.2.2
    exact (start { b with ev := n, ls := setSt b.ls x.b 2, km := addA b.km (cel b.ls x.b.toNat 1).int x.k, si := addA b.si (cel b.ls x.b.toNat 1).int x.k } rfl rfl).post h0 rfl hI.ac.1 (by show 0 ≤ (cel b.ls x.b.toNat 0).int ∧ (cel b.ls x.b.toNat 0).int < _; omega) (by omega) (by show (cel b.ls x.b.toNat 0).int ≠ _; omega) (by show 0 ≤ (cel b.ls x.b.toNat 3).int * s.pr ∧ (cel b.ls x.b.toNat 3).int * s.pr ≤ _; omega)
  · rw [show eff s { b with ev := n } x = Bks.post { b with ev := n, si := b.si.set x.c.toNat [.i 0] } (school s) (school s + 1) x.m by simp [eff, k]]
    exact (start { b with ev := n, si := b.si.set x.c.toNat [.i 0] } rfl rfl).post h0 rfl hI.ac.1 (by omega) (by omega) (by omega) f
  · rw [eff5 k]
    have hx := hI.sch.excess
    have hx' : 0 ≤ s.ex ∧ s.ex ≤ 10000000 := hx
    refine ((start { b with ev := n, ls := setSt b.ls x.b 3 } rfl rfl).post h0 rfl hI.ac.1 (u := school s) (v := school s + 1) (c := min x.m s.ex) (by omega) (by omega) (by omega) (by omega)).post h0 rfl ?_ (by omega) (by omega) (by omega) (by omega)
    show (postA b.ac _ _ _).length = _
    rw [postA_len]; exact hI.ac.1
  · rw [show eff s { b with ev := n } x = Bks.post { b with ev := n } (school s + 3) x.l x.m by simp [eff, k]]
    exact (start { b with ev := n } rfl rfl).post h0 rfl hI.ac.1 (by omega) (by omega) (by omega) f
theorem led_run {s : Sch} {evs : Dt} (h : rErr s evs = 0) : Led s (runAll s evs) evs.length :=
  run_ind (P := fun i b => Led s b i) h ⟨rfl, ⟨fun j hj => by simp [open0] at hj, fun j hj => by simp [open0] at hj⟩, sumI_zero _ _ _⟩ fun i b h0 h1 hI h => led_step _ hI h
theorem shaped_run {s : Sch} {evs : Dt} (h : rErr s evs = 0) : shapedE s.rl.length s.rc.length (runAll s evs).ls (runAll s evs).km (runAll s evs).si (runAll s evs).ac = true := by
  have hI := rErr_inv h
  have row : ∀ (n i : Nat), i + n = (runAll s evs).ls.length → shN s.rl.length s.rc.length (runAll s evs).ls i n = true := by
    intro n
    induction n with
    | zero => intro i _; rfl
    | succ n ih =>
      intro i hi
      rw [shN, shR_iff.2 (by have := hI.ls i (by omega); omega), ih (i + 1) (by omega)]
      rfl
  unfold shapedE
  rw [decide_eq_true hI.km.1, decide_eq_true hI.si.1, decide_eq_true hI.ac.1, row _ _ (by omega)]
  rfl
end Sp
end Go.Proofs.Ytiiicnhjjfmpkaa
namespace Go.Proofs.Ytiiicnhjjfmpkaa
open Go.RowKit
set_option linter.unusedVariables false
set_option maxRecDepth 100000
theorem Sp.rB_led {s : Sp.Sch} {evs : Dt} (e : Sp.rErr s evs = 0) : Sp.Led s (Sp.rB s evs) evs.length ∧ Sp.Inv s (Sp.rB s evs) evs.length ∧ evs.length ≤ 60 ∧ Sp.shapedE s.rl.length s.rc.length (Sp.rB s evs).ls (Sp.rB s evs).km (Sp.rB s evs).si (Sp.rB s evs).ac = true := by
  rw [Sp.rB_ok e]
  exact ⟨Sp.led_run e, Sp.rErr_inv e, (Sp.rErr_ok e).2, Sp.shaped_run e⟩
theorem Sp.sameI_self (a : Dt) : ∀ (n i : Nat), Sp.sameI a a i n = true
  | 0, _ => rfl
  | n + 1, i => by rw [Sp.sameI, Sp.sameI_self a n, if_pos rfl]; rfl
theorem Sp.ints_self (a : Dt) : Sp.ints a a = true := by rw [Sp.ints, if_pos rfl]; exact Sp.sameI_self _ _ _
end Go.Proofs.Ytiiicnhjjfmpkaa
namespace Go.Proofs.Ytiiicnhjjfmpkaa
set_option linter.unusedVariables false
namespace Sp
def iter {α : Type} (f : Nat → α → α) : Nat → Nat → α → α
  | 0, _, a => a
  | n + 1, i, a => iter f n (i + 1) (f i a)
theorem iter_succ {α : Type} (f : Nat → α → α) : ∀ (n i : Nat) (a : α), iter f (n + 1) i a = f (i + n) (iter f n i a)
  | 0, i, a => rfl
  | n + 1, i, a => by
    rw [iter, iter_succ f n (i + 1), iter, show i + 1 + n = i + (n + 1) by omega]
def bk (s : Sch) (evs : Dt) (j : Nat) : Bks := runB s evs j 0 (open0 s)
theorem runB_succ (s : Sch) (evs : Dt) : ∀ (n : Nat) (i : Int) (b : Bks), runB s evs (n + 1) i b = doB s (runB s evs n i b) (i + n) (evt evs (i + n))
  | 0, i, b => by simp [runB]
  | n + 1, i, b => by
    rw [runB, runB_succ s evs n (i + 1), runB, show i + 1 + (n : Int) = i + ((n + 1 : Nat) : Int) by omega]
theorem bk_succ (s : Sch) (evs : Dt) (j : Nat) : bk s evs (j + 1) = doB s (bk s evs j) j (evt evs j) := by
  unfold bk
  rw [runB_succ, Int.zero_add]
theorem runE_len (s : Sch) (evs : Dt) : ∀ (n : Nat) (i : Int) (b : Bks), (runE s evs n i b).length = n
  | 0, _, _ => rfl
  | n + 1, i, b => by simp [runE, runE_len s evs n]
theorem runE_cel (s : Sch) (evs : Dt) : ∀ (n : Nat) (i : Int) (b : Bks) (j : Nat), j < n → cel (runE s evs n i b) j 0 = .i (doE s (runB s evs j i b) (i + j) (evt evs (i + j)))
  | 0, _, _, _, h => by omega
  | n + 1, i, b, 0, h => by simp [runE, runB, cel]
  | n + 1, i, b, j + 1, h => by
    have := runE_cel s evs n (i + 1) (doB s b i (evt evs i)) j (by omega)
    rw [show i + 1 + (j : Int) = i + ((j + 1 : Nat) : Int) by omega] at this
    rw [runB]
    rw [← this]
    rfl
theorem runAll_bk (s : Sch) (evs : Dt) : runAll s evs = bk s evs evs.length := rfl
theorem errAll_len (s : Sch) (evs : Dt) : (errAll s evs).length = evs.length := runE_len _ _ _ _ _
theorem errAll_cel (s : Sch) (evs : Dt) (j : Nat) (h : j < evs.length) : cel (errAll s evs) j 0 = .i (doE s (bk s evs j) j (evt evs j)) := by
  have := runE_cel s evs evs.length 0 (open0 s) j h
  rw [Int.zero_add] at this
  exact this
theorem bk_inv {s : Sch} {evs : Dt} (h : rErr s evs = 0) (j : Nat) (hj : j ≤ evs.length) : Inv s (bk s evs j) j := by
  obtain ⟨h1, h2⟩ := rErr_ok h
  have := Inv.run (evs := evs) j 0 _ (Inv.zero h1) (by omega)
  rw [Int.zero_add] at this
  exact this
theorem cel_left (a b : Dt) (j k : Nat) (h : j < a.length) : cel (a ++ b) j k = cel a j k := by simp [cel, List.getD_eq_getElem?_getD, List.getElem?_append_left h]
theorem cel_take (a : Dt) (m j k : Nat) (h : j < m) : cel (a.take m) j k = cel a j k := by simp [cel, List.getD_eq_getElem?_getD, List.getElem?_take, h]
theorem step_cases (s : Sch) (b : Bks) (n : Int) (x : Evt) :
    (doE s b n x = 0 ∧ inr x.kind 0 6 = true ∧ b.tm ≤ x.at_ ∧ x.at_ ≤ 4800 ∧ err s b x = 0 ∧ doB s b n x = { eff s { b with ev := n } x with tm := x.at_ }) ∨
    (doE s b n x ≠ 0 ∧ ∃ e, doB s b n x = { b with ev := e }) := by
  unfold doE doB
  by_cases e1 : inr x.kind 0 6 = true
  · by_cases e2 : inr x.at_ b.tm 4800 = true
    · by_cases e3 : err s b x = 0
      · have ht := inr_iff.1 e2
        simp only [e1, e2, e3, Bool.not_true, Bool.false_eq_true, if_false, if_true]
        exact .inl ⟨trivial, trivial, ht.1, ht.2, trivial, trivial⟩
      · simp only [e1, e2, e3, Bool.not_true, Bool.false_eq_true, if_false]
        exact .inr ⟨e3, _, rfl⟩
    · simp only [e1, Bool.not_eq_true] at e2 ⊢
      simp only [e2, Bool.not_true, Bool.false_eq_true, if_false, Bool.not_false, if_true]
      exact .inr ⟨by decide, b.ev, rfl⟩
  · rw [Bool.not_eq_true] at e1
    simp only [e1, Bool.not_false, if_true]
    exact .inr ⟨by decide, b.ev, rfl⟩
structure Kept (a b : Dt) : Prop where
  len : a.length ≤ b.length
  row : ∀ j, j < a.length → (cel b j 0).int = (cel a j 0).int ∧ (cel b j 1).int = (cel a j 1).int ∧ (cel b j 3).int = (cel a j 3).int
theorem Kept.refl (a : Dt) : Kept a a := ⟨Nat.le_refl _, fun _ _ => ⟨rfl, rfl, rfl⟩⟩
theorem Kept.trans {a b c : Dt} (h : Kept a b) (h2 : Kept b c) : Kept a c := ⟨Nat.le_trans h.len h2.len, fun j hj => by
  have := h.row j hj
  have := h2.row j (by have := h.len; omega)
  omega⟩
theorem Kept.setSt (a : Dt) (i st : Int) : Kept a (setSt a i st) := ⟨by rw [setSt_len]; exact Nat.le_refl _, fun j hj => by
  rw [cel_setSt _ _ _ _ _ (by decide), cel_setSt _ _ _ _ _ (by decide), cel_setSt _ _ _ _ _ (by decide)]
  exact ⟨rfl, rfl, rfl⟩⟩
theorem weatherL_kept {rc : Dt} {es : List (Int × Int)} {x : Evt} : ∀ (n : Nat) (i : Int) (ls : Dt), 0 ≤ i → i + n ≤ ls.length → WOk rc ls → Kept ls (weatherL rc es x n i ls)
  | 0, i, ls, _, _, h => .refl _
  | n + 1, i, ls, h0, h1, h => by
    unfold weatherL
    by_cases e : hit rc ls i x = true
    · rw [if_pos e]
      refine Kept.trans (b := moveL rc ls es i) ⟨by rw [moveL_len]; exact Nat.le_refl _, fun j hj => ?_⟩ (weatherL_kept n (i + 1) _ (by omega) (by rw [moveL_len]; omega) (h.move h0 (by omega)))
      rcases moveL_cel (es := es) (h.row h0 (by omega)) j with ⟨a, b, c, _⟩ | ⟨_, a, b, c, _⟩
      · rw [a]; exact ⟨rfl, b, c⟩
      · exact ⟨a, b, c⟩
    · rw [if_neg e]
      exact weatherL_kept n (i + 1) ls (by omega) (by omega) h
theorem eff_ls {s : Sch} {b : Bks} {x : Evt} (hk : inr x.kind 0 6 = true) : (eff s b x).ls =
    (if x.kind = 0 then b.ls ++ [[.i x.l, .i x.c, .i x.s, .i x.h, .i 0]] else if x.kind = 1 then setSt b.ls x.b 1 else if x.kind = 2 then weatherL s.rc (seeE b.es x.d x.w) x b.ls.length 0 b.ls else if x.kind = 3 then setSt b.ls x.b 2 else if x.kind = 5 then setSt b.ls x.b 3 else b.ls) := by
  have h := inr_iff.1 hk
  have hc : x.kind = 0 ∨ x.kind = 1 ∨ x.kind = 2 ∨ x.kind = 3 ∨ x.kind = 4 ∨ x.kind = 5 ∨ x.kind = 6 := by omega
  rcases hc with e | e | e | e | e | e | e <;> simp [eff, e, Bks.post]
theorem step_kept {s : Sch} {b : Bks} {n : Int} (hI : Inv s b n) (x : Evt) : Kept b.ls (doB s b n x).ls := by
  rcases step_cases s b n x with ⟨_, hk, _, _, he, e⟩ | ⟨_, _, e⟩
  · rw [e]
    show Kept b.ls (eff s { b with ev := n } x).ls
    rw [eff_ls hk]
    show Kept b.ls (if x.kind = 0 then b.ls ++ [[.i x.l, .i x.c, .i x.s, .i x.h, .i 0]] else if x.kind = 1 then setSt b.ls x.b 1 else if x.kind = 2 then weatherL s.rc (seeE b.es x.d x.w) x b.ls.length 0 b.ls else if x.kind = 3 then setSt b.ls x.b 2 else if x.kind = 5 then setSt b.ls x.b 3 else b.ls)
    split
    · exact ⟨by simp, fun j hj => by rw [cel_left _ _ _ _ hj, cel_left _ _ _ _ hj, cel_left _ _ _ _ hj]; exact ⟨rfl, rfl, rfl⟩⟩
    split
    · exact .setSt _ _ _
    split
    · exact weatherL_kept _ _ _ (by omega) (by omega) hI.wok
    split
    · exact .setSt _ _ _
    split
    · exact .setSt _ _ _
    · exact .refl _
  · rw [e]; exact .refl _
theorem bk_kept {s : Sch} {evs : Dt} (h : rErr s evs = 0) (i : Nat) : ∀ (d : Nat), i + d ≤ evs.length → Kept (bk s evs i).ls (bk s evs (i + d)).ls
  | 0, _ => .refl _
  | d + 1, hd => by
    rw [← Nat.add_assoc, bk_succ]
    exact (bk_kept h i d (by omega)).trans (step_kept (bk_inv h _ (by omega)) _)
end Sp
end Go.Proofs.Ytiiicnhjjfmpkaa
namespace Go.Proofs.Ytiiicnhjjfmpkaa
open Go.RowKit
set_option linter.unusedVariables false
set_option maxRecDepth 100000
namespace Sp
def kmI (rc : Dt) (j : Nat) (k : Dt) : Dt := k ++ [[.i (cel rc j 1).int]]
def kmS (evs er ls : Dt) (j : Nat) (k : Dt) : Dt := if (cel er j 0).int = 0 ∧ (cel evs j 0).int = 3 then addA k (cel ls (cel evs j 4).int.toNat 1).int (cel evs j 9).int else k
def siS (evs er ls : Dt) (j : Nat) (k : Dt) : Dt := if (cel er j 0).int = 0 then (if (cel evs j 0).int = 3 then addA k (cel ls (cel evs j 4).int.toNat 1).int (cel evs j 9).int else if (cel evs j 0).int = 4 then k.set (cel evs j 3).int.toNat [.i 0] else k) else k
structure KmOk (nc : Nat) (evs er ls : Dt) : Prop where
  errs : er.length = evs.length
  drive : ∀ j, j < evs.length → (cel er j 0).int = 0 → (cel evs j 0).int = 3 → (0 ≤ (cel evs j 4).int ∧ (cel evs j 4).int < ls.length) ∧ (0 ≤ (cel ls (cel evs j 4).int.toNat 1).int ∧ (cel ls (cel evs j 4).int.toNat 1).int < nc) ∧ (0 ≤ (cel evs j 9).int ∧ (cel evs j 9).int ≤ 400)
  serve : ∀ j, j < evs.length → (cel er j 0).int = 0 → (cel evs j 0).int = 4 → 0 ≤ (cel evs j 3).int ∧ (cel evs j 3).int < nc
end Sp
def sp_kmA [InW] (e : List Ed) (K : Nat → List Ed → Prop) : Prop := match e with
  | [.ro _ evs, .i i, .ro _ rl, .ro _ rc, .i pr, .i ex, .i lo, .i hi, .ro _ rt, .l ls, .l km2, .l si2, .l er, .l km, .l si] =>
    Pre (0 ≤ i ∧ i ≤ rc.xs.length ∧ rc.xs.length ≤ 1000 ∧ km.length = i ∧ si.length = i) (K 0 [.ro _ evs, .l ls, .l km2, .l si2, .l er, .l (Sp.iter (Sp.kmI rc.xs) (rc.xs.length - i.toNat) i.toNat km), .l (si ++ List.replicate (rc.xs.length - i.toNat) [.i 0])])
  | _ => False
noncomputable def lc_kmA : LC where
  len := 149
  T := [(1, .rs Iv11), (2, (.ptr 1 0)), (5, (.row 28)), (6, (.ptr 4 0)), (8, (.row 6)), (9, (.row 9)), (10, .int .i64)]
  H := [(1, .blk 28 [.rs [.str], .rs Ivs, .int .i64, .int .i64, .int .i64, .int .i64, .rs [.int .i64, .int .i64]]), (4, .blk 42 [(.row 31), (.row 13), (.row 16), (.opq 1024)]), (31, .arr 63 Iv5), (13, .arr 3 [.int .i64]), (16, .arr 3 [.int .i64]), (28, .arr 30 [.int .i64]), (6, .arr 3 [.int .i64]), (9, .arr 3 [.int .i64])]
  W := [44, 45, 46, 47, 48, 49, 50, 51, 52, 53, 54, 55, 56, 57, 58, 59, 60, 61, 62]
  outs := [⟨.exit 0, [(1, .rs Iv11), (5, (.row 28)), (6, (.ptr 4 0)), (8, (.row 12)), (9, (.row 15))], [(4, .blk 42 [(.row 31), (.row 13), (.row 16), (.opq 1024)]), (31, .arr 63 Iv5), (13, .arr 3 [.int .i64]), (16, .arr 3 [.int .i64]), (28, .arr 30 [.int .i64]), (12, .arr 3 [.int .i64]), (15, .arr 3 [.int .i64])], [2, 10, 44, 45, 46, 47, 48, 49, 50, 51, 52, 53, 54, 55, 56, 57, 58, 59, 60, 61, 62]⟩]
  spec := sp_kmA
def VCL_kmA [W : InW] (evs : Ro Iv11) (i : Int) (rl : Ro [.str]) (rc : Ro Ivs) (pr : Int) (ex : Int) (lo : Int) (hi : Int) (rt : Ro [.int .i64, .int .i64]) (ls : Dt) (km2 : Dt) (si2 : Dt) (er : Dt) (km : Dt) (si : Dt) (A : List Ed → Prop) (K : Nat → List Ed → Prop) : Prop :=
  Vif (decide (i < (↑(List.length rc.xs) : Int))) (Need (decide ((0 : Int) ≤ i) && decide (i < (↑(List.length rc.xs) : Int))) (Need (decide (i.toNat < List.length rc.xs)) (Need (decide ((List.length km + [[Cl.i (cel rc.xs i.toNat ((0 : Nat) + (1 : Nat))).int]].length) * (8 : Nat) ≤ (140737488355328 : Nat))) (Need (decide ((List.length si + [[Cl.i (0 : Int)]].length) * (8 : Nat) ≤ (140737488355328 : Nat))) (Ar .i64 (i + (1 : Int)) fun z => A [.ro _ evs, .i z, .ro _ rl, .ro _ rc, .i pr, .i ex, .i lo, .i hi, .ro _ rt, .l ls, .l km2, .l si2, .l er, .l (km ++ [[Cl.i (cel rc.xs i.toNat ((0 : Nat) + (1 : Nat))).int]]), .l (si ++ [[Cl.i (0 : Int)]])]))))) (K (0 : Nat) [.ro _ evs, .l ls, .l km2, .l si2, .l er, .l km, .l si])
theorem vcl_kmA (W : InW) (evs : Ro Iv11) (i : Int) (rl : Ro [.str]) (rc : Ro Ivs) (pr : Int) (ex : Int) (lo : Int) (hi : Int) (rt : Ro [.int .i64, .int .i64]) (ls : Dt) (km2 : Dt) (si2 : Dt) (er : Dt) (km : Dt) (si : Dt) (A : List Ed → Prop) (K : Nat → List Ed → Prop) : vcTop { cxT Try.prog TT TPl 1000 50 with fn := 9 } 1000 (loopAt Try.prog 9 9) (tmOut 149 [(1, .rs _ evs), (2, .ptr 1 0), (5, .rw 28), (6, .ptr 4 0), (8, .rw 6), (9, .rw 9), (10, .si .i64 i)] [44, 45, 46, 47, 48, 49, 50, 51, 52, 53, 54, 55, 56, 57, 58, 59, 60, 61, 62]) [(1, .blk 28 [.rs _ rl, .rs _ rc, .si .i64 pr, .si .i64 ex, .si .i64 lo, .si .i64 hi, .rs _ rt]), (4, .blk 42 [.rw 31, .rw 13, .rw 16, .opq 1024]), (31, .arr 63 Iv5 ls), (13, .arr 3 [.int .i64] km2), (16, .arr 3 [.int .i64] si2), (28, .arr 30 [.int .i64] er), (6, .arr 3 [.int .i64] km), (9, .arr 3 [.int .i64] si)] (roundL lc_kmA A K) = VCL_kmA evs i rl rc pr ex lo hi rt ls km2 si2 er km si A K := by kernel_rfl
def okLt_kmA : Prop := ∀ (W : InW) (body a : Code), (Try.prog.funcs[9]?).bind (·.body) = some body → a ∈ loopsIn body → keyOf a = 9 → @LoopOk W Try.prog a (@loopRun W lc_kmA)
theorem okl_kmA (meas : [InW] → List Ed → Nat) (hyp_ : ∀ (W : InW) (evs : Ro Iv11) (i : Int) (rl : Ro [.str]) (rc : Ro Ivs) (pr : Int) (ex : Int) (lo : Int) (hi : Int) (rt : Ro [.int .i64, .int .i64]) (ls : Dt) (km2 : Dt) (si2 : Dt) (er : Dt) (km : Dt) (si : Dt) (K : Nat → List Ed → Prop), sp_kmA [.ro _ evs, .i i, .ro _ rl, .ro _ rc, .i pr, .i ex, .i lo, .i hi, .ro _ rt, .l ls, .l km2, .l si2, .l er, .l km, .l si] K → ∀ A : List Ed → Prop, (∀ e, meas e < meas [.ro _ evs, .i i, .ro _ rl, .ro _ rc, .i pr, .i ex, .i lo, .i hi, .ro _ rt, .l ls, .l km2, .l si2, .l er, .l km, .l si] → sp_kmA e K → A e) → VCL_kmA evs i rl rc pr ex lo hi rt ls km2 si2 er km si A K) : okLt_kmA :=
  LE.okOf' (fun W => @TT W) (fun W => @TT_ok W) mixed_ok TPl 1000 50 (by kernel_rfl) lc_kmA (fun W => @meas W) fun W evs i rl rc pr ex lo hi rt ls km2 si2 er km si K hs =>
    (vcl_kmA W evs i rl rc pr ex lo hi rt ls km2 si2 er km si (fun e => meas e < meas [.ro _ evs, .i i, .ro _ rl, .ro _ rc, .i pr, .i ex, .i lo, .i hi, .ro _ rt, .l ls, .l km2, .l si2, .l er, .l km, .l si] ∧ sp_kmA e K) K).mpr (hyp_ W evs i rl rc pr ex lo hi rt ls km2 si2 er km si K hs _ fun e h1 h2 => ⟨h1, h2⟩)
def sp_kmB [InW] (e : List Ed) (K : Nat → List Ed → Prop) : Prop := match e with
  | [.ro _ evs, .i i, .l ls, .l km2, .l si2, .l er, .l km, .l si] =>
    Pre (0 ≤ i ∧ i ≤ evs.xs.length ∧ evs.xs.length ≤ 1000 ∧ si.length = km.length ∧ Sp.KmOk km.length evs.xs er ls ∧ ∀ j, (0 ≤ (cel km j 0).int ∧ (cel km j 0).int ≤ 1000000 + 400 * i) ∧ (0 ≤ (cel si j 0).int ∧ (cel si j 0).int ≤ 400 * i))
      (K 0 [.l ls, .l km2, .l si2, .l (Sp.iter (Sp.kmS evs.xs er ls) (evs.xs.length - i.toNat) i.toNat km), .l (Sp.iter (Sp.siS evs.xs er ls) (evs.xs.length - i.toNat) i.toNat si)])
  | _ => False
noncomputable def lc_kmB : LC where
  len := 149
  T := [(1, .rs Iv11), (5, (.row 28)), (6, (.ptr 4 0)), (8, (.row 34)), (9, (.row 37)), (11, .int .i64)]
  H := [(4, .blk 42 [(.row 31), (.row 13), (.row 16), (.opq 1024)]), (31, .arr 63 Iv5), (13, .arr 3 [.int .i64]), (16, .arr 3 [.int .i64]), (28, .arr 30 [.int .i64]), (34, .arr 3 [.int .i64]), (37, .arr 3 [.int .i64])]
  W := [4, 12, 13, 63, 64, 65, 66, 67, 68, 69, 70, 71, 72, 73, 74, 75, 76, 77, 78, 79, 80, 81, 82, 83, 84, 85, 86, 87, 88, 89, 90, 91, 92, 93, 94, 95, 96, 97, 98, 99, 100, 101, 102, 103, 104, 105, 106, 107, 108, 109, 110, 111, 112, 113, 114, 115, 116, 117, 118, 119, 120, 121, 122, 123, 124, 125, 126, 127, 128, 129, 130, 131, 132, 133, 134, 135]
  outs := [⟨.exit 2, [(6, (.ptr 4 0)), (8, (.row 34)), (9, (.row 37))], [(4, .blk 42 [(.row 31), (.row 13), (.row 16), (.opq 1024)]), (31, .arr 63 Iv5), (13, .arr 3 [.int .i64]), (16, .arr 3 [.int .i64]), (34, .arr 3 [.int .i64]), (37, .arr 3 [.int .i64])], [1, 4, 5, 11, 12, 13, 63, 64, 65, 66, 67, 68, 69, 70, 71, 72, 73, 74, 75, 76, 77, 78, 79, 80, 81, 82, 83, 84, 85, 86, 87, 88, 89, 90, 91, 92, 93, 94, 95, 96, 97, 98, 99, 100, 101, 102, 103, 104, 105, 106, 107, 108, 109, 110, 111, 112, 113, 114, 115, 116, 117, 118, 119, 120, 121, 122, 123, 124, 125, 126, 127, 128, 129, 130, 131, 132, 133, 134, 135]⟩]
  spec := sp_kmB
def VCL_kmB [W : InW] (evs : Ro Iv11) (i : Int) (ls : Dt) (km2 : Dt) (si2 : Dt) (er : Dt) (km : Dt) (si : Dt) (A : List Ed → Prop) (K : Nat → List Ed → Prop) : Prop :=
  Vif (decide (i < (↑(List.length evs.xs) : Int))) (Need (decide ((0 : Int) ≤ i) && decide (i < (↑(List.length evs.xs) : Int))) (Need (decide (i.toNat < List.length evs.xs)) (Need (decide ((0 : Int) ≤ i) && decide (i < (↑(List.length er) : Int))) (Need (decide (i.toNat < List.length er)) (Vif (!decide ((cel er i.toNat (0 : Nat)).int = (0 : Int))) (Ar .i64 (i + (1 : Int)) fun z => A [.ro _ evs, .i z, .l ls, .l km2, .l si2, .l er, .l km, .l si]) (Vif (decide ((cel evs.xs i.toNat (0 : Nat)).int = (3 : Int))) (Vif (decide ((cel evs.xs i.toNat ((0 : Nat) + (1 : Nat) + (1 : Nat) + (1 : Nat) + (1 : Nat))).int < (0 : Int))) ((472 : Nat) = (472 : Nat) + (1 : Nat)) (Vif (decide ((↑(List.length ls) : Int) ≤ (cel evs.xs i.toNat ((0 : Nat) + (1 : Nat) + (1 : Nat) + (1 : Nat) + (1 : Nat))).int)) ((472 : Nat) = (472 : Nat) + (1 : Nat)) (Need (decide ((0 : Int) ≤ (cel evs.xs i.toNat ((0 : Nat) + (1 : Nat) + (1 : Nat) + (1 : Nat) + (1 : Nat))).int) && decide ((cel evs.xs i.toNat ((0 : Nat) + (1 : Nat) + (1 : Nat) + (1 : Nat) + (1 : Nat))).int < (↑(List.length ls) : Int))) (Need (decide ((cel evs.xs i.toNat ((0 : Nat) + (1 : Nat) + (1 : Nat) + (1 : Nat) + (1 : Nat))).int.toNat < List.length ls)) (Need (decide ((0 : Int) ≤ (cel ls (cel evs.xs i.toNat ((0 : Nat) + (1 : Nat) + (1 : Nat) + (1 : Nat) + (1 : Nat))).int.toNat ((0 : Nat) + (1 : Nat))).int) && decide ((cel ls (cel evs.xs i.toNat ((0 : Nat) + (1 : Nat) + (1 : Nat) + (1 : Nat) + (1 : Nat))).int.toNat ((0 : Nat) + (1 : Nat))).int < (↑(List.length km) : Int))) (Need (decide ((cel ls (cel evs.xs i.toNat ((0 : Nat) + (1 : Nat) + (1 : Nat) + (1 : Nat) + (1 : Nat))).int.toNat ((0 : Nat) + (1 : Nat))).int.toNat < List.length km)) (Ar .i64 ((cel km (cel ls (cel evs.xs i.toNat ((0 : Nat) + (1 : Nat) + (1 : Nat) + (1 : Nat) + (1 : Nat))).int.toNat ((0 : Nat) + (1 : Nat))).int.toNat (0 : Nat)).int + (cel evs.xs i.toNat ((0 : Nat) + (1 : Nat) + (1 : Nat) + (1 : Nat) + (1 : Nat) + (1 : Nat) + (1 : Nat) + (1 : Nat) + (1 : Nat) + (1 : Nat))).int) fun z => Need (decide ((0 : Int) ≤ (cel ls (cel evs.xs i.toNat ((0 : Nat) + (1 : Nat) + (1 : Nat) + (1 : Nat) + (1 : Nat))).int.toNat ((0 : Nat) + (1 : Nat))).int) && decide ((cel ls (cel evs.xs i.toNat ((0 : Nat) + (1 : Nat) + (1 : Nat) + (1 : Nat) + (1 : Nat))).int.toNat ((0 : Nat) + (1 : Nat))).int < (↑(List.length si) : Int))) (Need (decide ((cel ls (cel evs.xs i.toNat ((0 : Nat) + (1 : Nat) + (1 : Nat) + (1 : Nat) + (1 : Nat))).int.toNat ((0 : Nat) + (1 : Nat))).int.toNat < List.length si)) (Ar .i64 ((cel si (cel ls (cel evs.xs i.toNat ((0 : Nat) + (1 : Nat) + (1 : Nat) + (1 : Nat) + (1 : Nat))).int.toNat ((0 : Nat) + (1 : Nat))).int.toNat (0 : Nat)).int + (cel evs.xs i.toNat ((0 : Nat) + (1 : Nat) + (1 : Nat) + (1 : Nat) + (1 : Nat) + (1 : Nat) + (1 : Nat) + (1 : Nat) + (1 : Nat) + (1 : Nat))).int) fun z_1 => Need (decide ((0 : Int) ≤ (cel ls (cel evs.xs i.toNat ((0 : Nat) + (1 : Nat) + (1 : Nat) + (1 : Nat) + (1 : Nat))).int.toNat ((0 : Nat) + (1 : Nat))).int) && decide ((cel ls (cel evs.xs i.toNat ((0 : Nat) + (1 : Nat) + (1 : Nat) + (1 : Nat) + (1 : Nat))).int.toNat ((0 : Nat) + (1 : Nat))).int < (↑(List.length km) : Int))) (Need (decide ((cel ls (cel evs.xs i.toNat ((0 : Nat) + (1 : Nat) + (1 : Nat) + (1 : Nat) + (1 : Nat))).int.toNat ((0 : Nat) + (1 : Nat))).int.toNat < List.length km)) (Need (decide ((0 : Int) ≤ (cel ls (cel evs.xs i.toNat ((0 : Nat) + (1 : Nat) + (1 : Nat) + (1 : Nat) + (1 : Nat))).int.toNat ((0 : Nat) + (1 : Nat))).int) && decide ((cel ls (cel evs.xs i.toNat ((0 : Nat) + (1 : Nat) + (1 : Nat) + (1 : Nat) + (1 : Nat))).int.toNat ((0 : Nat) + (1 : Nat))).int < (↑(List.length si) : Int))) (Need (decide ((cel ls (cel evs.xs i.toNat ((0 : Nat) + (1 : Nat) + (1 : Nat) + (1 : Nat) + (1 : Nat))).int.toNat ((0 : Nat) + (1 : Nat))).int.toNat < List.length si)) (Vif (decide ((cel evs.xs i.toNat (0 : Nat)).int = (4 : Int))) (Vif (decide ((cel evs.xs i.toNat ((0 : Nat) + (1 : Nat) + (1 : Nat) + (1 : Nat))).int < (0 : Int))) ((472 : Nat) = (472 : Nat) + (1 : Nat)) (Vif (decide ((↑(List.set si (cel ls (cel evs.xs i.toNat ((0 : Nat) + (1 : Nat) + (1 : Nat) + (1 : Nat) + (1 : Nat))).int.toNat ((0 : Nat) + (1 : Nat))).int.toNat [Cl.i z_1]).length : Int) ≤ (cel evs.xs i.toNat ((0 : Nat) + (1 : Nat) + (1 : Nat) + (1 : Nat))).int)) ((472 : Nat) = (472 : Nat) + (1 : Nat)) (Need (decide ((0 : Int) ≤ (cel evs.xs i.toNat ((0 : Nat) + (1 : Nat) + (1 : Nat) + (1 : Nat))).int) && decide ((cel evs.xs i.toNat ((0 : Nat) + (1 : Nat) + (1 : Nat) + (1 : Nat))).int < (↑(List.set si (cel ls (cel evs.xs i.toNat ((0 : Nat) + (1 : Nat) + (1 : Nat) + (1 : Nat) + (1 : Nat))).int.toNat ((0 : Nat) + (1 : Nat))).int.toNat [Cl.i z_1]).length : Int))) (Need (decide ((cel evs.xs i.toNat ((0 : Nat) + (1 : Nat) + (1 : Nat) + (1 : Nat))).int.toNat < (List.set si (cel ls (cel evs.xs i.toNat ((0 : Nat) + (1 : Nat) + (1 : Nat) + (1 : Nat) + (1 : Nat))).int.toNat ((0 : Nat) + (1 : Nat))).int.toNat [Cl.i z_1]).length)) (Ar .i64 (i + (1 : Int)) fun z_2 => A [.ro _ evs, .i z_2, .l ls, .l km2, .l si2, .l er, .l (List.set km (cel ls (cel evs.xs i.toNat ((0 : Nat) + (1 : Nat) + (1 : Nat) + (1 : Nat) + (1 : Nat))).int.toNat ((0 : Nat) + (1 : Nat))).int.toNat [Cl.i z]), .l ((List.set si (cel ls (cel evs.xs i.toNat ((0 : Nat) + (1 : Nat) + (1 : Nat) + (1 : Nat) + (1 : Nat))).int.toNat ((0 : Nat) + (1 : Nat))).int.toNat [Cl.i z_1]).set (cel evs.xs i.toNat ((0 : Nat) + (1 : Nat) + (1 : Nat) + (1 : Nat))).int.toNat [Cl.i (0 : Int)])]))))) (Ar .i64 (i + (1 : Int)) fun z_2 => A [.ro _ evs, .i z_2, .l ls, .l km2, .l si2, .l er, .l (List.set km (cel ls (cel evs.xs i.toNat ((0 : Nat) + (1 : Nat) + (1 : Nat) + (1 : Nat) + (1 : Nat))).int.toNat ((0 : Nat) + (1 : Nat))).int.toNat [Cl.i z]), .l (List.set si (cel ls (cel evs.xs i.toNat ((0 : Nat) + (1 : Nat) + (1 : Nat) + (1 : Nat) + (1 : Nat))).int.toNat ((0 : Nat) + (1 : Nat))).int.toNat [Cl.i z_1])])))))))))))))) (Vif (decide ((cel evs.xs i.toNat (0 : Nat)).int = (4 : Int))) (Vif (decide ((cel evs.xs i.toNat ((0 : Nat) + (1 : Nat) + (1 : Nat) + (1 : Nat))).int < (0 : Int))) ((472 : Nat) = (472 : Nat) + (1 : Nat)) (Vif (decide ((↑(List.length si) : Int) ≤ (cel evs.xs i.toNat ((0 : Nat) + (1 : Nat) + (1 : Nat) + (1 : Nat))).int)) ((472 : Nat) = (472 : Nat) + (1 : Nat)) (Need (decide ((0 : Int) ≤ (cel evs.xs i.toNat ((0 : Nat) + (1 : Nat) + (1 : Nat) + (1 : Nat))).int) && decide ((cel evs.xs i.toNat ((0 : Nat) + (1 : Nat) + (1 : Nat) + (1 : Nat))).int < (↑(List.length si) : Int))) (Need (decide ((cel evs.xs i.toNat ((0 : Nat) + (1 : Nat) + (1 : Nat) + (1 : Nat))).int.toNat < List.length si)) (Ar .i64 (i + (1 : Int)) fun z => A [.ro _ evs, .i z, .l ls, .l km2, .l si2, .l er, .l km, .l (List.set si (cel evs.xs i.toNat ((0 : Nat) + (1 : Nat) + (1 : Nat) + (1 : Nat))).int.toNat [Cl.i (0 : Int)])]))))) (Ar .i64 (i + (1 : Int)) fun z => A [.ro _ evs, .i z, .l ls, .l km2, .l si2, .l er, .l km, .l si])))))))) (K (0 : Nat) [.l ls, .l km2, .l si2, .l km, .l si])
theorem vcl_kmB (W : InW) (evs : Ro Iv11) (i : Int) (ls : Dt) (km2 : Dt) (si2 : Dt) (er : Dt) (km : Dt) (si : Dt) (A : List Ed → Prop) (K : Nat → List Ed → Prop) : vcTop { cxT Try.prog TT TPl 1000 50 with fn := 9 } 1000 (loopAt Try.prog 9 13) (tmOut 149 [(1, .rs _ evs), (5, .rw 28), (6, .ptr 4 0), (8, .rw 34), (9, .rw 37), (11, .si .i64 i)] [4, 12, 13, 63, 64, 65, 66, 67, 68, 69, 70, 71, 72, 73, 74, 75, 76, 77, 78, 79, 80, 81, 82, 83, 84, 85, 86, 87, 88, 89, 90, 91, 92, 93, 94, 95, 96, 97, 98, 99, 100, 101, 102, 103, 104, 105, 106, 107, 108, 109, 110, 111, 112, 113, 114, 115, 116, 117, 118, 119, 120, 121, 122, 123, 124, 125, 126, 127, 128, 129, 130, 131, 132, 133, 134, 135]) [(4, .blk 42 [.rw 31, .rw 13, .rw 16, .opq 1024]), (31, .arr 63 Iv5 ls), (13, .arr 3 [.int .i64] km2), (16, .arr 3 [.int .i64] si2), (28, .arr 30 [.int .i64] er), (34, .arr 3 [.int .i64] km), (37, .arr 3 [.int .i64] si)] (roundL lc_kmB A K) = VCL_kmB evs i ls km2 si2 er km si A K := by kernel_rfl
def okLt_kmB : Prop := ∀ (W : InW) (body a : Code), (Try.prog.funcs[9]?).bind (·.body) = some body → a ∈ loopsIn body → keyOf a = 13 → @LoopOk W Try.prog a (@loopRun W lc_kmB)
theorem okl_kmB (meas : [InW] → List Ed → Nat) (hyp_ : ∀ (W : InW) (evs : Ro Iv11) (i : Int) (ls : Dt) (km2 : Dt) (si2 : Dt) (er : Dt) (km : Dt) (si : Dt) (K : Nat → List Ed → Prop), sp_kmB [.ro _ evs, .i i, .l ls, .l km2, .l si2, .l er, .l km, .l si] K → ∀ A : List Ed → Prop, (∀ e, meas e < meas [.ro _ evs, .i i, .l ls, .l km2, .l si2, .l er, .l km, .l si] → sp_kmB e K → A e) → VCL_kmB evs i ls km2 si2 er km si A K) : okLt_kmB :=
  LE.okOf' (fun W => @TT W) (fun W => @TT_ok W) mixed_ok TPl 1000 50 (by kernel_rfl) lc_kmB (fun W => @meas W) fun W evs i ls km2 si2 er km si K hs =>
    (vcl_kmB W evs i ls km2 si2 er km si (fun e => meas e < meas [.ro _ evs, .i i, .l ls, .l km2, .l si2, .l er, .l km, .l si] ∧ sp_kmB e K) K).mpr (hyp_ W evs i ls km2 si2 er km si K hs _ fun e h1 h2 => ⟨h1, h2⟩)
theorem okLkmA : okLt_kmA := okl_kmA (fun e => match e with | _ :: .i i :: _ :: .ro _ rc :: _ => ((rc.xs.length : Int) - i).toNat | _ => 0) fun W evs i rl rc pr ex lo hi rt ls km2 si2 er km si K hs A hA => by
  obtain ⟨⟨h0, h1, h2, h3, h4⟩, hk⟩ := hs
  unfold VCL_kmA
  simp only [Nat.zero_add, Nat.reduceAdd, List.length_cons, List.length_nil]
  have hlt : i < rc.xs.length → ((rc.xs.length : Int) - (i + 1)).toNat < ((rc.xs.length : Int) - i).toNat := by omega
  refine vifd (fun e => ned (by simp; omega) (nedd (by omega) (nedd (by omega) (nedd (by omega) (ar64 (by omega) (hA _ (hlt e) ⟨⟨by omega, by omega, h2, by simp; omega, by simp; omega⟩, ?_⟩)))))) fun e => ?_
  · rw [show rc.xs.length - i.toNat = (rc.xs.length - (i.toNat + 1)) + 1 by omega, Sp.iter] at hk
    rw [show (i + 1).toNat = i.toNat + 1 by omega, List.append_assoc]
    exact hk
  · rw [show rc.xs.length - i.toNat = 0 by omega] at hk
    simp only [Sp.iter, List.replicate_zero, List.append_nil] at hk
    exact hk
namespace Sp
theorem addA_in {k : Dt} {c d M : Int} (h : ∀ j, 0 ≤ (cel k j 0).int ∧ (cel k j 0).int ≤ M) (hd : 0 ≤ d ∧ d ≤ 400) (j : Nat) : 0 ≤ (cel (addA k c d) j 0).int ∧ (cel (addA k c d) j 0).int ≤ M + 400 := by
  rw [cel_addA]
  have := h j
  split <;> omega
theorem kmS_len (evs er ls : Dt) (j : Nat) (k : Dt) : (kmS evs er ls j k).length = k.length := by
  unfold kmS
  split
  · exact addA_len _ _ _
  · rfl
theorem siS_len (evs er ls : Dt) (j : Nat) (k : Dt) : (siS evs er ls j k).length = k.length := by
  unfold siS
  split
  · split
    · exact addA_len _ _ _
    · split
      · simp
      · rfl
  · rfl
end Sp
theorem okLkmB : okLt_kmB := okl_kmB (fun e => match e with | .ro _ evs :: .i i :: _ => ((evs.xs.length : Int) - i).toNat | _ => 0) fun W evs i ls km2 si2 er km si K hs A hA => by
  obtain ⟨⟨h0, h1, h2, h3, hp, hb⟩, hk⟩ := hs
  unfold VCL_kmB
  simp only [Nat.zero_add, Nat.reduceAdd, List.length_set]
  refine vifd (fun e => ?_) fun e => ?_
  · have hi : i.toNat < evs.xs.length := by omega
    have hel := hp.errs
    have dr := hp.drive i.toNat hi
    have sv := hp.serve i.toNat hi
    have hA' : A [.ro _ evs, .i (i + 1), .l ls, .l km2, .l si2, .l er, .l (Sp.kmS evs.xs er ls i.toNat km), .l (Sp.siS evs.xs er ls i.toNat si)] := by
      refine hA _ (by show ((evs.xs.length : Int) - (i + 1)).toNat < ((evs.xs.length : Int) - i).toNat; omega) ⟨⟨by omega, by omega, h2, by rw [Sp.kmS_len, Sp.siS_len]; exact h3, by rw [Sp.kmS_len]; exact hp, fun j => ⟨?_, ?_⟩⟩, ?_⟩
      · have := (hb j).1
        unfold Sp.kmS
        split
        · rename_i e1
          have := Sp.addA_in (c := (cel ls (cel evs.xs i.toNat 4).int.toNat 1).int) (fun j => (hb j).1) (dr e1.1 e1.2).2.2 j
          omega
        · omega
      · have := (hb j).2
        unfold Sp.siS
        split
        · rename_i e1
          split
          · rename_i e2
            have := Sp.addA_in (c := (cel ls (cel evs.xs i.toNat 4).int.toNat 1).int) (fun j => (hb j).2) (dr e1 e2).2.2 j
            omega
          · split
            · rw [cel_set]
              split
              · show (0 : Int) ≤ 0 ∧ (0 : Int) ≤ _; omega
              · omega
            · omega
        · omega
      · rw [show evs.xs.length - i.toNat = (evs.xs.length - (i.toNat + 1)) + 1 by omega, Sp.iter, Sp.iter] at hk
        rw [show (i + 1).toNat = i.toNat + 1 by omega]
        exact hk
    clear hA hk hp
    have b1 := (hb (cel ls (cel evs.xs i.toNat 4).int.toNat 1).int.toNat).1
    have b2 := (hb (cel ls (cel evs.xs i.toNat 4).int.toNat 1).int.toNat).2
    refine ned (by simp; omega) (nedd hi (ned (by simp; omega) (nedd (by omega) (vif (fun e1 => ?_) fun e1 => ?_))))
    · have e1' := of_decide_eq_false (notT e1)
      unfold Sp.kmS Sp.siS at hA'
      rw [if_neg (fun h => e1' h.1), if_neg e1'] at hA'
      exact ar64 (by omega) hA'
    · have e1' := of_decide_eq_true (notF e1)
      have dr := dr e1'
      have sv := sv e1'
      unfold Sp.kmS Sp.siS at hA'
      rw [if_pos e1'] at hA'
      refine vifd (fun e2 => ?_) fun e2 => ?_
      · have dr := dr e2
        rw [if_pos ⟨e1', e2⟩, if_pos e2] at hA'
        unfold Sp.addA at hA'
        repeat' (first | refine vifd (fun _ => ?_) fun _ => ?_ | refine nedd (by omega) ?_ | refine ned (by simp only [Bool.and_eq_true, decide_eq_true_eq]; omega) ?_ | refine ar64 (by omega) ?_ | omega)
        all_goals exact hA'
      · rw [if_neg (fun h => e2 h.2), if_neg e2] at hA'
        refine vifd (fun e3 => ?_) fun e3 => ?_
        · have sv := sv e3
          rw [if_pos e3] at hA'
          repeat' (first | refine vifd (fun _ => ?_) fun _ => ?_ | refine nedd (by omega) ?_ | refine ned (by simp only [Bool.and_eq_true, decide_eq_true_eq]; omega) ?_ | refine ar64 (by omega) ?_ | omega)
          all_goals exact hA'
        · rw [if_neg e3] at hA'
          exact ar64 (by omega) hA'
  · rw [show evs.xs.length - i.toNat = 0 by omega] at hk
    exact hk
noncomputable def le_kmA : LE Try.prog := ⟨9, 9, fun W => @loopRun W lc_kmA, okLkmA⟩
noncomputable def le_kmB : LE Try.prog := ⟨9, 13, fun W => @loopRun W lc_kmB, okLkmB⟩
noncomputable def TK9 : Tab Try.prog := ⟨[pc_bRun, pc_valid, pc_shaped, pc_ints, pc_Awake], [le_kmA, le_kmB], []⟩
def VC_lawKm [W : InW] (s_Learners : Ro [.str]) (s_Cars : Ro [.str, .int .i64, .int .i64, .int .i64]) (s_Price : Int) (s_Excess : Int) (s_Lo : Int) (s_Hi : Int) (s_Terms : Ro [.int .i64, .int .i64]) (evs : Ro [.int .i64, .int .i64, .int .i64, .int .i64, .int .i64, .int .i64, .int .i64, .int .i64, .int .i64, .int .i64, .int .i64]) (Q : DS → Prop) : Prop :=
  Pre True (Vif (!decide (Sp.rErr ⟨s_Learners.xs, s_Cars.xs, s_Price, s_Excess, s_Lo, s_Hi, s_Terms.xs⟩ evs.xs = (0 : Int))) (Vif (!decide (Sp.rErr ⟨s_Learners.xs, s_Cars.xs, s_Price, s_Excess, s_Lo, s_Hi, s_Terms.xs⟩ evs.xs = (0 : Int))) (Pre True (Q [[Cl.b true]])) (Q [[Cl.b false]])) (Pre (Sp.NamesOk s_Learners.xs ∧ Sp.NamesOk s_Cars.xs) (Vif (!decide (Sp.chkE s_Learners.xs s_Cars.xs s_Price s_Excess s_Lo s_Hi s_Terms.xs = (0 : Int))) (Vif (!decide (Sp.rErr ⟨s_Learners.xs, s_Cars.xs, s_Price, s_Excess, s_Lo, s_Hi, s_Terms.xs⟩ evs.xs = (0 : Int))) (Pre True (Q [[Cl.b true]])) (Q [[Cl.b false]])) (Vif (!decide ((↑(List.length (Sp.rE ⟨s_Learners.xs, s_Cars.xs, s_Price, s_Excess, s_Lo, s_Hi, s_Terms.xs⟩ evs.xs)) : Int) = (↑(List.length evs.xs) : Int))) (Q [[Cl.b false]]) (Pre (List.length s_Learners.xs ≤ (1000 : Nat)) (Vif (!Sp.shapedE (List.length s_Learners.xs) (List.length s_Cars.xs) (Sp.rB ⟨s_Learners.xs, s_Cars.xs, s_Price, s_Excess, s_Lo, s_Hi, s_Terms.xs⟩ evs.xs).ls (Sp.rB ⟨s_Learners.xs, s_Cars.xs, s_Price, s_Excess, s_Lo, s_Hi, s_Terms.xs⟩ evs.xs).km (Sp.rB ⟨s_Learners.xs, s_Cars.xs, s_Price, s_Excess, s_Lo, s_Hi, s_Terms.xs⟩ evs.xs).si (Sp.rB ⟨s_Learners.xs, s_Cars.xs, s_Price, s_Excess, s_Lo, s_Hi, s_Terms.xs⟩ evs.xs).ac) (Q [[Cl.b false]]) (Pre ((0 : Int) ≤ (0 : Int) ∧ (0 : Int) ≤ (↑(List.length s_Cars.xs) : Int) ∧ List.length s_Cars.xs ≤ (1000 : Nat) ∧ (↑(0 : Nat) : Int) = (0 : Int) ∧ (↑(0 : Nat) : Int) = (0 : Int)) (Pre ((0 : Int) ≤ (0 : Int) ∧ (0 : Int) ≤ (↑(List.length evs.xs) : Int) ∧ List.length evs.xs ≤ (1000 : Nat) ∧ (List.replicate (List.length s_Cars.xs - Int.toNat (0 : Int)) [Cl.i (0 : Int)]).length = List.length (Sp.iter (Sp.kmI s_Cars.xs) (List.length s_Cars.xs - Int.toNat (0 : Int)) (Int.toNat (0 : Int)) []) ∧ Sp.KmOk (List.length (Sp.iter (Sp.kmI s_Cars.xs) (List.length s_Cars.xs - Int.toNat (0 : Int)) (Int.toNat (0 : Int)) [])) evs.xs (Sp.rE ⟨s_Learners.xs, s_Cars.xs, s_Price, s_Excess, s_Lo, s_Hi, s_Terms.xs⟩ evs.xs) (Sp.rB ⟨s_Learners.xs, s_Cars.xs, s_Price, s_Excess, s_Lo, s_Hi, s_Terms.xs⟩ evs.xs).ls ∧ ∀ (j : Nat), ((0 : Int) ≤ (cel (Sp.iter (Sp.kmI (rsK._proof_1 [Ty.str, Ty.int IntKind.i64, Ty.int IntKind.i64, Ty.int IntKind.i64] [Ty.str, Ty.int IntKind.i64, Ty.int IntKind.i64, Ty.int IntKind.i64] rfl ▸ s_Cars).xs) (List.length (rsK._proof_1 [Ty.str, Ty.int IntKind.i64, Ty.int IntKind.i64, Ty.int IntKind.i64] [Ty.str, Ty.int IntKind.i64, Ty.int IntKind.i64, Ty.int IntKind.i64] rfl ▸ s_Cars).xs - Int.toNat (0 : Int)) (Int.toNat (0 : Int)) []) j (0 : Nat)).int ∧ (cel (Sp.iter (Sp.kmI (rsK._proof_1 [Ty.str, Ty.int IntKind.i64, Ty.int IntKind.i64, Ty.int IntKind.i64] [Ty.str, Ty.int IntKind.i64, Ty.int IntKind.i64, Ty.int IntKind.i64] rfl ▸ s_Cars).xs) (List.length (rsK._proof_1 [Ty.str, Ty.int IntKind.i64, Ty.int IntKind.i64, Ty.int IntKind.i64] [Ty.str, Ty.int IntKind.i64, Ty.int IntKind.i64, Ty.int IntKind.i64] rfl ▸ s_Cars).xs - Int.toNat (0 : Int)) (Int.toNat (0 : Int)) []) j (0 : Nat)).int ≤ (1000000 : Int) + (400 : Int) * (0 : Int)) ∧ (0 : Int) ≤ (cel ([] ++ List.replicate (List.length (rsK._proof_1 [Ty.str, Ty.int IntKind.i64, Ty.int IntKind.i64, Ty.int IntKind.i64] [Ty.str, Ty.int IntKind.i64, Ty.int IntKind.i64, Ty.int IntKind.i64] rfl ▸ s_Cars).xs - Int.toNat (0 : Int)) [Cl.i (0 : Int)]) j (0 : Nat)).int ∧ (cel ([] ++ List.replicate (List.length (rsK._proof_1 [Ty.str, Ty.int IntKind.i64, Ty.int IntKind.i64, Ty.int IntKind.i64] [Ty.str, Ty.int IntKind.i64, Ty.int IntKind.i64, Ty.int IntKind.i64] rfl ▸ s_Cars).xs - Int.toNat (0 : Int)) [Cl.i (0 : Int)]) j (0 : Nat)).int ≤ (400 : Int) * (0 : Int)) (Pre True (Vif (Sp.ints (Sp.iter (Sp.kmS evs.xs (Sp.rE ⟨s_Learners.xs, s_Cars.xs, s_Price, s_Excess, s_Lo, s_Hi, s_Terms.xs⟩ evs.xs) (Sp.rB ⟨s_Learners.xs, s_Cars.xs, s_Price, s_Excess, s_Lo, s_Hi, s_Terms.xs⟩ evs.xs).ls) (List.length evs.xs - Int.toNat (0 : Int)) (Int.toNat (0 : Int)) (Sp.iter (Sp.kmI s_Cars.xs) (List.length s_Cars.xs - Int.toNat (0 : Int)) (Int.toNat (0 : Int)) [])) (Sp.rB ⟨s_Learners.xs, s_Cars.xs, s_Price, s_Excess, s_Lo, s_Hi, s_Terms.xs⟩ evs.xs).km) (Pre True (Vif (Sp.ints (Sp.iter (Sp.siS evs.xs (Sp.rE ⟨s_Learners.xs, s_Cars.xs, s_Price, s_Excess, s_Lo, s_Hi, s_Terms.xs⟩ evs.xs) (Sp.rB ⟨s_Learners.xs, s_Cars.xs, s_Price, s_Excess, s_Lo, s_Hi, s_Terms.xs⟩ evs.xs).ls) (List.length evs.xs - Int.toNat (0 : Int)) (Int.toNat (0 : Int)) (List.replicate (List.length s_Cars.xs - Int.toNat (0 : Int)) [Cl.i (0 : Int)])) (Sp.rB ⟨s_Learners.xs, s_Cars.xs, s_Price, s_Excess, s_Lo, s_Hi, s_Terms.xs⟩ evs.xs).si) (Pre True (Q [[Cl.b true]])) (Q [[Cl.b false]]))) (Q [[Cl.b false]])))))))))))
theorem vc_lawKm (W : InW) (s_Learners : Ro [.str]) (s_Cars : Ro Ivs) (s_Price : Int) (s_Excess : Int) (s_Lo : Int) (s_Hi : Int) (s_Terms : Ro [.int .i64, .int .i64]) (evs : Ro Iv11) (Q : DS → Prop) : bodyK (cxT Try.prog TT TK9 1000 50) 1000 9 [.agg [.rs _ s_Learners, .rs _ s_Cars, .si .i64 s_Price, .si .i64 s_Excess, .si .i64 s_Lo, .si .i64 s_Hi, .rs _ s_Terms], .rs _ evs] [] 0 (leafK [(false, [.bool])] Q) (fun _ _ _ _ => Stuck 421) = VC_lawKm s_Learners s_Cars s_Price s_Excess s_Lo s_Hi s_Terms evs Q := by kernel_rfl
abbrev ats_lawKm : List AT := [.agg [.sl [.str], .sl Ivs, .int .i64, .int .i64, .int .i64, .int .i64, .sl [.int .i64, .int .i64]], .one (.sl Iv11)]
theorem ok_lawKm {pre : DS → Prop} {res : DS → DS} (hyp_ : ∀ (W : InW) (s_Learners : Ro [.str]) (s_Cars : Ro Ivs) (s_Price : Int) (s_Excess : Int) (s_Lo : Int) (s_Hi : Int) (s_Terms : Ro [.int .i64, .int .i64]) (evs : Ro Iv11), pre [[.l s_Learners.xs, .l s_Cars.xs, .i s_Price, .i s_Excess, .i s_Lo, .i s_Hi, .l s_Terms.xs], [.l evs.xs]] → ∀ Q : DS → Prop, Q (res [[.l s_Learners.xs, .l s_Cars.xs, .i s_Price, .i s_Excess, .i s_Lo, .i s_Hi, .l s_Terms.xs], [.l evs.xs]]) → VC_lawKm s_Learners s_Cars s_Price s_Excess s_Lo s_Hi s_Terms evs Q) : PureOk Try.prog 9 ats_lawKm [(false, [.bool])] pre res :=
  PureOk.of' (fun W => @TT W) (fun W => @TT_ok W) mixed_ok TK9 1000 50 fun W s_Learners s_Cars s_Price s_Excess s_Lo s_Hi s_Terms evs hp =>
    (vc_lawKm W s_Learners s_Cars s_Price s_Excess s_Lo s_Hi s_Terms evs (fun o => o = res [[.l s_Learners.xs, .l s_Cars.xs, .i s_Price, .i s_Excess, .i s_Lo, .i s_Hi, .l s_Terms.xs], [.l evs.xs]])).mpr (hyp_ W s_Learners s_Cars s_Price s_Excess s_Lo s_Hi s_Terms evs hp _ rfl)
end Go.Proofs.Ytiiicnhjjfmpkaa
namespace Go.Proofs.Ytiiicnhjjfmpkaa
open Go.RowKit
set_option linter.unusedVariables false
set_option maxRecDepth 100000
namespace Sp
theorem done_ok {s : Sch} {evs : Dt} {j : Nat} (hj : j < evs.length) (he : (cel (errAll s evs) j 0).int = 0) :
    inr (evt evs j).kind 0 6 = true ∧ (bk s evs j).tm ≤ (evt evs j).at_ ∧ (evt evs j).at_ ≤ 4800 ∧ err s (bk s evs j) (evt evs j) = 0 ∧ bk s evs (j + 1) = { eff s { bk s evs j with ev := j } (evt evs j) with tm := (evt evs j).at_ } := by
  rw [errAll_cel s evs j hj] at he
  rcases step_cases s (bk s evs j) j (evt evs j) with ⟨_, h1, h2, h3, h4, h5⟩ | ⟨h1, _⟩
  · exact ⟨h1, h2, h3, h4, by rw [bk_succ]; exact h5⟩
  · exact absurd he h1
theorem done_no {s : Sch} {evs : Dt} {j : Nat} (hj : j < evs.length) (he : ¬ (cel (errAll s evs) j 0).int = 0) : ∃ e, bk s evs (j + 1) = { bk s evs j with ev := e } := by
  rw [errAll_cel s evs j hj] at he
  rcases step_cases s (bk s evs j) j (evt evs j) with ⟨h1, _⟩ | ⟨_, h1⟩
  · exact absurd h1 he
  · rw [bk_succ]; exact h1
theorem eff_km {s : Sch} {b : Bks} {x : Evt} (hk : inr x.kind 0 6 = true) : (eff s b x).km = (if x.kind = 3 then addA b.km (cel b.ls x.b.toNat 1).int x.k else b.km) := by
  have h := inr_iff.1 hk
  have hc : x.kind = 0 ∨ x.kind = 1 ∨ x.kind = 2 ∨ x.kind = 3 ∨ x.kind = 4 ∨ x.kind = 5 ∨ x.kind = 6 := by omega
  rcases hc with e | e | e | e | e | e | e <;> simp [eff, e, Bks.post]
theorem eff_si {s : Sch} {b : Bks} {x : Evt} (hk : inr x.kind 0 6 = true) : (eff s b x).si = (if x.kind = 3 then addA b.si (cel b.ls x.b.toNat 1).int x.k else if x.kind = 4 then b.si.set x.c.toNat [.i 0] else b.si) := by
  have h := inr_iff.1 hk
  have hc : x.kind = 0 ∨ x.kind = 1 ∨ x.kind = 2 ∨ x.kind = 3 ∨ x.kind = 4 ∨ x.kind = 5 ∨ x.kind = 6 := by omega
  rcases hc with e | e | e | e | e | e | e <;> simp [eff, e, Bks.post]
theorem kept_end {s : Sch} {evs : Dt} (h : rErr s evs = 0) {j : Nat} (hj : j ≤ evs.length) : Kept (bk s evs j).ls (runAll s evs).ls := by
  have := bk_kept h j (evs.length - j) (by omega)
  rw [show j + (evs.length - j) = evs.length by omega] at this
  exact this
theorem km_ok {s : Sch} {evs : Dt} (h : rErr s evs = 0) : KmOk s.rc.length evs (errAll s evs) (runAll s evs).ls := by
  refine ⟨errAll_len _ _, fun j hj he hk => ?_, fun j hj he hk => ?_⟩
  · obtain ⟨h1, _, _, h4, _⟩ := done_ok hj he
    have hk' : (evt evs j).kind = 3 := hk
    rcases err_ok h1 h4 with ⟨k, e⟩ | ⟨k, e, f⟩ | ⟨k, e, f⟩ | ⟨k, e, f, g, q⟩ | ⟨k, e, f⟩ | ⟨k, e, f⟩ | ⟨k, e, f⟩ <;> try omega
    have hb := (hasB_iff.1 e).1
    have hr := (bk_inv h j (by omega)).row e
    have hK := kept_end h (j := j) (by omega)
    have hw := hK.row (evt evs j).b.toNat (by omega)
    have hl := hK.len
    have g' : 0 ≤ (evt evs j).k ∧ (evt evs j).k ≤ 400 := g
    refine ⟨?_, ?_, g'⟩
    · show 0 ≤ (evt evs j).b ∧ (evt evs j).b < _
      omega
    · show 0 ≤ (cel (runAll s evs).ls (evt evs j).b.toNat 1).int ∧ (cel (runAll s evs).ls (evt evs j).b.toNat 1).int < _
      omega
  · obtain ⟨h1, _, _, h4, _⟩ := done_ok hj he
    have hk' : (evt evs j).kind = 4 := hk
    rcases err_ok h1 h4 with ⟨k, e⟩ | ⟨k, e, f⟩ | ⟨k, e, f⟩ | ⟨k, e, f, g, q⟩ | ⟨k, e, f⟩ | ⟨k, e, f⟩ | ⟨k, e, f⟩ <;> try omega
    exact e
theorem km_iter {s : Sch} {evs : Dt} (h : rErr s evs = 0) : ∀ n, n ≤ evs.length →
    (bk s evs n).km = iter (kmS evs (errAll s evs) (runAll s evs).ls) n 0 (kms s.rc 0 s.rc.length) ∧ (bk s evs n).si = iter (siS evs (errAll s evs) (runAll s evs).ls) n 0 (List.replicate s.rc.length [.i 0])
  | 0, _ => ⟨rfl, rfl⟩
  | n + 1, hn => by
    obtain ⟨i1, i2⟩ := km_iter h n (by omega)
    rw [iter_succ, iter_succ, ← i1, ← i2, Nat.zero_add]
    by_cases he : (cel (errAll s evs) n 0).int = 0
    · obtain ⟨h1, _, _, h4, h5⟩ := done_ok (by omega) he
      rw [h5]
      show (eff s { bk s evs n with ev := n } (evt evs n)).km = _ ∧ (eff s { bk s evs n with ev := n } (evt evs n)).si = _
      rw [eff_km h1, eff_si h1]
      unfold kmS siS
      by_cases hk : (cel evs n 0).int = 3
      · have hk' : (evt evs n).kind = 3 := hk
        rw [if_pos hk', if_pos hk', if_pos ⟨he, hk⟩, if_pos he, if_pos hk]
        rcases err_ok h1 h4 with ⟨k, e⟩ | ⟨k, e, f⟩ | ⟨k, e, f⟩ | ⟨k, e, f, g, q⟩ | ⟨k, e, f⟩ | ⟨k, e, f⟩ | ⟨k, e, f⟩ <;> try omega
        have hw := ((kept_end h (j := n) (by omega)).row (evt evs n).b.toNat (by have := (hasB_iff.1 e).1; omega)).2.1
        show addA _ (cel (bk s evs n).ls (evt evs n).b.toNat 1).int _ = addA _ (cel (runAll s evs).ls (evt evs n).b.toNat 1).int _ ∧ addA _ (cel (bk s evs n).ls (evt evs n).b.toNat 1).int _ = addA _ (cel (runAll s evs).ls (evt evs n).b.toNat 1).int _
        rw [hw]
        exact ⟨rfl, rfl⟩
      · have hk' : ¬ (evt evs n).kind = 3 := hk
        rw [if_neg hk', if_neg hk', if_neg (fun h => hk h.2), if_pos he, if_neg hk]
        exact ⟨rfl, rfl⟩
    · obtain ⟨e, h1⟩ := done_no (by omega) he
      rw [h1]
      unfold kmS siS
      rw [if_neg (fun h => he h.1), if_neg he]
      exact ⟨rfl, rfl⟩
theorem kmI_kms (rc : Dt) : ∀ (n i : Nat) (k : Dt), iter (kmI rc) n i k = k ++ kms rc i n
  | 0, _, k => by simp [iter, kms]
  | n + 1, i, k => by
    rw [iter, kmI_kms rc n, kmI, List.append_assoc]
    rfl
theorem rErr_chk {s : Sch} {evs : Dt} (e : rErr s evs = 0) : chkE s.rl s.rc s.pr s.ex s.lo s.hi s.rt = 0 := by
  unfold rErr runErr at e
  split at e
  · assumption
  · exact e
end Sp
theorem km_pure : PureOk Try.prog 9 ats_lawKm [(false, [.bool])] (WfD ats_lawKm) fun _ => [[.b true]] :=
  ok_lawKm fun W rl rc pr ex lo hi rt evs hp Q h => by
    obtain ⟨d, ds, e1, hp1, _⟩ := hp
    cases e1
    have hn := school_names hp1
    unfold VC_lawKm
    by_cases e : Sp.rErr ⟨rl.xs, rc.xs, pr, ex, lo, hi, rt.xs⟩ evs.xs = 0
    · have hc := (Sp.rErr_ok e).1
      have hz : Sp.chkE rl.xs rc.xs pr ex lo hi rt.xs = 0 := Sp.rErr_chk e
      obtain ⟨hL, hI, h60, hs⟩ := Sp.rB_led e
      have hl := hc.learners
      have hl2 := hc.cars
      simp only at hl hl2 hs
      rw [Sp.rE_ok e]
      have hkm := Sp.km_ok e
      obtain ⟨i1, i2⟩ := Sp.km_iter e _ (Nat.le_refl _)
      rw [← Sp.runAll_bk, ← Sp.rB_ok e] at i1 i2
      rw [← Sp.rB_ok e] at hkm
      simp only at hkm i1 i2
      have k0 : Sp.iter (Sp.kmI rc.xs) rc.xs.length 0 [] = Sp.kms rc.xs 0 rc.xs.length := by rw [Sp.kmI_kms]; rfl
      simp only [show Int.toNat 0 = 0 from rfl, List.nil_append, Nat.sub_zero]
      refine ⟨trivial, vif (fun x => absurd e (by simpa using x)) fun _ => ⟨hn, vif (fun x => absurd hz (by simpa using x)) fun _ => vif (fun x => by have := of_decide_eq_false (notT x); rw [Sp.errAll_len] at this; exact absurd rfl this) fun _ => ⟨by omega, vif (fun x => by rw [hs] at x; cases x) fun _ => ⟨⟨by omega, by omega, by omega, rfl, rfl⟩, ⟨⟨by omega, by omega, by omega, ?_, ?_, fun j => ⟨?_, ?_⟩⟩, trivial, vif (fun _ => ⟨trivial, vif (fun _ => ⟨trivial, h⟩) fun x => ?_⟩) fun x => ?_⟩⟩⟩⟩⟩
      · rw [k0, Sp.kms_len, List.length_replicate]
      · rw [k0, Sp.kms_len]; exact hkm
      · show 0 ≤ (cel (Sp.iter (Sp.kmI rc.xs) rc.xs.length 0 []) j 0).int ∧ (cel (Sp.iter (Sp.kmI rc.xs) rc.xs.length 0 []) j 0).int ≤ _
        rw [k0]
        by_cases hj : j < rc.xs.length
        · rw [Sp.kms_cel _ _ _ _ hj, Nat.zero_add]
          have := (Sp.car_in (hc.car j hj)).1
          simp only at this
          omega
        · simp [cel, List.getD_eq_getElem?_getD, List.getElem?_eq_none (show (Sp.kms rc.xs 0 rc.xs.length).length ≤ j by rw [Sp.kms_len]; omega), Cl.int]
      · show 0 ≤ (cel (List.replicate _ [Cl.i 0]) j 0).int ∧ (cel (List.replicate _ [Cl.i 0]) j 0).int ≤ _
        rw [Sp.cel_rep]
        split <;> omega
      · rw [← i2, Sp.ints_self] at x
        cases x
      · rw [k0, ← i1, Sp.ints_self] at x
        cases x
    · simp [Vif_iff, Pre_iff, e, Sp.rB_no e, Sp.rE_no e, h]
end Go.Proofs.Ytiiicnhjjfmpkaa
namespace Go.Proofs.Ytiiicnhjjfmpkaa.bookKm
open Go.ChangeShapes Go.WideShapes Go.ChangeAt Go.RowKit
set_option linter.unusedVariables false
set_option maxRecDepth 100000
theorem own : ownKnob Try.prog.godebug = none := by kernel_rfl
theorem laid : laidOutB Try.prog = true := by kernel_rfl
theorem lifted (os : Os) (started : os.Started) (H : Type) (enc : TypeId × Value → H) :
    ReturnsInHanded {} Try.checked os 9 .any (Rows.bookKmSpec.pre6 enc Try.prog Try.f9 Rows.bookKmRow.domain false) (Rows.bookKmSpec.post enc Try.prog Try.f9 false true false false) := by
  refine returnsInHanded_of_change (C := Try.checked) own started (by kernel_rfl) Try.func9
    (ChangeSpec.witness6 (enc := enc) (C := Try.checked) false ⟨#[], #[(.agg #[.slice none 0 0, .slice none 0 0, .int .i64 0, .int .i64 0, .int .i64 0, .int .i64 0, .slice none 0 0]), (.slice none 0 0)], []⟩ 8 (by kernel_rfl) (by kernel_rfl) (by kernel_rfl) (by kernel_rfl)) ?_
  intro W base args ds gs before hval hW _ _
  exact law_end (f := Try.f9) (s := Rows.bookKmSpec) (by kernel_rfl) Try.underlying4 (by kernel_rfl) rfl laid (by kernel_rfl)
    (fun ds h => by match ds, (show ds.length = 2 from h) with | [_, _], _ => exact ⟨rfl, rfl, rfl⟩) km_pure hval hW
theorem over : Rows.bookKmRow.holds Try.pinned (OpenSpec.ofChange Rows.bookKmSpec) :=
  OpenClaim.holds_of_wide 9 Try.f9 rfl rfl rfl rfl rfl rfl rfl ⟨rfl, rfl, rfl, rfl, rfl⟩ rfl rfl rfl rfl rfl (by kernel_rfl) Try.func9 (by kernel_rfl)
    (of_decide_eq_true (by kernel_rfl)) (by unfold Func.isWrapper; first | (rw [if_pos (by decide +kernel)]; kernel_rfl) | (rw [if_neg (by decide +kernel)]; exact ⟨rfl, rfl⟩))
    (fun os started H enc _ => lifted os started H enc)
theorem proved : Rows.BookKmSaid := over
end Go.Proofs.Ytiiicnhjjfmpkaa.bookKm
