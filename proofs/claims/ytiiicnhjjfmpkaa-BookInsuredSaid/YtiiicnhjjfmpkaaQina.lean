/-
  'BookInsured': for every input the law returns true, and what is handed in reads as before. No condition.
-/
import Derived.Test.YtiiicnhjjfmpkaaQf
import Derived.Test.YtiiicnhjjfmpkaaRows
import Derived.WalkKit
import Derived.ProofKit
set_option linter.unusedVariables false
set_option linter.unusedSectionVars false
set_option linter.unusedSimpArgs false
namespace Go.Proofs.Ytiiicnhjjfmpkaa
open Go.RowKit
set_option linter.unusedVariables false
set_option maxRecDepth 100000
namespace Sp
def pays (ps : Dt) : Nat → Nat → Dt → Dt
  | 0, _, h => h
  | n + 1, i, h => pays ps n (i + 1) (addA (addA h (cel ps i 1).int (-(cel ps i 3).int)) (cel ps i 2).int (cel ps i 3).int)
structure PsOk (na n : Int) (ps : Dt) : Prop where
  row : ∀ j, j < ps.length → (0 ≤ (cel ps j 0).int ∧ (cel ps j 0).int < n) ∧ (0 ≤ (cel ps j 1).int ∧ (cel ps j 1).int < na) ∧ (0 ≤ (cel ps j 2).int ∧ (cel ps j 2).int < na) ∧ (cel ps j 1).int ≠ (cel ps j 2).int ∧ (0 < (cel ps j 3).int ∧ (cel ps j 3).int ≤ 10000000)
  up : ∀ j, j + 1 < ps.length → (cel ps j 0).int ≤ (cel ps (j + 1) 0).int
def sumI (a : Dt) : Nat → Nat → Int
  | _, 0 => 0
  | i, n + 1 => (cel a i 0).int + sumI a (i + 1) n
end Sp
end Go.Proofs.Ytiiicnhjjfmpkaa
namespace Go.Proofs.Ytiiicnhjjfmpkaa
set_option linter.unusedVariables false
namespace Sp
theorem runB_ind {s : Sch} {evs : Dt} {P : Int → Bks → Prop} (hs : ∀ (i : Int) (b : Bks), 0 ≤ i → i < evs.length → Inv s b i → P i b → P (i + 1) (doB s b i (evt evs i))) : ∀ (n : Nat) (i : Int) (b : Bks), 0 ≤ i → i + n ≤ 60 → i + n ≤ evs.length → Inv s b i → P i b → P (i + n) (runB s evs n i b)
  | 0, i, b, h0, _, _, hI, h => by simpa [runB] using h
  | n + 1, i, b, h0, h1, h2, hI, h => by
    rw [show i + ((n + 1 : Nat) : Int) = i + 1 + n by omega]
    exact runB_ind hs n (i + 1) _ (by omega) (by omega) (by omega) (hI.step (by omega) _) (hs i b h0 (by omega) hI h)
theorem run_ind {s : Sch} {evs : Dt} {P : Int → Bks → Prop} (h : rErr s evs = 0) (h0 : P 0 (open0 s)) (hs : ∀ (i : Int) (b : Bks), 0 ≤ i → i < evs.length → Inv s b i → P i b → P (i + 1) (doB s b i (evt evs i))) : P evs.length (runAll s evs) := by
  obtain ⟨h1, h2⟩ := rErr_ok h
  have := runB_ind hs evs.length 0 (open0 s) (by omega) (by omega) (by omega) (Inv.zero h1) h0
  rw [Int.zero_add] at this
  exact this
theorem doB_cases {s : Sch} {b : Bks} {n : Int} {x : Evt} {P : Bks → Prop} (h0 : P b) (h1 : P { b with ev := n }) (h2 : inr x.kind 0 6 = true → b.tm ≤ x.at_ → x.at_ ≤ 4800 → err s b x = 0 → P { eff s { b with ev := n } x with tm := x.at_ }) : P (doB s b n x) := by
  unfold doB
  split
  · exact h0
  rename_i e1
  split
  · exact h0
  rename_i e2
  simp only [Bool.not_eq_true, Bool.not_eq_false'] at e1 e2
  have ht := inr_iff.1 e2
  split
  · rename_i e3
    exact h2 e1 ht.1 ht.2 e3
  · exact h1
theorem rB_ok {s : Sch} {evs : Dt} (h : rErr s evs = 0) : rB s evs = runAll s evs := if_pos h
theorem rB_no {s : Sch} {evs : Dt} (h : ¬ rErr s evs = 0) : rB s evs = ⟨[], [], [], [], [], [], 0, 0⟩ := if_neg h
theorem rE_ok {s : Sch} {evs : Dt} (h : rErr s evs = 0) : rE s evs = errAll s evs := if_pos h
theorem rE_no {s : Sch} {evs : Dt} (h : ¬ rErr s evs = 0) : rE s evs = [] := if_neg h
theorem sumI_set (a : Dt) (v : Int) (i : Nat) (hi : i < a.length) : ∀ (n k : Nat), sumI (a.set i [.i v]) k n = sumI a k n + if k ≤ i ∧ i < k + n then v - (cel a i 0).int else 0
  | 0, k => by simp [sumI]; omega
  | n + 1, k => by
    unfold sumI
    rw [sumI_set a v i hi n (k + 1), cel_set]
    by_cases h : i = k
    · subst h
      rw [if_pos ⟨rfl, hi⟩, if_neg (by omega), if_pos (by omega)]
      show v + _ = _
      omega
    · rw [if_neg (fun e => h e.1)]
      by_cases h2 : k + 1 ≤ i ∧ i < k + 1 + n
      · rw [if_pos h2, if_pos (by omega)]; omega
      · rw [if_neg h2, if_neg (by omega)]; omega
theorem sumI_addA (a : Dt) (i c : Int) (h : 0 ≤ i ∧ i < a.length) : sumI (addA a i c) 0 a.length = sumI a 0 a.length + c := by
  unfold addA
  rw [sumI_set a _ i.toNat (by omega), if_pos (by omega)]
  omega
theorem sumI_zero (n : Nat) : ∀ (m k : Nat), sumI (List.replicate n [.i 0]) k m = 0
  | 0, _ => rfl
  | m + 1, k => by
    unfold sumI
    rw [sumI_zero n m, cel_rep]
    split <;> rfl
theorem pays_app (ps : Dt) (r : List Cl) : ∀ (n i : Nat) (h : Dt), i + n = ps.length → pays (ps ++ [r]) (n + 1) i h = addA (addA (pays ps n i h) (r.getD 1 .z).int (-(r.getD 3 .z).int)) (r.getD 2 .z).int (r.getD 3 .z).int
  | 0, i, h, e => by
    have : ∀ k, cel (ps ++ [r]) i k = r.getD k .z := fun k => by
      rw [show i = ps.length by omega]
      simp [cel, List.getD_eq_getElem?_getD]
    simp only [pays, this]
  | n + 1, i, h, e => by
    have : ∀ k, cel (ps ++ [r]) i k = cel ps i k := fun k => by simp [cel, List.getD_eq_getElem?_getD, List.getElem?_append_left (show i < ps.length by omega)]
    rw [pays, pays_app ps r n (i + 1) _ (by omega), this, this, this]
    rfl
structure Led (s : Sch) (b : Bks) (n : Int) : Prop where
  ac : b.ac = pays b.ps b.ps.length 0 (List.replicate (s.rl.length + 4) [.i 0])
  ps : PsOk ((s.rl.length : Int) + 4) n b.ps
  sum : sumI b.ac 0 b.ac.length = 0
theorem PsOk.up1 {na n : Int} {ps : Dt} (h : PsOk na n ps) : PsOk na (n + 1) ps := ⟨fun j hj => by have := h.row j hj; exact ⟨by omega, this.2⟩, h.up⟩
theorem PsOk.post {na n : Int} {ps : Dt} (h : PsOk na (n + 1) ps) (h0 : 0 ≤ n) {u v c : Int} (hu : 0 ≤ u ∧ u < na) (hv : 0 ≤ v ∧ v < na) (hn : u ≠ v) (hc : 0 ≤ c ∧ c ≤ 10000000) : PsOk na (n + 1) (postP ps n u v c) := by
  unfold postP
  split
  · exact h
  · rename_i e
    have a1 : ∀ j k, j < ps.length → cel (ps ++ [[Cl.i n, .i u, .i v, .i c]]) j k = cel ps j k := fun j k hj => by simp [cel, List.getD_eq_getElem?_getD, List.getElem?_append_left hj]
    have a2 : ∀ k, cel (ps ++ [[Cl.i n, .i u, .i v, .i c]]) ps.length k = [Cl.i n, .i u, .i v, .i c].getD k .z := fun k => by simp [cel, List.getD_eq_getElem?_getD]
    refine ⟨fun j hj => ?_, fun j hj => ?_⟩
    · simp only [List.length_append, List.length_singleton] at hj
      by_cases hj' : j < ps.length
      · simp only [a1 j _ hj']; exact h.row j hj'
      · rw [show j = ps.length by omega]
        simp only [a2]
        exact ⟨⟨h0, by show n < n + 1; omega⟩, hu, hv, hn, by show 0 < c ∧ c ≤ _; omega⟩
    · simp only [List.length_append, List.length_singleton] at hj
      by_cases hj' : j + 1 < ps.length
      · rw [a1 _ _ hj', a1 _ _ (by omega)]; exact h.up j hj'
      · rw [a1 _ _ (by omega), show j + 1 = ps.length by omega, a2]
        have := (h.row j (by omega)).1.2
        show _ ≤ n
        omega
theorem Led.post {s : Sch} {b : Bks} {n : Int} (h : Led s b (n + 1)) (h0 : 0 ≤ n) (he : b.ev = n) (hl : b.ac.length = s.rl.length + 4) {u v c : Int} (hu : 0 ≤ u ∧ u < (s.rl.length : Int) + 4) (hv : 0 ≤ v ∧ v < (s.rl.length : Int) + 4) (hn : u ≠ v) (hc : 0 ≤ c ∧ c ≤ 10000000) : Led s (b.post u v c) (n + 1) := by
  refine ⟨?_, ?_, ?_⟩
  · show postA b.ac u v c = pays (postP b.ps b.ev u v c) (postP b.ps b.ev u v c).length 0 _
    unfold postA postP
    split
    · exact h.ac
    · rw [List.length_append, List.length_singleton, pays_app b.ps _ b.ps.length 0 _ (by omega), ← h.ac]
      rfl
  · show PsOk _ _ (postP b.ps b.ev u v c)
    rw [he]
    exact h.ps.post h0 hu hv hn hc
  · show sumI (postA b.ac u v c) 0 (postA b.ac u v c).length = 0
    rw [postA_len]
    unfold postA
    split
    · exact h.sum
    · have e1 := sumI_addA b.ac u (-c) (by omega)
      have e2 := sumI_addA (addA b.ac u (-c)) v c (by rw [addA_len]; omega)
      rw [addA_len] at e2
      rw [e2, e1, h.sum]
      omega
theorem Led.up1 {s : Sch} {b : Bks} {n : Int} (h : Led s b n) : Led s b (n + 1) := ⟨h.ac, h.ps.up1, h.sum⟩
theorem led_step {s : Sch} {b : Bks} {n : Int} (x : Evt) (hI : Inv s b n) (h : Led s b n) : Led s (doB s b n x) (n + 1) := by
  have h0 := hI.nn.1
  have hu := h.up1
  have hL := hI.sch.learners
  refine doB_cases (P := fun B => Led s B (n + 1)) hu ⟨hu.ac, hu.ps, hu.sum⟩ fun hk t1 t2 he => ?_
  have fin : ∀ B : Bks, Led s B (n + 1) → Led s { B with tm := x.at_ } (n + 1) := fun B h => ⟨h.ac, h.ps, h.sum⟩
  refine fin _ ?_
  have hS : school s = s.rl.length := rfl
  have start : ∀ B : Bks, B.ac = b.ac → B.ps = b.ps → Led s B (n + 1) := fun B e1 e2 => ⟨by rw [e1, e2]; exact hu.ac, by rw [e2]; exact hu.ps, by rw [e1]; exact hu.sum⟩
  rcases err_ok hk he with ⟨k, e⟩ | ⟨k, e, f⟩ | ⟨k, e, f⟩ | ⟨k, e, f, g, q⟩ | ⟨k, e, f⟩ | ⟨k, e, f⟩ | ⟨k, e, f⟩
  · rw [show eff s { b with ev := n } x = { b with ev := n, ls := b.ls ++ [[.i x.l, .i x.c, .i x.s, .i x.h, .i 0]] } by simp [eff, k]]
    exact start _ rfl rfl
  · rw [eff1 k]
    have hr := hI.row e
    have hf := fee_in hI.sch.fees hr.2.2.2 hI.sch.price ((cel b.ls x.b.toNat 2).int - x.at_)
    exact (start { b with ev := n, ls := setSt b.ls x.b 1 } rfl rfl).post h0 rfl hI.ac.1 (by show 0 ≤ (cel b.ls x.b.toNat 0).int ∧ (cel b.ls x.b.toNat 0).int < _; omega) (by omega) (by show (cel b.ls x.b.toNat 0).int ≠ _; omega) (by show 0 ≤ fee s.rt s.pr (cel b.ls x.b.toNat 3).int ((cel b.ls x.b.toNat 2).int - x.at_) ∧ fee s.rt s.pr (cel b.ls x.b.toNat 3).int ((cel b.ls x.b.toNat 2).int - x.at_) ≤ _; omega)
  · rw [show eff s { b with ev := n } x = { b with ev := n, es := seeE b.es x.d x.w, ls := weatherL s.rc (seeE b.es x.d x.w) x b.ls.length 0 b.ls } by simp [eff, k]]
    exact start _ rfl rfl
  · rw [eff3 k]
    have hr := hI.row e
    have hf := price_in hI.sch hr.2.2.2
    exact (start { b with ev := n, ls := setSt b.ls x.b 2, km := addA b.km (cel b.ls x.b.toNat 1).int x.k, si := addA b.si (cel b.ls x.b.toNat 1).int x.k } rfl rfl).post h0 rfl hI.ac.1 (by show 0 ≤ (cel b.ls x.b.toNat 0).int ∧ (cel b.ls x.b.toNat 0).int < _; omega) (by omega) (by show (cel b.ls x.b.toNat 0).int ≠ _; omega) (by show 0 ≤ (cel b.ls x.b.toNat 3).int * s.pr ∧ (cel b.ls x.b.toNat 3).int * s.pr ≤ _; omega)
  · rw [show eff s { b with ev := n } x = Bks.post { b with ev := n, si := b.si.set x.c.toNat [.i 0] } (school s) (school s + 1) x.m by simp [eff, k]]
    exact (start { b with ev := n, si := b.si.set x.c.toNat [.i 0] } rfl rfl).post h0 rfl hI.ac.1 (by omega) (by omega) (by omega) f
  · rw [eff5 k]
    have hx := hI.sch.excess
    have hx' : 0 ≤ s.ex ∧ s.ex ≤ 10000000 := hx
    refine ((start { b with ev := n, ls := setSt b.ls x.b 3 } rfl rfl).post h0 rfl hI.ac.1 (u := school s) (v := school s + 1) (c := min x.m s.ex) (by omega) (by omega) (by omega) (by omega)).post h0 rfl ?_ (by omega) (by omega) (by omega) (by omega)
    show (postA b.ac _ _ _).length = _
    rw [postA_len]; exact hI.ac.1
  · rw [show eff s { b with ev := n } x = Bks.post { b with ev := n } (school s + 3) x.l x.m by simp [eff, k]]
    exact (start { b with ev := n } rfl rfl).post h0 rfl hI.ac.1 (by omega) (by omega) (by omega) f
theorem led_run {s : Sch} {evs : Dt} (h : rErr s evs = 0) : Led s (runAll s evs) evs.length :=
  run_ind (P := fun i b => Led s b i) h ⟨rfl, ⟨fun j hj => by simp [open0] at hj, fun j hj => by simp [open0] at hj⟩, sumI_zero _ _ _⟩ fun i b h0 h1 hI h => led_step _ hI h
theorem shaped_run {s : Sch} {evs : Dt} (h : rErr s evs = 0) : shapedE s.rl.length s.rc.length (runAll s evs).ls (runAll s evs).km (runAll s evs).si (runAll s evs).ac = true := by
  have hI := rErr_inv h
  have row : ∀ (n i : Nat), i + n = (runAll s evs).ls.length → shN s.rl.length s.rc.length (runAll s evs).ls i n = true := by
    intro n
    induction n with
    | zero => intro i _; rfl
    | succ n ih =>
      intro i hi
      rw [shN, shR_iff.2 (by have := hI.ls i (by omega); omega), ih (i + 1) (by omega)]
      rfl
  unfold shapedE
  rw [decide_eq_true hI.km.1, decide_eq_true hI.si.1, decide_eq_true hI.ac.1, row _ _ (by omega)]
  rfl
end Sp
end Go.Proofs.Ytiiicnhjjfmpkaa
namespace Go.Proofs.Ytiiicnhjjfmpkaa
open Go.RowKit
set_option linter.unusedVariables false
set_option maxRecDepth 100000
theorem Sp.rB_led {s : Sp.Sch} {evs : Dt} (e : Sp.rErr s evs = 0) : Sp.Led s (Sp.rB s evs) evs.length ∧ Sp.Inv s (Sp.rB s evs) evs.length ∧ evs.length ≤ 60 ∧ Sp.shapedE s.rl.length s.rc.length (Sp.rB s evs).ls (Sp.rB s evs).km (Sp.rB s evs).si (Sp.rB s evs).ac = true := by
  rw [Sp.rB_ok e]
  exact ⟨Sp.led_run e, Sp.rErr_inv e, (Sp.rErr_ok e).2, Sp.shaped_run e⟩
end Go.Proofs.Ytiiicnhjjfmpkaa
namespace Go.Proofs.Ytiiicnhjjfmpkaa
set_option linter.unusedVariables false
namespace Sp
def iter {α : Type} (f : Nat → α → α) : Nat → Nat → α → α
  | 0, _, a => a
  | n + 1, i, a => iter f n (i + 1) (f i a)
def bk (s : Sch) (evs : Dt) (j : Nat) : Bks := runB s evs j 0 (open0 s)
theorem runB_succ (s : Sch) (evs : Dt) : ∀ (n : Nat) (i : Int) (b : Bks), runB s evs (n + 1) i b = doB s (runB s evs n i b) (i + n) (evt evs (i + n))
  | 0, i, b => by simp [runB]
  | n + 1, i, b => by
    rw [runB, runB_succ s evs n (i + 1), runB, show i + 1 + (n : Int) = i + ((n + 1 : Nat) : Int) by omega]
theorem bk_succ (s : Sch) (evs : Dt) (j : Nat) : bk s evs (j + 1) = doB s (bk s evs j) j (evt evs j) := by
  unfold bk
  rw [runB_succ, Int.zero_add]
theorem runE_len (s : Sch) (evs : Dt) : ∀ (n : Nat) (i : Int) (b : Bks), (runE s evs n i b).length = n
  | 0, _, _ => rfl
  | n + 1, i, b => by simp [runE, runE_len s evs n]
theorem runE_cel (s : Sch) (evs : Dt) : ∀ (n : Nat) (i : Int) (b : Bks) (j : Nat), j < n → cel (runE s evs n i b) j 0 = .i (doE s (runB s evs j i b) (i + j) (evt evs (i + j)))
  | 0, _, _, _, h => by omega
  | n + 1, i, b, 0, h => by simp [runE, runB, cel]
  | n + 1, i, b, j + 1, h => by
    have := runE_cel s evs n (i + 1) (doB s b i (evt evs i)) j (by omega)
    rw [show i + 1 + (j : Int) = i + ((j + 1 : Nat) : Int) by omega] at this
    rw [runB]
    rw [← this]
    rfl
theorem runAll_bk (s : Sch) (evs : Dt) : runAll s evs = bk s evs evs.length := rfl
theorem errAll_len (s : Sch) (evs : Dt) : (errAll s evs).length = evs.length := runE_len _ _ _ _ _
theorem errAll_cel (s : Sch) (evs : Dt) (j : Nat) (h : j < evs.length) : cel (errAll s evs) j 0 = .i (doE s (bk s evs j) j (evt evs j)) := by
  have := runE_cel s evs evs.length 0 (open0 s) j h
  rw [Int.zero_add] at this
  exact this
theorem cel_take (a : Dt) (m j k : Nat) (h : j < m) : cel (a.take m) j k = cel a j k := by simp [cel, List.getD_eq_getElem?_getD, List.getElem?_take, h]
theorem step_cases (s : Sch) (b : Bks) (n : Int) (x : Evt) :
    (doE s b n x = 0 ∧ inr x.kind 0 6 = true ∧ b.tm ≤ x.at_ ∧ x.at_ ≤ 4800 ∧ err s b x = 0 ∧ doB s b n x = { eff s { b with ev := n } x with tm := x.at_ }) ∨
    (doE s b n x ≠ 0 ∧ ∃ e, doB s b n x = { b with ev := e }) := by
  unfold doE doB
  by_cases e1 : inr x.kind 0 6 = true
  · by_cases e2 : inr x.at_ b.tm 4800 = true
    · by_cases e3 : err s b x = 0
      · have ht := inr_iff.1 e2
        simp only [e1, e2, e3, Bool.not_true, Bool.false_eq_true, if_false, if_true]
        exact .inl ⟨trivial, trivial, ht.1, ht.2, trivial, trivial⟩
      · simp only [e1, e2, e3, Bool.not_true, Bool.false_eq_true, if_false]
        exact .inr ⟨e3, _, rfl⟩
    · simp only [e1, Bool.not_eq_true] at e2 ⊢
      simp only [e2, Bool.not_true, Bool.false_eq_true, if_false, Bool.not_false, if_true]
      exact .inr ⟨by decide, b.ev, rfl⟩
  · rw [Bool.not_eq_true] at e1
    simp only [e1, Bool.not_false, if_true]
    exact .inr ⟨by decide, b.ev, rfl⟩
structure Kept (a b : Dt) : Prop where
  len : a.length ≤ b.length
  row : ∀ j, j < a.length → (cel b j 0).int = (cel a j 0).int ∧ (cel b j 1).int = (cel a j 1).int ∧ (cel b j 3).int = (cel a j 3).int
theorem Kept.refl (a : Dt) : Kept a a := ⟨Nat.le_refl _, fun _ _ => ⟨rfl, rfl, rfl⟩⟩
theorem Kept.trans {a b c : Dt} (h : Kept a b) (h2 : Kept b c) : Kept a c := ⟨Nat.le_trans h.len h2.len, fun j hj => by
  have := h.row j hj
  have := h2.row j (by have := h.len; omega)
  omega⟩
theorem Kept.setSt (a : Dt) (i st : Int) : Kept a (setSt a i st) := ⟨by rw [setSt_len]; exact Nat.le_refl _, fun j hj => by
  rw [cel_setSt _ _ _ _ _ (by decide), cel_setSt _ _ _ _ _ (by decide), cel_setSt _ _ _ _ _ (by decide)]
  exact ⟨rfl, rfl, rfl⟩⟩
end Sp
end Go.Proofs.Ytiiicnhjjfmpkaa
namespace Go.Proofs.Ytiiicnhjjfmpkaa
open Go.RowKit
set_option linter.unusedVariables false
set_option maxRecDepth 100000
end Go.Proofs.Ytiiicnhjjfmpkaa
namespace Go.Proofs.Ytiiicnhjjfmpkaa
open Go.RowKit
set_option linter.unusedVariables false
set_option maxRecDepth 100000
namespace Sp
theorem done_ok {s : Sch} {evs : Dt} {j : Nat} (hj : j < evs.length) (he : (cel (errAll s evs) j 0).int = 0) :
    inr (evt evs j).kind 0 6 = true ∧ (bk s evs j).tm ≤ (evt evs j).at_ ∧ (evt evs j).at_ ≤ 4800 ∧ err s (bk s evs j) (evt evs j) = 0 ∧ bk s evs (j + 1) = { eff s { bk s evs j with ev := j } (evt evs j) with tm := (evt evs j).at_ } := by
  rw [errAll_cel s evs j hj] at he
  rcases step_cases s (bk s evs j) j (evt evs j) with ⟨_, h1, h2, h3, h4, h5⟩ | ⟨h1, _⟩
  · exact ⟨h1, h2, h3, h4, by rw [bk_succ]; exact h5⟩
  · exact absurd he h1
theorem done_no {s : Sch} {evs : Dt} {j : Nat} (hj : j < evs.length) (he : ¬ (cel (errAll s evs) j 0).int = 0) : ∃ e, bk s evs (j + 1) = { bk s evs j with ev := e } := by
  rw [errAll_cel s evs j hj] at he
  rcases step_cases s (bk s evs j) j (evt evs j) with ⟨h1, _⟩ | ⟨_, h1⟩
  · exact absurd h1 he
  · rw [bk_succ]; exact h1
theorem rErr_chk {s : Sch} {evs : Dt} (e : rErr s evs = 0) : chkE s.rl s.rc s.pr s.ex s.lo s.hi s.rt = 0 := by
  unfold rErr runErr at e
  split at e
  · assumption
  · exact e
end Sp
end Go.Proofs.Ytiiicnhjjfmpkaa
namespace Go.Proofs.Ytiiicnhjjfmpkaa
set_option linter.unusedVariables false
namespace Sp
def rI (r : List Cl) (k : Nat) : Int := (r.getD k .z).int
theorem cel_rI (a : Dt) (j k : Nat) : (cel a j k).int = rI (a.getD j []) k := rfl
def sumR (f : List Cl → Int) : Dt → Int
  | [] => 0
  | r :: l => f r + sumR f l
theorem sumR_app (f : List Cl → Int) : ∀ (a b : Dt), sumR f (a ++ b) = sumR f a + sumR f b
  | [], b => by simp [sumR]
  | r :: a, b => by rw [List.cons_append, sumR, sumR, sumR_app f a b]; omega
theorem sumR_none {f : List Cl → Int} : ∀ (a : Dt), (∀ r ∈ a, f r = 0) → sumR f a = 0
  | [], _ => rfl
  | r :: a, h => by rw [sumR, h r (by simp), sumR_none a fun r hr => h r (by simp [hr])]; rfl
theorem iter_sum {g : Nat → Int → Int} {f : List Cl → Int} : ∀ (b a : Dt) (z : Int), (∀ j z, j < a.length + b.length → g j z = z + f ((a ++ b).getD j [])) → iter g b.length a.length z = z + sumR f b
  | [], a, z, h => by simp [iter, sumR]
  | r :: b, a, z, h => by
    have h1 := h a.length z (by simp)
    have h2 := iter_sum (g := g) (f := f) b (a ++ [r]) (g a.length z) fun j z hj => by
      rw [List.append_assoc, List.singleton_append]
      exact h j z (by simp only [List.length_append, List.length_cons, List.length_nil] at hj ⊢; omega)
    rw [List.length_append, List.length_singleton] at h2
    rw [List.length_cons, iter, h2, h1, sumR, List.getD_eq_getElem?_getD, List.getElem?_append_right (Nat.le_refl _), Nat.sub_self]
    exact Int.add_assoc _ _ _
theorem iter_sum0 {g : Nat → Int → Int} {f : List Cl → Int} (b : Dt) (h : ∀ j z, j < b.length → g j z = z + f (b.getD j [])) : iter g b.length 0 0 = sumR f b := by
  have := iter_sum (g := g) (f := f) b [] 0 (fun j z hj => by simpa using h j z (by simpa using hj))
  rw [List.length_nil, Int.zero_add] at this
  exact this
theorem mem_row {P : List Cl → Prop} {a : Dt} (h : ∀ j, j < a.length → P (a.getD j [])) : ∀ r ∈ a, P r := fun r hr => by
  obtain ⟨j, hj, rfl⟩ := List.mem_iff_getElem.1 hr
  have := h j hj
  rwa [List.getD_eq_getElem?_getD, List.getElem?_eq_getElem hj] at this
theorem row_mem {P : List Cl → Prop} {a : Dt} (h : ∀ r ∈ a, P r) (j : Nat) (hj : j < a.length) : P (a.getD j []) := by
  rw [List.getD_eq_getElem?_getD, List.getElem?_eq_getElem hj]
  exact h _ (List.getElem_mem hj)
def postL (ev u v c : Int) : Dt := if c = 0 then [] else [[.i ev, .i u, .i v, .i c]]
theorem postP_L (ps : Dt) (ev u v c : Int) : postP ps ev u v c = ps ++ postL ev u v c := by
  unfold postP postL
  split <;> simp
def newP (s : Sch) (b : Bks) (n : Int) (x : Evt) : Dt :=
  if x.kind = 1 then postL n (cel b.ls x.b.toNat 0).int (school s) (fee s.rt s.pr (cel b.ls x.b.toNat 3).int ((cel b.ls x.b.toNat 2).int - x.at_))
  else if x.kind = 3 then postL n (cel b.ls x.b.toNat 0).int (school s) ((cel b.ls x.b.toNat 3).int * s.pr)
  else if x.kind = 4 then postL n (school s) (school s + 1) x.m
  else if x.kind = 5 then postL n (school s) (school s + 1) (min x.m s.ex) ++ postL n (school s + 2) (school s + 1) (x.m - min x.m s.ex)
  else if x.kind = 6 then postL n (school s + 3) x.l x.m
  else []
theorem eff_ps {s : Sch} {b : Bks} {n : Int} {x : Evt} (hk : inr x.kind 0 6 = true) : (eff s { b with ev := n } x).ps = b.ps ++ newP s b n x := by
  have h := inr_iff.1 hk
  have hc : x.kind = 0 ∨ x.kind = 1 ∨ x.kind = 2 ∨ x.kind = 3 ∨ x.kind = 4 ∨ x.kind = 5 ∨ x.kind = 6 := by omega
  rcases hc with e | e | e | e | e | e | e <;> simp [eff, e, Bks.post, newP, postP_L]
theorem postL_ev {ev u v c : Int} : ∀ r ∈ postL ev u v c, rI r 0 = ev := fun r hr => by
  unfold postL at hr
  split at hr
  · cases hr
  · simp at hr; rw [hr]; rfl
theorem newP_ev {s : Sch} {b : Bks} {n : Int} {x : Evt} : ∀ r ∈ newP s b n x, rI r 0 = n := fun r hr => by
  unfold newP at hr
  split at hr
  · exact postL_ev r hr
  split at hr
  · exact postL_ev r hr
  split at hr
  · exact postL_ev r hr
  split at hr
  · rcases List.mem_append.1 hr with h | h
    · exact postL_ev r h
    · exact postL_ev r h
  split at hr
  · exact postL_ev r hr
  · cases hr
theorem bk_ps {s : Sch} {evs : Dt} {j : Nat} (hj : j < evs.length) : (bk s evs (j + 1)).ps = (bk s evs j).ps ++ if (cel (errAll s evs) j 0).int = 0 then newP s (bk s evs j) j (evt evs j) else [] := by
  by_cases he : (cel (errAll s evs) j 0).int = 0
  · obtain ⟨h1, _, _, _, h5⟩ := done_ok hj he
    rw [h5, if_pos he]
    exact eff_ps h1
  · obtain ⟨e, h1⟩ := done_no hj he
    rw [h1, if_neg he, List.append_nil]
theorem ps_after {s : Sch} {evs : Dt} (j : Nat) : ∀ d, j + d ≤ evs.length → ∃ l, (bk s evs (j + d)).ps = (bk s evs j).ps ++ l ∧ ∀ r ∈ l, (j : Int) ≤ rI r 0
  | 0, _ => ⟨[], by simp, by simp⟩
  | d + 1, hd => by
    obtain ⟨l, h1, h2⟩ := ps_after (s := s) (evs := evs) j d (by omega)
    refine ⟨l ++ if (cel (errAll s evs) (j + d) 0).int = 0 then newP s (bk s evs (j + d)) ((j + d : Nat) : Int) (evt evs ((j + d : Nat) : Int)) else [], ?_, fun r hr => ?_⟩
    · rw [← Nat.add_assoc, bk_ps (evs := evs) (j := j + d) (by omega), h1, List.append_assoc]
    · rcases List.mem_append.1 hr with h | h
      · exact h2 r h
      · split at h
        · rw [newP_ev r h]; omega
        · cases h
theorem bk_led {s : Sch} {evs : Dt} (h : rErr s evs = 0) (j : Nat) (hj : j ≤ evs.length) : Led s (bk s evs j) j := by
  obtain ⟨h1, h2⟩ := rErr_ok h
  have := runB_ind (P := fun i b => Led s b i) (fun i b h0 h1 hI h => led_step (evt evs i) hI h) j 0 (open0 s) (by omega) (by omega) (by omega) (Inv.zero h1) ⟨rfl, ⟨fun j hj => by simp [open0] at hj, fun j hj => by simp [open0] at hj⟩, sumI_zero _ _ _⟩
  rw [Int.zero_add] at this
  exact this
theorem ps_split {s : Sch} {evs : Dt} (h : rErr s evs = 0) {j : Nat} (hj : j < evs.length) : ∃ l, (runAll s evs).ps = (bk s evs j).ps ++ ((if (cel (errAll s evs) j 0).int = 0 then newP s (bk s evs j) j (evt evs j) else []) ++ l) ∧ (∀ r ∈ (bk s evs j).ps, rI r 0 < j) ∧ ∀ r ∈ l, (j : Int) + 1 ≤ rI r 0 := by
  obtain ⟨l, h1, h2⟩ := ps_after (s := s) (evs := evs) (j + 1) (evs.length - (j + 1)) (by omega)
  refine ⟨l, ?_, mem_row fun k hk => ((bk_led h j (by omega)).ps.row k hk).1.2, fun r hr => by have := h2 r hr; omega⟩
  rw [runAll_bk, show evs.length = j + 1 + (evs.length - (j + 1)) by omega, h1, bk_ps hj, List.append_assoc]
end Sp
end Go.Proofs.Ytiiicnhjjfmpkaa
namespace Go.Proofs.Ytiiicnhjjfmpkaa
open Go.RowKit
set_option linter.unusedVariables false
set_option maxRecDepth 100000
namespace Sp
def insO (ps : Dt) (sc i : Int) (j : Nat) (z : Int) : Int := if (cel ps j 0).int = i ∧ (cel ps j 1).int = sc then z + (cel ps j 3).int else z
def insR (ps : Dt) (sc i : Int) (j : Nat) (z : Int) : Int := if (cel ps j 0).int = i ∧ ¬ (cel ps j 1).int = sc then z + (cel ps j 3).int else z
structure InsOk (ps : Dt) (sc i : Int) : Prop where
  row : ∀ j, j < ps.length → (cel ps j 0).int = i → (cel ps j 2).int = sc + 1 ∧ ((cel ps j 1).int = sc ∨ (cel ps j 1).int = sc + 2) ∧ 0 ≤ (cel ps j 3).int ∧ (cel ps j 3).int ≤ 10000000
structure CrashOk (ps evs er : Dt) (sc ex : Int) : Prop where
  errs : er.length = evs.length
  row : ∀ i : Nat, i < evs.length → (cel evs i 0).int = 5 → (cel er i 0).int = 0 → InsOk ps sc i ∧ iter (insO ps sc i) ps.length 0 0 ≤ ex ∧ iter (insO ps sc i) ps.length 0 0 + iter (insR ps sc i) ps.length 0 0 = (cel evs i 10).int ∧ 0 ≤ (cel evs i 10).int ∧ (cel evs i 10).int ≤ 10000000
end Sp
def sp_insA [InW] (e : List Ed) (K : Nat → List Ed → Prop) : Prop := match e with
  | [.ro _ evs, .i sc, .i i, .i own, .i rest, .i k, .ro _ rl, .ro _ rc, .i pr, .i ex, .i lo, .i hi, .ro _ rt, .l er, .l ps] =>
    Pre (0 ≤ k ∧ k ≤ ps.length ∧ ps.length ≤ 1000 ∧ 0 ≤ sc ∧ sc ≤ 1000 ∧ Sp.InsOk ps sc i ∧ (0 ≤ own ∧ own ≤ 10000000 * k) ∧ (0 ≤ rest ∧ rest ≤ 10000000 * k))
      (K 0 [.ro _ evs, .i sc, .i i, .i (Sp.iter (Sp.insO ps sc i) (ps.length - k.toNat) k.toNat own), .i (Sp.iter (Sp.insR ps sc i) (ps.length - k.toNat) k.toNat rest), .ro _ rl, .ro _ rc, .i pr, .i ex, .i lo, .i hi, .ro _ rt, .l er, .l ps])
  | _ => False
noncomputable def lc_insA : LC where
  len := 148
  T := [(1, .rs Iv11), (2, (.ptr 1 0)), (5, (.row 28)), (8, (.row 31)), (10, .int .i64), (11, .int .i64), (12, .int .i64), (13, .int .i64), (14, .int .i64)]
  H := [(1, .blk 28 [.rs [.str], .rs Ivs, .int .i64, .int .i64, .int .i64, .int .i64, .rs [.int .i64, .int .i64]]), (28, .arr 30 [.int .i64]), (31, .arr 61 Iv4)]
  W := [4, 71, 72, 73, 74, 75, 76, 77, 78, 79, 80, 81, 82, 83, 84, 85, 86, 87, 88, 89, 90, 91, 92, 93, 94, 95, 96, 97, 98, 99, 100, 101, 102, 103, 104, 105, 106, 107, 108, 109, 110, 111, 112, 113, 114, 115, 116, 117, 118, 119, 120, 121, 122, 123, 124, 125, 126, 127, 128, 129, 130, 131]
  outs := [⟨.exit 2, [(1, .rs Iv11), (2, (.ptr 1 0)), (5, (.row 28)), (8, (.row 31)), (10, .int .i64), (11, .int .i64), (12, .int .i64), (13, .int .i64)], [(1, .blk 28 [.rs [.str], .rs Ivs, .int .i64, .int .i64, .int .i64, .int .i64, .rs [.int .i64, .int .i64]]), (28, .arr 30 [.int .i64]), (31, .arr 61 Iv4)], [4, 14, 71, 72, 73, 74, 75, 76, 77, 78, 79, 80, 81, 82, 83, 84, 85, 86, 87, 88, 89, 90, 91, 92, 93, 94, 95, 96, 97, 98, 99, 100, 101, 102, 103, 104, 105, 106, 107, 108, 109, 110, 111, 112, 113, 114, 115, 116, 117, 118, 119, 120, 121, 122, 123, 124, 125, 126, 127, 128, 129, 130, 131]⟩]
  spec := sp_insA
def VCL_insA [W : InW] (evs : Ro Iv11) (sc : Int) (i : Int) (own : Int) (rest : Int) (k : Int) (rl : Ro [.str]) (rc : Ro Ivs) (pr : Int) (ex : Int) (lo : Int) (hi : Int) (rt : Ro [.int .i64, .int .i64]) (er : Dt) (ps : Dt) (A : List Ed → Prop) (K : Nat → List Ed → Prop) : Prop :=
  Vif (decide (k < (↑(List.length ps) : Int))) (Need (decide ((0 : Int) ≤ k) && decide (k < (↑(List.length ps) : Int))) (Need (decide (k.toNat < List.length ps)) (Vif (!decide ((cel ps k.toNat (0 : Nat)).int = i)) (Ar .i64 (k + (1 : Int)) fun z => A [.ro _ evs, .i sc, .i i, .i own, .i rest, .i z, .ro _ rl, .ro _ rc, .i pr, .i ex, .i lo, .i hi, .ro _ rt, .l er, .l ps]) (Need (decide ((0 : Int) ≤ k) && decide (k < (↑(List.length ps) : Int))) (Need (decide (k.toNat < List.length ps)) (Ar .i64 (sc + (1 : Int)) fun z => Vif (!decide ((cel ps k.toNat ((1 : Nat) + (1 : Nat))).int = z)) ((472 : Nat) = (472 : Nat) + (1 : Nat)) (Need (decide ((0 : Int) ≤ k) && decide (k < (↑(List.length ps) : Int))) (Need (decide (k.toNat < List.length ps)) (Vif (!decide ((cel ps k.toNat ((0 : Nat) + (1 : Nat))).int = sc)) (Need (decide ((0 : Int) ≤ k) && decide (k < (↑(List.length ps) : Int))) (Need (decide (k.toNat < List.length ps)) (Ar .i64 (sc + (2 : Int)) fun z => Vif (!decide ((cel ps k.toNat ((0 : Nat) + (1 : Nat))).int = z)) ((472 : Nat) = (472 : Nat) + (1 : Nat)) (Need (decide ((0 : Int) ≤ k) && decide (k < (↑(List.length ps) : Int))) (Need (decide (k.toNat < List.length ps)) (Vif (decide ((cel ps k.toNat ((0 : Nat) + (1 : Nat))).int = sc)) (Need (decide ((0 : Int) ≤ k) && decide (k < (↑(List.length ps) : Int))) (Need (decide (k.toNat < List.length ps)) (Ar .i64 (own + (cel ps k.toNat ((2 : Nat) + (1 : Nat))).int) fun z => Ar .i64 (k + (1 : Int)) fun z_1 => A [.ro _ evs, .i sc, .i i, .i z, .i rest, .i z_1, .ro _ rl, .ro _ rc, .i pr, .i ex, .i lo, .i hi, .ro _ rt, .l er, .l ps]))) (Need (decide ((0 : Int) ≤ k) && decide (k < (↑(List.length ps) : Int))) (Need (decide (k.toNat < List.length ps)) (Ar .i64 (rest + (cel ps k.toNat ((2 : Nat) + (1 : Nat))).int) fun z => Ar .i64 (k + (1 : Int)) fun z_1 => A [.ro _ evs, .i sc, .i i, .i own, .i z, .i z_1, .ro _ rl, .ro _ rc, .i pr, .i ex, .i lo, .i hi, .ro _ rt, .l er, .l ps]))))))))) (Need (decide ((0 : Int) ≤ k) && decide (k < (↑(List.length ps) : Int))) (Need (decide (k.toNat < List.length ps)) (Vif (decide ((cel ps k.toNat ((0 : Nat) + (1 : Nat))).int = sc)) (Need (decide ((0 : Int) ≤ k) && decide (k < (↑(List.length ps) : Int))) (Need (decide (k.toNat < List.length ps)) (Ar .i64 (own + (cel ps k.toNat ((2 : Nat) + (1 : Nat))).int) fun z => Ar .i64 (k + (1 : Int)) fun z_1 => A [.ro _ evs, .i sc, .i i, .i z, .i rest, .i z_1, .ro _ rl, .ro _ rc, .i pr, .i ex, .i lo, .i hi, .ro _ rt, .l er, .l ps]))) (Need (decide ((0 : Int) ≤ k) && decide (k < (↑(List.length ps) : Int))) (Need (decide (k.toNat < List.length ps)) (Ar .i64 (rest + (cel ps k.toNat ((2 : Nat) + (1 : Nat))).int) fun z => Ar .i64 (k + (1 : Int)) fun z_1 => A [.ro _ evs, .i sc, .i i, .i own, .i z, .i z_1, .ro _ rl, .ro _ rc, .i pr, .i ex, .i lo, .i hi, .ro _ rt, .l er, .l ps]))))))))))))))) (K (0 : Nat) [.ro _ evs, .i sc, .i i, .i own, .i rest, .ro _ rl, .ro _ rc, .i pr, .i ex, .i lo, .i hi, .ro _ rt, .l er, .l ps])
theorem vcl_insA (W : InW) (evs : Ro Iv11) (sc : Int) (i : Int) (own : Int) (rest : Int) (k : Int) (rl : Ro [.str]) (rc : Ro Ivs) (pr : Int) (ex : Int) (lo : Int) (hi : Int) (rt : Ro [.int .i64, .int .i64]) (er : Dt) (ps : Dt) (A : List Ed → Prop) (K : Nat → List Ed → Prop) : vcTop { cxT Try.prog TT TPl 1000 50 with fn := 13 } 1000 (loopAt Try.prog 13 15) (tmOut 148 [(1, .rs _ evs), (2, .ptr 1 0), (5, .rw 28), (8, .rw 31), (10, .si .i64 sc), (11, .si .i64 i), (12, .si .i64 own), (13, .si .i64 rest), (14, .si .i64 k)] [4, 71, 72, 73, 74, 75, 76, 77, 78, 79, 80, 81, 82, 83, 84, 85, 86, 87, 88, 89, 90, 91, 92, 93, 94, 95, 96, 97, 98, 99, 100, 101, 102, 103, 104, 105, 106, 107, 108, 109, 110, 111, 112, 113, 114, 115, 116, 117, 118, 119, 120, 121, 122, 123, 124, 125, 126, 127, 128, 129, 130, 131]) [(1, .blk 28 [.rs _ rl, .rs _ rc, .si .i64 pr, .si .i64 ex, .si .i64 lo, .si .i64 hi, .rs _ rt]), (28, .arr 30 [.int .i64] er), (31, .arr 61 Iv4 ps)] (roundL lc_insA A K) = VCL_insA evs sc i own rest k rl rc pr ex lo hi rt er ps A K := by kernel_rfl
def okLt_insA : Prop := ∀ (W : InW) (body a : Code), (Try.prog.funcs[13]?).bind (·.body) = some body → a ∈ loopsIn body → keyOf a = 15 → @LoopOk W Try.prog a (@loopRun W lc_insA)
theorem okl_insA (meas : [InW] → List Ed → Nat) (hyp_ : ∀ (W : InW) (evs : Ro Iv11) (sc : Int) (i : Int) (own : Int) (rest : Int) (k : Int) (rl : Ro [.str]) (rc : Ro Ivs) (pr : Int) (ex : Int) (lo : Int) (hi : Int) (rt : Ro [.int .i64, .int .i64]) (er : Dt) (ps : Dt) (K : Nat → List Ed → Prop), sp_insA [.ro _ evs, .i sc, .i i, .i own, .i rest, .i k, .ro _ rl, .ro _ rc, .i pr, .i ex, .i lo, .i hi, .ro _ rt, .l er, .l ps] K → ∀ A : List Ed → Prop, (∀ e, meas e < meas [.ro _ evs, .i sc, .i i, .i own, .i rest, .i k, .ro _ rl, .ro _ rc, .i pr, .i ex, .i lo, .i hi, .ro _ rt, .l er, .l ps] → sp_insA e K → A e) → VCL_insA evs sc i own rest k rl rc pr ex lo hi rt er ps A K) : okLt_insA :=
  LE.okOf' (fun W => @TT W) (fun W => @TT_ok W) mixed_ok TPl 1000 50 (by kernel_rfl) lc_insA (fun W => @meas W) fun W evs sc i own rest k rl rc pr ex lo hi rt er ps K hs =>
    (vcl_insA W evs sc i own rest k rl rc pr ex lo hi rt er ps (fun e => meas e < meas [.ro _ evs, .i sc, .i i, .i own, .i rest, .i k, .ro _ rl, .ro _ rc, .i pr, .i ex, .i lo, .i hi, .ro _ rt, .l er, .l ps] ∧ sp_insA e K) K).mpr (hyp_ W evs sc i own rest k rl rc pr ex lo hi rt er ps K hs _ fun e h1 h2 => ⟨h1, h2⟩)
namespace Sp
theorem insO_in {ps : Dt} {sc i : Int} (h : InsOk ps sc i) {j : Nat} (hj : j < ps.length) {z M : Int} (hz : 0 ≤ z ∧ z ≤ M) : 0 ≤ insO ps sc i j z ∧ insO ps sc i j z ≤ M + 10000000 := by
  unfold insO
  split
  · rename_i e; have := h.row j hj e.1; omega
  · omega
theorem insR_in {ps : Dt} {sc i : Int} (h : InsOk ps sc i) {j : Nat} (hj : j < ps.length) {z M : Int} (hz : 0 ≤ z ∧ z ≤ M) : 0 ≤ insR ps sc i j z ∧ insR ps sc i j z ≤ M + 10000000 := by
  unfold insR
  split
  · rename_i e; have := h.row j hj e.1; omega
  · omega
end Sp
theorem okLinsA : okLt_insA := okl_insA (fun e => match e with | [_, _, _, _, _, .i k, _, _, _, _, _, _, _, _, .l ps] => ((ps.length : Int) - k).toNat | _ => 0) fun W evs sc i own rest k rl rc pr ex lo hi rt er ps K hs A hA => by
  obtain ⟨⟨h0, h1, h2, h3, h4, hp, b1, b2⟩, hk⟩ := hs
  unfold VCL_insA
  simp only [Nat.zero_add, Nat.reduceAdd]
  refine vifd (fun e => ?_) fun e => ?_
  · have hx : k.toNat < ps.length := by omega
    have c1 := Sp.insO_in hp hx b1
    have c2 := Sp.insR_in hp hx b2
    have hr := hp.row k.toNat hx
    have hA' : A [.ro _ evs, .i sc, .i i, .i (Sp.insO ps sc i k.toNat own), .i (Sp.insR ps sc i k.toNat rest), .i (k + 1), .ro _ rl, .ro _ rc, .i pr, .i ex, .i lo, .i hi, .ro _ rt, .l er, .l ps] := by
      refine hA _ (by show ((ps.length : Int) - (k + 1)).toNat < ((ps.length : Int) - k).toNat; omega) ⟨⟨by omega, by omega, h2, h3, h4, hp, by omega, by omega⟩, ?_⟩
      rw [show ps.length - k.toNat = (ps.length - (k.toNat + 1)) + 1 by omega, Sp.iter, Sp.iter] at hk
      rw [show (k + 1).toNat = k.toNat + 1 by omega]
      exact hk
    clear hA hk hp
    unfold Sp.insO at hA' c1
    unfold Sp.insR at hA' c2
    refine ned (by simp; omega) (nedd hx (vif (fun e1 => ?_) fun e1 => ?_))
    · have e1' := of_decide_eq_false (notT e1)
      rw [if_neg (fun h => e1' h.1), if_neg (fun h => e1' h.1)] at hA'
      exact ar64 (by omega) hA'
    · have e1' := of_decide_eq_true (notF e1)
      have hr := hr e1'
      by_cases e2 : (cel ps k.toNat 1).int = sc
      · rw [if_pos ⟨e1', e2⟩, if_neg (fun h => h.2 e2)] at hA'
        rw [if_pos ⟨e1', e2⟩] at c1
        repeat' (first | refine vifd (fun _ => ?_) fun _ => ?_ | refine vifn (fun _ => ?_) fun _ => ?_ | refine nedd (by omega) ?_ | refine ned (by simp only [Bool.and_eq_true, decide_eq_true_eq]; omega) ?_ | refine ar64 (by omega) ?_ | omega)
        all_goals exact hA'
      · rw [if_neg (fun h => e2 h.2), if_pos ⟨e1', e2⟩] at hA'
        rw [if_pos ⟨e1', e2⟩] at c2
        repeat' (first | refine vifd (fun _ => ?_) fun _ => ?_ | refine vifn (fun _ => ?_) fun _ => ?_ | refine nedd (by omega) ?_ | refine ned (by simp only [Bool.and_eq_true, decide_eq_true_eq]; omega) ?_ | refine ar64 (by omega) ?_ | omega)
        all_goals exact hA'
  · rw [show ps.length - k.toNat = 0 by omega] at hk
    exact hk
noncomputable def le_insA : LE Try.prog := ⟨13, 15, fun W => @loopRun W lc_insA, okLinsA⟩
noncomputable def TKi : Tab Try.prog := ⟨[], [le_insA], []⟩
def sp_insB [InW] (e : List Ed) (K : Nat → List Ed → Prop) : Prop := match e with
  | [.ro _ evs, .i sc, .i i, .ro _ rl, .ro _ rc, .i pr, .i ex, .i lo, .i hi, .ro _ rt, .l er, .l ps] =>
    Pre (0 ≤ i ∧ i ≤ evs.xs.length ∧ evs.xs.length ≤ 1000 ∧ ps.length ≤ 1000 ∧ 0 ≤ sc ∧ sc ≤ 1000 ∧ Sp.CrashOk ps evs.xs er sc ex) (K 0 [])
  | _ => False
noncomputable def lc_insB : LC where
  len := 148
  T := [(1, .rs Iv11), (2, (.ptr 1 0)), (5, (.row 28)), (8, (.row 31)), (10, .int .i64), (11, .int .i64)]
  H := [(1, .blk 28 [.rs [.str], .rs Ivs, .int .i64, .int .i64, .int .i64, .int .i64, .rs [.int .i64, .int .i64]]), (28, .arr 30 [.int .i64]), (31, .arr 61 Iv4)]
  W := [4, 12, 13, 14, 52, 53, 54, 55, 56, 57, 58, 59, 60, 61, 62, 63, 64, 65, 66, 67, 68, 69, 70, 71, 72, 73, 74, 75, 76, 77, 78, 79, 80, 81, 82, 83, 84, 85, 86, 87, 88, 89, 90, 91, 92, 93, 94, 95, 96, 97, 98, 99, 100, 101, 102, 103, 104, 105, 106, 107, 108, 109, 110, 111, 112, 113, 114, 115, 116, 117, 118, 119, 120, 121, 122, 123, 124, 125, 126, 127, 128, 129, 130, 131, 132, 133, 134, 135, 136, 137, 138, 139, 140, 141, 142, 143, 144, 145, 146]
  outs := [⟨.exit 0, [], [], [1, 2, 4, 5, 8, 10, 11, 12, 13, 14, 52, 53, 54, 55, 56, 57, 58, 59, 60, 61, 62, 63, 64, 65, 66, 67, 68, 69, 70, 71, 72, 73, 74, 75, 76, 77, 78, 79, 80, 81, 82, 83, 84, 85, 86, 87, 88, 89, 90, 91, 92, 93, 94, 95, 96, 97, 98, 99, 100, 101, 102, 103, 104, 105, 106, 107, 108, 109, 110, 111, 112, 113, 114, 115, 116, 117, 118, 119, 120, 121, 122, 123, 124, 125, 126, 127, 128, 129, 130, 131, 132, 133, 134, 135, 136, 137, 138, 139, 140, 141, 142, 143, 144, 145, 146]⟩]
  spec := sp_insB
def VCL_insB [W : InW] (evs : Ro Iv11) (sc : Int) (i : Int) (rl : Ro [.str]) (rc : Ro Ivs) (pr : Int) (ex : Int) (lo : Int) (hi : Int) (rt : Ro [.int .i64, .int .i64]) (er : Dt) (ps : Dt) (A : List Ed → Prop) (K : Nat → List Ed → Prop) : Prop :=
  Vif (decide (i < (↑(List.length evs.xs) : Int))) (Need (decide ((0 : Int) ≤ i) && decide (i < (↑(List.length evs.xs) : Int))) (Need (decide (i.toNat < List.length evs.xs)) (Vif (!decide ((cel evs.xs i.toNat (0 : Nat)).int = (5 : Int))) (Ar .i64 (i + (1 : Int)) fun z => A [.ro _ evs, .i sc, .i z, .ro _ rl, .ro _ rc, .i pr, .i ex, .i lo, .i hi, .ro _ rt, .l er, .l ps]) (Need (decide ((0 : Int) ≤ i) && decide (i < (↑(List.length er) : Int))) (Need (decide (i.toNat < List.length er)) (Vif (!decide ((cel er i.toNat (0 : Nat)).int = (0 : Int))) (Ar .i64 (i + (1 : Int)) fun z => A [.ro _ evs, .i sc, .i z, .ro _ rl, .ro _ rc, .i pr, .i ex, .i lo, .i hi, .ro _ rt, .l er, .l ps]) (Pre ((0 : Int) ≤ (0 : Int) ∧ (0 : Int) ≤ (↑(List.length ps) : Int) ∧ List.length ps ≤ (1000 : Nat) ∧ (0 : Int) ≤ sc ∧ sc ≤ (1000 : Int) ∧ Sp.InsOk ps sc i ∧ ((0 : Int) ≤ (0 : Int) ∧ (0 : Int) ≤ (10000000 : Int) * (0 : Int)) ∧ (0 : Int) ≤ (0 : Int) ∧ (0 : Int) ≤ (10000000 : Int) * (0 : Int)) (Vif (decide (ex < Sp.iter (Sp.insO ps sc i) (List.length ps - Int.toNat (0 : Int)) (Int.toNat (0 : Int)) (0 : Int))) ((472 : Nat) = (472 : Nat) + (1 : Nat)) (Ar .i64 (Sp.iter (Sp.insO ps sc i) (List.length ps - Int.toNat (0 : Int)) (Int.toNat (0 : Int)) (0 : Int) + Sp.iter (Sp.insR ps sc i) (List.length ps - Int.toNat (0 : Int)) (Int.toNat (0 : Int)) (0 : Int)) fun z => Need (decide ((0 : Int) ≤ i) && decide (i < (↑(List.length evs.xs) : Int))) (Need (decide (i.toNat < List.length evs.xs)) (Vif (!decide (z = (cel evs.xs i.toNat ((9 : Nat) + (1 : Nat))).int)) ((472 : Nat) = (472 : Nat) + (1 : Nat)) (Ar .i64 (i + (1 : Int)) fun z => A [.ro _ evs, .i sc, .i z, .ro _ rl, .ro _ rc, .i pr, .i ex, .i lo, .i hi, .ro _ rt, .l er, .l ps])))))))))))) (K (0 : Nat) [])
theorem vcl_insB (W : InW) (evs : Ro Iv11) (sc : Int) (i : Int) (rl : Ro [.str]) (rc : Ro Ivs) (pr : Int) (ex : Int) (lo : Int) (hi : Int) (rt : Ro [.int .i64, .int .i64]) (er : Dt) (ps : Dt) (A : List Ed → Prop) (K : Nat → List Ed → Prop) : vcTop { cxT Try.prog TT TKi 1000 50 with fn := 13 } 1000 (loopAt Try.prog 13 10) (tmOut 148 [(1, .rs _ evs), (2, .ptr 1 0), (5, .rw 28), (8, .rw 31), (10, .si .i64 sc), (11, .si .i64 i)] [4, 12, 13, 14, 52, 53, 54, 55, 56, 57, 58, 59, 60, 61, 62, 63, 64, 65, 66, 67, 68, 69, 70, 71, 72, 73, 74, 75, 76, 77, 78, 79, 80, 81, 82, 83, 84, 85, 86, 87, 88, 89, 90, 91, 92, 93, 94, 95, 96, 97, 98, 99, 100, 101, 102, 103, 104, 105, 106, 107, 108, 109, 110, 111, 112, 113, 114, 115, 116, 117, 118, 119, 120, 121, 122, 123, 124, 125, 126, 127, 128, 129, 130, 131, 132, 133, 134, 135, 136, 137, 138, 139, 140, 141, 142, 143, 144, 145, 146]) [(1, .blk 28 [.rs _ rl, .rs _ rc, .si .i64 pr, .si .i64 ex, .si .i64 lo, .si .i64 hi, .rs _ rt]), (28, .arr 30 [.int .i64] er), (31, .arr 61 Iv4 ps)] (roundL lc_insB A K) = VCL_insB evs sc i rl rc pr ex lo hi rt er ps A K := by kernel_rfl
def okLt_insB : Prop := ∀ (W : InW) (body a : Code), (Try.prog.funcs[13]?).bind (·.body) = some body → a ∈ loopsIn body → keyOf a = 10 → @LoopOk W Try.prog a (@loopRun W lc_insB)
theorem okl_insB (meas : [InW] → List Ed → Nat) (hyp_ : ∀ (W : InW) (evs : Ro Iv11) (sc : Int) (i : Int) (rl : Ro [.str]) (rc : Ro Ivs) (pr : Int) (ex : Int) (lo : Int) (hi : Int) (rt : Ro [.int .i64, .int .i64]) (er : Dt) (ps : Dt) (K : Nat → List Ed → Prop), sp_insB [.ro _ evs, .i sc, .i i, .ro _ rl, .ro _ rc, .i pr, .i ex, .i lo, .i hi, .ro _ rt, .l er, .l ps] K → ∀ A : List Ed → Prop, (∀ e, meas e < meas [.ro _ evs, .i sc, .i i, .ro _ rl, .ro _ rc, .i pr, .i ex, .i lo, .i hi, .ro _ rt, .l er, .l ps] → sp_insB e K → A e) → VCL_insB evs sc i rl rc pr ex lo hi rt er ps A K) : okLt_insB :=
  LE.okOf' (fun W => @TT W) (fun W => @TT_ok W) mixed_ok TKi 1000 50 (by kernel_rfl) lc_insB (fun W => @meas W) fun W evs sc i rl rc pr ex lo hi rt er ps K hs =>
    (vcl_insB W evs sc i rl rc pr ex lo hi rt er ps (fun e => meas e < meas [.ro _ evs, .i sc, .i i, .ro _ rl, .ro _ rc, .i pr, .i ex, .i lo, .i hi, .ro _ rt, .l er, .l ps] ∧ sp_insB e K) K).mpr (hyp_ W evs sc i rl rc pr ex lo hi rt er ps K hs _ fun e h1 h2 => ⟨h1, h2⟩)
theorem okLinsB : okLt_insB := okl_insB (fun e => match e with | .ro _ evs :: _ :: .i i :: _ => ((evs.xs.length : Int) - i).toNat | _ => 0) fun W evs sc i rl rc pr ex lo hi rt er ps K hs A hA => by
  obtain ⟨⟨h0, h1, h2, h3, h4, h5, hp⟩, hk⟩ := hs
  unfold VCL_insB
  simp only [Nat.zero_add, Nat.reduceAdd]
  have hel := hp.errs
  refine vifd (fun e => ?_) fun e => hk
  have hx : i.toNat < evs.xs.length := by omega
  have hA' : A [.ro _ evs, .i sc, .i (i + 1), .ro _ rl, .ro _ rc, .i pr, .i ex, .i lo, .i hi, .ro _ rt, .l er, .l ps] :=
    hA _ (by show ((evs.xs.length : Int) - (i + 1)).toNat < ((evs.xs.length : Int) - i).toNat; omega) ⟨⟨by omega, by omega, h2, h3, h4, h5, hp⟩, hk⟩
  refine ned (by simp; omega) (nedd hx (vifn (fun _ => ar64 (by omega) hA') fun e1 => ned (by simp; omega) (nedd (by omega) (vifn (fun _ => ar64 (by omega) hA') fun e2 => ?_))))
  obtain ⟨r1, r2, r3, r4⟩ := hp.row i.toNat hx e1 e2
  rw [Int.toNat_of_nonneg h0] at r1 r2 r3
  simp only [show Int.toNat 0 = 0 from rfl, Nat.sub_zero]
  exact ⟨⟨by omega, by omega, h3, h4, h5, r1, by omega, by omega⟩, vifd (fun _ => by omega) fun _ => ar64 (by omega) (ned (by simp; omega) (nedd hx (vifn (fun x => absurd r3 x) fun _ => ar64 (by omega) hA')))⟩
noncomputable def le_insB : LE Try.prog := ⟨13, 10, fun W => @loopRun W lc_insB, okLinsB⟩
noncomputable def TKj : Tab Try.prog := ⟨[pc_bRun, pc_bPost, pc_valid, pc_Awake], [le_insB], []⟩
def VC_lawIns [W : InW] (s_Learners : Ro [.str]) (s_Cars : Ro Ivs) (s_Price : Int) (s_Excess : Int) (s_Lo : Int) (s_Hi : Int) (s_Terms : Ro [.int .i64, .int .i64]) (evs : Ro Iv11) (Q : DS → Prop) : Prop :=
  Pre True (Pre True (Vif (!decide (Sp.rErr ⟨s_Learners.xs, s_Cars.xs, s_Price, s_Excess, s_Lo, s_Hi, s_Terms.xs⟩ evs.xs = (0 : Int))) (Vif (!decide (Sp.rErr ⟨s_Learners.xs, s_Cars.xs, s_Price, s_Excess, s_Lo, s_Hi, s_Terms.xs⟩ evs.xs = (0 : Int))) (Pre True (Q [[Cl.b true]])) (Q [[Cl.b false]])) (Pre (Sp.NamesOk s_Learners.xs ∧ Sp.NamesOk s_Cars.xs) (Vif (!decide (Sp.chkE s_Learners.xs s_Cars.xs s_Price s_Excess s_Lo s_Hi s_Terms.xs = (0 : Int))) (Vif (!decide (Sp.rErr ⟨s_Learners.xs, s_Cars.xs, s_Price, s_Excess, s_Lo, s_Hi, s_Terms.xs⟩ evs.xs = (0 : Int))) (Pre True (Q [[Cl.b true]])) (Q [[Cl.b false]])) (Vif (!decide (Sp.rErr ⟨s_Learners.xs, s_Cars.xs, s_Price, s_Excess, s_Lo, s_Hi, s_Terms.xs⟩ evs.xs = (0 : Int))) (Q [[Cl.b false]]) (Vif (!decide ((↑(List.length (Sp.rE ⟨s_Learners.xs, s_Cars.xs, s_Price, s_Excess, s_Lo, s_Hi, s_Terms.xs⟩ evs.xs)) : Int) = (↑(List.length evs.xs) : Int))) (Q [[Cl.b false]]) (Pre ((0 : Int) ≤ (0 : Int) ∧ (0 : Int) ≤ (↑(List.length evs.xs) : Int) ∧ List.length evs.xs ≤ (1000 : Nat) ∧ List.length (Sp.rB ⟨s_Learners.xs, s_Cars.xs, s_Price, s_Excess, s_Lo, s_Hi, s_Terms.xs⟩ evs.xs).ps ≤ (1000 : Nat) ∧ (0 : Int) ≤ (↑(List.length s_Learners.xs) : Int) ∧ (↑(List.length s_Learners.xs) : Int) ≤ (1000 : Int) ∧ Sp.CrashOk (Sp.rB ⟨s_Learners.xs, s_Cars.xs, s_Price, s_Excess, s_Lo, s_Hi, s_Terms.xs⟩ evs.xs).ps evs.xs (Sp.rE ⟨s_Learners.xs, s_Cars.xs, s_Price, s_Excess, s_Lo, s_Hi, s_Terms.xs⟩ evs.xs) (↑(List.length s_Learners.xs) : Int) s_Excess) (Pre True (Q [[Cl.b true]])))))))))
theorem vc_lawIns (W : InW) (s_Learners : Ro [.str]) (s_Cars : Ro Ivs) (s_Price : Int) (s_Excess : Int) (s_Lo : Int) (s_Hi : Int) (s_Terms : Ro [.int .i64, .int .i64]) (evs : Ro Iv11) (Q : DS → Prop) : bodyK (cxT Try.prog TT TKj 1000 50) 1000 13 [.agg [.rs _ s_Learners, .rs _ s_Cars, .si .i64 s_Price, .si .i64 s_Excess, .si .i64 s_Lo, .si .i64 s_Hi, .rs _ s_Terms], .rs _ evs] [] 0 (leafK [(false, [.bool])] Q) (fun _ _ _ _ => Stuck 421) = VC_lawIns s_Learners s_Cars s_Price s_Excess s_Lo s_Hi s_Terms evs Q := by kernel_rfl
abbrev ats_lawIns : List AT := [.agg [.sl [.str], .sl Ivs, .int .i64, .int .i64, .int .i64, .int .i64, .sl [.int .i64, .int .i64]], .one (.sl Iv11)]
theorem ok_lawIns {pre : DS → Prop} {res : DS → DS} (hyp_ : ∀ (W : InW) (s_Learners : Ro [.str]) (s_Cars : Ro Ivs) (s_Price : Int) (s_Excess : Int) (s_Lo : Int) (s_Hi : Int) (s_Terms : Ro [.int .i64, .int .i64]) (evs : Ro Iv11), pre [[.l s_Learners.xs, .l s_Cars.xs, .i s_Price, .i s_Excess, .i s_Lo, .i s_Hi, .l s_Terms.xs], [.l evs.xs]] → ∀ Q : DS → Prop, Q (res [[.l s_Learners.xs, .l s_Cars.xs, .i s_Price, .i s_Excess, .i s_Lo, .i s_Hi, .l s_Terms.xs], [.l evs.xs]]) → VC_lawIns s_Learners s_Cars s_Price s_Excess s_Lo s_Hi s_Terms evs Q) : PureOk Try.prog 13 ats_lawIns [(false, [.bool])] pre res :=
  PureOk.of' (fun W => @TT W) (fun W => @TT_ok W) mixed_ok TKj 1000 50 fun W s_Learners s_Cars s_Price s_Excess s_Lo s_Hi s_Terms evs hp =>
    (vc_lawIns W s_Learners s_Cars s_Price s_Excess s_Lo s_Hi s_Terms evs (fun o => o = res [[.l s_Learners.xs, .l s_Cars.xs, .i s_Price, .i s_Excess, .i s_Lo, .i s_Hi, .l s_Terms.xs], [.l evs.xs]])).mpr (hyp_ W s_Learners s_Cars s_Price s_Excess s_Lo s_Hi s_Terms evs hp _ rfl)
end Go.Proofs.Ytiiicnhjjfmpkaa
namespace Go.Proofs.Ytiiicnhjjfmpkaa
open Go.RowKit
set_option linter.unusedVariables false
set_option maxRecDepth 100000
namespace Sp
theorem sumR_postL {f : List Cl → Int} {ev u v c t : Int} (h : c = 0 → t = 0) (h2 : f [.i ev, .i u, .i v, .i c] = t) : sumR f (postL ev u v c) = t := by
  unfold postL
  split
  · rename_i e; rw [h e]; rfl
  · rw [sumR, h2]; show t + 0 = t; omega
theorem crash_ok {s : Sch} {evs : Dt} (h : rErr s evs = 0) : CrashOk (runAll s evs).ps evs (errAll s evs) s.rl.length s.ex := by
  refine ⟨errAll_len _ _, fun i hi hk he => ?_⟩
  obtain ⟨l, h1, h2, h3⟩ := ps_split h hi
  rw [if_pos he] at h1
  obtain ⟨d1, _, _, d4, _⟩ := done_ok hi he
  have hk' : (evt evs i).kind = 5 := hk
  have hex := (rErr_ok h).1.excess
  have hm : 0 ≤ (evt evs i).m ∧ (evt evs i).m ≤ 10000000 := by
    rcases err_ok d1 d4 with ⟨k, e⟩ | ⟨k, e, f⟩ | ⟨k, e, f⟩ | ⟨k, e, f, g, q⟩ | ⟨k, e, f⟩ | ⟨k, e, f⟩ | ⟨k, e, f⟩
    all_goals first | exact f | (rw [hk'] at k; exact absurd k (by decide))
  have hN : newP s (bk s evs i) i (evt evs i) = postL i (school s) (school s + 1) (min (evt evs i).m s.ex) ++ postL i (school s + 2) (school s + 1) ((evt evs i).m - min (evt evs i).m s.ex) := by simp [newP, hk']
  have hs : school s = s.rl.length := rfl
  rw [hN, hs] at h1
  have mem : ∀ (r : List Cl), r ∈ (runAll s evs).ps → rI r 0 = i → rI r 2 = (s.rl.length : Int) + 1 ∧ (rI r 1 = s.rl.length ∨ rI r 1 = (s.rl.length : Int) + 2) ∧ 0 ≤ rI r 3 ∧ rI r 3 ≤ 10000000 := fun r hr e => by
    rw [h1] at hr
    rcases List.mem_append.1 hr with hr | hr
    · have := h2 r hr; omega
    rcases List.mem_append.1 hr with hr | hr
    · rcases List.mem_append.1 hr with hr | hr
      · unfold postL at hr
        split at hr
        · cases hr
        · simp at hr; rw [hr]
          refine ⟨rfl, .inl rfl, ?_⟩
          show 0 ≤ min (evt evs i).m s.ex ∧ min (evt evs i).m s.ex ≤ _
          omega
      · unfold postL at hr
        split at hr
        · cases hr
        · simp at hr; rw [hr]
          refine ⟨rfl, .inr rfl, ?_⟩
          show 0 ≤ (evt evs i).m - min (evt evs i).m s.ex ∧ (evt evs i).m - min (evt evs i).m s.ex ≤ _
          omega
    · have := h3 r hr; omega
  have sO : iter (insO (runAll s evs).ps s.rl.length i) (runAll s evs).ps.length 0 0 = min (evt evs i).m s.ex := by
    rw [iter_sum0 (f := fun r => if rI r 0 = i ∧ rI r 1 = s.rl.length then rI r 3 else 0) _ (fun j z hj => by
      unfold insO
      simp only [cel_rI]
      split <;> omega), h1, sumR_app, sumR_app, sumR_app, sumR_none _ (fun r hr => if_neg (fun x => by have := h2 r hr; omega)), sumR_none l (fun r hr => if_neg (fun x => by have := h3 r hr; omega))]
    rw [sumR_postL (t := min (evt evs i).m s.ex) (fun x => x) (if_pos ⟨rfl, rfl⟩), sumR_postL (t := 0) (fun x => rfl) (if_neg (fun x => by have : (s.rl.length : Int) + 2 = s.rl.length := x.2; omega))]
    omega
  have sR : iter (insR (runAll s evs).ps s.rl.length i) (runAll s evs).ps.length 0 0 = (evt evs i).m - min (evt evs i).m s.ex := by
    rw [iter_sum0 (f := fun r => if rI r 0 = i ∧ ¬ rI r 1 = s.rl.length then rI r 3 else 0) _ (fun j z hj => by
      unfold insR
      simp only [cel_rI]
      split <;> omega), h1, sumR_app, sumR_app, sumR_app, sumR_none _ (fun r hr => if_neg (fun x => by have := h2 r hr; omega)), sumR_none l (fun r hr => if_neg (fun x => by have := h3 r hr; omega))]
    rw [sumR_postL (t := 0) (fun x => rfl) (if_neg (fun x => x.2 rfl)), sumR_postL (t := (evt evs i).m - min (evt evs i).m s.ex) (fun x => x) (if_pos ⟨rfl, fun x => by have : (s.rl.length : Int) + 2 = s.rl.length := x; omega⟩)]
    omega
  refine ⟨⟨fun j hj e => row_mem (P := fun r => rI r 0 = i → _) mem j hj e⟩, by rw [sO]; omega, ?_, hm⟩
  rw [sO, sR]
  show _ = (evt evs i).m
  omega
end Sp
theorem insured_pure : PureOk Try.prog 13 ats_lawIns [(false, [.bool])] (WfD ats_lawIns) fun _ => [[.b true]] :=
  ok_lawIns fun W rl rc pr ex lo hi rt evs hp Q h => by
    obtain ⟨d, ds, e1, hp1, _⟩ := hp
    cases e1
    have hn := school_names hp1
    unfold VC_lawIns
    by_cases e : Sp.rErr ⟨rl.xs, rc.xs, pr, ex, lo, hi, rt.xs⟩ evs.xs = 0
    · have hc := (Sp.rErr_ok e).1
      have hz : Sp.chkE rl.xs rc.xs pr ex lo hi rt.xs = 0 := Sp.rErr_chk e
      obtain ⟨hL, hI, h60, hs⟩ := Sp.rB_led e
      have hl := hc.learners
      have hq := hI.ps
      have hk := Sp.crash_ok e
      simp only at hl hk
      rw [← Sp.rB_ok e, ← Sp.rE_ok e] at hk
      refine ⟨trivial, trivial, vif (fun x => absurd e (by simpa using x)) fun _ => ⟨hn, vif (fun x => absurd hz (by simpa using x)) fun _ => vif (fun x => absurd e (by simpa using x)) fun _ => vifn (fun x => absurd ?_ x) fun _ => ⟨⟨by omega, by omega, by omega, by omega, by omega, by omega, hk⟩, trivial, h⟩⟩⟩
      rw [Sp.rE_ok e, Sp.errAll_len]
    · simp [Vif_iff, Pre_iff, e, Sp.rB_no e, Sp.rE_no e, h]
end Go.Proofs.Ytiiicnhjjfmpkaa
namespace Go.Proofs.Ytiiicnhjjfmpkaa.bookInsured
open Go.ChangeShapes Go.WideShapes Go.ChangeAt Go.RowKit
set_option linter.unusedVariables false
set_option maxRecDepth 100000
theorem own : ownKnob Try.prog.godebug = none := by kernel_rfl
theorem laid : laidOutB Try.prog = true := by kernel_rfl
theorem lifted (os : Os) (started : os.Started) (H : Type) (enc : TypeId × Value → H) :
    ReturnsInHanded {} Try.checked os 13 .any (Rows.bookInsuredSpec.pre6 enc Try.prog Try.f13 Rows.bookInsuredRow.domain false) (Rows.bookInsuredSpec.post enc Try.prog Try.f13 false true false false) := by
  refine returnsInHanded_of_change (C := Try.checked) own started (by kernel_rfl) Try.func13
    (ChangeSpec.witness6 (enc := enc) (C := Try.checked) false ⟨#[], #[(.agg #[.slice none 0 0, .slice none 0 0, .int .i64 0, .int .i64 0, .int .i64 0, .int .i64 0, .slice none 0 0]), (.slice none 0 0)], []⟩ 8 (by kernel_rfl) (by kernel_rfl) (by kernel_rfl) (by kernel_rfl)) ?_
  intro W base args ds gs before hval hW _ _
  exact law_end (f := Try.f13) (s := Rows.bookInsuredSpec) (by kernel_rfl) Try.underlying4 (by kernel_rfl) rfl laid (by kernel_rfl)
    (fun ds h => by match ds, (show ds.length = 2 from h) with | [_, _], _ => exact ⟨rfl, rfl, rfl⟩) insured_pure hval hW
theorem over : Rows.bookInsuredRow.holds Try.pinned (OpenSpec.ofChange Rows.bookInsuredSpec) :=
  OpenClaim.holds_of_wide 13 Try.f13 rfl rfl rfl rfl rfl rfl rfl ⟨rfl, rfl, rfl, rfl, rfl⟩ rfl rfl rfl rfl rfl (by kernel_rfl) Try.func13 (by kernel_rfl)
    (of_decide_eq_true (by kernel_rfl)) (by unfold Func.isWrapper; first | (rw [if_pos (by decide +kernel)]; kernel_rfl) | (rw [if_neg (by decide +kernel)]; exact ⟨rfl, rfl⟩))
    (fun os started H enc _ => lifted os started H enc)
theorem proved : Rows.BookInsuredSaid := over
end Go.Proofs.Ytiiicnhjjfmpkaa.bookInsured
