/-
  'BookHours': for every input the law returns true, and what is handed in reads as before. No condition.
-/
import Derived.Test.YtiiicnhjjfmpkaaQf
import Derived.Test.YtiiicnhjjfmpkaaRows
import Derived.WalkKit
import Derived.ProofKit
set_option linter.unusedVariables false
set_option linter.unusedSectionVars false
set_option linter.unusedSimpArgs false
namespace Go.Proofs.Ytiiicnhjjfmpkaa
open Go.RowKit
set_option linter.unusedVariables false
set_option maxRecDepth 100000
namespace Sp
def pays (ps : Dt) : Nat → Nat → Dt → Dt
  | 0, _, h => h
  | n + 1, i, h => pays ps n (i + 1) (addA (addA h (cel ps i 1).int (-(cel ps i 3).int)) (cel ps i 2).int (cel ps i 3).int)
structure PsOk (na n : Int) (ps : Dt) : Prop where
  row : ∀ j, j < ps.length → (0 ≤ (cel ps j 0).int ∧ (cel ps j 0).int < n) ∧ (0 ≤ (cel ps j 1).int ∧ (cel ps j 1).int < na) ∧ (0 ≤ (cel ps j 2).int ∧ (cel ps j 2).int < na) ∧ (cel ps j 1).int ≠ (cel ps j 2).int ∧ (0 < (cel ps j 3).int ∧ (cel ps j 3).int ≤ 10000000)
  up : ∀ j, j + 1 < ps.length → (cel ps j 0).int ≤ (cel ps (j + 1) 0).int
def sumI (a : Dt) : Nat → Nat → Int
  | _, 0 => 0
  | i, n + 1 => (cel a i 0).int + sumI a (i + 1) n
end Sp
end Go.Proofs.Ytiiicnhjjfmpkaa
namespace Go.Proofs.Ytiiicnhjjfmpkaa
set_option linter.unusedVariables false
namespace Sp
theorem runB_ind {s : Sch} {evs : Dt} {P : Int → Bks → Prop} (hs : ∀ (i : Int) (b : Bks), 0 ≤ i → i < evs.length → Inv s b i → P i b → P (i + 1) (doB s b i (evt evs i))) : ∀ (n : Nat) (i : Int) (b : Bks), 0 ≤ i → i + n ≤ 60 → i + n ≤ evs.length → Inv s b i → P i b → P (i + n) (runB s evs n i b)
  | 0, i, b, h0, _, _, hI, h => by simpa [runB] using h
  | n + 1, i, b, h0, h1, h2, hI, h => by
    rw [show i + ((n + 1 : Nat) : Int) = i + 1 + n by omega]
    exact runB_ind hs n (i + 1) _ (by omega) (by omega) (by omega) (hI.step (by omega) _) (hs i b h0 (by omega) hI h)
theorem run_ind {s : Sch} {evs : Dt} {P : Int → Bks → Prop} (h : rErr s evs = 0) (h0 : P 0 (open0 s)) (hs : ∀ (i : Int) (b : Bks), 0 ≤ i → i < evs.length → Inv s b i → P i b → P (i + 1) (doB s b i (evt evs i))) : P evs.length (runAll s evs) := by
  obtain ⟨h1, h2⟩ := rErr_ok h
  have := runB_ind hs evs.length 0 (open0 s) (by omega) (by omega) (by omega) (Inv.zero h1) h0
  rw [Int.zero_add] at this
  exact this
theorem doB_cases {s : Sch} {b : Bks} {n : Int} {x : Evt} {P : Bks → Prop} (h0 : P b) (h1 : P { b with ev := n }) (h2 : inr x.kind 0 6 = true → b.tm ≤ x.at_ → x.at_ ≤ 4800 → err s b x = 0 → P { eff s { b with ev := n } x with tm := x.at_ }) : P (doB s b n x) := by
  unfold doB
  split
  · exact h0
  rename_i e1
  split
  · exact h0
  rename_i e2
  simp only [Bool.not_eq_true, Bool.not_eq_false'] at e1 e2
  have ht := inr_iff.1 e2
  split
  · rename_i e3
    exact h2 e1 ht.1 ht.2 e3
  · exact h1
theorem rB_ok {s : Sch} {evs : Dt} (h : rErr s evs = 0) : rB s evs = runAll s evs := if_pos h
theorem rB_no {s : Sch} {evs : Dt} (h : ¬ rErr s evs = 0) : rB s evs = ⟨[], [], [], [], [], [], 0, 0⟩ := if_neg h
theorem rE_ok {s : Sch} {evs : Dt} (h : rErr s evs = 0) : rE s evs = errAll s evs := if_pos h
theorem rE_no {s : Sch} {evs : Dt} (h : ¬ rErr s evs = 0) : rE s evs = [] := if_neg h
theorem sumI_set (a : Dt) (v : Int) (i : Nat) (hi : i < a.length) : ∀ (n k : Nat), sumI (a.set i [.i v]) k n = sumI a k n + if k ≤ i ∧ i < k + n then v - (cel a i 0).int else 0
  | 0, k => by simp [sumI]; omega
  | n + 1, k => by
    unfold sumI
    rw [sumI_set a v i hi n (k + 1), cel_set]
    by_cases h : i = k
    · subst h
      rw [if_pos ⟨rfl, hi⟩, if_neg (by omega), if_pos (by omega)]
      show v + _ = _
      omega
    · rw [if_neg (fun e => h e.1)]
      by_cases h2 : k + 1 ≤ i ∧ i < k + 1 + n
      · rw [if_pos h2, if_pos (by omega)]; omega
      · rw [if_neg h2, if_neg (by omega)]; omega
theorem sumI_addA (a : Dt) (i c : Int) (h : 0 ≤ i ∧ i < a.length) : sumI (addA a i c) 0 a.length = sumI a 0 a.length + c := by
  unfold addA
  rw [sumI_set a _ i.toNat (by omega), if_pos (by omega)]
  omega
theorem sumI_zero (n : Nat) : ∀ (m k : Nat), sumI (List.replicate n [.i 0]) k m = 0
  | 0, _ => rfl
  | m + 1, k => by
    unfold sumI
    rw [sumI_zero n m, cel_rep]
    split <;> rfl
theorem pays_app (ps : Dt) (r : List Cl) : ∀ (n i : Nat) (h : Dt), i + n = ps.length → pays (ps ++ [r]) (n + 1) i h = addA (addA (pays ps n i h) (r.getD 1 .z).int (-(r.getD 3 .z).int)) (r.getD 2 .z).int (r.getD 3 .z).int
  | 0, i, h, e => by
    have : ∀ k, cel (ps ++ [r]) i k = r.getD k .z := fun k => by
      rw [show i = ps.length by omega]
      simp [cel, List.getD_eq_getElem?_getD]
    simp only [pays, this]
  | n + 1, i, h, e => by
    have : ∀ k, cel (ps ++ [r]) i k = cel ps i k := fun k => by simp [cel, List.getD_eq_getElem?_getD, List.getElem?_append_left (show i < ps.length by omega)]
    rw [pays, pays_app ps r n (i + 1) _ (by omega), this, this, this]
    rfl
structure Led (s : Sch) (b : Bks) (n : Int) : Prop where
  ac : b.ac = pays b.ps b.ps.length 0 (List.replicate (s.rl.length + 4) [.i 0])
  ps : PsOk ((s.rl.length : Int) + 4) n b.ps
  sum : sumI b.ac 0 b.ac.length = 0
theorem PsOk.up1 {na n : Int} {ps : Dt} (h : PsOk na n ps) : PsOk na (n + 1) ps := ⟨fun j hj => by have := h.row j hj; exact ⟨by omega, this.2⟩, h.up⟩
theorem PsOk.post {na n : Int} {ps : Dt} (h : PsOk na (n + 1) ps) (h0 : 0 ≤ n) {u v c : Int} (hu : 0 ≤ u ∧ u < na) (hv : 0 ≤ v ∧ v < na) (hn : u ≠ v) (hc : 0 ≤ c ∧ c ≤ 10000000) : PsOk na (n + 1) (postP ps n u v c) := by
  unfold postP
  split
  · exact h
  · rename_i e
    have a1 : ∀ j k, j < ps.length → cel (ps ++ [[Cl.i n, .i u, .i v, .i c]]) j k = cel ps j k := fun j k hj => by simp [cel, List.getD_eq_getElem?_getD, List.getElem?_append_left hj]
    have a2 : ∀ k, cel (ps ++ [[Cl.i n, .i u, .i v, .i c]]) ps.length k = [Cl.i n, .i u, .i v, .i c].getD k .z := fun k => by simp [cel, List.getD_eq_getElem?_getD]
    refine ⟨fun j hj => ?_, fun j hj => ?_⟩
    · simp only [List.length_append, List.length_singleton] at hj
      by_cases hj' : j < ps.length
      · simp only [a1 j _ hj']; exact h.row j hj'
      · rw [show j = ps.length by omega]
        simp only [a2]
        exact ⟨⟨h0, by show n < n + 1; omega⟩, hu, hv, hn, by show 0 < c ∧ c ≤ _; omega⟩
    · simp only [List.length_append, List.length_singleton] at hj
      by_cases hj' : j + 1 < ps.length
      · rw [a1 _ _ hj', a1 _ _ (by omega)]; exact h.up j hj'
      · rw [a1 _ _ (by omega), show j + 1 = ps.length by omega, a2]
        have := (h.row j (by omega)).1.2
        show _ ≤ n
        omega
theorem Led.post {s : Sch} {b : Bks} {n : Int} (h : Led s b (n + 1)) (h0 : 0 ≤ n) (he : b.ev = n) (hl : b.ac.length = s.rl.length + 4) {u v c : Int} (hu : 0 ≤ u ∧ u < (s.rl.length : Int) + 4) (hv : 0 ≤ v ∧ v < (s.rl.length : Int) + 4) (hn : u ≠ v) (hc : 0 ≤ c ∧ c ≤ 10000000) : Led s (b.post u v c) (n + 1) := by
  refine ⟨?_, ?_, ?_⟩
  · show postA b.ac u v c = pays (postP b.ps b.ev u v c) (postP b.ps b.ev u v c).length 0 _
    unfold postA postP
    split
    · exact h.ac
    · rw [List.length_append, List.length_singleton, pays_app b.ps _ b.ps.length 0 _ (by omega), ← h.ac]
      rfl
  · show PsOk _ _ (postP b.ps b.ev u v c)
    rw [he]
    exact h.ps.post h0 hu hv hn hc
  · show sumI (postA b.ac u v c) 0 (postA b.ac u v c).length = 0
    rw [postA_len]
    unfold postA
    split
    · exact h.sum
    · have e1 := sumI_addA b.ac u (-c) (by omega)
      have e2 := sumI_addA (addA b.ac u (-c)) v c (by rw [addA_len]; omega)
      rw [addA_len] at e2
      rw [e2, e1, h.sum]
      omega
theorem Led.up1 {s : Sch} {b : Bks} {n : Int} (h : Led s b n) : Led s b (n + 1) := ⟨h.ac, h.ps.up1, h.sum⟩
theorem led_step {s : Sch} {b : Bks} {n : Int} (x : Evt) (hI : Inv s b n) (h : Led s b n) : Led s (doB s b n x) (n + 1) := by
  have h0 := hI.nn.1
  have hu := h.up1
  have hL := hI.sch.learners
  refine doB_cases (P := fun B => Led s B (n + 1)) hu ⟨hu.ac, hu.ps, hu.sum⟩ fun hk t1 t2 he => ?_
  have fin : ∀ B : Bks, Led s B (n + 1) → Led s { B with tm := x.at_ } (n + 1) := fun B h => ⟨h.ac, h.ps, h.sum⟩
  refine fin _ ?_
  have hS : school s = s.rl.length := rfl
  have start : ∀ B : Bks, B.ac = b.ac → B.ps = b.ps → Led s B (n + 1) := fun B e1 e2 => ⟨by rw [e1, e2]; exact hu.ac, by rw [e2]; exact hu.ps, by rw [e1]; exact hu.sum⟩
  rcases err_ok hk he with ⟨k, e⟩ | ⟨k, e, f⟩ | ⟨k, e, f⟩ | ⟨k, e, f, g, q⟩ | ⟨k, e, f⟩ | ⟨k, e, f⟩ | ⟨k, e, f⟩
  · rw [show eff s { b with ev := n } x = { b with ev := n, ls := b.ls ++ [[.i x.l, .i x.c, .i x.s, .i x.h, .i 0]] } by simp [eff, k]]
    exact start _ rfl rfl
  · rw [eff1 k]
    have hr := hI.row e
    have hf := fee_in hI.sch.fees hr.2.2.2 hI.sch.price ((cel b.ls x.b.toNat 2).int - x.at_)
    exact (start { b with ev := n, ls := setSt b.ls x.b 1 } rfl rfl).post h0 rfl hI.ac.1 (by show 0 ≤ (cel b.ls x.b.toNat 0).int ∧ (cel b.ls x.b.toNat 0).int < _; omega) (by omega) (by show (cel b.ls x.b.toNat 0).int ≠ _; omega) (by show 0 ≤ fee s.rt s.pr (cel b.ls x.b.toNat 3).int ((cel b.ls x.b.toNat 2).int - x.at_) ∧ fee s.rt s.pr (cel b.ls x.b.toNat 3).int ((cel b.ls x.b.toNat 2).int - x.at_) ≤ _; omega)
  · rw [show eff s { b with ev := n } x = { b with ev := n, es := seeE b.es x.d x.w, ls := weatherL s.rc (seeE b.es x.d x.w) x b.ls.length 0 b.ls } by simp [eff, k]]
    exact start _ rfl rfl
  · rw [eff3 k]
    have hr := hI.row e
    have hf := price_in hI.sch hr.2.2.2
    exact (start { b with ev := n, ls := setSt b.ls x.b 2, km := addA b.km (cel b.ls x.b.toNat 1).int x.k, si := addA b.si (cel b.ls x.b.toNat 1).int x.k } rfl rfl).post h0 rfl hI.ac.1 (by show 0 ≤ (cel b.ls x.b.toNat 0).int ∧ (cel b.ls x.b.toNat 0).int < _; omega) (by omega) (by show (cel b.ls x.b.toNat 0).int ≠ _; omega) (by show 0 ≤ (cel b.ls x.b.toNat 3).int * s.pr ∧ (cel b.ls x.b.toNat 3).int * s.pr ≤ _; omega)
  · rw [show eff s { b with ev := n } x = Bks.post { b with ev := n, si := b.si.set x.c.toNat [.i 0] } (school s) (school s + 1) x.m by simp [eff, k]]
    exact (start { b with ev := n, si := b.si.set x.c.toNat [.i 0] } rfl rfl).post h0 rfl hI.ac.1 (by omega) (by omega) (by omega) f
  · rw [eff5 k]
    have hx := hI.sch.excess
    have hx' : 0 ≤ s.ex ∧ s.ex ≤ 10000000 := hx
    refine ((start { b with ev := n, ls := setSt b.ls x.b 3 } rfl rfl).post h0 rfl hI.ac.1 (u := school s) (v := school s + 1) (c := min x.m s.ex) (by omega) (by omega) (by omega) (by omega)).post h0 rfl ?_ (by omega) (by omega) (by omega) (by omega)
    show (postA b.ac _ _ _).length = _
    rw [postA_len]; exact hI.ac.1
  · rw [show eff s { b with ev := n } x = Bks.post { b with ev := n } (school s + 3) x.l x.m by simp [eff, k]]
    exact (start { b with ev := n } rfl rfl).post h0 rfl hI.ac.1 (by omega) (by omega) (by omega) f
theorem led_run {s : Sch} {evs : Dt} (h : rErr s evs = 0) : Led s (runAll s evs) evs.length :=
  run_ind (P := fun i b => Led s b i) h ⟨rfl, ⟨fun j hj => by simp [open0] at hj, fun j hj => by simp [open0] at hj⟩, sumI_zero _ _ _⟩ fun i b h0 h1 hI h => led_step _ hI h
theorem shaped_run {s : Sch} {evs : Dt} (h : rErr s evs = 0) : shapedE s.rl.length s.rc.length (runAll s evs).ls (runAll s evs).km (runAll s evs).si (runAll s evs).ac = true := by
  have hI := rErr_inv h
  have row : ∀ (n i : Nat), i + n = (runAll s evs).ls.length → shN s.rl.length s.rc.length (runAll s evs).ls i n = true := by
    intro n
    induction n with
    | zero => intro i _; rfl
    | succ n ih =>
      intro i hi
      rw [shN, shR_iff.2 (by have := hI.ls i (by omega); omega), ih (i + 1) (by omega)]
      rfl
  unfold shapedE
  rw [decide_eq_true hI.km.1, decide_eq_true hI.si.1, decide_eq_true hI.ac.1, row _ _ (by omega)]
  rfl
end Sp
end Go.Proofs.Ytiiicnhjjfmpkaa
namespace Go.Proofs.Ytiiicnhjjfmpkaa
open Go.RowKit
set_option linter.unusedVariables false
set_option maxRecDepth 100000
theorem Sp.rB_led {s : Sp.Sch} {evs : Dt} (e : Sp.rErr s evs = 0) : Sp.Led s (Sp.rB s evs) evs.length ∧ Sp.Inv s (Sp.rB s evs) evs.length ∧ evs.length ≤ 60 ∧ Sp.shapedE s.rl.length s.rc.length (Sp.rB s evs).ls (Sp.rB s evs).km (Sp.rB s evs).si (Sp.rB s evs).ac = true := by
  rw [Sp.rB_ok e]
  exact ⟨Sp.led_run e, Sp.rErr_inv e, (Sp.rErr_ok e).2, Sp.shaped_run e⟩
end Go.Proofs.Ytiiicnhjjfmpkaa
namespace Go.Proofs.Ytiiicnhjjfmpkaa
set_option linter.unusedVariables false
namespace Sp
def iter {α : Type} (f : Nat → α → α) : Nat → Nat → α → α
  | 0, _, a => a
  | n + 1, i, a => iter f n (i + 1) (f i a)
theorem iter_succ {α : Type} (f : Nat → α → α) : ∀ (n i : Nat) (a : α), iter f (n + 1) i a = f (i + n) (iter f n i a)
  | 0, i, a => rfl
  | n + 1, i, a => by
    rw [iter, iter_succ f n (i + 1), iter, show i + 1 + n = i + (n + 1) by omega]
theorem iter_ind {α : Type} {f : Nat → α → α} {P : Nat → α → Prop} : ∀ (n i : Nat) (a : α), P i a → (∀ j a, i ≤ j → j < i + n → P j a → P (j + 1) (f j a)) → P (i + n) (iter f n i a)
  | 0, _, _, h, _ => h
  | n + 1, i, a, h, hs => by
    rw [iter, show i + (n + 1) = i + 1 + n by omega]
    exact iter_ind n (i + 1) _ (hs i a (by omega) (by omega) h) fun j a h1 h2 => hs j a (by omega) (by omega)
def bk (s : Sch) (evs : Dt) (j : Nat) : Bks := runB s evs j 0 (open0 s)
theorem runB_succ (s : Sch) (evs : Dt) : ∀ (n : Nat) (i : Int) (b : Bks), runB s evs (n + 1) i b = doB s (runB s evs n i b) (i + n) (evt evs (i + n))
  | 0, i, b => by simp [runB]
  | n + 1, i, b => by
    rw [runB, runB_succ s evs n (i + 1), runB, show i + 1 + (n : Int) = i + ((n + 1 : Nat) : Int) by omega]
theorem bk_succ (s : Sch) (evs : Dt) (j : Nat) : bk s evs (j + 1) = doB s (bk s evs j) j (evt evs j) := by
  unfold bk
  rw [runB_succ, Int.zero_add]
theorem runE_len (s : Sch) (evs : Dt) : ∀ (n : Nat) (i : Int) (b : Bks), (runE s evs n i b).length = n
  | 0, _, _ => rfl
  | n + 1, i, b => by simp [runE, runE_len s evs n]
theorem runE_cel (s : Sch) (evs : Dt) : ∀ (n : Nat) (i : Int) (b : Bks) (j : Nat), j < n → cel (runE s evs n i b) j 0 = .i (doE s (runB s evs j i b) (i + j) (evt evs (i + j)))
  | 0, _, _, _, h => by omega
  | n + 1, i, b, 0, h => by simp [runE, runB, cel]
  | n + 1, i, b, j + 1, h => by
    have := runE_cel s evs n (i + 1) (doB s b i (evt evs i)) j (by omega)
    rw [show i + 1 + (j : Int) = i + ((j + 1 : Nat) : Int) by omega] at this
    rw [runB]
    rw [← this]
    rfl
theorem runAll_bk (s : Sch) (evs : Dt) : runAll s evs = bk s evs evs.length := rfl
theorem errAll_len (s : Sch) (evs : Dt) : (errAll s evs).length = evs.length := runE_len _ _ _ _ _
theorem errAll_cel (s : Sch) (evs : Dt) (j : Nat) (h : j < evs.length) : cel (errAll s evs) j 0 = .i (doE s (bk s evs j) j (evt evs j)) := by
  have := runE_cel s evs evs.length 0 (open0 s) j h
  rw [Int.zero_add] at this
  exact this
theorem bk_inv {s : Sch} {evs : Dt} (h : rErr s evs = 0) (j : Nat) (hj : j ≤ evs.length) : Inv s (bk s evs j) j := by
  obtain ⟨h1, h2⟩ := rErr_ok h
  have := Inv.run (evs := evs) j 0 _ (Inv.zero h1) (by omega)
  rw [Int.zero_add] at this
  exact this
theorem runB_congr {s : Sch} {e1 e2 : Dt} : ∀ (n : Nat) (i : Int) (b : Bks), (∀ j : Int, i ≤ j → j < i + n → evt e1 j = evt e2 j) → runB s e1 n i b = runB s e2 n i b
  | 0, _, _, _ => rfl
  | n + 1, i, b, h => by
    rw [runB, runB, h i (by omega) (by omega)]
    exact runB_congr n (i + 1) _ fun j h1 h2 => h j (by omega) (by omega)
theorem bk_congr {s : Sch} {e1 e2 : Dt} {n : Nat} (h : ∀ j : Nat, j < n → evt e1 j = evt e2 j) : bk s e1 n = bk s e2 n :=
  runB_congr n 0 _ fun j h1 h2 => by
    have := h j.toNat (by omega)
    rw [Int.toNat_of_nonneg h1] at this
    exact this
theorem cel_take (a : Dt) (m j k : Nat) (h : j < m) : cel (a.take m) j k = cel a j k := by simp [cel, List.getD_eq_getElem?_getD, List.getElem?_take, h]
theorem evt_take (a : Dt) (m j : Nat) (h : j < m) : evt (a.take m) j = evt a j := by unfold evt; simp only [Int.toNat_natCast, cel_take a m j _ h]
theorem bk_take (s : Sch) (evs : Dt) (m j : Nat) (h : j ≤ m) : bk s (evs.take m) j = bk s evs j := bk_congr fun i hi => evt_take _ _ _ (by omega)
theorem step_cases (s : Sch) (b : Bks) (n : Int) (x : Evt) :
    (doE s b n x = 0 ∧ inr x.kind 0 6 = true ∧ b.tm ≤ x.at_ ∧ x.at_ ≤ 4800 ∧ err s b x = 0 ∧ doB s b n x = { eff s { b with ev := n } x with tm := x.at_ }) ∨
    (doE s b n x ≠ 0 ∧ ∃ e, doB s b n x = { b with ev := e }) := by
  unfold doE doB
  by_cases e1 : inr x.kind 0 6 = true
  · by_cases e2 : inr x.at_ b.tm 4800 = true
    · by_cases e3 : err s b x = 0
      · have ht := inr_iff.1 e2
        simp only [e1, e2, e3, Bool.not_true, Bool.false_eq_true, if_false, if_true]
        exact .inl ⟨trivial, trivial, ht.1, ht.2, trivial, trivial⟩
      · simp only [e1, e2, e3, Bool.not_true, Bool.false_eq_true, if_false]
        exact .inr ⟨e3, _, rfl⟩
    · simp only [e1, Bool.not_eq_true] at e2 ⊢
      simp only [e2, Bool.not_true, Bool.false_eq_true, if_false, Bool.not_false, if_true]
      exact .inr ⟨by decide, b.ev, rfl⟩
  · rw [Bool.not_eq_true] at e1
    simp only [e1, Bool.not_false, if_true]
    exact .inr ⟨by decide, b.ev, rfl⟩
structure Kept (a b : Dt) : Prop where
  len : a.length ≤ b.length
  row : ∀ j, j < a.length → (cel b j 0).int = (cel a j 0).int ∧ (cel b j 1).int = (cel a j 1).int ∧ (cel b j 3).int = (cel a j 3).int
theorem Kept.refl (a : Dt) : Kept a a := ⟨Nat.le_refl _, fun _ _ => ⟨rfl, rfl, rfl⟩⟩
theorem Kept.trans {a b c : Dt} (h : Kept a b) (h2 : Kept b c) : Kept a c := ⟨Nat.le_trans h.len h2.len, fun j hj => by
  have := h.row j hj
  have := h2.row j (by have := h.len; omega)
  omega⟩
theorem Kept.setSt (a : Dt) (i st : Int) : Kept a (setSt a i st) := ⟨by rw [setSt_len]; exact Nat.le_refl _, fun j hj => by
  rw [cel_setSt _ _ _ _ _ (by decide), cel_setSt _ _ _ _ _ (by decide), cel_setSt _ _ _ _ _ (by decide)]
  exact ⟨rfl, rfl, rfl⟩⟩
theorem eff_ls {s : Sch} {b : Bks} {x : Evt} (hk : inr x.kind 0 6 = true) : (eff s b x).ls =
    (if x.kind = 0 then b.ls ++ [[.i x.l, .i x.c, .i x.s, .i x.h, .i 0]] else if x.kind = 1 then setSt b.ls x.b 1 else if x.kind = 2 then weatherL s.rc (seeE b.es x.d x.w) x b.ls.length 0 b.ls else if x.kind = 3 then setSt b.ls x.b 2 else if x.kind = 5 then setSt b.ls x.b 3 else b.ls) := by
  have h := inr_iff.1 hk
  have hc : x.kind = 0 ∨ x.kind = 1 ∨ x.kind = 2 ∨ x.kind = 3 ∨ x.kind = 4 ∨ x.kind = 5 ∨ x.kind = 6 := by omega
  rcases hc with e | e | e | e | e | e | e <;> simp [eff, e, Bks.post]
end Sp
end Go.Proofs.Ytiiicnhjjfmpkaa
namespace Go.Proofs.Ytiiicnhjjfmpkaa
open Go.RowKit
set_option linter.unusedVariables false
set_option maxRecDepth 100000
end Go.Proofs.Ytiiicnhjjfmpkaa
namespace Go.Proofs.Ytiiicnhjjfmpkaa
open Go.RowKit
set_option linter.unusedVariables false
set_option maxRecDepth 100000
namespace Sp
theorem done_ok {s : Sch} {evs : Dt} {j : Nat} (hj : j < evs.length) (he : (cel (errAll s evs) j 0).int = 0) :
    inr (evt evs j).kind 0 6 = true ∧ (bk s evs j).tm ≤ (evt evs j).at_ ∧ (evt evs j).at_ ≤ 4800 ∧ err s (bk s evs j) (evt evs j) = 0 ∧ bk s evs (j + 1) = { eff s { bk s evs j with ev := j } (evt evs j) with tm := (evt evs j).at_ } := by
  rw [errAll_cel s evs j hj] at he
  rcases step_cases s (bk s evs j) j (evt evs j) with ⟨_, h1, h2, h3, h4, h5⟩ | ⟨h1, _⟩
  · exact ⟨h1, h2, h3, h4, by rw [bk_succ]; exact h5⟩
  · exact absurd he h1
theorem done_no {s : Sch} {evs : Dt} {j : Nat} (hj : j < evs.length) (he : ¬ (cel (errAll s evs) j 0).int = 0) : ∃ e, bk s evs (j + 1) = { bk s evs j with ev := e } := by
  rw [errAll_cel s evs j hj] at he
  rcases step_cases s (bk s evs j) j (evt evs j) with ⟨h1, _⟩ | ⟨_, h1⟩
  · exact absurd h1 he
  · rw [bk_succ]; exact h1
theorem rErr_chk {s : Sch} {evs : Dt} (e : rErr s evs = 0) : chkE s.rl s.rc s.pr s.ex s.lo s.hi s.rt = 0 := by
  unfold rErr runErr at e
  split at e
  · assumption
  · exact e
end Sp
end Go.Proofs.Ytiiicnhjjfmpkaa
namespace Go.Proofs.Ytiiicnhjjfmpkaa
set_option linter.unusedVariables false
namespace Sp
def rI (r : List Cl) (k : Nat) : Int := (r.getD k .z).int
theorem cel_rI (a : Dt) (j k : Nat) : (cel a j k).int = rI (a.getD j []) k := rfl
def sumR (f : List Cl → Int) : Dt → Int
  | [] => 0
  | r :: l => f r + sumR f l
theorem sumR_app (f : List Cl → Int) : ∀ (a b : Dt), sumR f (a ++ b) = sumR f a + sumR f b
  | [], b => by simp [sumR]
  | r :: a, b => by rw [List.cons_append, sumR, sumR, sumR_app f a b]; omega
theorem iter_sum {g : Nat → Int → Int} {f : List Cl → Int} : ∀ (b a : Dt) (z : Int), (∀ j z, j < a.length + b.length → g j z = z + f ((a ++ b).getD j [])) → iter g b.length a.length z = z + sumR f b
  | [], a, z, h => by simp [iter, sumR]
  | r :: b, a, z, h => by
    have h1 := h a.length z (by simp)
    have h2 := iter_sum (g := g) (f := f) b (a ++ [r]) (g a.length z) fun j z hj => by
      rw [List.append_assoc, List.singleton_append]
      exact h j z (by simp only [List.length_append, List.length_cons, List.length_nil] at hj ⊢; omega)
    rw [List.length_append, List.length_singleton] at h2
    rw [List.length_cons, iter, h2, h1, sumR, List.getD_eq_getElem?_getD, List.getElem?_append_right (Nat.le_refl _), Nat.sub_self]
    exact Int.add_assoc _ _ _
theorem iter_sum0 {g : Nat → Int → Int} {f : List Cl → Int} (b : Dt) (h : ∀ j z, j < b.length → g j z = z + f (b.getD j [])) : iter g b.length 0 0 = sumR f b := by
  have := iter_sum (g := g) (f := f) b [] 0 (fun j z hj => by simpa using h j z (by simpa using hj))
  rw [List.length_nil, Int.zero_add] at this
  exact this
theorem row_mem {P : List Cl → Prop} {a : Dt} (h : ∀ r ∈ a, P r) (j : Nat) (hj : j < a.length) : P (a.getD j []) := by
  rw [List.getD_eq_getElem?_getD, List.getElem?_eq_getElem hj]
  exact h _ (List.getElem_mem hj)
def postL (ev u v c : Int) : Dt := if c = 0 then [] else [[.i ev, .i u, .i v, .i c]]
theorem postP_L (ps : Dt) (ev u v c : Int) : postP ps ev u v c = ps ++ postL ev u v c := by
  unfold postP postL
  split <;> simp
def newP (s : Sch) (b : Bks) (n : Int) (x : Evt) : Dt :=
  if x.kind = 1 then postL n (cel b.ls x.b.toNat 0).int (school s) (fee s.rt s.pr (cel b.ls x.b.toNat 3).int ((cel b.ls x.b.toNat 2).int - x.at_))
  else if x.kind = 3 then postL n (cel b.ls x.b.toNat 0).int (school s) ((cel b.ls x.b.toNat 3).int * s.pr)
  else if x.kind = 4 then postL n (school s) (school s + 1) x.m
  else if x.kind = 5 then postL n (school s) (school s + 1) (min x.m s.ex) ++ postL n (school s + 2) (school s + 1) (x.m - min x.m s.ex)
  else if x.kind = 6 then postL n (school s + 3) x.l x.m
  else []
theorem eff_ps {s : Sch} {b : Bks} {n : Int} {x : Evt} (hk : inr x.kind 0 6 = true) : (eff s { b with ev := n } x).ps = b.ps ++ newP s b n x := by
  have h := inr_iff.1 hk
  have hc : x.kind = 0 ∨ x.kind = 1 ∨ x.kind = 2 ∨ x.kind = 3 ∨ x.kind = 4 ∨ x.kind = 5 ∨ x.kind = 6 := by omega
  rcases hc with e | e | e | e | e | e | e <;> simp [eff, e, Bks.post, newP, postP_L]
theorem bk_ps {s : Sch} {evs : Dt} {j : Nat} (hj : j < evs.length) : (bk s evs (j + 1)).ps = (bk s evs j).ps ++ if (cel (errAll s evs) j 0).int = 0 then newP s (bk s evs j) j (evt evs j) else [] := by
  by_cases he : (cel (errAll s evs) j 0).int = 0
  · obtain ⟨h1, _, _, _, h5⟩ := done_ok hj he
    rw [h5, if_pos he]
    exact eff_ps h1
  · obtain ⟨e, h1⟩ := done_no hj he
    rw [h1, if_neg he, List.append_nil]
end Sp
end Go.Proofs.Ytiiicnhjjfmpkaa
namespace Go.Proofs.Ytiiicnhjjfmpkaa
open Go.RowKit
set_option linter.unusedVariables false
set_option maxRecDepth 100000
end Go.Proofs.Ytiiicnhjjfmpkaa
namespace Go.Proofs.Ytiiicnhjjfmpkaa
open Go.RowKit
set_option linter.unusedVariables false
set_option maxRecDepth 100000
namespace Sp
theorem sumR_postL {f : List Cl → Int} {ev u v c t : Int} (h : c = 0 → t = 0) (h2 : f [.i ev, .i u, .i v, .i c] = t) : sumR f (postL ev u v c) = t := by
  unfold postL
  split
  · rename_i e; rw [h e]; rfl
  · rw [sumR, h2]; show t + 0 = t; omega
end Sp
end Go.Proofs.Ytiiicnhjjfmpkaa
namespace Go.Proofs.Ytiiicnhjjfmpkaa
open Go.RowKit
set_option linter.unusedVariables false
set_option maxRecDepth 100000
namespace Sp
def hoW (ls : Dt) (pr : Int) (j : Nat) (z : Int) : Int := if (cel ls j 4).int = 2 ∨ (cel ls j 4).int = 3 then z + (cel ls j 3).int * pr else z
def hoP (ps : Dt) (nl : Int) (j : Nat) (z : Int) : Int := if 0 ≤ (cel ps j 1).int ∧ (cel ps j 1).int < nl then z + (cel ps j 3).int else z
def hoL (s : Sch) (evs : Dt) (j k : Nat) : Int := (cel (rB s (evs.take j)).ls (cel evs j 4).int.toNat k).int
def hoN (s : Sch) (evs : Dt) (j : Nat) : Int := feeN s.rl s.rc s.pr s.ex s.lo s.hi s.rt (hoL s evs j 3) (hoL s evs j 2 - (cel evs j 1).int)
def hoF (s : Sch) (evs er : Dt) (j : Nat) (z : Int) : Int := if (cel evs j 0).int = 1 ∧ (cel er j 0).int = 0 then z + hoN s evs j else z
structure HoursOk (ls : Dt) : Prop where
  row : ∀ j, j < ls.length → 1 ≤ (cel ls j 3).int ∧ (cel ls j 3).int ≤ 4
structure PaidOk (ps : Dt) (nl : Int) : Prop where
  row : ∀ j, j < ps.length → (0 ≤ (cel ps j 3).int ∧ (cel ps j 3).int ≤ 10000000) ∧ (0 ≤ (cel ps j 1).int → (cel ps j 1).int < nl → (cel ps j 2).int = nl)
structure CanOk (s : Sch) (evs er : Dt) : Prop where
  errs : er.length = evs.length
  row : ∀ j : Nat, j < evs.length → (cel evs j 0).int = 1 → (cel er j 0).int = 0 → rErr s (evs.take j) = 0 ∧ (0 ≤ (cel evs j 4).int ∧ (cel evs j 4).int < (rB s (evs.take j)).ls.length) ∧ (0 ≤ hoL s evs j 2 - (cel evs j 1).int ∧ hoL s evs j 2 - (cel evs j 1).int ≤ 10000) ∧ feeE s.rl s.rc s.pr s.ex s.lo s.hi s.rt (hoL s evs j 3) (hoL s evs j 2 - (cel evs j 1).int) = 0 ∧ 0 ≤ hoN s evs j ∧ hoN s evs j ≤ 40000
end Sp
def sp_hoA [InW] (e : List Ed) (K : Nat → List Ed → Prop) : Prop := match e with
  | [.ro _ evs, .i want, .i paid, .i i, .l ls, .ro _ rl, .ro _ rc, .i pr, .i ex, .i lo, .i hi, .ro _ rt, .l er, .l ps] =>
    Pre (0 ≤ i ∧ i ≤ ls.length ∧ ls.length ≤ 1000 ∧ (0 ≤ pr ∧ pr ≤ 10000) ∧ Sp.HoursOk ls ∧ (0 ≤ want ∧ want ≤ 40000 * i))
      (K 0 [.ro _ evs, .i (Sp.iter (Sp.hoW ls pr) (ls.length - i.toNat) i.toNat want), .i paid, .ro _ rl, .ro _ rc, .i pr, .i ex, .i lo, .i hi, .ro _ rt, .l er, .l ps])
  | _ => False
noncomputable def lc_hoA : LC where
  len := 218
  T := [(1, .rs Iv11), (2, (.ptr 1 0)), (5, (.row 28)), (6, (.ptr 4 0)), (8, (.row 31)), (10, .int .i64), (11, .int .i64), (12, .int .i64)]
  H := [(4, .blk 42 [(.row 34), (.opq 1021), (.opq 1024), (.opq 1027)]), (34, .arr 63 Iv5), (1, .blk 28 [.rs [.str], .rs Ivs, .int .i64, .int .i64, .int .i64, .int .i64, .rs [.int .i64, .int .i64]]), (28, .arr 30 [.int .i64]), (31, .arr 61 Iv4)]
  W := [65, 66, 67, 68, 69, 70, 71, 72, 73, 74, 75, 76, 77, 78, 79, 80, 81, 82, 83, 84, 85, 86, 87, 88, 89, 90, 91, 92, 93, 94, 95, 96, 97, 98]
  outs := [⟨.exit 0, [(1, .rs Iv11), (2, (.ptr 1 0)), (5, (.row 28)), (8, (.row 31)), (10, .int .i64), (11, .int .i64)], [(1, .blk 28 [.rs [.str], .rs Ivs, .int .i64, .int .i64, .int .i64, .int .i64, .rs [.int .i64, .int .i64]]), (28, .arr 30 [.int .i64]), (31, .arr 61 Iv4)], [6, 12, 65, 66, 67, 68, 69, 70, 71, 72, 73, 74, 75, 76, 77, 78, 79, 80, 81, 82, 83, 84, 85, 86, 87, 88, 89, 90, 91, 92, 93, 94, 95, 96, 97, 98]⟩]
  spec := sp_hoA
def VCL_hoA [W : InW] (evs : Ro Iv11) (want : Int) (paid : Int) (i : Int) (ls : Dt) (rl : Ro [.str]) (rc : Ro Ivs) (pr : Int) (ex : Int) (lo : Int) (hi : Int) (rt : Ro [.int .i64, .int .i64]) (er : Dt) (ps : Dt) (A : List Ed → Prop) (K : Nat → List Ed → Prop) : Prop :=
  Vif (decide (i < (↑(List.length ls) : Int))) (Need (decide ((0 : Int) ≤ i) && decide (i < (↑(List.length ls) : Int))) (Need (decide (i.toNat < List.length ls)) (Vif (decide ((cel ls i.toNat ((3 : Nat) + (1 : Nat))).int = (2 : Int))) (Need (decide ((0 : Int) ≤ i) && decide (i < (↑(List.length ls) : Int))) (Need (decide (i.toNat < List.length ls)) (Ar .i64 ((cel ls i.toNat ((2 : Nat) + (1 : Nat))).int * pr) fun z => Ar .i64 (want + z) fun z => Ar .i64 (i + (1 : Int)) fun z_1 => A [.ro _ evs, .i z, .i paid, .i z_1, .l ls, .ro _ rl, .ro _ rc, .i pr, .i ex, .i lo, .i hi, .ro _ rt, .l er, .l ps]))) (Need (decide ((0 : Int) ≤ i) && decide (i < (↑(List.length ls) : Int))) (Need (decide (i.toNat < List.length ls)) (Vif (decide ((cel ls i.toNat ((3 : Nat) + (1 : Nat))).int = (3 : Int))) (Need (decide ((0 : Int) ≤ i) && decide (i < (↑(List.length ls) : Int))) (Need (decide (i.toNat < List.length ls)) (Ar .i64 ((cel ls i.toNat ((2 : Nat) + (1 : Nat))).int * pr) fun z => Ar .i64 (want + z) fun z => Ar .i64 (i + (1 : Int)) fun z_1 => A [.ro _ evs, .i z, .i paid, .i z_1, .l ls, .ro _ rl, .ro _ rc, .i pr, .i ex, .i lo, .i hi, .ro _ rt, .l er, .l ps]))) (Ar .i64 (i + (1 : Int)) fun z => A [.ro _ evs, .i want, .i paid, .i z, .l ls, .ro _ rl, .ro _ rc, .i pr, .i ex, .i lo, .i hi, .ro _ rt, .l er, .l ps]))))))) (K (0 : Nat) [.ro _ evs, .i want, .i paid, .ro _ rl, .ro _ rc, .i pr, .i ex, .i lo, .i hi, .ro _ rt, .l er, .l ps])
theorem vcl_hoA (W : InW) (evs : Ro Iv11) (want : Int) (paid : Int) (i : Int) (ls : Dt) (rl : Ro [.str]) (rc : Ro Ivs) (pr : Int) (ex : Int) (lo : Int) (hi : Int) (rt : Ro [.int .i64, .int .i64]) (er : Dt) (ps : Dt) (A : List Ed → Prop) (K : Nat → List Ed → Prop) : vcTop { cxT Try.prog TT TPl 1000 50 with fn := 8 } 1000 (loopAt Try.prog 8 10) (tmOut 218 [(1, .rs _ evs), (2, .ptr 1 0), (5, .rw 28), (6, .ptr 4 0), (8, .rw 31), (10, .si .i64 want), (11, .si .i64 paid), (12, .si .i64 i)] [65, 66, 67, 68, 69, 70, 71, 72, 73, 74, 75, 76, 77, 78, 79, 80, 81, 82, 83, 84, 85, 86, 87, 88, 89, 90, 91, 92, 93, 94, 95, 96, 97, 98]) [(4, .blk 42 [.rw 34, .opq 1021, .opq 1024, .opq 1027]), (34, .arr 63 Iv5 ls), (1, .blk 28 [.rs _ rl, .rs _ rc, .si .i64 pr, .si .i64 ex, .si .i64 lo, .si .i64 hi, .rs _ rt]), (28, .arr 30 [.int .i64] er), (31, .arr 61 Iv4 ps)] (roundL lc_hoA A K) = VCL_hoA evs want paid i ls rl rc pr ex lo hi rt er ps A K := by kernel_rfl
def okLt_hoA : Prop := ∀ (W : InW) (body a : Code), (Try.prog.funcs[8]?).bind (·.body) = some body → a ∈ loopsIn body → keyOf a = 10 → @LoopOk W Try.prog a (@loopRun W lc_hoA)
theorem okl_hoA (meas : [InW] → List Ed → Nat) (hyp_ : ∀ (W : InW) (evs : Ro Iv11) (want : Int) (paid : Int) (i : Int) (ls : Dt) (rl : Ro [.str]) (rc : Ro Ivs) (pr : Int) (ex : Int) (lo : Int) (hi : Int) (rt : Ro [.int .i64, .int .i64]) (er : Dt) (ps : Dt) (K : Nat → List Ed → Prop), sp_hoA [.ro _ evs, .i want, .i paid, .i i, .l ls, .ro _ rl, .ro _ rc, .i pr, .i ex, .i lo, .i hi, .ro _ rt, .l er, .l ps] K → ∀ A : List Ed → Prop, (∀ e, meas e < meas [.ro _ evs, .i want, .i paid, .i i, .l ls, .ro _ rl, .ro _ rc, .i pr, .i ex, .i lo, .i hi, .ro _ rt, .l er, .l ps] → sp_hoA e K → A e) → VCL_hoA evs want paid i ls rl rc pr ex lo hi rt er ps A K) : okLt_hoA :=
  LE.okOf' (fun W => @TT W) (fun W => @TT_ok W) mixed_ok TPl 1000 50 (by kernel_rfl) lc_hoA (fun W => @meas W) fun W evs want paid i ls rl rc pr ex lo hi rt er ps K hs =>
    (vcl_hoA W evs want paid i ls rl rc pr ex lo hi rt er ps (fun e => meas e < meas [.ro _ evs, .i want, .i paid, .i i, .l ls, .ro _ rl, .ro _ rc, .i pr, .i ex, .i lo, .i hi, .ro _ rt, .l er, .l ps] ∧ sp_hoA e K) K).mpr (hyp_ W evs want paid i ls rl rc pr ex lo hi rt er ps K hs _ fun e h1 h2 => ⟨h1, h2⟩)
def sp_hoC [InW] (e : List Ed) (K : Nat → List Ed → Prop) : Prop := match e with
  | [.i want, .i paid, .i i, .ro _ rl, .ro _ rc, .i pr, .i ex, .i lo, .i hi, .ro _ rt, .l ps] =>
    Pre (0 ≤ i ∧ i ≤ ps.length ∧ ps.length ≤ 1000 ∧ Sp.PaidOk ps rl.xs.length ∧ (0 ≤ paid ∧ paid ≤ 10000000 * i))
      (K 0 [.i want, .i (Sp.iter (Sp.hoP ps rl.xs.length) (ps.length - i.toNat) i.toNat paid)])
  | _ => False
noncomputable def lc_hoC : LC where
  len := 218
  T := [(2, (.ptr 1 0)), (8, (.row 31)), (10, .int .i64), (11, .int .i64), (19, .int .i64)]
  H := [(1, .blk 28 [.rs [.str], .rs Ivs, .int .i64, .int .i64, .int .i64, .int .i64, .rs [.int .i64, .int .i64]]), (31, .arr 61 Iv4)]
  W := [4, 173, 174, 175, 176, 177, 178, 179, 180, 181, 182, 183, 184, 185, 186, 187, 188, 189, 190, 191, 192, 193, 194, 195, 196, 197, 198, 199, 200, 201, 202, 203, 204, 205, 206, 207, 208, 209, 210, 211]
  outs := [⟨.exit 4, [(10, .int .i64), (11, .int .i64)], [], [2, 4, 8, 19, 173, 174, 175, 176, 177, 178, 179, 180, 181, 182, 183, 184, 185, 186, 187, 188, 189, 190, 191, 192, 193, 194, 195, 196, 197, 198, 199, 200, 201, 202, 203, 204, 205, 206, 207, 208, 209, 210, 211]⟩]
  spec := sp_hoC
def VCL_hoC [W : InW] (want : Int) (paid : Int) (i : Int) (rl : Ro [.str]) (rc : Ro Ivs) (pr : Int) (ex : Int) (lo : Int) (hi : Int) (rt : Ro [.int .i64, .int .i64]) (ps : Dt) (A : List Ed → Prop) (K : Nat → List Ed → Prop) : Prop :=
  Vif (decide (i < (↑(List.length ps) : Int))) (Need (decide ((0 : Int) ≤ i) && decide (i < (↑(List.length ps) : Int))) (Need (decide (i.toNat < List.length ps)) (Vif (decide ((0 : Int) ≤ (cel ps i.toNat ((0 : Nat) + (1 : Nat))).int)) (Need (decide ((0 : Int) ≤ i) && decide (i < (↑(List.length ps) : Int))) (Need (decide (i.toNat < List.length ps)) (Vif (decide ((cel ps i.toNat ((0 : Nat) + (1 : Nat))).int < (↑(List.length rl.xs) : Int))) (Need (decide ((0 : Int) ≤ i) && decide (i < (↑(List.length ps) : Int))) (Need (decide (i.toNat < List.length ps)) (Vif (!decide ((cel ps i.toNat ((1 : Nat) + (1 : Nat))).int = (↑(List.length rl.xs) : Int))) ((472 : Nat) = (472 : Nat) + (1 : Nat)) (Need (decide ((0 : Int) ≤ i) && decide (i < (↑(List.length ps) : Int))) (Need (decide (i.toNat < List.length ps)) (Ar .i64 (paid + (cel ps i.toNat ((2 : Nat) + (1 : Nat))).int) fun z => Ar .i64 (i + (1 : Int)) fun z_1 => A [.i want, .i z, .i z_1, .ro _ rl, .ro _ rc, .i pr, .i ex, .i lo, .i hi, .ro _ rt, .l ps])))))) (Ar .i64 (i + (1 : Int)) fun z => A [.i want, .i paid, .i z, .ro _ rl, .ro _ rc, .i pr, .i ex, .i lo, .i hi, .ro _ rt, .l ps])))) (Ar .i64 (i + (1 : Int)) fun z => A [.i want, .i paid, .i z, .ro _ rl, .ro _ rc, .i pr, .i ex, .i lo, .i hi, .ro _ rt, .l ps])))) (K (0 : Nat) [.i want, .i paid])
theorem vcl_hoC (W : InW) (want : Int) (paid : Int) (i : Int) (rl : Ro [.str]) (rc : Ro Ivs) (pr : Int) (ex : Int) (lo : Int) (hi : Int) (rt : Ro [.int .i64, .int .i64]) (ps : Dt) (A : List Ed → Prop) (K : Nat → List Ed → Prop) : vcTop { cxT Try.prog TT TPl 1000 50 with fn := 8 } 1000 (loopAt Try.prog 8 27) (tmOut 218 [(2, .ptr 1 0), (8, .rw 31), (10, .si .i64 want), (11, .si .i64 paid), (19, .si .i64 i)] [4, 173, 174, 175, 176, 177, 178, 179, 180, 181, 182, 183, 184, 185, 186, 187, 188, 189, 190, 191, 192, 193, 194, 195, 196, 197, 198, 199, 200, 201, 202, 203, 204, 205, 206, 207, 208, 209, 210, 211]) [(1, .blk 28 [.rs _ rl, .rs _ rc, .si .i64 pr, .si .i64 ex, .si .i64 lo, .si .i64 hi, .rs _ rt]), (31, .arr 61 Iv4 ps)] (roundL lc_hoC A K) = VCL_hoC want paid i rl rc pr ex lo hi rt ps A K := by kernel_rfl
def okLt_hoC : Prop := ∀ (W : InW) (body a : Code), (Try.prog.funcs[8]?).bind (·.body) = some body → a ∈ loopsIn body → keyOf a = 27 → @LoopOk W Try.prog a (@loopRun W lc_hoC)
theorem okl_hoC (meas : [InW] → List Ed → Nat) (hyp_ : ∀ (W : InW) (want : Int) (paid : Int) (i : Int) (rl : Ro [.str]) (rc : Ro Ivs) (pr : Int) (ex : Int) (lo : Int) (hi : Int) (rt : Ro [.int .i64, .int .i64]) (ps : Dt) (K : Nat → List Ed → Prop), sp_hoC [.i want, .i paid, .i i, .ro _ rl, .ro _ rc, .i pr, .i ex, .i lo, .i hi, .ro _ rt, .l ps] K → ∀ A : List Ed → Prop, (∀ e, meas e < meas [.i want, .i paid, .i i, .ro _ rl, .ro _ rc, .i pr, .i ex, .i lo, .i hi, .ro _ rt, .l ps] → sp_hoC e K → A e) → VCL_hoC want paid i rl rc pr ex lo hi rt ps A K) : okLt_hoC :=
  LE.okOf' (fun W => @TT W) (fun W => @TT_ok W) mixed_ok TPl 1000 50 (by kernel_rfl) lc_hoC (fun W => @meas W) fun W want paid i rl rc pr ex lo hi rt ps K hs =>
    (vcl_hoC W want paid i rl rc pr ex lo hi rt ps (fun e => meas e < meas [.i want, .i paid, .i i, .ro _ rl, .ro _ rc, .i pr, .i ex, .i lo, .i hi, .ro _ rt, .l ps] ∧ sp_hoC e K) K).mpr (hyp_ W want paid i rl rc pr ex lo hi rt ps K hs _ fun e h1 h2 => ⟨h1, h2⟩)
noncomputable def TKk : Tab Try.prog := ⟨[pc_bRun, pc_bFee], [], []⟩
def sp_hoB [InW] (e : List Ed) (K : Nat → List Ed → Prop) : Prop := match e with
  | [.ro _ evs, .i want, .i paid, .i i, .ro _ rl, .ro _ rc, .i pr, .i ex, .i lo, .i hi, .ro _ rt, .l er, .l ps] =>
    Pre (0 ≤ i ∧ i ≤ evs.xs.length ∧ evs.xs.length ≤ 1000 ∧ (0 ≤ want ∧ want ≤ 100000000 + 40000 * i) ∧ Sp.CanOk ⟨rl.xs, rc.xs, pr, ex, lo, hi, rt.xs⟩ evs.xs er)
      (K 0 [.i (Sp.iter (Sp.hoF ⟨rl.xs, rc.xs, pr, ex, lo, hi, rt.xs⟩ evs.xs er) (evs.xs.length - i.toNat) i.toNat want), .i paid, .ro _ rl, .ro _ rc, .i pr, .i ex, .i lo, .i hi, .ro _ rt, .l ps])
  | _ => False
noncomputable def lc_hoB : LC where
  len := 218
  T := [(1, .rs Iv11), (2, (.ptr 1 0)), (5, (.row 28)), (8, (.row 31)), (10, .int .i64), (11, .int .i64), (13, .int .i64)]
  H := [(1, .blk 28 [.rs [.str], .rs Ivs, .int .i64, .int .i64, .int .i64, .int .i64, .rs [.int .i64, .int .i64]]), (28, .arr 30 [.int .i64]), (31, .arr 61 Iv4)]
  W := [4, 14, 15, 16, 17, 18, 99, 100, 101, 102, 103, 104, 105, 106, 107, 108, 109, 110, 111, 112, 113, 114, 115, 116, 117, 118, 119, 120, 121, 122, 123, 124, 125, 126, 127, 128, 129, 130, 131, 132, 133, 134, 135, 136, 137, 138, 139, 140, 141, 142, 143, 144, 145, 146, 147, 148, 149, 150, 151, 152, 153, 154, 155, 156, 157, 158, 159, 160, 161, 162, 163, 164, 165, 166, 167, 168, 169, 170, 171, 172]
  outs := [⟨.exit 2, [(2, (.ptr 1 0)), (8, (.row 31)), (10, .int .i64), (11, .int .i64)], [(1, .blk 28 [.rs [.str], .rs Ivs, .int .i64, .int .i64, .int .i64, .int .i64, .rs [.int .i64, .int .i64]]), (31, .arr 61 Iv4)], [1, 4, 5, 13, 14, 15, 16, 17, 18, 99, 100, 101, 102, 103, 104, 105, 106, 107, 108, 109, 110, 111, 112, 113, 114, 115, 116, 117, 118, 119, 120, 121, 122, 123, 124, 125, 126, 127, 128, 129, 130, 131, 132, 133, 134, 135, 136, 137, 138, 139, 140, 141, 142, 143, 144, 145, 146, 147, 148, 149, 150, 151, 152, 153, 154, 155, 156, 157, 158, 159, 160, 161, 162, 163, 164, 165, 166, 167, 168, 169, 170, 171, 172]⟩]
  spec := sp_hoB
def VCL_hoB [W : InW] (evs : Ro Iv11) (want : Int) (paid : Int) (i : Int) (rl : Ro [.str]) (rc : Ro Ivs) (pr : Int) (ex : Int) (lo : Int) (hi : Int) (rt : Ro [.int .i64, .int .i64]) (er : Dt) (ps : Dt) (A : List Ed → Prop) (K : Nat → List Ed → Prop) : Prop :=
  Vif (decide (i < (↑(List.length evs.xs) : Int))) (Need (decide ((0 : Int) ≤ i) && decide (i < (↑(List.length evs.xs) : Int))) (Need (decide (i.toNat < List.length evs.xs)) (Vif (!decide ((cel evs.xs i.toNat (0 : Nat)).int = (1 : Int))) (Ar .i64 (i + (1 : Int)) fun z => A [.ro _ evs, .i want, .i paid, .i z, .ro _ rl, .ro _ rc, .i pr, .i ex, .i lo, .i hi, .ro _ rt, .l er, .l ps]) (Need (decide ((0 : Int) ≤ i) && decide (i < (↑(List.length er) : Int))) (Need (decide (i.toNat < List.length er)) (Vif (!decide ((cel er i.toNat (0 : Nat)).int = (0 : Int))) (Ar .i64 (i + (1 : Int)) fun z => A [.ro _ evs, .i want, .i paid, .i z, .ro _ rl, .ro _ rc, .i pr, .i ex, .i lo, .i hi, .ro _ rt, .l er, .l ps]) (Need (decide ((0 : Int) ≤ i)) (Need (decide ((0 : Nat) ≤ i.toNat) && decide (i.toNat ≤ List.length evs.xs)) (Pre True (Need (decide ((0 : Int) ≤ i) && decide (i < (↑(List.length evs.xs) : Int))) (Need (decide (i.toNat < List.length evs.xs)) (Vif (!decide (Sp.rErr ⟨rl.xs, rc.xs, pr, ex, lo, hi, rt.xs⟩ (List.drop (0 : Nat) (List.take i.toNat evs.xs)) = (0 : Int))) ((472 : Nat) = (472 : Nat) + (1 : Nat)) (Vif (decide ((cel evs.xs i.toNat ((3 : Nat) + (1 : Nat))).int < (0 : Int))) ((472 : Nat) = (472 : Nat) + (1 : Nat)) (Vif (decide ((↑(List.length (Sp.rB ⟨rl.xs, rc.xs, pr, ex, lo, hi, rt.xs⟩ (List.drop (0 : Nat) (List.take i.toNat evs.xs))).ls) : Int) ≤ (cel evs.xs i.toNat ((3 : Nat) + (1 : Nat))).int)) ((472 : Nat) = (472 : Nat) + (1 : Nat)) (Need (decide ((0 : Int) ≤ (cel evs.xs i.toNat ((3 : Nat) + (1 : Nat))).int) && decide ((cel evs.xs i.toNat ((3 : Nat) + (1 : Nat))).int < (↑(List.length (Sp.rB ⟨rl.xs, rc.xs, pr, ex, lo, hi, rt.xs⟩ (List.drop (0 : Nat) (List.take i.toNat evs.xs))).ls) : Int))) (Need (decide ((cel evs.xs i.toNat ((3 : Nat) + (1 : Nat))).int.toNat < List.length (Sp.rB ⟨rl.xs, rc.xs, pr, ex, lo, hi, rt.xs⟩ (List.drop (0 : Nat) (List.take i.toNat evs.xs))).ls)) (Need (decide ((0 : Int) ≤ (cel evs.xs i.toNat ((3 : Nat) + (1 : Nat))).int) && decide ((cel evs.xs i.toNat ((3 : Nat) + (1 : Nat))).int < (↑(List.length (Sp.rB ⟨rl.xs, rc.xs, pr, ex, lo, hi, rt.xs⟩ (List.drop (0 : Nat) (List.take i.toNat evs.xs))).ls) : Int))) (Need (decide ((cel evs.xs i.toNat ((3 : Nat) + (1 : Nat))).int.toNat < List.length (Sp.rB ⟨rl.xs, rc.xs, pr, ex, lo, hi, rt.xs⟩ (List.drop (0 : Nat) (List.take i.toNat evs.xs))).ls)) (Need (decide ((0 : Int) ≤ i) && decide (i < (↑(List.length evs.xs) : Int))) (Need (decide (i.toNat < List.length evs.xs)) (Ar .i64 ((cel (Sp.rB ⟨rl.xs, rc.xs, pr, ex, lo, hi, rt.xs⟩ (List.drop (0 : Nat) (List.take i.toNat evs.xs))).ls (cel evs.xs i.toNat ((3 : Nat) + (1 : Nat))).int.toNat ((1 : Nat) + (1 : Nat))).int - (cel evs.xs i.toNat ((0 : Nat) + (1 : Nat))).int) fun z => Pre True (Vif (!decide (Sp.feeE rl.xs rc.xs pr ex lo hi rt.xs (cel (Sp.rB ⟨rl.xs, rc.xs, pr, ex, lo, hi, rt.xs⟩ (List.drop (0 : Nat) (List.take i.toNat evs.xs))).ls (cel evs.xs i.toNat ((3 : Nat) + (1 : Nat))).int.toNat ((2 : Nat) + (1 : Nat))).int z = (0 : Int))) ((472 : Nat) = (472 : Nat) + (1 : Nat)) (Ar .i64 (want + Sp.feeN rl.xs rc.xs pr ex lo hi rt.xs (cel (Sp.rB ⟨rl.xs, rc.xs, pr, ex, lo, hi, rt.xs⟩ (List.drop (0 : Nat) (List.take i.toNat evs.xs))).ls (cel evs.xs i.toNat ((3 : Nat) + (1 : Nat))).int.toNat ((2 : Nat) + (1 : Nat))).int z) fun z => Ar .i64 (i + (1 : Int)) fun z_1 => A [.ro _ evs, .i z, .i paid, .i z_1, .ro _ rl, .ro _ rc, .i pr, .i ex, .i lo, .i hi, .ro _ rt, .l er, .l ps]))))))))))))))))))))))) (K (0 : Nat) [.i want, .i paid, .ro _ rl, .ro _ rc, .i pr, .i ex, .i lo, .i hi, .ro _ rt, .l ps])
theorem vcl_hoB (W : InW) (evs : Ro Iv11) (want : Int) (paid : Int) (i : Int) (rl : Ro [.str]) (rc : Ro Ivs) (pr : Int) (ex : Int) (lo : Int) (hi : Int) (rt : Ro [.int .i64, .int .i64]) (er : Dt) (ps : Dt) (A : List Ed → Prop) (K : Nat → List Ed → Prop) : vcTop { cxT Try.prog TT TKk 1000 50 with fn := 8 } 1000 (loopAt Try.prog 8 15) (tmOut 218 [(1, .rs _ evs), (2, .ptr 1 0), (5, .rw 28), (8, .rw 31), (10, .si .i64 want), (11, .si .i64 paid), (13, .si .i64 i)] [4, 14, 15, 16, 17, 18, 99, 100, 101, 102, 103, 104, 105, 106, 107, 108, 109, 110, 111, 112, 113, 114, 115, 116, 117, 118, 119, 120, 121, 122, 123, 124, 125, 126, 127, 128, 129, 130, 131, 132, 133, 134, 135, 136, 137, 138, 139, 140, 141, 142, 143, 144, 145, 146, 147, 148, 149, 150, 151, 152, 153, 154, 155, 156, 157, 158, 159, 160, 161, 162, 163, 164, 165, 166, 167, 168, 169, 170, 171, 172]) [(1, .blk 28 [.rs _ rl, .rs _ rc, .si .i64 pr, .si .i64 ex, .si .i64 lo, .si .i64 hi, .rs _ rt]), (28, .arr 30 [.int .i64] er), (31, .arr 61 Iv4 ps)] (roundL lc_hoB A K) = VCL_hoB evs want paid i rl rc pr ex lo hi rt er ps A K := by kernel_rfl
def okLt_hoB : Prop := ∀ (W : InW) (body a : Code), (Try.prog.funcs[8]?).bind (·.body) = some body → a ∈ loopsIn body → keyOf a = 15 → @LoopOk W Try.prog a (@loopRun W lc_hoB)
theorem okl_hoB (meas : [InW] → List Ed → Nat) (hyp_ : ∀ (W : InW) (evs : Ro Iv11) (want : Int) (paid : Int) (i : Int) (rl : Ro [.str]) (rc : Ro Ivs) (pr : Int) (ex : Int) (lo : Int) (hi : Int) (rt : Ro [.int .i64, .int .i64]) (er : Dt) (ps : Dt) (K : Nat → List Ed → Prop), sp_hoB [.ro _ evs, .i want, .i paid, .i i, .ro _ rl, .ro _ rc, .i pr, .i ex, .i lo, .i hi, .ro _ rt, .l er, .l ps] K → ∀ A : List Ed → Prop, (∀ e, meas e < meas [.ro _ evs, .i want, .i paid, .i i, .ro _ rl, .ro _ rc, .i pr, .i ex, .i lo, .i hi, .ro _ rt, .l er, .l ps] → sp_hoB e K → A e) → VCL_hoB evs want paid i rl rc pr ex lo hi rt er ps A K) : okLt_hoB :=
  LE.okOf' (fun W => @TT W) (fun W => @TT_ok W) mixed_ok TKk 1000 50 (by kernel_rfl) lc_hoB (fun W => @meas W) fun W evs want paid i rl rc pr ex lo hi rt er ps K hs =>
    (vcl_hoB W evs want paid i rl rc pr ex lo hi rt er ps (fun e => meas e < meas [.ro _ evs, .i want, .i paid, .i i, .ro _ rl, .ro _ rc, .i pr, .i ex, .i lo, .i hi, .ro _ rt, .l er, .l ps] ∧ sp_hoB e K) K).mpr (hyp_ W evs want paid i rl rc pr ex lo hi rt er ps K hs _ fun e h1 h2 => ⟨h1, h2⟩)
theorem okLhoA : okLt_hoA := okl_hoA (fun e => match e with | _ :: _ :: _ :: .i i :: .l ls :: _ => ((ls.length : Int) - i).toNat | _ => 0) fun W evs want paid i ls rl rc pr ex lo hi rt er ps K hs A hA => by
  obtain ⟨⟨h0, h1, h2, h3, hp, hb⟩, hk⟩ := hs
  unfold VCL_hoA
  simp only [Nat.zero_add, Nat.reduceAdd]
  refine vifd (fun e => ?_) fun e => ?_
  · have hx : i.toNat < ls.length := by omega
    have hr := hp.row i.toNat hx
    have hm : 0 ≤ (cel ls i.toNat 3).int * pr ∧ (cel ls i.toNat 3).int * pr ≤ 4 * 10000 := ⟨Int.mul_nonneg (by omega) (by omega), Int.mul_le_mul hr.2 h3.2 (by omega) (by omega)⟩
    have hA' : A [.ro _ evs, .i (Sp.hoW ls pr i.toNat want), .i paid, .i (i + 1), .l ls, .ro _ rl, .ro _ rc, .i pr, .i ex, .i lo, .i hi, .ro _ rt, .l er, .l ps] := by
      refine hA _ (by show ((ls.length : Int) - (i + 1)).toNat < ((ls.length : Int) - i).toNat; omega) ⟨⟨by omega, by omega, h2, h3, hp, ?_⟩, ?_⟩
      · unfold Sp.hoW
        split <;> omega
      · rw [show ls.length - i.toNat = (ls.length - (i.toNat + 1)) + 1 by omega, Sp.iter] at hk
        rw [show (i + 1).toNat = i.toNat + 1 by omega]
        exact hk
    clear hA hk hp
    unfold Sp.hoW at hA'
    generalize (cel ls i.toNat 3).int * pr = hpr at *
    by_cases e1 : (cel ls i.toNat 4).int = 2 ∨ (cel ls i.toNat 4).int = 3
    · rw [if_pos e1] at hA'
      repeat' (first | refine vifd (fun _ => ?_) fun _ => ?_ | refine vifn (fun _ => ?_) fun _ => ?_ | refine nedd (by omega) ?_ | refine ned (by simp only [Bool.and_eq_true, decide_eq_true_eq]; omega) ?_ | refine ar64 (by omega) ?_ | omega)
      all_goals exact hA'
    · rw [if_neg e1] at hA'
      repeat' (first | refine vifd (fun _ => ?_) fun _ => ?_ | refine vifn (fun _ => ?_) fun _ => ?_ | refine nedd (by omega) ?_ | refine ned (by simp only [Bool.and_eq_true, decide_eq_true_eq]; omega) ?_ | refine ar64 (by omega) ?_ | omega)
      all_goals exact hA'
  · rw [show ls.length - i.toNat = 0 by omega] at hk
    exact hk
theorem okLhoC : okLt_hoC := okl_hoC (fun e => match e with | [_, _, .i i, _, _, _, _, _, _, _, .l ps] => ((ps.length : Int) - i).toNat | _ => 0) fun W want paid i rl rc pr ex lo hi rt ps K hs A hA => by
  obtain ⟨⟨h0, h1, h2, hp, hb⟩, hk⟩ := hs
  unfold VCL_hoC
  simp only [Nat.zero_add, Nat.reduceAdd]
  refine vifd (fun e => ?_) fun e => ?_
  · have hx : i.toNat < ps.length := by omega
    have hr := hp.row i.toNat hx
    have hA' : A [.i want, .i (Sp.hoP ps rl.xs.length i.toNat paid), .i (i + 1), .ro _ rl, .ro _ rc, .i pr, .i ex, .i lo, .i hi, .ro _ rt, .l ps] := by
      refine hA _ (by show ((ps.length : Int) - (i + 1)).toNat < ((ps.length : Int) - i).toNat; omega) ⟨⟨by omega, by omega, h2, hp, ?_⟩, ?_⟩
      · unfold Sp.hoP
        split <;> omega
      · rw [show ps.length - i.toNat = (ps.length - (i.toNat + 1)) + 1 by omega, Sp.iter] at hk
        rw [show (i + 1).toNat = i.toNat + 1 by omega]
        exact hk
    clear hA hk hp
    unfold Sp.hoP at hA'
    by_cases e1 : 0 ≤ (cel ps i.toNat 1).int ∧ (cel ps i.toNat 1).int < rl.xs.length
    · rw [if_pos e1] at hA'
      have := hr.2 e1.1 e1.2
      repeat' (first | refine vifd (fun _ => ?_) fun _ => ?_ | refine vifn (fun _ => ?_) fun _ => ?_ | refine nedd (by omega) ?_ | refine ned (by simp only [Bool.and_eq_true, decide_eq_true_eq]; omega) ?_ | refine ar64 (by omega) ?_ | omega)
      all_goals exact hA'
    · rw [if_neg e1] at hA'
      repeat' (first | refine vifd (fun _ => ?_) fun _ => ?_ | refine vifn (fun _ => ?_) fun _ => ?_ | refine nedd (by omega) ?_ | refine ned (by simp only [Bool.and_eq_true, decide_eq_true_eq]; omega) ?_ | refine ar64 (by omega) ?_ | omega)
      all_goals exact hA'
  · rw [show ps.length - i.toNat = 0 by omega] at hk
    exact hk
theorem okLhoB : okLt_hoB := okl_hoB (fun e => match e with | .ro _ evs :: _ :: _ :: .i i :: _ => ((evs.xs.length : Int) - i).toNat | _ => 0) fun W evs want paid i rl rc pr ex lo hi rt er ps K hs A hA => by
  obtain ⟨⟨h0, h1, h2, hb, hp⟩, hk⟩ := hs
  unfold VCL_hoB
  simp only [Nat.zero_add, Nat.reduceAdd, List.drop_zero]
  have hel := hp.errs
  refine vifd (fun e => ?_) fun e => ?_
  · have hx : i.toNat < evs.xs.length := by omega
    have hA' : (want ≤ Sp.hoF ⟨rl.xs, rc.xs, pr, ex, lo, hi, rt.xs⟩ evs.xs er i.toNat want ∧ Sp.hoF ⟨rl.xs, rc.xs, pr, ex, lo, hi, rt.xs⟩ evs.xs er i.toNat want ≤ want + 40000) → A [.ro _ evs, .i (Sp.hoF ⟨rl.xs, rc.xs, pr, ex, lo, hi, rt.xs⟩ evs.xs er i.toNat want), .i paid, .i (i + 1), .ro _ rl, .ro _ rc, .i pr, .i ex, .i lo, .i hi, .ro _ rt, .l er, .l ps] := fun hw => by
      refine hA _ (by show ((evs.xs.length : Int) - (i + 1)).toNat < ((evs.xs.length : Int) - i).toNat; omega) ⟨⟨by omega, by omega, h2, by omega, hp⟩, ?_⟩
      rw [show evs.xs.length - i.toNat = (evs.xs.length - (i.toNat + 1)) + 1 by omega, Sp.iter] at hk
      rw [show (i + 1).toNat = i.toNat + 1 by omega]
      exact hk
    refine ned (by simp; omega) (nedd hx (vifn (fun e1 => ar64 (by omega) ?_) fun e1 => ned (by simp; omega) (nedd (by omega) (vifn (fun e2 => ar64 (by omega) ?_) fun e2 => ?_))))
    · unfold Sp.hoF at hA'
      rw [if_neg (fun h => e1 h.1)] at hA'
      exact hA' (by omega)
    · unfold Sp.hoF at hA'
      rw [if_neg (fun h => e2 h.2)] at hA'
      exact hA' (by omega)
    · obtain ⟨r1, r2, r3, r4, r5⟩ := hp.row i.toNat hx e1 e2
      unfold Sp.hoF at hA'
      rw [if_pos ⟨e1, e2⟩] at hA'
      refine nedd h0 (ned (by simp; omega) ⟨trivial, ned (by simp; omega) (nedd hx (vifn (fun x => absurd r1 x) fun _ => vifd (fun x => by omega) fun _ => vifd (fun x => by omega) fun _ => ned (by simp; omega) (nedd (by omega) (ned (by simp; omega) (nedd (by omega) (ned (by simp; omega) (nedd hx (ar64 ?_ ⟨trivial, vifn (fun x => absurd r4 x) fun _ => ar64 ?_ (ar64 (by omega) (hA' (by omega)))⟩))))))) )⟩)
      · unfold Sp.hoL at r3; omega
      · show _ ≤ want + Sp.hoN ⟨rl.xs, rc.xs, pr, ex, lo, hi, rt.xs⟩ evs.xs i.toNat ∧ want + Sp.hoN ⟨rl.xs, rc.xs, pr, ex, lo, hi, rt.xs⟩ evs.xs i.toNat ≤ _
        omega
  · rw [show evs.xs.length - i.toNat = 0 by omega] at hk
    exact hk
noncomputable def le_hoA : LE Try.prog := ⟨8, 10, fun W => @loopRun W lc_hoA, okLhoA⟩
noncomputable def le_hoB : LE Try.prog := ⟨8, 15, fun W => @loopRun W lc_hoB, okLhoB⟩
noncomputable def le_hoC : LE Try.prog := ⟨8, 27, fun W => @loopRun W lc_hoC, okLhoC⟩
noncomputable def TKl : Tab Try.prog := ⟨[pc_bRun, pc_bPost, pc_valid, pc_shaped, pc_Awake], [le_hoA, le_hoB, le_hoC], []⟩
def VC_lawHours [W : InW] (s_Learners : Ro [.str]) (s_Cars : Ro Ivs) (s_Price : Int) (s_Excess : Int) (s_Lo : Int) (s_Hi : Int) (s_Terms : Ro [.int .i64, .int .i64]) (evs : Ro Iv11) (Q : DS → Prop) : Prop :=
  Pre True (Pre True (Vif (!decide (Sp.rErr ⟨s_Learners.xs, s_Cars.xs, s_Price, s_Excess, s_Lo, s_Hi, s_Terms.xs⟩ evs.xs = (0 : Int))) (Vif (!decide (Sp.rErr ⟨s_Learners.xs, s_Cars.xs, s_Price, s_Excess, s_Lo, s_Hi, s_Terms.xs⟩ evs.xs = (0 : Int))) (Vif (decide ((↑(List.length (Sp.rE ⟨s_Learners.xs, s_Cars.xs, s_Price, s_Excess, s_Lo, s_Hi, s_Terms.xs⟩ evs.xs)) : Int) = (0 : Int))) (Pre True (Q [[Cl.b true]])) (Q [[Cl.b false]])) (Q [[Cl.b false]])) (Pre (Sp.NamesOk s_Learners.xs ∧ Sp.NamesOk s_Cars.xs) (Vif (!decide (Sp.chkE s_Learners.xs s_Cars.xs s_Price s_Excess s_Lo s_Hi s_Terms.xs = (0 : Int))) (Vif (!decide (Sp.rErr ⟨s_Learners.xs, s_Cars.xs, s_Price, s_Excess, s_Lo, s_Hi, s_Terms.xs⟩ evs.xs = (0 : Int))) (Vif (decide ((↑(List.length (Sp.rE ⟨s_Learners.xs, s_Cars.xs, s_Price, s_Excess, s_Lo, s_Hi, s_Terms.xs⟩ evs.xs)) : Int) = (0 : Int))) (Pre True (Q [[Cl.b true]])) (Q [[Cl.b false]])) (Q [[Cl.b false]])) (Vif (!decide (Sp.rErr ⟨s_Learners.xs, s_Cars.xs, s_Price, s_Excess, s_Lo, s_Hi, s_Terms.xs⟩ evs.xs = (0 : Int))) (Q [[Cl.b false]]) (Vif (!decide ((↑(List.length (Sp.rE ⟨s_Learners.xs, s_Cars.xs, s_Price, s_Excess, s_Lo, s_Hi, s_Terms.xs⟩ evs.xs)) : Int) = (↑(List.length evs.xs) : Int))) (Q [[Cl.b false]]) (Pre (List.length s_Learners.xs ≤ (1000 : Nat)) (Vif (!Sp.shapedE (List.length s_Learners.xs) (List.length s_Cars.xs) (Sp.rB ⟨s_Learners.xs, s_Cars.xs, s_Price, s_Excess, s_Lo, s_Hi, s_Terms.xs⟩ evs.xs).ls (Sp.rB ⟨s_Learners.xs, s_Cars.xs, s_Price, s_Excess, s_Lo, s_Hi, s_Terms.xs⟩ evs.xs).km (Sp.rB ⟨s_Learners.xs, s_Cars.xs, s_Price, s_Excess, s_Lo, s_Hi, s_Terms.xs⟩ evs.xs).si (Sp.rB ⟨s_Learners.xs, s_Cars.xs, s_Price, s_Excess, s_Lo, s_Hi, s_Terms.xs⟩ evs.xs).ac) (Q [[Cl.b false]]) (Pre ((0 : Int) ≤ (0 : Int) ∧ (0 : Int) ≤ (↑(List.length (Sp.rB ⟨s_Learners.xs, s_Cars.xs, s_Price, s_Excess, s_Lo, s_Hi, s_Terms.xs⟩ evs.xs).ls) : Int) ∧ List.length (Sp.rB ⟨s_Learners.xs, s_Cars.xs, s_Price, s_Excess, s_Lo, s_Hi, s_Terms.xs⟩ evs.xs).ls ≤ (1000 : Nat) ∧ ((0 : Int) ≤ s_Price ∧ s_Price ≤ (10000 : Int)) ∧ Sp.HoursOk (Sp.rB ⟨s_Learners.xs, s_Cars.xs, s_Price, s_Excess, s_Lo, s_Hi, s_Terms.xs⟩ evs.xs).ls ∧ (0 : Int) ≤ (0 : Int) ∧ (0 : Int) ≤ (40000 : Int) * (0 : Int)) (Pre ((0 : Int) ≤ (0 : Int) ∧ (0 : Int) ≤ (↑(List.length evs.xs) : Int) ∧ List.length evs.xs ≤ (1000 : Nat) ∧ ((0 : Int) ≤ Sp.iter (Sp.hoW (Sp.rB ⟨s_Learners.xs, s_Cars.xs, s_Price, s_Excess, s_Lo, s_Hi, s_Terms.xs⟩ evs.xs).ls s_Price) (List.length (Sp.rB ⟨s_Learners.xs, s_Cars.xs, s_Price, s_Excess, s_Lo, s_Hi, s_Terms.xs⟩ evs.xs).ls - Int.toNat (0 : Int)) (Int.toNat (0 : Int)) (0 : Int) ∧ Sp.iter (Sp.hoW (Sp.rB ⟨s_Learners.xs, s_Cars.xs, s_Price, s_Excess, s_Lo, s_Hi, s_Terms.xs⟩ evs.xs).ls s_Price) (List.length (Sp.rB ⟨s_Learners.xs, s_Cars.xs, s_Price, s_Excess, s_Lo, s_Hi, s_Terms.xs⟩ evs.xs).ls - Int.toNat (0 : Int)) (Int.toNat (0 : Int)) (0 : Int) ≤ (100000000 : Int) + (40000 : Int) * (0 : Int)) ∧ Sp.CanOk ⟨s_Learners.xs, s_Cars.xs, s_Price, s_Excess, s_Lo, s_Hi, s_Terms.xs⟩ evs.xs (Sp.rE ⟨s_Learners.xs, s_Cars.xs, s_Price, s_Excess, s_Lo, s_Hi, s_Terms.xs⟩ evs.xs)) (Pre ((0 : Int) ≤ (0 : Int) ∧ (0 : Int) ≤ (↑(List.length (Sp.rB ⟨s_Learners.xs, s_Cars.xs, s_Price, s_Excess, s_Lo, s_Hi, s_Terms.xs⟩ evs.xs).ps) : Int) ∧ List.length (Sp.rB ⟨s_Learners.xs, s_Cars.xs, s_Price, s_Excess, s_Lo, s_Hi, s_Terms.xs⟩ evs.xs).ps ≤ (1000 : Nat) ∧ Sp.PaidOk (Sp.rB ⟨s_Learners.xs, s_Cars.xs, s_Price, s_Excess, s_Lo, s_Hi, s_Terms.xs⟩ evs.xs).ps (↑(List.length s_Learners.xs) : Int) ∧ (0 : Int) ≤ (0 : Int) ∧ (0 : Int) ≤ (10000000 : Int) * (0 : Int)) (Vif (decide (Sp.iter (Sp.hoP (Sp.rB ⟨s_Learners.xs, s_Cars.xs, s_Price, s_Excess, s_Lo, s_Hi, s_Terms.xs⟩ evs.xs).ps (↑(List.length s_Learners.xs) : Int)) (List.length (Sp.rB ⟨s_Learners.xs, s_Cars.xs, s_Price, s_Excess, s_Lo, s_Hi, s_Terms.xs⟩ evs.xs).ps - Int.toNat (0 : Int)) (Int.toNat (0 : Int)) (0 : Int) = Sp.iter (Sp.hoF ⟨s_Learners.xs, s_Cars.xs, s_Price, s_Excess, s_Lo, s_Hi, s_Terms.xs⟩ evs.xs (Sp.rE ⟨s_Learners.xs, s_Cars.xs, s_Price, s_Excess, s_Lo, s_Hi, s_Terms.xs⟩ evs.xs)) (List.length evs.xs - Int.toNat (0 : Int)) (Int.toNat (0 : Int)) (Sp.iter (Sp.hoW (Sp.rB ⟨s_Learners.xs, s_Cars.xs, s_Price, s_Excess, s_Lo, s_Hi, s_Terms.xs⟩ evs.xs).ls s_Price) (List.length (Sp.rB ⟨s_Learners.xs, s_Cars.xs, s_Price, s_Excess, s_Lo, s_Hi, s_Terms.xs⟩ evs.xs).ls - Int.toNat (0 : Int)) (Int.toNat (0 : Int)) (0 : Int)))) (Pre True (Q [[Cl.b true]])) (Q [[Cl.b false]])))))))))))))
theorem vc_lawHours (W : InW) (s_Learners : Ro [.str]) (s_Cars : Ro Ivs) (s_Price : Int) (s_Excess : Int) (s_Lo : Int) (s_Hi : Int) (s_Terms : Ro [.int .i64, .int .i64]) (evs : Ro Iv11) (Q : DS → Prop) : bodyK (cxT Try.prog TT TKl 1000 50) 1000 8 [.agg [.rs _ s_Learners, .rs _ s_Cars, .si .i64 s_Price, .si .i64 s_Excess, .si .i64 s_Lo, .si .i64 s_Hi, .rs _ s_Terms], .rs _ evs] [] 0 (leafK [(false, [.bool])] Q) (fun _ _ _ _ => Stuck 421) = VC_lawHours s_Learners s_Cars s_Price s_Excess s_Lo s_Hi s_Terms evs Q := by kernel_rfl
abbrev ats_lawHours : List AT := [.agg [.sl [.str], .sl Ivs, .int .i64, .int .i64, .int .i64, .int .i64, .sl [.int .i64, .int .i64]], .one (.sl Iv11)]
theorem ok_lawHours {pre : DS → Prop} {res : DS → DS} (hyp_ : ∀ (W : InW) (s_Learners : Ro [.str]) (s_Cars : Ro Ivs) (s_Price : Int) (s_Excess : Int) (s_Lo : Int) (s_Hi : Int) (s_Terms : Ro [.int .i64, .int .i64]) (evs : Ro Iv11), pre [[.l s_Learners.xs, .l s_Cars.xs, .i s_Price, .i s_Excess, .i s_Lo, .i s_Hi, .l s_Terms.xs], [.l evs.xs]] → ∀ Q : DS → Prop, Q (res [[.l s_Learners.xs, .l s_Cars.xs, .i s_Price, .i s_Excess, .i s_Lo, .i s_Hi, .l s_Terms.xs], [.l evs.xs]]) → VC_lawHours s_Learners s_Cars s_Price s_Excess s_Lo s_Hi s_Terms evs Q) : PureOk Try.prog 8 ats_lawHours [(false, [.bool])] pre res :=
  PureOk.of' (fun W => @TT W) (fun W => @TT_ok W) mixed_ok TKl 1000 50 fun W s_Learners s_Cars s_Price s_Excess s_Lo s_Hi s_Terms evs hp =>
    (vc_lawHours W s_Learners s_Cars s_Price s_Excess s_Lo s_Hi s_Terms evs (fun o => o = res [[.l s_Learners.xs, .l s_Cars.xs, .i s_Price, .i s_Excess, .i s_Lo, .i s_Hi, .l s_Terms.xs], [.l evs.xs]])).mpr (hyp_ W s_Learners s_Cars s_Price s_Excess s_Lo s_Hi s_Terms evs hp _ rfl)
end Go.Proofs.Ytiiicnhjjfmpkaa
namespace Go.Proofs.Ytiiicnhjjfmpkaa
set_option linter.unusedVariables false
namespace Sp
theorem setCls_at (cs : List Cl) : ∀ (n : Nat) (l : List Cl) (k : Nat), k < cs.length → (setCls l n cs).getD (n + k) .z = cs.getD k .z
  | 0, l, k, h => by simp [setCls, List.getD_eq_getElem?_getD, List.getElem?_append_left h]
  | n + 1, l, k, h => by
    rw [show n + 1 + k = (n + k) + 1 by omega, setCls]
    exact setCls_at cs n l.tail k h
theorem cel_setSt4 {ls : Dt} {i st : Int} (h : i.toNat < ls.length) (j : Nat) : cel (setSt ls i st) j 4 = if i.toNat = j then .i st else cel ls j 4 := by
  unfold setSt
  rw [cel_set]
  by_cases e : i.toNat = j
  · rw [if_pos ⟨e, h⟩, if_pos e]
    exact setCls_at [.i st] 4 _ 0 (by simp)
  · rw [if_neg (fun x => e x.1), if_neg e]
theorem moveL_row {rc ls : Dt} {es : List (Int × Int)} {i : Int} (hi : i.toNat < ls.length) (j : Nat) :
    (i.toNat ≠ j → ∀ k, cel (moveL rc ls es i) j k = cel ls j k) ∧
    (i.toNat = j → (cel (moveL rc ls es i) j 0).int = (cel ls j 0).int ∧ (cel (moveL rc ls es i) j 1).int = (cel ls j 1).int ∧ (cel (moveL rc ls es i) j 3).int = (cel ls j 3).int ∧
      ((moveTo rc ls es (cel ls j 0).int (cel ls j 1).int (cel ls j 3).int i (days ((cel ls j 2).int + 24)) ((cel ls j 2).int + 24) = none ∧ (cel (moveL rc ls es i) j 2).int = (cel ls j 2).int ∧ (cel (moveL rc ls es i) j 4).int = 1) ∨
       (moveTo rc ls es (cel ls j 0).int (cel ls j 1).int (cel ls j 3).int i (days ((cel ls j 2).int + 24)) ((cel ls j 2).int + 24) = some (cel (moveL rc ls es i) j 2).int ∧ (cel (moveL rc ls es i) j 4).int = (cel ls j 4).int))) := by
  refine ⟨fun e k => ?_, fun e => ?_⟩
  · unfold moveL setSt
    split
    · rw [cel_set, if_neg (fun h => e h.1)]
    · rw [cel_set, if_neg (fun h => e h.1)]
  · subst e
    unfold moveL
    split
    · rename_i s hs
      have e : ∀ k, cel (ls.set i.toNat [.i (cel ls i.toNat 0).int, .i (cel ls i.toNat 1).int, .i s, .i (cel ls i.toNat 3).int, .i (cel ls i.toNat 4).int]) i.toNat k = [Cl.i (cel ls i.toNat 0).int, .i (cel ls i.toNat 1).int, .i s, .i (cel ls i.toNat 3).int, .i (cel ls i.toNat 4).int].getD k .z := fun k => by rw [cel_set, if_pos ⟨rfl, hi⟩]
      rw [e, e, e, e, e]
      exact ⟨rfl, rfl, rfl, .inr ⟨hs, rfl⟩⟩
    · rename_i hs
      rw [cel_setSt _ _ _ _ _ (by decide), cel_setSt _ _ _ _ _ (by decide), cel_setSt _ _ _ _ _ (by decide), cel_setSt _ _ _ _ _ (by decide), cel_setSt4 hi, if_pos rfl]
      exact ⟨rfl, rfl, rfl, .inl ⟨hs, rfl, rfl⟩⟩
theorem weatherL_st {rc : Dt} {es : List (Int × Int)} {x : Evt} : ∀ (n : Nat) (i : Int) (ls : Dt), 0 ≤ i → i + n ≤ ls.length → ∀ j : Nat,
    (cel (weatherL rc es x n i ls) j 3).int = (cel ls j 3).int ∧ ((cel (weatherL rc es x n i ls) j 4).int = (cel ls j 4).int ∨ (cel ls j 4).int = 0 ∧ (cel (weatherL rc es x n i ls) j 4).int = 1)
  | 0, i, ls, _, _ => fun j => ⟨rfl, .inl rfl⟩
  | n + 1, i, ls, h0, h1 => fun j => by
    unfold weatherL
    by_cases e : hit rc ls i x = true
    · rw [if_pos e]
      obtain ⟨a, b⟩ := weatherL_st n (i + 1) (moveL rc ls es i) (by omega) (by rw [moveL_len]; omega) j
      obtain ⟨c, d⟩ := moveL_row (rc := rc) (es := es) (show i.toNat < ls.length by omega) j
      have e4 : i.toNat = j → (cel ls j 4).int = 0 := fun h => by
        unfold hit at e
        simp only [Bool.and_eq_true, decide_eq_true_eq] at e
        rw [← h]; exact e.1
      by_cases hj : i.toNat = j
      · obtain ⟨_, _, d3, d4⟩ := d hj
        have e4 := e4 hj
        refine ⟨by rw [a, d3], ?_⟩
        rcases d4 with ⟨_, _, d4⟩ | ⟨_, d4⟩
        · rw [d4] at b
          rcases b with b | b
          · exact .inr ⟨e4, b⟩
          · omega
        · rw [d4] at b; exact b
      · rw [c hj, c hj] at *
        exact ⟨a, b⟩
    · rw [if_neg e]
      exact weatherL_st n (i + 1) ls (by omega) (by omega) j
theorem sumR_congr {f : List Cl → Int} : ∀ (a b : Dt), a.length = b.length → (∀ j, j < a.length → f (a.getD j []) = f (b.getD j [])) → sumR f a = sumR f b
  | [], [], _, _ => rfl
  | [], _ :: _, h, _ => by cases h
  | _ :: _, [], h, _ => by cases h
  | r :: a, t :: b, h, hf => by
    rw [sumR, sumR, sumR_congr a b (by simpa using h) fun j hj => hf (j + 1) (by simp; omega)]
    have := hf 0 (by simp)
    rw [show f r = f t from this]
theorem sumR_one {f : List Cl → Int} : ∀ (a b : Dt) (i : Nat), a.length = b.length → i < a.length → (∀ j, j < a.length → j ≠ i → f (a.getD j []) = f (b.getD j [])) → sumR f a = sumR f b + f (a.getD i []) - f (b.getD i [])
  | [], _, _, _, h, _ => by simp at h
  | _ :: _, [], _, h, _, _ => by cases h
  | r :: a, t :: b, 0, h, _, hf => by
    rw [sumR, sumR, sumR_congr a b (by simpa using h) fun j hj => hf (j + 1) (by simp; omega) (by omega)]
    show f r + _ = f t + _ + f r - f t
    omega
  | r :: a, t :: b, i + 1, h, hi, hf => by
    rw [sumR, sumR, sumR_one a b i (by simpa using h) (by simpa using hi) fun j hj hn => hf (j + 1) (by simp; omega) (by omega)]
    have := hf 0 (by simp) (by omega)
    rw [show f r = f t from this]
    show _ = _ + f (a.getD i []) - f (b.getD i [])
    omega
theorem iter_add {g : Nat → Int → Int} (h : ∀ j z, g j z = z + g j 0) : ∀ (n i : Nat) (z : Int), iter g n i z = z + iter g n i 0
  | 0, _, z => by simp [iter]
  | n + 1, i, z => by rw [iter, iter, iter_add h n (i + 1) (g i z), iter_add h n (i + 1) (g i 0), h i z]; omega
end Sp
end Go.Proofs.Ytiiicnhjjfmpkaa
namespace Go.Proofs.Ytiiicnhjjfmpkaa
open Go.RowKit
set_option linter.unusedVariables false
set_option maxRecDepth 100000
namespace Sp
def fW (pr : Int) (r : List Cl) : Int := if rI r 4 = 2 ∨ rI r 4 = 3 then rI r 3 * pr else 0
def fP (nl : Int) (r : List Cl) : Int := if 0 ≤ rI r 1 ∧ rI r 1 < nl then rI r 3 else 0
theorem fW_cel (pr : Int) (a : Dt) (j : Nat) : fW pr (a.getD j []) = if (cel a j 4).int = 2 ∨ (cel a j 4).int = 3 then (cel a j 3).int * pr else 0 := rfl
theorem fW_rows {pr : Int} {a b : Dt} {j : Nat} (h3 : (cel a j 3).int = (cel b j 3).int) (h4 : (cel a j 4).int = (cel b j 4).int ∨ (cel b j 4).int = 0 ∧ (cel a j 4).int = 1) : fW pr (a.getD j []) = fW pr (b.getD j []) := by
  rw [fW_cel, fW_cel, h3]
  by_cases x : (cel a j 4).int = 2 ∨ (cel a j 4).int = 3
  · rw [if_pos x, if_pos (by omega)]
  · rw [if_neg x, if_neg (by omega)]
theorem iter_hoW (ls : Dt) (pr : Int) : iter (hoW ls pr) ls.length 0 0 = sumR (fW pr) ls :=
  iter_sum0 _ fun j z hj => by
    unfold hoW fW
    simp only [cel_rI]
    split <;> omega
theorem iter_hoP (ps : Dt) (nl : Int) : iter (hoP ps nl) ps.length 0 0 = sumR (fP nl) ps :=
  iter_sum0 _ fun j z hj => by
    unfold hoP fP
    simp only [cel_rI]
    split <;> omega
theorem hoF_add (s : Sch) (evs er : Dt) (j : Nat) (z : Int) : hoF s evs er j z = z + hoF s evs er j 0 := by
  unfold hoF
  split <;> omega
theorem hoF_def (s : Sch) (evs er : Dt) (j : Nat) (z : Int) : hoF s evs er j z = if (cel evs j 0).int = 1 ∧ (cel er j 0).int = 0 then z + hoN s evs j else z := rfl
theorem rErr_take {s : Sch} {evs : Dt} (h : rErr s evs = 0) (j : Nat) : rErr s (evs.take j) = 0 := by
  have h1 := rErr_chk h
  have h2 := (rErr_ok h).2
  unfold rErr runErr
  rw [if_pos h1, if_neg (by rw [List.length_take]; omega)]
theorem rB_take {s : Sch} {evs : Dt} (h : rErr s evs = 0) (j : Nat) (hj : j ≤ evs.length) : rB s (evs.take j) = bk s evs j := by
  rw [rB_ok (rErr_take h j), runAll_bk, List.length_take, Nat.min_eq_left hj, bk_take _ _ _ _ (Nat.le_refl _)]
theorem feeE_ok {s : Sch} (h : chkE s.rl s.rc s.pr s.ex s.lo s.hi s.rt = 0) {hours before : Int} (h1 : 1 ≤ hours ∧ hours ≤ 4) (h2 : 0 ≤ before ∧ before ≤ 4800) : feeE s.rl s.rc s.pr s.ex s.lo s.hi s.rt hours before = 0 ∧ feeN s.rl s.rc s.pr s.ex s.lo s.hi s.rt hours before = fee s.rt s.pr hours before := by
  have e : feeE s.rl s.rc s.pr s.ex s.lo s.hi s.rt hours before = 0 := by
    unfold feeE
    rw [if_pos h, if_pos (by rw [Bool.and_eq_true, inr_iff, inr_iff]; omega)]
  exact ⟨e, by rw [feeN, if_pos e]⟩
theorem can_done {s : Sch} {evs : Dt} (h : rErr s evs = 0) {j : Nat} (hj : j < evs.length) (hk : (evt evs j).kind = 1) (he : (cel (errAll s evs) j 0).int = 0) :
    hasB (bk s evs j).ls (evt evs j).b 0 = true ∧ (0 ≤ (cel (bk s evs j).ls (evt evs j).b.toNat 2).int - (evt evs j).at_ ∧ (cel (bk s evs j).ls (evt evs j).b.toNat 2).int - (evt evs j).at_ ≤ 4800) ∧
    feeE s.rl s.rc s.pr s.ex s.lo s.hi s.rt (hoL s evs j 3) (hoL s evs j 2 - (cel evs j 1).int) = 0 ∧ hoN s evs j = fee s.rt s.pr (cel (bk s evs j).ls (evt evs j).b.toNat 3).int ((cel (bk s evs j).ls (evt evs j).b.toNat 2).int - (evt evs j).at_) := by
  obtain ⟨d1, d2, d3, d4, _⟩ := done_ok hj he
  rcases err_ok d1 d4 with ⟨k, e⟩ | ⟨k, e, f⟩ | ⟨k, e, f⟩ | ⟨k, e, f, g, q⟩ | ⟨k, e, f⟩ | ⟨k, e, f⟩ | ⟨k, e, f⟩ <;> try (rw [hk] at k; exact absurd k (by decide))
  have hI := bk_inv h j (by omega)
  have hr := hI.row e
  have ht := hI.tm
  have hL : ∀ k, hoL s evs j k = (cel (bk s evs j).ls (evt evs j).b.toNat k).int := fun k => by
    unfold hoL
    rw [rB_take h j (by omega)]
    rfl
  have := feeE_ok (rErr_chk h) hr.2.2.2 (before := (cel (bk s evs j).ls (evt evs j).b.toNat 2).int - (evt evs j).at_) (by omega)
  refine ⟨e, by omega, ?_, ?_⟩
  · rw [hL, hL]; exact this.1
  · unfold hoN
    rw [hL, hL]; exact this.2
theorem can_ok {s : Sch} {evs : Dt} (h : rErr s evs = 0) : CanOk s evs (errAll s evs) := by
  refine ⟨errAll_len _ _, fun j hj hk he => ?_⟩
  obtain ⟨e, f, g, q⟩ := can_done h hj hk he
  have hI := bk_inv h j (by omega)
  have hr := hI.row e
  have hb := (hasB_iff.1 e).1
  have hL : ∀ k, hoL s evs j k = (cel (bk s evs j).ls (evt evs j).b.toNat k).int := fun k => by
    unfold hoL
    rw [rB_take h j (by omega)]
    rfl
  have hf := fee_in hI.sch.fees hr.2.2.2 hI.sch.price ((cel (bk s evs j).ls (evt evs j).b.toNat 2).int - (evt evs j).at_)
  refine ⟨rErr_take h j, ?_, ?_, g, ?_⟩
  · rw [rB_take h j (by omega)]; exact hb
  · rw [hL]
    show 0 ≤ _ - (evt evs j).at_ ∧ _ - (evt evs j).at_ ≤ _
    omega
  · rw [q]; exact hf
theorem hours_run {s : Sch} {evs : Dt} (h : rErr s evs = 0) : ∀ n, n ≤ evs.length → sumR (fP s.rl.length) (bk s evs n).ps = iter (hoF s evs (errAll s evs)) n 0 0 + sumR (fW s.pr) (bk s evs n).ls
  | 0, _ => rfl
  | n + 1, hn => by
    have ih := hours_run h n (by omega)
    have hI := bk_inv h n (by omega)
    have hS : school s = s.rl.length := rfl
    rw [iter_succ, Nat.zero_add]
    by_cases he : (cel (errAll s evs) n 0).int = 0
    · have hp := bk_ps (s := s) (evs := evs) (j := n) (by omega)
      rw [if_pos he] at hp
      obtain ⟨d1, _, _, d4, d5⟩ := done_ok (show n < evs.length by omega) he
      have hl : (bk s evs (n + 1)).ls = (eff s (bk s evs n) (evt evs n)).ls := by
        rw [d5]
        show (eff s { bk s evs n with ev := (n : Int) } (evt evs n)).ls = (eff s (bk s evs n) (evt evs n)).ls
        rw [eff_ls d1, eff_ls d1]
      rw [hp, hl, sumR_app, eff_ls d1]
      rw [hoF_def]
      unfold newP
      have hk : (cel evs n 0).int = (evt evs n).kind := rfl
      rw [hk]
      have zero : ∀ (u v c : Int), ¬ (0 ≤ u ∧ u < s.rl.length) → sumR (fP s.rl.length) (postL n u v c) = 0 := fun u v c hu => sumR_postL (fun _ => rfl) (if_neg hu)
      have pay : ∀ (u v c : Int), (0 ≤ u ∧ u < s.rl.length) → sumR (fP s.rl.length) (postL n u v c) = c := fun u v c hu => sumR_postL (fun x => x) (if_pos hu)
      have stay : ∀ (i st : Int), i.toNat < (bk s evs n).ls.length → ((cel (bk s evs n).ls i.toNat 4).int = 0 ∧ st = 1 ∨ (cel (bk s evs n).ls i.toNat 4).int = 2 ∧ st = 3) → sumR (fW s.pr) (setSt (bk s evs n).ls i st) = sumR (fW s.pr) (bk s evs n).ls := fun i st hi hst => by
        refine sumR_congr _ _ (setSt_len _ _ _) fun j hj => ?_
        rw [fW_cel, fW_cel, cel_setSt _ _ _ _ 3 (by decide), cel_setSt4 hi]
        by_cases hj : i.toNat = j
        · rw [if_pos hj, ← hj, show (Cl.i st).int = st from rfl]
          by_cases x : st = 2 ∨ st = 3
          · rw [if_pos x, if_pos (by omega)]
          · rw [if_neg x, if_neg (by omega)]
        · rw [if_neg hj]
      rcases err_ok d1 d4 with ⟨k, e⟩ | ⟨k, e, f⟩ | ⟨k, e, f⟩ | ⟨k, e, f, g, q⟩ | ⟨k, e, f⟩ | ⟨k, e, f⟩ | ⟨k, e, f⟩
      · simp only [k, Int.reduceEq, if_false, if_true, false_and, sumR_app]
        have : fW s.pr [.i (evt evs n).l, .i (evt evs n).c, .i (evt evs n).s, .i (evt evs n).h, .i 0] = 0 := rfl
        simp only [sumR, this]
        omega
      · obtain ⟨_, _, _, q⟩ := can_done h (show n < evs.length by omega) k he
        have hr := hI.row e
        have hb := hasB_iff.1 e
        simp only [k, Int.reduceEq, if_false, if_true, he, and_self]
        rw [pay _ _ _ hr.1, stay _ _ (by omega) (.inl ⟨hb.2, rfl⟩), q, ih]
        omega
      · simp only [k, Int.reduceEq, if_false, if_true, false_and]
        rw [sumR_congr (weatherL s.rc (seeE (bk s evs n).es (evt evs n).d (evt evs n).w) (evt evs n) (bk s evs n).ls.length 0 (bk s evs n).ls) (bk s evs n).ls (weatherL_in _ _ _ (by omega) (by omega) hI.wok).1 fun j hj => by
          obtain ⟨a, b⟩ := weatherL_st (rc := s.rc) (es := seeE (bk s evs n).es (evt evs n).d (evt evs n).w) (x := evt evs n) (bk s evs n).ls.length 0 (bk s evs n).ls (by omega) (by omega) j
          exact fW_rows a b]
        simp only [sumR]
        omega
      · have hr := hI.row e
        have hb := hasB_iff.1 e
        simp only [k, Int.reduceEq, if_false, if_true, false_and]
        rw [pay _ _ _ hr.1, sumR_one (setSt (bk s evs n).ls (evt evs n).b 2) (bk s evs n).ls (evt evs n).b.toNat (setSt_len _ _ _) (by rw [setSt_len]; omega) fun j hj hne => fW_rows (by rw [cel_setSt _ _ _ _ 3 (by decide)]) (.inl (by rw [cel_setSt4 (by omega), if_neg (Ne.symm hne)]))]
        have w1 : fW s.pr ((setSt (bk s evs n).ls (evt evs n).b 2).getD (evt evs n).b.toNat []) = (cel (bk s evs n).ls (evt evs n).b.toNat 3).int * s.pr := by
          rw [fW_cel, cel_setSt _ _ _ _ 3 (by decide), cel_setSt4 (by omega), if_pos rfl]
          exact if_pos (.inl rfl)
        have w2 : fW s.pr ((bk s evs n).ls.getD (evt evs n).b.toNat []) = 0 := by
          rw [fW_cel, hb.2]
          exact if_neg (by omega)
        rw [w1, w2, ih]
        omega
      · simp only [k, Int.reduceEq, if_false, if_true, false_and]
        rw [zero _ _ _ (by omega), ih]
        omega
      · have hb := hasB_iff.1 e
        simp only [k, Int.reduceEq, if_false, if_true, false_and]
        rw [sumR_app, zero _ _ _ (by omega), zero _ _ _ (by omega), stay _ _ (by omega) (.inr ⟨hb.2, rfl⟩), ih]
        omega
      · simp only [k, Int.reduceEq, if_false, if_true, false_and]
        rw [zero _ _ _ (by omega), ih]
        omega
    · obtain ⟨e, h1⟩ := done_no (show n < evs.length by omega) he
      rw [h1]
      rw [hoF_def, if_neg (fun h => he h.2)]
      exact ih
theorem paid_ok {s : Sch} {evs : Dt} (h : rErr s evs = 0) : ∀ n, n ≤ evs.length → ∀ r ∈ (bk s evs n).ps, 0 ≤ rI r 1 → rI r 1 < s.rl.length → rI r 2 = s.rl.length
  | 0, _ => fun r hr => by cases hr
  | n + 1, hn => fun r hr h1 h2 => by
    rw [bk_ps (show n < evs.length by omega)] at hr
    rcases List.mem_append.1 hr with hr | hr
    · exact paid_ok h n (by omega) r hr h1 h2
    have hS : school s = s.rl.length := rfl
    have no : ∀ {u v c : Int}, r ∈ postL n u v c → rI r 1 = u ∧ rI r 2 = v := fun hr => by
      unfold postL at hr
      split at hr
      · cases hr
      · simp at hr; rw [hr]; exact ⟨rfl, rfl⟩
    split at hr
    · unfold newP at hr
      split at hr
      · exact (no hr).2
      split at hr
      · exact (no hr).2
      split at hr
      · have := (no hr).1; omega
      split at hr
      · rcases List.mem_append.1 hr with hr | hr
        · have := (no hr).1; omega
        · have := (no hr).1; omega
      split at hr
      · have := (no hr).1; omega
      · cases hr
    · cases hr
end Sp
theorem hours_pure : PureOk Try.prog 8 ats_lawHours [(false, [.bool])] (WfD ats_lawHours) fun _ => [[.b true]] :=
  ok_lawHours fun W rl rc pr ex lo hi rt evs hp Q h => by
    obtain ⟨d, ds, e1, hp1, _⟩ := hp
    cases e1
    have hn := school_names hp1
    unfold VC_lawHours
    by_cases e : Sp.rErr ⟨rl.xs, rc.xs, pr, ex, lo, hi, rt.xs⟩ evs.xs = 0
    · have hc := (Sp.rErr_ok e).1
      have hz : Sp.chkE rl.xs rc.xs pr ex lo hi rt.xs = 0 := Sp.rErr_chk e
      obtain ⟨hL, hI, h60, hs⟩ := Sp.rB_led e
      have hl := hc.learners
      have hpr := hc.price
      have hq := hI.ps
      have hm := hI.many
      have hcan := Sp.can_ok e
      have key := Sp.hours_run e _ (Nat.le_refl _)
      have hpd := Sp.paid_ok e _ (Nat.le_refl _)
      rw [← Sp.runAll_bk, ← Sp.rB_ok e] at key hpd
      rw [← Sp.rE_ok e] at hcan key
      rw [← Sp.iter_hoP, ← Sp.iter_hoW] at key
      simp only at hl hpr hs hcan key hpd
      simp only [show Int.toNat 0 = 0 from rfl, Nat.sub_zero]
      have hh : Sp.HoursOk (Sp.rB ⟨rl.xs, rc.xs, pr, ex, lo, hi, rt.xs⟩ evs.xs).ls := ⟨fun j hj => (hI.ls j hj).2.2.2⟩
      have hW : 0 ≤ Sp.iter (Sp.hoW (Sp.rB ⟨rl.xs, rc.xs, pr, ex, lo, hi, rt.xs⟩ evs.xs).ls pr) (Sp.rB ⟨rl.xs, rc.xs, pr, ex, lo, hi, rt.xs⟩ evs.xs).ls.length 0 0 ∧ Sp.iter (Sp.hoW (Sp.rB ⟨rl.xs, rc.xs, pr, ex, lo, hi, rt.xs⟩ evs.xs).ls pr) (Sp.rB ⟨rl.xs, rc.xs, pr, ex, lo, hi, rt.xs⟩ evs.xs).ls.length 0 0 ≤ 40000 * ((0 + (Sp.rB ⟨rl.xs, rc.xs, pr, ex, lo, hi, rt.xs⟩ evs.xs).ls.length : Nat) : Int) := by
        refine Sp.iter_ind (P := fun j z => 0 ≤ z ∧ z ≤ 40000 * (j : Int)) _ 0 0 (by omega) fun j z h1 h2 h3 => ?_
        unfold Sp.hoW
        have hr := hh.row j (by omega)
        have hm : 0 ≤ (cel (Sp.rB ⟨rl.xs, rc.xs, pr, ex, lo, hi, rt.xs⟩ evs.xs).ls j 3).int * pr ∧ (cel (Sp.rB ⟨rl.xs, rc.xs, pr, ex, lo, hi, rt.xs⟩ evs.xs).ls j 3).int * pr ≤ 4 * 10000 := ⟨Int.mul_nonneg (by omega) (by omega), Int.mul_le_mul hr.2 hpr.2 (by omega) (by omega)⟩
        generalize (cel (Sp.rB ⟨rl.xs, rc.xs, pr, ex, lo, hi, rt.xs⟩ evs.xs).ls j 3).int * pr = hx at *
        split <;> omega
      refine ⟨trivial, trivial, vif (fun x => absurd e (by simpa using x)) fun _ => ⟨hn, vif (fun x => absurd hz (by simpa using x)) fun _ => vif (fun x => absurd e (by simpa using x)) fun _ => vifn (fun x => absurd ?_ x) fun _ => ⟨by omega, vif (fun x => by rw [hs] at x; cases x) fun _ => ⟨⟨by omega, by omega, by omega, by omega, hh, by omega, by omega⟩, ⟨by omega, by omega, by omega, by omega, hcan⟩, ⟨by omega, by omega, by omega, ⟨fun j hj => ⟨?_, Sp.row_mem (P := fun r => 0 ≤ Sp.rI r 1 → Sp.rI r 1 < rl.xs.length → Sp.rI r 2 = rl.xs.length) hpd j hj⟩⟩, by omega, by omega⟩, vifd (fun _ => ⟨trivial, h⟩) fun x => absurd ?_ x⟩⟩⟩⟩
      · rw [Sp.rE_ok e, Sp.errAll_len]
      · have := (hL.ps.row j hj).2.2.2.2; omega
      · rw [Sp.iter_add (Sp.hoF_add _ _ _) _ _ (Sp.iter _ _ _ _), key]
        omega
    · simp [Vif_iff, Pre_iff, e, Sp.rB_no e, Sp.rE_no e, h]
end Go.Proofs.Ytiiicnhjjfmpkaa
namespace Go.Proofs.Ytiiicnhjjfmpkaa.bookHours
open Go.ChangeShapes Go.WideShapes Go.ChangeAt Go.RowKit
set_option linter.unusedVariables false
set_option maxRecDepth 100000
theorem own : ownKnob Try.prog.godebug = none := by kernel_rfl
theorem laid : laidOutB Try.prog = true := by kernel_rfl
theorem lifted (os : Os) (started : os.Started) (H : Type) (enc : TypeId × Value → H) :
    ReturnsInHanded {} Try.checked os 8 .any (Rows.bookHoursSpec.pre6 enc Try.prog Try.f8 Rows.bookHoursRow.domain false) (Rows.bookHoursSpec.post enc Try.prog Try.f8 false true false false) := by
  refine returnsInHanded_of_change (C := Try.checked) own started (by kernel_rfl) Try.func8
    (ChangeSpec.witness6 (enc := enc) (C := Try.checked) false ⟨#[], #[(.agg #[.slice none 0 0, .slice none 0 0, .int .i64 0, .int .i64 0, .int .i64 0, .int .i64 0, .slice none 0 0]), (.slice none 0 0)], []⟩ 8 (by kernel_rfl) (by kernel_rfl) (by kernel_rfl) (by kernel_rfl)) ?_
  intro W base args ds gs before hval hW _ _
  exact law_end (f := Try.f8) (s := Rows.bookHoursSpec) (by kernel_rfl) Try.underlying4 (by kernel_rfl) rfl laid (by kernel_rfl)
    (fun ds h => by match ds, (show ds.length = 2 from h) with | [_, _], _ => exact ⟨rfl, rfl, rfl⟩) hours_pure hval hW
theorem over : Rows.bookHoursRow.holds Try.pinned (OpenSpec.ofChange Rows.bookHoursSpec) :=
  OpenClaim.holds_of_wide 8 Try.f8 rfl rfl rfl rfl rfl rfl rfl ⟨rfl, rfl, rfl, rfl, rfl⟩ rfl rfl rfl rfl rfl (by kernel_rfl) Try.func8 (by kernel_rfl)
    (of_decide_eq_true (by kernel_rfl)) (by unfold Func.isWrapper; first | (rw [if_pos (by decide +kernel)]; kernel_rfl) | (rw [if_neg (by decide +kernel)]; exact ⟨rfl, rfl⟩))
    (fun os started H enc _ => lifted os started H enc)
theorem proved : Rows.BookHoursSaid := over
end Go.Proofs.Ytiiicnhjjfmpkaa.bookHours
