/-
  'BookMoved': for every input the law returns true, and what is handed in reads as before. No condition.
-/
import Derived.Test.YtiiicnhjjfmpkaaQf
import Derived.Test.YtiiicnhjjfmpkaaRows
import Derived.WalkKit
import Derived.ProofKit
set_option linter.unusedVariables false
set_option linter.unusedSectionVars false
set_option linter.unusedSimpArgs false
namespace Go.Proofs.Ytiiicnhjjfmpkaa
open Go.RowKit
set_option linter.unusedVariables false
set_option maxRecDepth 100000
namespace Sp
def pays (ps : Dt) : Nat → Nat → Dt → Dt
  | 0, _, h => h
  | n + 1, i, h => pays ps n (i + 1) (addA (addA h (cel ps i 1).int (-(cel ps i 3).int)) (cel ps i 2).int (cel ps i 3).int)
structure PsOk (na n : Int) (ps : Dt) : Prop where
  row : ∀ j, j < ps.length → (0 ≤ (cel ps j 0).int ∧ (cel ps j 0).int < n) ∧ (0 ≤ (cel ps j 1).int ∧ (cel ps j 1).int < na) ∧ (0 ≤ (cel ps j 2).int ∧ (cel ps j 2).int < na) ∧ (cel ps j 1).int ≠ (cel ps j 2).int ∧ (0 < (cel ps j 3).int ∧ (cel ps j 3).int ≤ 10000000)
  up : ∀ j, j + 1 < ps.length → (cel ps j 0).int ≤ (cel ps (j + 1) 0).int
def sumI (a : Dt) : Nat → Nat → Int
  | _, 0 => 0
  | i, n + 1 => (cel a i 0).int + sumI a (i + 1) n
end Sp
end Go.Proofs.Ytiiicnhjjfmpkaa
namespace Go.Proofs.Ytiiicnhjjfmpkaa
set_option linter.unusedVariables false
namespace Sp
theorem runB_ind {s : Sch} {evs : Dt} {P : Int → Bks → Prop} (hs : ∀ (i : Int) (b : Bks), 0 ≤ i → i < evs.length → Inv s b i → P i b → P (i + 1) (doB s b i (evt evs i))) : ∀ (n : Nat) (i : Int) (b : Bks), 0 ≤ i → i + n ≤ 60 → i + n ≤ evs.length → Inv s b i → P i b → P (i + n) (runB s evs n i b)
  | 0, i, b, h0, _, _, hI, h => by simpa [runB] using h
  | n + 1, i, b, h0, h1, h2, hI, h => by
    rw [show i + ((n + 1 : Nat) : Int) = i + 1 + n by omega]
    exact runB_ind hs n (i + 1) _ (by omega) (by omega) (by omega) (hI.step (by omega) _) (hs i b h0 (by omega) hI h)
theorem run_ind {s : Sch} {evs : Dt} {P : Int → Bks → Prop} (h : rErr s evs = 0) (h0 : P 0 (open0 s)) (hs : ∀ (i : Int) (b : Bks), 0 ≤ i → i < evs.length → Inv s b i → P i b → P (i + 1) (doB s b i (evt evs i))) : P evs.length (runAll s evs) := by
  obtain ⟨h1, h2⟩ := rErr_ok h
  have := runB_ind hs evs.length 0 (open0 s) (by omega) (by omega) (by omega) (Inv.zero h1) h0
  rw [Int.zero_add] at this
  exact this
theorem doB_cases {s : Sch} {b : Bks} {n : Int} {x : Evt} {P : Bks → Prop} (h0 : P b) (h1 : P { b with ev := n }) (h2 : inr x.kind 0 6 = true → b.tm ≤ x.at_ → x.at_ ≤ 4800 → err s b x = 0 → P { eff s { b with ev := n } x with tm := x.at_ }) : P (doB s b n x) := by
  unfold doB
  split
  · exact h0
  rename_i e1
  split
  · exact h0
  rename_i e2
  simp only [Bool.not_eq_true, Bool.not_eq_false'] at e1 e2
  have ht := inr_iff.1 e2
  split
  · rename_i e3
    exact h2 e1 ht.1 ht.2 e3
  · exact h1
theorem rB_ok {s : Sch} {evs : Dt} (h : rErr s evs = 0) : rB s evs = runAll s evs := if_pos h
theorem rE_ok {s : Sch} {evs : Dt} (h : rErr s evs = 0) : rE s evs = errAll s evs := if_pos h
theorem sumI_set (a : Dt) (v : Int) (i : Nat) (hi : i < a.length) : ∀ (n k : Nat), sumI (a.set i [.i v]) k n = sumI a k n + if k ≤ i ∧ i < k + n then v - (cel a i 0).int else 0
  | 0, k => by simp [sumI]; omega
  | n + 1, k => by
    unfold sumI
    rw [sumI_set a v i hi n (k + 1), cel_set]
    by_cases h : i = k
    · subst h
      rw [if_pos ⟨rfl, hi⟩, if_neg (by omega), if_pos (by omega)]
      show v + _ = _
      omega
    · rw [if_neg (fun e => h e.1)]
      by_cases h2 : k + 1 ≤ i ∧ i < k + 1 + n
      · rw [if_pos h2, if_pos (by omega)]; omega
      · rw [if_neg h2, if_neg (by omega)]; omega
theorem sumI_addA (a : Dt) (i c : Int) (h : 0 ≤ i ∧ i < a.length) : sumI (addA a i c) 0 a.length = sumI a 0 a.length + c := by
  unfold addA
  rw [sumI_set a _ i.toNat (by omega), if_pos (by omega)]
  omega
theorem sumI_zero (n : Nat) : ∀ (m k : Nat), sumI (List.replicate n [.i 0]) k m = 0
  | 0, _ => rfl
  | m + 1, k => by
    unfold sumI
    rw [sumI_zero n m, cel_rep]
    split <;> rfl
theorem pays_app (ps : Dt) (r : List Cl) : ∀ (n i : Nat) (h : Dt), i + n = ps.length → pays (ps ++ [r]) (n + 1) i h = addA (addA (pays ps n i h) (r.getD 1 .z).int (-(r.getD 3 .z).int)) (r.getD 2 .z).int (r.getD 3 .z).int
  | 0, i, h, e => by
    have : ∀ k, cel (ps ++ [r]) i k = r.getD k .z := fun k => by
      rw [show i = ps.length by omega]
      simp [cel, List.getD_eq_getElem?_getD]
    simp only [pays, this]
  | n + 1, i, h, e => by
    have : ∀ k, cel (ps ++ [r]) i k = cel ps i k := fun k => by simp [cel, List.getD_eq_getElem?_getD, List.getElem?_append_left (show i < ps.length by omega)]
    rw [pays, pays_app ps r n (i + 1) _ (by omega), this, this, this]
    rfl
structure Led (s : Sch) (b : Bks) (n : Int) : Prop where
  ac : b.ac = pays b.ps b.ps.length 0 (List.replicate (s.rl.length + 4) [.i 0])
  ps : PsOk ((s.rl.length : Int) + 4) n b.ps
  sum : sumI b.ac 0 b.ac.length = 0
theorem PsOk.up1 {na n : Int} {ps : Dt} (h : PsOk na n ps) : PsOk na (n + 1) ps := ⟨fun j hj => by have := h.row j hj; exact ⟨by omega, this.2⟩, h.up⟩
theorem PsOk.post {na n : Int} {ps : Dt} (h : PsOk na (n + 1) ps) (h0 : 0 ≤ n) {u v c : Int} (hu : 0 ≤ u ∧ u < na) (hv : 0 ≤ v ∧ v < na) (hn : u ≠ v) (hc : 0 ≤ c ∧ c ≤ 10000000) : PsOk na (n + 1) (postP ps n u v c) := by
  unfold postP
  split
  · exact h
  · rename_i e
    have a1 : ∀ j k, j < ps.length → cel (ps ++ [[Cl.i n, .i u, .i v, .i c]]) j k = cel ps j k := fun j k hj => by simp [cel, List.getD_eq_getElem?_getD, List.getElem?_append_left hj]
    have a2 : ∀ k, cel (ps ++ [[Cl.i n, .i u, .i v, .i c]]) ps.length k = [Cl.i n, .i u, .i v, .i c].getD k .z := fun k => by simp [cel, List.getD_eq_getElem?_getD]
    refine ⟨fun j hj => ?_, fun j hj => ?_⟩
    · simp only [List.length_append, List.length_singleton] at hj
      by_cases hj' : j < ps.length
      · simp only [a1 j _ hj']; exact h.row j hj'
      · rw [show j = ps.length by omega]
        simp only [a2]
        exact ⟨⟨h0, by show n < n + 1; omega⟩, hu, hv, hn, by show 0 < c ∧ c ≤ _; omega⟩
    · simp only [List.length_append, List.length_singleton] at hj
      by_cases hj' : j + 1 < ps.length
      · rw [a1 _ _ hj', a1 _ _ (by omega)]; exact h.up j hj'
      · rw [a1 _ _ (by omega), show j + 1 = ps.length by omega, a2]
        have := (h.row j (by omega)).1.2
        show _ ≤ n
        omega
theorem Led.post {s : Sch} {b : Bks} {n : Int} (h : Led s b (n + 1)) (h0 : 0 ≤ n) (he : b.ev = n) (hl : b.ac.length = s.rl.length + 4) {u v c : Int} (hu : 0 ≤ u ∧ u < (s.rl.length : Int) + 4) (hv : 0 ≤ v ∧ v < (s.rl.length : Int) + 4) (hn : u ≠ v) (hc : 0 ≤ c ∧ c ≤ 10000000) : Led s (b.post u v c) (n + 1) := by
  refine ⟨?_, ?_, ?_⟩
  · show postA b.ac u v c = pays (postP b.ps b.ev u v c) (postP b.ps b.ev u v c).length 0 _
    unfold postA postP
    split
    · exact h.ac
    · rw [List.length_append, List.length_singleton, pays_app b.ps _ b.ps.length 0 _ (by omega), ← h.ac]
      rfl
  · show PsOk _ _ (postP b.ps b.ev u v c)
    rw [he]
    exact h.ps.post h0 hu hv hn hc
  · show sumI (postA b.ac u v c) 0 (postA b.ac u v c).length = 0
    rw [postA_len]
    unfold postA
    split
    · exact h.sum
    · have e1 := sumI_addA b.ac u (-c) (by omega)
      have e2 := sumI_addA (addA b.ac u (-c)) v c (by rw [addA_len]; omega)
      rw [addA_len] at e2
      rw [e2, e1, h.sum]
      omega
theorem Led.up1 {s : Sch} {b : Bks} {n : Int} (h : Led s b n) : Led s b (n + 1) := ⟨h.ac, h.ps.up1, h.sum⟩
theorem led_step {s : Sch} {b : Bks} {n : Int} (x : Evt) (hI : Inv s b n) (h : Led s b n) : Led s (doB s b n x) (n + 1) := by
  have h0 := hI.nn.1
  have hu := h.up1
  have hL := hI.sch.learners
  refine doB_cases (P := fun B => Led s B (n + 1)) hu ⟨hu.ac, hu.ps, hu.sum⟩ fun hk t1 t2 he => ?_
  have fin : ∀ B : Bks, Led s B (n + 1) → Led s { B with tm := x.at_ } (n + 1) := fun B h => ⟨h.ac, h.ps, h.sum⟩
  refine fin _ ?_
  have hS : school s = s.rl.length := rfl
  have start : ∀ B : Bks, B.ac = b.ac → B.ps = b.ps → Led s B (n + 1) := fun B e1 e2 => ⟨by rw [e1, e2]; exact hu.ac, by rw [e2]; exact hu.ps, by rw [e1]; exact hu.sum⟩
  rcases err_ok hk he with ⟨k, e⟩ | ⟨k, e, f⟩ | ⟨k, e, f⟩ | ⟨k, e, f, g, q⟩ | ⟨k, e, f⟩ | ⟨k, e, f⟩ | ⟨k, e, f⟩
  · rw [show eff s { b with ev := n } x = { b with ev := n, ls := b.ls ++ [[.i x.l, .i x.c, .i x.s, .i x.h, .i 0]] } by simp [eff, k]]
    exact start _ rfl rfl
  · rw [eff1 k]
    have hr := hI.row e
    have hf := fee_in hI.sch.fees hr.2.2.2 hI.sch.price ((cel b.ls x.b.toNat 2).int - x.at_)
    exact (start { b with ev := n, ls := setSt b.ls x.b 1 } rfl rfl).post h0 rfl hI.ac.1 (by show 0 ≤ (cel b.ls x.b.toNat 0).int ∧ (cel b.ls x.b.toNat 0).int < _; omega) (by omega) (by show (cel b.ls x.b.toNat 0).int ≠ _; omega) (by show 0 ≤ fee s.rt s.pr (cel b.ls x.b.toNat 3).int ((cel b.ls x.b.toNat 2).int - x.at_) ∧ fee s.rt s.pr (cel b.ls x.b.toNat 3).int ((cel b.ls x.b.toNat 2).int - x.at_) ≤ _; omega)
  · rw [show eff s { b with ev := n } x = { b with ev := n, es := seeE b.es x.d x.w, ls := weatherL s.rc (seeE b.es x.d x.w) x b.ls.length 0 b.ls } by simp [eff, k]]
    exact start _ rfl rfl
  · rw [eff3 k]
    have hr := hI.row e
    have hf := price_in hI.sch hr.2.2.2
    exact (start { b with ev := n, ls := setSt b.ls x.b 2, km := addA b.km (cel b.ls x.b.toNat 1).int x.k, si := addA b.si (cel b.ls x.b.toNat 1).int x.k } rfl rfl).post h0 rfl hI.ac.1 (by show 0 ≤ (cel b.ls x.b.toNat 0).int ∧ (cel b.ls x.b.toNat 0).int < _; omega) (by omega) (by show (cel b.ls x.b.toNat 0).int ≠ _; omega) (by show 0 ≤ (cel b.ls x.b.toNat 3).int * s.pr ∧ (cel b.ls x.b.toNat 3).int * s.pr ≤ _; omega)
  · rw [show eff s { b with ev := n } x = Bks.post { b with ev := n, si := b.si.set x.c.toNat [.i 0] } (school s) (school s + 1) x.m by simp [eff, k]]
    exact (start { b with ev := n, si := b.si.set x.c.toNat [.i 0] } rfl rfl).post h0 rfl hI.ac.1 (by omega) (by omega) (by omega) f
  · rw [eff5 k]
    have hx := hI.sch.excess
    have hx' : 0 ≤ s.ex ∧ s.ex ≤ 10000000 := hx
    refine ((start { b with ev := n, ls := setSt b.ls x.b 3 } rfl rfl).post h0 rfl hI.ac.1 (u := school s) (v := school s + 1) (c := min x.m s.ex) (by omega) (by omega) (by omega) (by omega)).post h0 rfl ?_ (by omega) (by omega) (by omega) (by omega)
    show (postA b.ac _ _ _).length = _
    rw [postA_len]; exact hI.ac.1
  · rw [show eff s { b with ev := n } x = Bks.post { b with ev := n } (school s + 3) x.l x.m by simp [eff, k]]
    exact (start { b with ev := n } rfl rfl).post h0 rfl hI.ac.1 (by omega) (by omega) (by omega) f
theorem led_run {s : Sch} {evs : Dt} (h : rErr s evs = 0) : Led s (runAll s evs) evs.length :=
  run_ind (P := fun i b => Led s b i) h ⟨rfl, ⟨fun j hj => by simp [open0] at hj, fun j hj => by simp [open0] at hj⟩, sumI_zero _ _ _⟩ fun i b h0 h1 hI h => led_step _ hI h
theorem shaped_run {s : Sch} {evs : Dt} (h : rErr s evs = 0) : shapedE s.rl.length s.rc.length (runAll s evs).ls (runAll s evs).km (runAll s evs).si (runAll s evs).ac = true := by
  have hI := rErr_inv h
  have row : ∀ (n i : Nat), i + n = (runAll s evs).ls.length → shN s.rl.length s.rc.length (runAll s evs).ls i n = true := by
    intro n
    induction n with
    | zero => intro i _; rfl
    | succ n ih =>
      intro i hi
      rw [shN, shR_iff.2 (by have := hI.ls i (by omega); omega), ih (i + 1) (by omega)]
      rfl
  unfold shapedE
  rw [decide_eq_true hI.km.1, decide_eq_true hI.si.1, decide_eq_true hI.ac.1, row _ _ (by omega)]
  rfl
end Sp
end Go.Proofs.Ytiiicnhjjfmpkaa
namespace Go.Proofs.Ytiiicnhjjfmpkaa
open Go.RowKit
set_option linter.unusedVariables false
set_option maxRecDepth 100000
theorem Sp.rB_led {s : Sp.Sch} {evs : Dt} (e : Sp.rErr s evs = 0) : Sp.Led s (Sp.rB s evs) evs.length ∧ Sp.Inv s (Sp.rB s evs) evs.length ∧ evs.length ≤ 60 ∧ Sp.shapedE s.rl.length s.rc.length (Sp.rB s evs).ls (Sp.rB s evs).km (Sp.rB s evs).si (Sp.rB s evs).ac = true := by
  rw [Sp.rB_ok e]
  exact ⟨Sp.led_run e, Sp.rErr_inv e, (Sp.rErr_ok e).2, Sp.shaped_run e⟩
theorem Sp.sameI_self (a : Dt) : ∀ (n i : Nat), Sp.sameI a a i n = true
  | 0, _ => rfl
  | n + 1, i => by rw [Sp.sameI, Sp.sameI_self a n, if_pos rfl]; rfl
theorem Sp.ints_self (a : Dt) : Sp.ints a a = true := by rw [Sp.ints, if_pos rfl]; exact Sp.sameI_self _ _ _
end Go.Proofs.Ytiiicnhjjfmpkaa
namespace Go.Proofs.Ytiiicnhjjfmpkaa
set_option linter.unusedVariables false
namespace Sp
def iter {α : Type} (f : Nat → α → α) : Nat → Nat → α → α
  | 0, _, a => a
  | n + 1, i, a => iter f n (i + 1) (f i a)
def bk (s : Sch) (evs : Dt) (j : Nat) : Bks := runB s evs j 0 (open0 s)
theorem runB_succ (s : Sch) (evs : Dt) : ∀ (n : Nat) (i : Int) (b : Bks), runB s evs (n + 1) i b = doB s (runB s evs n i b) (i + n) (evt evs (i + n))
  | 0, i, b => by simp [runB]
  | n + 1, i, b => by
    rw [runB, runB_succ s evs n (i + 1), runB, show i + 1 + (n : Int) = i + ((n + 1 : Nat) : Int) by omega]
theorem bk_succ (s : Sch) (evs : Dt) (j : Nat) : bk s evs (j + 1) = doB s (bk s evs j) j (evt evs j) := by
  unfold bk
  rw [runB_succ, Int.zero_add]
theorem runE_len (s : Sch) (evs : Dt) : ∀ (n : Nat) (i : Int) (b : Bks), (runE s evs n i b).length = n
  | 0, _, _ => rfl
  | n + 1, i, b => by simp [runE, runE_len s evs n]
theorem runAll_bk (s : Sch) (evs : Dt) : runAll s evs = bk s evs evs.length := rfl
theorem errAll_len (s : Sch) (evs : Dt) : (errAll s evs).length = evs.length := runE_len _ _ _ _ _
theorem runB_congr {s : Sch} {e1 e2 : Dt} : ∀ (n : Nat) (i : Int) (b : Bks), (∀ j : Int, i ≤ j → j < i + n → evt e1 j = evt e2 j) → runB s e1 n i b = runB s e2 n i b
  | 0, _, _, _ => rfl
  | n + 1, i, b, h => by
    rw [runB, runB, h i (by omega) (by omega)]
    exact runB_congr n (i + 1) _ fun j h1 h2 => h j (by omega) (by omega)
theorem bk_congr {s : Sch} {e1 e2 : Dt} {n : Nat} (h : ∀ j : Nat, j < n → evt e1 j = evt e2 j) : bk s e1 n = bk s e2 n :=
  runB_congr n 0 _ fun j h1 h2 => by
    have := h j.toNat (by omega)
    rw [Int.toNat_of_nonneg h1] at this
    exact this
theorem cel_left (a b : Dt) (j k : Nat) (h : j < a.length) : cel (a ++ b) j k = cel a j k := by simp [cel, List.getD_eq_getElem?_getD, List.getElem?_append_left h]
theorem cel_right (a b : Dt) (j k : Nat) (h : a.length ≤ j) : cel (a ++ b) j k = cel b (j - a.length) k := by simp [cel, List.getD_eq_getElem?_getD, List.getElem?_append_right h]
theorem cel_take (a : Dt) (m j k : Nat) (h : j < m) : cel (a.take m) j k = cel a j k := by simp [cel, List.getD_eq_getElem?_getD, List.getElem?_take, h]
theorem evt_left (a b : Dt) (j : Nat) (h : j < a.length) : evt (a ++ b) j = evt a j := by unfold evt; simp only [Int.toNat_natCast, cel_left a b j _ h]
theorem bk_left (s : Sch) (a b : Dt) (j : Nat) (h : j ≤ a.length) : bk s (a ++ b) j = bk s a j := bk_congr fun i hi => evt_left _ _ _ (by omega)
theorem step_cases (s : Sch) (b : Bks) (n : Int) (x : Evt) :
    (doE s b n x = 0 ∧ inr x.kind 0 6 = true ∧ b.tm ≤ x.at_ ∧ x.at_ ≤ 4800 ∧ err s b x = 0 ∧ doB s b n x = { eff s { b with ev := n } x with tm := x.at_ }) ∨
    (doE s b n x ≠ 0 ∧ ∃ e, doB s b n x = { b with ev := e }) := by
  unfold doE doB
  by_cases e1 : inr x.kind 0 6 = true
  · by_cases e2 : inr x.at_ b.tm 4800 = true
    · by_cases e3 : err s b x = 0
      · have ht := inr_iff.1 e2
        simp only [e1, e2, e3, Bool.not_true, Bool.false_eq_true, if_false, if_true]
        exact .inl ⟨trivial, trivial, ht.1, ht.2, trivial, trivial⟩
      · simp only [e1, e2, e3, Bool.not_true, Bool.false_eq_true, if_false]
        exact .inr ⟨e3, _, rfl⟩
    · simp only [e1, Bool.not_eq_true] at e2 ⊢
      simp only [e2, Bool.not_true, Bool.false_eq_true, if_false, Bool.not_false, if_true]
      exact .inr ⟨by decide, b.ev, rfl⟩
  · rw [Bool.not_eq_true] at e1
    simp only [e1, Bool.not_false, if_true]
    exact .inr ⟨by decide, b.ev, rfl⟩
structure Kept (a b : Dt) : Prop where
  len : a.length ≤ b.length
  row : ∀ j, j < a.length → (cel b j 0).int = (cel a j 0).int ∧ (cel b j 1).int = (cel a j 1).int ∧ (cel b j 3).int = (cel a j 3).int
theorem Kept.refl (a : Dt) : Kept a a := ⟨Nat.le_refl _, fun _ _ => ⟨rfl, rfl, rfl⟩⟩
theorem Kept.trans {a b c : Dt} (h : Kept a b) (h2 : Kept b c) : Kept a c := ⟨Nat.le_trans h.len h2.len, fun j hj => by
  have := h.row j hj
  have := h2.row j (by have := h.len; omega)
  omega⟩
theorem Kept.setSt (a : Dt) (i st : Int) : Kept a (setSt a i st) := ⟨by rw [setSt_len]; exact Nat.le_refl _, fun j hj => by
  rw [cel_setSt _ _ _ _ _ (by decide), cel_setSt _ _ _ _ _ (by decide), cel_setSt _ _ _ _ _ (by decide)]
  exact ⟨rfl, rfl, rfl⟩⟩
theorem eff_ls {s : Sch} {b : Bks} {x : Evt} (hk : inr x.kind 0 6 = true) : (eff s b x).ls =
    (if x.kind = 0 then b.ls ++ [[.i x.l, .i x.c, .i x.s, .i x.h, .i 0]] else if x.kind = 1 then setSt b.ls x.b 1 else if x.kind = 2 then weatherL s.rc (seeE b.es x.d x.w) x b.ls.length 0 b.ls else if x.kind = 3 then setSt b.ls x.b 2 else if x.kind = 5 then setSt b.ls x.b 3 else b.ls) := by
  have h := inr_iff.1 hk
  have hc : x.kind = 0 ∨ x.kind = 1 ∨ x.kind = 2 ∨ x.kind = 3 ∨ x.kind = 4 ∨ x.kind = 5 ∨ x.kind = 6 := by omega
  rcases hc with e | e | e | e | e | e | e <;> simp [eff, e, Bks.post]
end Sp
end Go.Proofs.Ytiiicnhjjfmpkaa
namespace Go.Proofs.Ytiiicnhjjfmpkaa
open Go.RowKit
set_option linter.unusedVariables false
set_option maxRecDepth 100000
end Go.Proofs.Ytiiicnhjjfmpkaa
namespace Go.Proofs.Ytiiicnhjjfmpkaa
open Go.RowKit
set_option linter.unusedVariables false
set_option maxRecDepth 100000
namespace Sp
theorem rErr_chk {s : Sch} {evs : Dt} (e : rErr s evs = 0) : chkE s.rl s.rc s.pr s.ex s.lo s.hi s.rt = 0 := by
  unfold rErr runErr at e
  split at e
  · assumption
  · exact e
end Sp
end Go.Proofs.Ytiiicnhjjfmpkaa
namespace Go.Proofs.Ytiiicnhjjfmpkaa
set_option linter.unusedVariables false
namespace Sp
def rI (r : List Cl) (k : Nat) : Int := (r.getD k .z).int
end Sp
end Go.Proofs.Ytiiicnhjjfmpkaa
namespace Go.Proofs.Ytiiicnhjjfmpkaa
open Go.RowKit
set_option linter.unusedVariables false
set_option maxRecDepth 100000
end Go.Proofs.Ytiiicnhjjfmpkaa
namespace Go.Proofs.Ytiiicnhjjfmpkaa
open Go.RowKit
set_option linter.unusedVariables false
set_option maxRecDepth 100000
end Go.Proofs.Ytiiicnhjjfmpkaa
namespace Go.Proofs.Ytiiicnhjjfmpkaa
open Go.RowKit
set_option linter.unusedVariables false
set_option maxRecDepth 100000
end Go.Proofs.Ytiiicnhjjfmpkaa
namespace Go.Proofs.Ytiiicnhjjfmpkaa
set_option linter.unusedVariables false
namespace Sp
theorem setCls_at (cs : List Cl) : ∀ (n : Nat) (l : List Cl) (k : Nat), k < cs.length → (setCls l n cs).getD (n + k) .z = cs.getD k .z
  | 0, l, k, h => by simp [setCls, List.getD_eq_getElem?_getD, List.getElem?_append_left h]
  | n + 1, l, k, h => by
    rw [show n + 1 + k = (n + k) + 1 by omega, setCls]
    exact setCls_at cs n l.tail k h
theorem cel_setSt4 {ls : Dt} {i st : Int} (h : i.toNat < ls.length) (j : Nat) : cel (setSt ls i st) j 4 = if i.toNat = j then .i st else cel ls j 4 := by
  unfold setSt
  rw [cel_set]
  by_cases e : i.toNat = j
  · rw [if_pos ⟨e, h⟩, if_pos e]
    exact setCls_at [.i st] 4 _ 0 (by simp)
  · rw [if_neg (fun x => e x.1), if_neg e]
theorem moveL_row {rc ls : Dt} {es : List (Int × Int)} {i : Int} (hi : i.toNat < ls.length) (j : Nat) :
    (i.toNat ≠ j → ∀ k, cel (moveL rc ls es i) j k = cel ls j k) ∧
    (i.toNat = j → (cel (moveL rc ls es i) j 0).int = (cel ls j 0).int ∧ (cel (moveL rc ls es i) j 1).int = (cel ls j 1).int ∧ (cel (moveL rc ls es i) j 3).int = (cel ls j 3).int ∧
      ((moveTo rc ls es (cel ls j 0).int (cel ls j 1).int (cel ls j 3).int i (days ((cel ls j 2).int + 24)) ((cel ls j 2).int + 24) = none ∧ (cel (moveL rc ls es i) j 2).int = (cel ls j 2).int ∧ (cel (moveL rc ls es i) j 4).int = 1) ∨
       (moveTo rc ls es (cel ls j 0).int (cel ls j 1).int (cel ls j 3).int i (days ((cel ls j 2).int + 24)) ((cel ls j 2).int + 24) = some (cel (moveL rc ls es i) j 2).int ∧ (cel (moveL rc ls es i) j 4).int = (cel ls j 4).int))) := by
  refine ⟨fun e k => ?_, fun e => ?_⟩
  · unfold moveL setSt
    split
    · rw [cel_set, if_neg (fun h => e h.1)]
    · rw [cel_set, if_neg (fun h => e h.1)]
  · subst e
    unfold moveL
    split
    · rename_i s hs
      have e : ∀ k, cel (ls.set i.toNat [.i (cel ls i.toNat 0).int, .i (cel ls i.toNat 1).int, .i s, .i (cel ls i.toNat 3).int, .i (cel ls i.toNat 4).int]) i.toNat k = [Cl.i (cel ls i.toNat 0).int, .i (cel ls i.toNat 1).int, .i s, .i (cel ls i.toNat 3).int, .i (cel ls i.toNat 4).int].getD k .z := fun k => by rw [cel_set, if_pos ⟨rfl, hi⟩]
      rw [e, e, e, e, e]
      exact ⟨rfl, rfl, rfl, .inr ⟨hs, rfl⟩⟩
    · rename_i hs
      rw [cel_setSt _ _ _ _ _ (by decide), cel_setSt _ _ _ _ _ (by decide), cel_setSt _ _ _ _ _ (by decide), cel_setSt _ _ _ _ _ (by decide), cel_setSt4 hi, if_pos rfl]
      exact ⟨rfl, rfl, rfl, .inl ⟨hs, rfl, rfl⟩⟩
end Sp
end Go.Proofs.Ytiiicnhjjfmpkaa
namespace Go.Proofs.Ytiiicnhjjfmpkaa
open Go.RowKit
set_option linter.unusedVariables false
set_option maxRecDepth 100000
end Go.Proofs.Ytiiicnhjjfmpkaa
namespace Go.Proofs.Ytiiicnhjjfmpkaa
set_option linter.unusedVariables false
namespace Sp
theorem ofInt_nat {m : Int} (h : 0 ≤ m ∧ m ≤ 255) : (BitVec.ofInt 64 m).toNat = m.toNat := by
  rw [BitVec.toNat_ofInt]
  have : (2 ^ 64 : Nat) = 18446744073709551616 := by decide
  rw [this]
  omega
theorem andI_nat {m n : Int} (h : 0 ≤ m ∧ m ≤ 255) (h2 : 0 ≤ n ∧ n ≤ 255) : andI .i64 m n = ((m.toNat &&& n.toNat : Nat) : Int) := by
  unfold andI
  rw [show IntKind.i64.bits = 64 from rfl, BitVec.toNat_and, ofInt_nat h, ofInt_nat h2]
  have := Nat.and_le_left (n := m.toNat) (m := n.toNat)
  rw [IntWalk.i64_in _ (by omega)]
theorem halve_div : ∀ (k : Nat) (n : Int), 0 ≤ n → halve k n = n / 2 ^ k
  | 0, n, _ => by simp [halve]
  | k + 1, n, h => by
    rw [halve, halve_div k _ (by rw [Int.tdiv_eq_ediv_of_nonneg h]; omega), Int.tdiv_eq_ediv_of_nonneg h, Int.pow_succ', Int.ediv_ediv_of_nonneg (by decide)]
theorem bit_div (n : Int) (h : 0 ≤ n) (w : Nat) : n.toNat.testBit w = decide ((n / 2 ^ w) % 2 = 1) := by
  obtain ⟨m, rfl⟩ := Int.eq_ofNat_of_zero_le h
  rw [Int.toNat_natCast, Nat.testBit_eq_decide_div_mod_eq]
  congr 1
  apply propext
  have : ((m : Int) / 2 ^ w) % 2 = ((m / 2 ^ w % 2 : Nat) : Int) := by
    rw [Int.natCast_emod, Int.natCast_ediv, Int.natCast_pow]
    rfl
  omega
theorem drives_bit {n w : Int} (h : 0 ≤ n) : drives n w = !n.toNat.testBit w.toNat := by
  unfold drives
  rw [halve_div _ _ h, bit_div n h]
  have h2 : 0 ≤ n / 2 ^ w.toNat := Int.ediv_nonneg h (Int.le_of_lt (Int.pow_pos (by decide)))
  rw [Int.tmod_eq_emod_of_nonneg h2]
  by_cases e : n / 2 ^ w.toNat % 2 = 1
  · rw [decide_eq_true e, decide_eq_false (by omega)]; rfl
  · rw [decide_eq_false e, decide_eq_true (by omega)]; rfl
theorem hit_bit {n w : Int} (h : 0 ≤ n ∧ n ≤ 255) : decide (andI .i64 (n.fdiv (2 ^ w.toNat)) 1 = 1) = !drives n w := by
  rw [drives_bit h.1, Bool.not_not, Int.fdiv_eq_ediv_of_nonneg _ (Int.le_of_lt (Int.pow_pos (by decide))), bit_div n h.1]
  have h2 : 0 ≤ n / 2 ^ w.toNat := Int.ediv_nonneg h.1 (Int.le_of_lt (Int.pow_pos (by decide)))
  have h3 : n / 2 ^ w.toNat ≤ n := Int.ediv_le_self _ h.1
  rw [andI_nat (by omega) (by omega), show (1 : Int).toNat = 1 from rfl, Nat.and_one_is_mod]
  congr 1
  apply propext
  omega
theorem hit_drives {rc ls : Dt} {i : Int} {x : Evt} (hn : 0 ≤ (cel rc (cel ls i.toNat 1).int.toNat 3).int ∧ (cel rc (cel ls i.toNat 1).int.toNat 3).int ≤ 255) :
    hit rc ls i x = (decide ((cel ls i.toNat 4).int = 0) && (decide ((cel ls i.toNat 2).int.tdiv 24 = x.d) && (decide (x.at_ < (cel ls i.toNat 2).int) && !drives (cel rc (cel ls i.toNat 1).int.toNat 3).int x.w))) := by
  unfold hit
  rw [hit_bit hn]
end Sp
end Go.Proofs.Ytiiicnhjjfmpkaa
namespace Go.Proofs.Ytiiicnhjjfmpkaa
set_option linter.unusedVariables false
namespace Sp
def isOp (ls : Dt) (j : Nat) : Prop := (cel ls j 4).int = 0
theorem apart_comm (a b c d : Int) : apart a b c d = apart c d a b := by unfold apart; rw [Bool.or_comm]
theorem blocked_no {ls : Dt} {but l c s h : Int} : ∀ (n i : Nat), blocked ls but l c s h i n = false → ∀ j, i ≤ j → j < i + n → (j : Int) ≠ but → way ls j l c s h = false
  | 0, i, _, j, h1, h2, _ => by omega
  | n + 1, i, e, j, h1, h2, h3 => by
    rw [blocked, Bool.or_eq_false_iff] at e
    by_cases hj : i = j
    · subst hj
      rw [if_neg h3] at e
      exact e.1
    · exact blocked_no n (i + 1) e.2 j (by omega) (by omega) h3
theorem way_no {ls : Dt} {j : Nat} {l c s h : Int} (e : way ls j l c s h = false) (ho : isOp ls j) (hs : (cel ls j 0).int = l ∨ (cel ls j 1).int = c) : apart (cel ls j 2).int (cel ls j 3).int s h = true := by
  unfold way at e
  rw [if_pos (show (cel ls j 4).int = 0 from ho), if_pos hs] at e
  exact notF e
theorem moveTo_ok {rc ls : Dt} {es : List (Int × Int)} {l c h i : Int} : ∀ (n : Nat) (s t : Int), moveTo rc ls es l c h i n s = some t → (∃ k : Nat, t = s + 24 * k) ∧ t + h ≤ 4800 ∧ dryB rc es c t = true ∧ blocked ls i l c t h 0 ls.length = false
  | 0, s, t, e => by simp [moveTo] at e
  | n + 1, s, t, e => by
    unfold moveTo at e
    split at e
    · rename_i h1
      split at e
      · rename_i h2
        cases e
        simp only [Bool.and_eq_true, Bool.not_eq_true'] at h2
        exact ⟨⟨0, by simp⟩, h1, h2.1, h2.2⟩
      · obtain ⟨⟨k, hk⟩, r⟩ := moveTo_ok n (s + 24) t e
        exact ⟨⟨k + 1, by omega⟩, r⟩
    · cases e
theorem tmod_day {s : Int} (h : 0 ≤ s) (k : Nat) : (s + 24 + 24 * k).tmod 24 = s.tmod 24 := by
  rw [Int.tmod_eq_emod_of_nonneg (by omega), Int.tmod_eq_emod_of_nonneg h]
  omega
theorem fits_day {lo hi s h : Int} (h0 : 0 ≤ s) (k : Nat) : fits lo hi (s + 24 + 24 * k) h = fits lo hi s h := by
  unfold fits
  rw [tmod_day h0 k]
structure Good (lo hi : Int) (ls : Dt) : Prop where
  fit : ∀ j, j < ls.length → isOp ls j → fits lo hi (cel ls j 2).int (cel ls j 3).int = true
  apart : ∀ j k, j < ls.length → k < ls.length → j ≠ k → isOp ls j → isOp ls k → ((cel ls j 0).int = (cel ls k 0).int ∨ (cel ls j 1).int = (cel ls k 1).int) → Sp.apart (cel ls j 2).int (cel ls j 3).int (cel ls k 2).int (cel ls k 3).int = true
theorem Good.setSt {lo hi : Int} {ls : Dt} (h : Good lo hi ls) {i st : Int} (hi' : i.toNat < ls.length) (hs : st ≠ 0) : Good lo hi (setSt ls i st) := by
  have op : ∀ j, isOp (Sp.setSt ls i st) j → isOp ls j := fun j e => by
    unfold isOp at *
    rw [cel_setSt4 hi'] at e
    split at e
    · exact absurd e hs
    · exact e
  refine ⟨fun j hj ho => ?_, fun j k hj hk hn h1 h2 h3 => ?_⟩
  · rw [cel_setSt _ _ _ _ 2 (by decide), cel_setSt _ _ _ _ 3 (by decide)]
    rw [setSt_len] at hj
    exact h.fit j hj (op j ho)
  · rw [setSt_len] at hj hk
    simp only [cel_setSt _ _ _ _ 0 (by decide), cel_setSt _ _ _ _ 1 (by decide), cel_setSt _ _ _ _ 2 (by decide), cel_setSt _ _ _ _ 3 (by decide)] at *
    exact h.apart j k hj hk hn (op j h1) (op k h2) h3
theorem Good.move {lo hi : Int} {rc ls : Dt} {es : List (Int × Int)} (h : Good lo hi ls) {i : Int} (h0 : 0 ≤ i) (hi' : i.toNat < ls.length) (hs : 0 ≤ (cel ls i.toNat 2).int) (ho : isOp ls i.toNat) :
    Good lo hi (moveL rc ls es i) ∧ (isOp (moveL rc ls es i) i.toNat → dryB rc es (cel (moveL rc ls es i) i.toNat 1).int (cel (moveL rc ls es i) i.toNat 2).int = true) := by
  have hrow := fun j => moveL_row (rc := rc) (es := es) hi' j
  obtain ⟨r0, r1, r3, r4⟩ := (hrow i.toNat).2 rfl
  have hlen := moveL_len rc ls es i
  have mv : isOp (moveL rc ls es i) i.toNat → (∃ k : Nat, (cel (moveL rc ls es i) i.toNat 2).int = (cel ls i.toNat 2).int + 24 + 24 * k) ∧ dryB rc es (cel ls i.toNat 1).int (cel (moveL rc ls es i) i.toNat 2).int = true ∧ blocked ls i (cel ls i.toNat 0).int (cel ls i.toNat 1).int (cel (moveL rc ls es i) i.toNat 2).int (cel ls i.toNat 3).int 0 ls.length = false := fun e => by
    rcases r4 with ⟨_, _, r4⟩ | ⟨r4, _⟩
    · unfold isOp at e; rw [r4] at e; exact absurd e (by decide)
    · obtain ⟨a, b, c, d⟩ := moveTo_ok _ _ _ r4
      exact ⟨a, c, d⟩
  have op : ∀ j, i.toNat ≠ j → isOp (moveL rc ls es i) j → isOp ls j := fun j hj e => by
    unfold isOp at *
    rwa [(hrow j).1 hj] at e
  have key : isOp (moveL rc ls es i) i.toNat → ∀ k, k < ls.length → i.toNat ≠ k → isOp ls k → ((cel ls k 0).int = (cel ls i.toNat 0).int ∨ (cel ls k 1).int = (cel ls i.toNat 1).int) → Sp.apart (cel ls k 2).int (cel ls k 3).int (cel (moveL rc ls es i) i.toNat 2).int (cel ls i.toNat 3).int = true := fun e k hk hn h1 h2 =>
    way_no (blocked_no _ _ (mv e).2.2 k (by omega) (by omega) (by omega)) h1 h2
  refine ⟨⟨fun j hj e => ?_, fun j k hj hk hn h1 h2 h3 => ?_⟩, fun e => ?_⟩
  · rw [hlen] at hj
    by_cases hj' : i.toNat = j
    · subst hj'
      obtain ⟨⟨k, hk⟩, _⟩ := mv e
      rw [r3, hk, fits_day hs]
      exact h.fit _ hj ho
    · rw [(hrow j).1 hj', (hrow j).1 hj']
      exact h.fit j hj (op j hj' e)
  · rw [hlen] at hj hk
    by_cases hj' : i.toNat = j
    · subst hj'
      simp only [(hrow k).1 hn, r0, r1, r3] at *
      rw [apart_comm]
      exact key h1 k hk hn (op k hn h2) (h3.imp Eq.symm Eq.symm)
    · by_cases hk' : i.toNat = k
      · subst hk'
        simp only [(hrow j).1 hj', r0, r1, r3] at *
        exact key h2 j hj hj' (op j hj' h1) h3
      · simp only [(hrow j).1 hj', (hrow k).1 hk'] at *
        exact h.apart j k hj hk hn (op j hj' h1) (op k hk' h2) h3
  · rw [r1]
    exact (mv e).2.1
end Sp
end Go.Proofs.Ytiiicnhjjfmpkaa
namespace Go.Proofs.Ytiiicnhjjfmpkaa
set_option linter.unusedVariables false
end Go.Proofs.Ytiiicnhjjfmpkaa
namespace Go.Proofs.Ytiiicnhjjfmpkaa
open Go.RowKit
set_option linter.unusedVariables false
set_option maxRecDepth 100000
namespace Sp
def same (ls : Dt) (j k : Nat) : Prop := (cel ls j 0).int = (cel ls k 0).int ∨ (cel ls j 1).int = (cel ls k 1).int
end Sp
theorem td24 {s : Int} (h : Sp.Small s) : -9223372036854775808 ≤ s.tdiv 24 ∧ s.tdiv 24 ≤ 9223372036854775807 := by
  unfold Sp.Small at h
  rcases Int.le_total 0 s with h0 | h0
  · rw [Int.tdiv_eq_ediv_of_nonneg h0]; omega
  · have : s.tdiv 24 = -((-s) / 24) := by
      rw [← Int.tdiv_eq_ediv_of_nonneg (show 0 ≤ -s by omega), Int.neg_tdiv, Int.neg_neg]
    omega
end Go.Proofs.Ytiiicnhjjfmpkaa
namespace Go.Proofs.Ytiiicnhjjfmpkaa
open Go.RowKit
set_option linter.unusedVariables false
set_option maxRecDepth 100000
end Go.Proofs.Ytiiicnhjjfmpkaa
namespace Go.Proofs.Ytiiicnhjjfmpkaa
set_option linter.unusedVariables false
namespace Sp
structure Rel (a b : Bks) : Prop where
  ls : a.ls = b.ls
  km : a.km = b.km
  si : a.si = b.si
  ac : a.ac = b.ac
  es : a.es = b.es
  tm : a.tm = b.tm
theorem Rel.refl (a : Bks) : Rel a a := ⟨rfl, rfl, rfl, rfl, rfl, rfl⟩
theorem Rel.post {a b : Bks} (h : Rel a b) (u v c : Int) : Rel (a.post u v c) (b.post u v c) := ⟨h.ls, h.km, h.si, by show postA a.ac u v c = postA b.ac u v c; rw [h.ac], h.es, h.tm⟩
theorem Rel.err {s : Sch} {a b : Bks} (h : Rel a b) (x : Evt) : err s a x = err s b x := by
  unfold Sp.err
  rw [h.ls, h.si, h.es]
theorem Rel.eff {s : Sch} {a b : Bks} (h : Rel a b) (x : Evt) : Rel (eff s a x) (eff s b x) := by
  obtain ⟨ls, km, si, ac, es, ps, tm, ev⟩ := a
  obtain ⟨ls', km', si', ac', es', ps', tm', ev'⟩ := b
  obtain ⟨h1, h2, h3, h4, h5, h6⟩ := h
  simp only at h1 h2 h3 h4 h5 h6
  subst h1 h2 h3 h4 h5 h6
  unfold Sp.eff
  dsimp only
  repeat' split
  all_goals exact ⟨rfl, rfl, rfl, rfl, rfl, rfl⟩
theorem Rel.doE {s : Sch} {a b : Bks} (h : Rel a b) (n m : Int) (x : Evt) : doE s a n x = doE s b m x := by
  unfold Sp.doE
  rw [h.tm, h.err]
theorem Rel.doB {s : Sch} {a b : Bks} (h : Rel a b) (n m : Int) (x : Evt) : Rel (doB s a n x) (doB s b m x) := by
  have h1 : Rel { a with ev := n } { b with ev := m } := ⟨h.ls, h.km, h.si, h.ac, h.es, h.tm⟩
  have h2 := h1.eff (s := s) x
  have he := h.err (s := s) x
  have h3 : Rel { Sp.eff s { a with ev := n } x with tm := x.at_ } { Sp.eff s { b with ev := m } x with tm := x.at_ } := ⟨h2.ls, h2.km, h2.si, h2.ac, h2.es, rfl⟩
  have ht := h.tm
  unfold Sp.doB
  rw [he]
  by_cases e1 : (!inr x.kind 0 6) = true
  · rw [if_pos e1, if_pos e1]; exact h
  rw [if_neg e1, if_neg e1]
  by_cases e2 : (!inr x.at_ a.tm 4800) = true
  · have e2' : (!inr x.at_ b.tm 4800) = true := ht ▸ e2
    rw [if_pos e2, if_pos e2']; exact h
  have e2' : ¬ (!inr x.at_ b.tm 4800) = true := ht ▸ e2
  rw [if_neg e2, if_neg e2']
  by_cases e3 : Sp.err s b x = 0
  · rw [if_pos e3, if_pos e3]; exact h3
  · rw [if_neg e3, if_neg e3]; exact h1
theorem sameC_self (a : Dt) (i : Nat) : ∀ (w k : Nat), sameC a a i k w = true
  | 0, _ => rfl
  | w + 1, k => by rw [sameC, sameC_self a i w, decide_eq_true rfl]; rfl
theorem sameW_self (w : Nat) (a : Dt) : ∀ (n i : Nat), sameW w a a i n = true
  | 0, _ => rfl
  | n + 1, i => by rw [sameW, sameC_self, sameW_self w a n]; rfl
theorem states_self (a b c d : Dt) : statesE a b c d a b c d = true := by
  unfold statesE rowsE
  rw [decide_eq_true rfl, sameW_self, ints_self, ints_self, ints_self]
  rfl
theorem rErr_more {s : Sch} {evs : Dt} (r : List Cl) (h : evs.length < 60) : rErr s (evs ++ [r]) = rErr s evs := by
  unfold rErr runErr
  rw [List.length_append, List.length_singleton]
  split
  · rw [if_neg (by omega), if_neg (by omega)]
  · rfl
theorem more_errs {s : Sch} {evs : Dt} (r : List Cl) : errAll s (evs ++ [r]) = errAll s evs ++ [[.i (doE s (bk s evs evs.length) evs.length (evt (evs ++ [r]) evs.length))]] := by
  have key : ∀ (n : Nat) (i : Int) (b : Bks), runE s (evs ++ [r]) (n + 1) i b = runE s (evs ++ [r]) n i b ++ [[.i (doE s (runB s (evs ++ [r]) n i b) (i + n) (evt (evs ++ [r]) (i + n)))]] := by
    intro n
    induction n with
    | zero => intro i b; simp [runE, runB]
    | succ n ih =>
      intro i b
      rw [runE, ih, runE, runB, show i + 1 + (n : Int) = i + ((n + 1 : Nat) : Int) by omega]
      rfl
  have cong : ∀ (n : Nat) (i : Int) (b : Bks), 0 ≤ i → i + n ≤ evs.length → runE s (evs ++ [r]) n i b = runE s evs n i b := by
    intro n
    induction n with
    | zero => intro i b _ _; rfl
    | succ n ih =>
      intro i b h0 h1
      have : evt (evs ++ [r]) i = evt evs i := by
        have := evt_left evs [r] i.toNat (by omega)
        rwa [Int.toNat_of_nonneg h0] at this
      rw [runE, runE, this, ih _ _ (by omega) (by omega)]
  unfold errAll
  rw [List.length_append, List.length_singleton, key, cong _ _ _ (by omega) (by omega), Int.zero_add]
  have := bk_left s evs [r] evs.length (Nat.le_refl _)
  unfold bk at this
  rw [this]
  rfl
theorem more_bk {s : Sch} {evs : Dt} (r : List Cl) : runAll s (evs ++ [r]) = doB s (bk s evs evs.length) evs.length (evt (evs ++ [r]) evs.length) := by
  rw [runAll_bk, List.length_append, List.length_singleton, bk_succ, bk_left _ _ _ _ (Nat.le_refl _)]
theorem more_evt {evs : Dt} (r : List Cl) : evt (evs ++ [r]) evs.length = ⟨rI r 0, rI r 1, rI r 2, rI r 3, rI r 4, rI r 5, rI r 6, rI r 7, rI r 8, rI r 9, rI r 10⟩ := by
  have e : ∀ k, cel (evs ++ [r]) evs.length k = r.getD k .z := fun k => by rw [cel_right _ _ _ _ (Nat.le_refl _), Nat.sub_self]; rfl
  unfold evt
  simp only [Int.toNat_natCast, e]
  rfl
theorem hit_congr {rc a b : Dt} {i : Int} {x : Evt} (h : ∀ k, cel a i.toNat k = cel b i.toNat k) : hit rc a i x = hit rc b i x := by
  unfold hit
  simp only [h]
theorem weatherL_rows {rc : Dt} {es : List (Int × Int)} {x : Evt} : ∀ (n : Nat) (i : Int) (ls : Dt), 0 ≤ i → i + n ≤ ls.length → ∀ j : Nat,
    ((j : Int) < i → ∀ k, cel (weatherL rc es x n i ls) j k = cel ls j k) ∧
    (i ≤ (j : Int) → (j : Int) < i + n → (hit rc ls j x = false → ∀ k, cel (weatherL rc es x n i ls) j k = cel ls j k) ∧
      (hit rc ls j x = true → (cel (weatherL rc es x n i ls) j 0).int = (cel ls j 0).int ∧ (cel (weatherL rc es x n i ls) j 1).int = (cel ls j 1).int ∧ (cel (weatherL rc es x n i ls) j 3).int = (cel ls j 3).int ∧
        ((cel (weatherL rc es x n i ls) j 2).int = (cel ls j 2).int ∧ (cel (weatherL rc es x n i ls) j 4).int = 1 ∨
         (∃ k : Nat, (cel (weatherL rc es x n i ls) j 2).int = (cel ls j 2).int + 24 + 24 * k) ∧ (cel (weatherL rc es x n i ls) j 4).int = (cel ls j 4).int)))
  | 0, i, ls, _, _, j => ⟨fun _ _ => rfl, fun _ _ => by omega⟩
  | n + 1, i, ls, h0, h1, j => by
    unfold weatherL
    have hi' : i.toNat < ls.length := by omega
    by_cases e : hit rc ls i x = true
    · rw [if_pos e]
      obtain ⟨r1, r2⟩ := moveL_row (rc := rc) (es := es) hi' j
      obtain ⟨q1, q2⟩ := weatherL_rows n (i + 1) (moveL rc ls es i) (by omega) (by rw [moveL_len]; omega) j
      refine ⟨fun hj k => by rw [q1 (by omega), r1 (by omega)], fun hj hj2 => ?_⟩
      by_cases hji : i.toNat = j
      · have q1 := q1 (by omega)
        obtain ⟨a, b, c, d⟩ := r2 hji
        refine ⟨fun hx => absurd (show hit rc ls i x = false by rw [show i = (j : Int) by omega]; exact hx) (by rw [e]; decide), fun _ => ?_⟩
        rw [q1, q1, q1, q1, q1]
        refine ⟨a, b, c, ?_⟩
        rcases d with ⟨_, d1, d2⟩ | ⟨d1, d2⟩
        · exact .inl ⟨d1, d2⟩
        · exact .inr ⟨(moveTo_ok _ _ _ d1).1, d2⟩
      · have r1 := r1 hji
        obtain ⟨p1, p2⟩ := q2 (by omega) (by omega)
        rw [hit_congr (a := moveL rc ls es i) (b := ls) (i := (j : Int)) (fun k => by rw [Int.toNat_natCast]; exact r1 k)] at p1 p2
        simp only [r1] at p1 p2
        exact ⟨p1, p2⟩
    · rw [if_neg e]
      obtain ⟨q1, q2⟩ := weatherL_rows n (i + 1) ls (by omega) (by omega) j
      refine ⟨fun hj k => q1 (by omega) k, fun hj hj2 => ?_⟩
      by_cases hji : i.toNat = j
      · refine ⟨fun _ k => q1 (by omega) k, fun hx => ?_⟩
        rw [show (j : Int) = i by omega] at hx
        exact absurd hx e
      · exact q2 (by omega) (by omega)
end Sp
end Go.Proofs.Ytiiicnhjjfmpkaa
namespace Go.Proofs.Ytiiicnhjjfmpkaa
open Go.RowKit
set_option linter.unusedVariables false
set_option maxRecDepth 100000
end Go.Proofs.Ytiiicnhjjfmpkaa
namespace Go.Proofs.Ytiiicnhjjfmpkaa
open Go.RowKit
set_option linter.unusedVariables false
set_option maxRecDepth 100000
end Go.Proofs.Ytiiicnhjjfmpkaa
namespace Go.Proofs.Ytiiicnhjjfmpkaa
open Go.RowKit
set_option linter.unusedVariables false
set_option maxRecDepth 100000
end Go.Proofs.Ytiiicnhjjfmpkaa
namespace Go.Proofs.Ytiiicnhjjfmpkaa
open Go.RowKit
set_option linter.unusedVariables false
set_option maxRecDepth 100000
end Go.Proofs.Ytiiicnhjjfmpkaa
namespace Go.Proofs.Ytiiicnhjjfmpkaa
open Go.RowKit
set_option linter.unusedVariables false
set_option maxRecDepth 100000
namespace Sp
def aff (rc ls : Dt) (xa xb xc : Int) (j : Nat) : Prop := (cel ls j 4).int = 0 ∧ (cel ls j 2).int.tdiv 24 = xb ∧ xa < (cel ls j 2).int ∧ drives (cel rc (cel ls j 1).int.toNat 3).int xc = false
structure MovOk (rc ls ls2 : Dt) (xa xb xc : Int) : Prop where
  len : ls2.length = ls.length
  car : ∀ j, j < ls.length → (0 ≤ (cel ls j 1).int ∧ (cel ls j 1).int < rc.length) ∧ I64 (cel rc (cel ls j 1).int.toNat 3).int ∧ Small (cel ls j 2).int ∧ Small (cel ls2 j 2).int
  no : ∀ j, j < ls.length → ¬ aff rc ls xa xb xc j → ∀ k, k < 5 → (cel ls j k).int = (cel ls2 j k).int
  yes : ∀ j, j < ls.length → aff rc ls xa xb xc j → (cel ls2 j 0).int = (cel ls j 0).int ∧ (cel ls2 j 1).int = (cel ls j 1).int ∧ (cel ls2 j 3).int = (cel ls j 3).int ∧
    ((cel ls2 j 4).int = 1 ∧ (cel ls2 j 2).int = (cel ls j 2).int ∨ (cel ls2 j 4).int = 0 ∧ (cel ls j 2).int.tdiv 24 < (cel ls2 j 2).int.tdiv 24 ∧ (cel ls2 j 2).int.tmod 24 = (cel ls j 2).int.tmod 24)
end Sp
noncomputable def TPt : Tab Try.prog := ⟨[pc_Drives], [], []⟩
def sp_moA [InW] (e : List Ed) (K : Nat → List Ed → Prop) : Prop := match e with
  | [.i i, .ro _ rl, .ro _ rc, .i pr, .i ex, .i lo, .i hi, .ro _ rt, .i xa, .i xb, .i xc, .l ls, .l km, .l ac, .l ls2, .l km2, .l ac2] =>
    Pre (0 ≤ i ∧ i ≤ ls2.length ∧ ls2.length ≤ 1000 ∧ 0 ≤ xc ∧ xc < 8 ∧ Sp.MovOk rc.xs ls ls2 xa xb xc)
      (K 0 [.l ls, .l km, .l ac, .l ls2, .l km2, .l ac2])
  | _ => False
noncomputable def lc_moA : LC where
  len := 246
  T := [(3, (.ptr 1 0)), (5, (.ptr 46 0)), (8, (.ptr 4 0)), (12, (.ptr 7 0)), (14, .int .i64)]
  H := [(1, .blk 28 [.rs [.str], .rs Ivs, .int .i64, .int .i64, .int .i64, .int .i64, .rs [.int .i64, .int .i64]]), (46, .blk 70 [.int .i64, .int .i64, .int .i64]), (4, .blk 42 [(.row 31), (.row 34), (.opq 1021), (.row 40)]), (31, .arr 63 Iv5), (34, .arr 3 [.int .i64]), (40, .arr 3 [.int .i64]), (7, .blk 42 [(.row 49), (.row 52), (.opq 1024), (.row 55)]), (49, .arr 63 Iv5), (52, .arr 3 [.int .i64]), (55, .arr 3 [.int .i64])]
  W := [6, 15, 16, 17, 132, 133, 134, 135, 136, 137, 138, 139, 140, 141, 142, 143, 144, 145, 146, 147, 148, 149, 150, 151, 152, 153, 154, 155, 156, 157, 158, 159, 160, 161, 162, 163, 164, 165, 166, 167, 168, 169, 170, 171, 172, 173, 174, 175, 176, 177, 178, 179, 180, 181, 182, 183, 184, 185, 186, 187, 188, 189, 190, 191, 192, 193, 194, 195, 196, 197, 198, 199, 200, 201, 202, 203, 204, 205, 206, 207, 208, 209, 210, 211, 212, 213, 214, 215, 216, 217, 218, 219, 220, 221, 222, 223, 224, 225, 226, 227, 228, 229, 230]
  outs := [⟨.exit 0, [(8, (.ptr 4 0)), (12, (.ptr 7 0))], [(4, .blk 42 [(.row 31), (.row 34), (.opq 1021), (.row 40)]), (31, .arr 63 Iv5), (34, .arr 3 [.int .i64]), (40, .arr 3 [.int .i64]), (7, .blk 42 [(.row 49), (.row 52), (.opq 1024), (.row 55)]), (49, .arr 63 Iv5), (52, .arr 3 [.int .i64]), (55, .arr 3 [.int .i64])], [3, 5, 6, 14, 15, 16, 17, 132, 133, 134, 135, 136, 137, 138, 139, 140, 141, 142, 143, 144, 145, 146, 147, 148, 149, 150, 151, 152, 153, 154, 155, 156, 157, 158, 159, 160, 161, 162, 163, 164, 165, 166, 167, 168, 169, 170, 171, 172, 173, 174, 175, 176, 177, 178, 179, 180, 181, 182, 183, 184, 185, 186, 187, 188, 189, 190, 191, 192, 193, 194, 195, 196, 197, 198, 199, 200, 201, 202, 203, 204, 205, 206, 207, 208, 209, 210, 211, 212, 213, 214, 215, 216, 217, 218, 219, 220, 221, 222, 223, 224, 225, 226, 227, 228, 229, 230]⟩]
  spec := sp_moA
def VCL_moA [W : InW] (i : Int) (rl : Ro [.str]) (rc : Ro Ivs) (pr : Int) (ex : Int) (lo : Int) (hi : Int) (rt : Ro [.int .i64, .int .i64]) (xa : Int) (xb : Int) (xc : Int) (ls : Dt) (km : Dt) (ac : Dt) (ls2 : Dt) (km2 : Dt) (ac2 : Dt) (A : List Ed → Prop) (K : Nat → List Ed → Prop) : Prop :=
  Vif (decide (i < (↑(List.length ls2) : Int))) (Need (decide ((0 : Int) ≤ i) && decide (i < (↑(List.length ls) : Int))) (Need (decide (i.toNat < List.length ls)) (Need (decide ((0 : Int) ≤ i) && decide (i < (↑(List.length ls2) : Int))) (Need (decide (i.toNat < List.length ls2)) (Vif (decide ((cel ls i.toNat ((0 : Nat) + (1 : Nat) + (1 : Nat) + (1 : Nat) + (1 : Nat))).int = (0 : Int))) (Ar .i64 ((cel ls i.toNat ((0 : Nat) + (1 : Nat) + (1 : Nat))).int.tdiv (24 : Int)) fun z => Vif (decide (z = xb)) (Vif (decide (xa < (cel ls i.toNat ((0 : Nat) + (1 : Nat) + (1 : Nat))).int)) (Pre ((0 : Int) ≤ (cel ls i.toNat ((0 : Nat) + (1 : Nat))).int ∧ (cel ls i.toNat ((0 : Nat) + (1 : Nat))).int < (↑(List.length rc.xs) : Int) ∧ Sp.I64 (cel rc.xs (cel ls i.toNat ((0 : Nat) + (1 : Nat))).int.toNat (3 : Nat)).int ∧ Sp.Small xc) (Vif (!!Sp.drives (cel rc.xs (cel ls i.toNat ((0 : Nat) + (1 : Nat))).int.toNat (3 : Nat)).int xc) (Vif (!(decide ((cel ls i.toNat (0 : Nat)).int = (cel ls2 i.toNat (0 : Nat)).int) && (decide ((cel ls i.toNat ((0 : Nat) + (1 : Nat))).int = (cel ls2 i.toNat ((0 : Nat) + (1 : Nat))).int) && (decide ((cel ls i.toNat ((0 : Nat) + (1 : Nat) + (1 : Nat))).int = (cel ls2 i.toNat ((0 : Nat) + (1 : Nat) + (1 : Nat))).int) && (decide ((cel ls i.toNat ((0 : Nat) + (1 : Nat) + (1 : Nat) + (1 : Nat))).int = (cel ls2 i.toNat ((0 : Nat) + (1 : Nat) + (1 : Nat) + (1 : Nat))).int) && (decide ((cel ls i.toNat ((0 : Nat) + (1 : Nat) + (1 : Nat) + (1 : Nat) + (1 : Nat))).int = (cel ls2 i.toNat ((0 : Nat) + (1 : Nat) + (1 : Nat) + (1 : Nat) + (1 : Nat))).int) && true)))))) ((472 : Nat) = (472 : Nat) + (1 : Nat)) (Ar .i64 (i + (1 : Int)) fun z => A [.i z, .ro _ rl, .ro _ rc, .i pr, .i ex, .i lo, .i hi, .ro _ rt, .i xa, .i xb, .i xc, .l ls, .l km, .l ac, .l ls2, .l km2, .l ac2])) (Vif (!decide ((cel ls2 i.toNat (0 : Nat)).int = (cel ls i.toNat (0 : Nat)).int)) ((472 : Nat) = (472 : Nat) + (1 : Nat)) (Vif (!decide ((cel ls2 i.toNat ((0 : Nat) + (1 : Nat))).int = (cel ls i.toNat ((0 : Nat) + (1 : Nat))).int)) ((472 : Nat) = (472 : Nat) + (1 : Nat)) (Vif (!decide ((cel ls2 i.toNat ((0 : Nat) + (1 : Nat) + (1 : Nat) + (1 : Nat))).int = (cel ls i.toNat ((0 : Nat) + (1 : Nat) + (1 : Nat) + (1 : Nat))).int)) ((472 : Nat) = (472 : Nat) + (1 : Nat)) (Vif (decide ((cel ls2 i.toNat ((0 : Nat) + (1 : Nat) + (1 : Nat) + (1 : Nat) + (1 : Nat))).int = (1 : Int))) (Vif (decide ((cel ls2 i.toNat ((0 : Nat) + (1 : Nat) + (1 : Nat))).int = (cel ls i.toNat ((0 : Nat) + (1 : Nat) + (1 : Nat))).int)) (Ar .i64 (i + (1 : Int)) fun z => A [.i z, .ro _ rl, .ro _ rc, .i pr, .i ex, .i lo, .i hi, .ro _ rt, .i xa, .i xb, .i xc, .l ls, .l km, .l ac, .l ls2, .l km2, .l ac2]) (Vif (!decide ((cel ls2 i.toNat ((0 : Nat) + (1 : Nat) + (1 : Nat) + (1 : Nat) + (1 : Nat))).int = (0 : Int))) ((472 : Nat) = (472 : Nat) + (1 : Nat)) (Ar .i64 ((cel ls2 i.toNat ((0 : Nat) + (1 : Nat) + (1 : Nat))).int.tdiv (24 : Int)) fun z => Ar .i64 ((cel ls i.toNat ((0 : Nat) + (1 : Nat) + (1 : Nat))).int.tdiv (24 : Int)) fun z_1 => Vif (decide (z ≤ z_1)) ((472 : Nat) = (472 : Nat) + (1 : Nat)) (Vif (!decide ((cel ls2 i.toNat ((0 : Nat) + (1 : Nat) + (1 : Nat))).int.tmod (24 : Int) = (cel ls i.toNat ((0 : Nat) + (1 : Nat) + (1 : Nat))).int.tmod (24 : Int))) ((472 : Nat) = (472 : Nat) + (1 : Nat)) (Ar .i64 (i + (1 : Int)) fun z => A [.i z, .ro _ rl, .ro _ rc, .i pr, .i ex, .i lo, .i hi, .ro _ rt, .i xa, .i xb, .i xc, .l ls, .l km, .l ac, .l ls2, .l km2, .l ac2]))))) (Vif (!decide ((cel ls2 i.toNat ((0 : Nat) + (1 : Nat) + (1 : Nat) + (1 : Nat) + (1 : Nat))).int = (0 : Int))) ((472 : Nat) = (472 : Nat) + (1 : Nat)) (Ar .i64 ((cel ls2 i.toNat ((0 : Nat) + (1 : Nat) + (1 : Nat))).int.tdiv (24 : Int)) fun z => Ar .i64 ((cel ls i.toNat ((0 : Nat) + (1 : Nat) + (1 : Nat))).int.tdiv (24 : Int)) fun z_1 => Vif (decide (z ≤ z_1)) ((472 : Nat) = (472 : Nat) + (1 : Nat)) (Vif (!decide ((cel ls2 i.toNat ((0 : Nat) + (1 : Nat) + (1 : Nat))).int.tmod (24 : Int) = (cel ls i.toNat ((0 : Nat) + (1 : Nat) + (1 : Nat))).int.tmod (24 : Int))) ((472 : Nat) = (472 : Nat) + (1 : Nat)) (Ar .i64 (i + (1 : Int)) fun z => A [.i z, .ro _ rl, .ro _ rc, .i pr, .i ex, .i lo, .i hi, .ro _ rt, .i xa, .i xb, .i xc, .l ls, .l km, .l ac, .l ls2, .l km2, .l ac2])))))))))) (Vif (!(decide ((cel ls i.toNat (0 : Nat)).int = (cel ls2 i.toNat (0 : Nat)).int) && (decide ((cel ls i.toNat ((0 : Nat) + (1 : Nat))).int = (cel ls2 i.toNat ((0 : Nat) + (1 : Nat))).int) && (decide ((cel ls i.toNat ((0 : Nat) + (1 : Nat) + (1 : Nat))).int = (cel ls2 i.toNat ((0 : Nat) + (1 : Nat) + (1 : Nat))).int) && (decide ((cel ls i.toNat ((0 : Nat) + (1 : Nat) + (1 : Nat) + (1 : Nat))).int = (cel ls2 i.toNat ((0 : Nat) + (1 : Nat) + (1 : Nat) + (1 : Nat))).int) && (decide ((cel ls i.toNat ((0 : Nat) + (1 : Nat) + (1 : Nat) + (1 : Nat) + (1 : Nat))).int = (cel ls2 i.toNat ((0 : Nat) + (1 : Nat) + (1 : Nat) + (1 : Nat) + (1 : Nat))).int) && true)))))) ((472 : Nat) = (472 : Nat) + (1 : Nat)) (Ar .i64 (i + (1 : Int)) fun z => A [.i z, .ro _ rl, .ro _ rc, .i pr, .i ex, .i lo, .i hi, .ro _ rt, .i xa, .i xb, .i xc, .l ls, .l km, .l ac, .l ls2, .l km2, .l ac2]))) (Vif (!(decide ((cel ls i.toNat (0 : Nat)).int = (cel ls2 i.toNat (0 : Nat)).int) && (decide ((cel ls i.toNat ((0 : Nat) + (1 : Nat))).int = (cel ls2 i.toNat ((0 : Nat) + (1 : Nat))).int) && (decide ((cel ls i.toNat ((0 : Nat) + (1 : Nat) + (1 : Nat))).int = (cel ls2 i.toNat ((0 : Nat) + (1 : Nat) + (1 : Nat))).int) && (decide ((cel ls i.toNat ((0 : Nat) + (1 : Nat) + (1 : Nat) + (1 : Nat))).int = (cel ls2 i.toNat ((0 : Nat) + (1 : Nat) + (1 : Nat) + (1 : Nat))).int) && (decide ((cel ls i.toNat ((0 : Nat) + (1 : Nat) + (1 : Nat) + (1 : Nat) + (1 : Nat))).int = (cel ls2 i.toNat ((0 : Nat) + (1 : Nat) + (1 : Nat) + (1 : Nat) + (1 : Nat))).int) && true)))))) ((472 : Nat) = (472 : Nat) + (1 : Nat)) (Ar .i64 (i + (1 : Int)) fun z => A [.i z, .ro _ rl, .ro _ rc, .i pr, .i ex, .i lo, .i hi, .ro _ rt, .i xa, .i xb, .i xc, .l ls, .l km, .l ac, .l ls2, .l km2, .l ac2]))) (Vif (!(decide ((cel ls i.toNat (0 : Nat)).int = (cel ls2 i.toNat (0 : Nat)).int) && (decide ((cel ls i.toNat ((0 : Nat) + (1 : Nat))).int = (cel ls2 i.toNat ((0 : Nat) + (1 : Nat))).int) && (decide ((cel ls i.toNat ((0 : Nat) + (1 : Nat) + (1 : Nat))).int = (cel ls2 i.toNat ((0 : Nat) + (1 : Nat) + (1 : Nat))).int) && (decide ((cel ls i.toNat ((0 : Nat) + (1 : Nat) + (1 : Nat) + (1 : Nat))).int = (cel ls2 i.toNat ((0 : Nat) + (1 : Nat) + (1 : Nat) + (1 : Nat))).int) && (decide ((cel ls i.toNat ((0 : Nat) + (1 : Nat) + (1 : Nat) + (1 : Nat) + (1 : Nat))).int = (cel ls2 i.toNat ((0 : Nat) + (1 : Nat) + (1 : Nat) + (1 : Nat) + (1 : Nat))).int) && true)))))) ((472 : Nat) = (472 : Nat) + (1 : Nat)) (Ar .i64 (i + (1 : Int)) fun z => A [.i z, .ro _ rl, .ro _ rc, .i pr, .i ex, .i lo, .i hi, .ro _ rt, .i xa, .i xb, .i xc, .l ls, .l km, .l ac, .l ls2, .l km2, .l ac2]))))))) (K (0 : Nat) [.l ls, .l km, .l ac, .l ls2, .l km2, .l ac2])
theorem vcl_moA (W : InW) (i : Int) (rl : Ro [.str]) (rc : Ro Ivs) (pr : Int) (ex : Int) (lo : Int) (hi : Int) (rt : Ro [.int .i64, .int .i64]) (xa : Int) (xb : Int) (xc : Int) (ls : Dt) (km : Dt) (ac : Dt) (ls2 : Dt) (km2 : Dt) (ac2 : Dt) (A : List Ed → Prop) (K : Nat → List Ed → Prop) : vcTop { cxT Try.prog TT TPt 1000 50 with fn := 11 } 1000 (loopAt Try.prog 11 16) (tmOut 246 [(3, .ptr 1 0), (5, .ptr 46 0), (8, .ptr 4 0), (12, .ptr 7 0), (14, .si .i64 i)] [6, 15, 16, 17, 132, 133, 134, 135, 136, 137, 138, 139, 140, 141, 142, 143, 144, 145, 146, 147, 148, 149, 150, 151, 152, 153, 154, 155, 156, 157, 158, 159, 160, 161, 162, 163, 164, 165, 166, 167, 168, 169, 170, 171, 172, 173, 174, 175, 176, 177, 178, 179, 180, 181, 182, 183, 184, 185, 186, 187, 188, 189, 190, 191, 192, 193, 194, 195, 196, 197, 198, 199, 200, 201, 202, 203, 204, 205, 206, 207, 208, 209, 210, 211, 212, 213, 214, 215, 216, 217, 218, 219, 220, 221, 222, 223, 224, 225, 226, 227, 228, 229, 230]) [(1, .blk 28 [.rs _ rl, .rs _ rc, .si .i64 pr, .si .i64 ex, .si .i64 lo, .si .i64 hi, .rs _ rt]), (46, .blk 70 [.si .i64 xa, .si .i64 xb, .si .i64 xc]), (4, .blk 42 [.rw 31, .rw 34, .opq 1021, .rw 40]), (31, .arr 63 Iv5 ls), (34, .arr 3 [.int .i64] km), (40, .arr 3 [.int .i64] ac), (7, .blk 42 [.rw 49, .rw 52, .opq 1024, .rw 55]), (49, .arr 63 Iv5 ls2), (52, .arr 3 [.int .i64] km2), (55, .arr 3 [.int .i64] ac2)] (roundL lc_moA A K) = VCL_moA i rl rc pr ex lo hi rt xa xb xc ls km ac ls2 km2 ac2 A K := by kernel_rfl
def okLt_moA : Prop := ∀ (W : InW) (body a : Code), (Try.prog.funcs[11]?).bind (·.body) = some body → a ∈ loopsIn body → keyOf a = 16 → @LoopOk W Try.prog a (@loopRun W lc_moA)
theorem okl_moA (meas : [InW] → List Ed → Nat) (hyp_ : ∀ (W : InW) (i : Int) (rl : Ro [.str]) (rc : Ro Ivs) (pr : Int) (ex : Int) (lo : Int) (hi : Int) (rt : Ro [.int .i64, .int .i64]) (xa : Int) (xb : Int) (xc : Int) (ls : Dt) (km : Dt) (ac : Dt) (ls2 : Dt) (km2 : Dt) (ac2 : Dt) (K : Nat → List Ed → Prop), sp_moA [.i i, .ro _ rl, .ro _ rc, .i pr, .i ex, .i lo, .i hi, .ro _ rt, .i xa, .i xb, .i xc, .l ls, .l km, .l ac, .l ls2, .l km2, .l ac2] K → ∀ A : List Ed → Prop, (∀ e, meas e < meas [.i i, .ro _ rl, .ro _ rc, .i pr, .i ex, .i lo, .i hi, .ro _ rt, .i xa, .i xb, .i xc, .l ls, .l km, .l ac, .l ls2, .l km2, .l ac2] → sp_moA e K → A e) → VCL_moA i rl rc pr ex lo hi rt xa xb xc ls km ac ls2 km2 ac2 A K) : okLt_moA :=
  LE.okOf' (fun W => @TT W) (fun W => @TT_ok W) mixed_ok TPt 1000 50 (by kernel_rfl) lc_moA (fun W => @meas W) fun W i rl rc pr ex lo hi rt xa xb xc ls km ac ls2 km2 ac2 K hs =>
    (vcl_moA W i rl rc pr ex lo hi rt xa xb xc ls km ac ls2 km2 ac2 (fun e => meas e < meas [.i i, .ro _ rl, .ro _ rc, .i pr, .i ex, .i lo, .i hi, .ro _ rt, .i xa, .i xb, .i xc, .l ls, .l km, .l ac, .l ls2, .l km2, .l ac2] ∧ sp_moA e K) K).mpr (hyp_ W i rl rc pr ex lo hi rt xa xb xc ls km ac ls2 km2 ac2 K hs _ fun e h1 h2 => ⟨h1, h2⟩)
theorem okLmoA : okLt_moA := okl_moA (fun e => match e with | .i i :: r => (match r with | [_, _, _, _, _, _, _, _, _, _, _, _, _, .l ls2, _, _] => ((ls2.length : Int) - i).toNat | _ => 0) | _ => 0) fun W i rl rc pr ex lo hi rt xa xb xc ls km ac ls2 km2 ac2 K hs A hA => by
  obtain ⟨⟨h0, h1, h2, h3, h4, hp⟩, hk⟩ := hs
  unfold VCL_moA
  simp only [Nat.zero_add, Nat.reduceAdd]
  have hlen := hp.len
  refine vifd (fun e => ?_) fun e => hk
  have hx : i.toNat < ls.length := by omega
  have again := ar64 (n := i + 1) (K := fun z => A [.i z, .ro _ rl, .ro _ rc, .i pr, .i ex, .i lo, .i hi, .ro _ rt, .i xa, .i xb, .i xc, .l ls, .l km, .l ac, .l ls2, .l km2, .l ac2]) (by omega)
    (hA _ (by show ((ls2.length : Int) - (i + 1)).toNat < ((ls2.length : Int) - i).toNat; omega) ⟨⟨by omega, by omega, h2, h3, h4, hp⟩, hk⟩)
  obtain ⟨c1, c2, c3, c4⟩ := hp.car i.toNat hx
  have no := hp.no i.toNat hx
  have yes := hp.yes i.toNat hx
  clear hA hk hp
  have same : ¬ Sp.aff rc.xs ls xa xb xc i.toNat → Vif (!Sp.sameC ls ls2 i.toNat 0 5) (472 = 472 + 1) (Ar .i64 (i + 1) fun z => A [.i z, .ro _ rl, .ro _ rc, .i pr, .i ex, .i lo, .i hi, .ro _ rt, .i xa, .i xb, .i xc, .l ls, .l km, .l ac, .l ls2, .l km2, .l ac2]) := fun hn => by
    have h := no hn
    refine vif (fun x => ?_) fun _ => again
    have : Sp.sameC ls ls2 i.toNat 0 5 = true := by
      simp only [Sp.sameC, h 0 (by decide), h (0 + 1) (by decide), h (0 + 1 + 1) (by decide), h (0 + 1 + 1 + 1) (by decide), h (0 + 1 + 1 + 1 + 1) (by decide), decide_true, Bool.and_self]
    rw [this] at x
    cases x
  refine ned (by simp; omega) (nedd hx (ned (by simp; omega) (nedd (by omega) (vifd (fun e1 => ar64 (td24 c3) (vifd (fun e2 => vifd (fun e3 => ⟨⟨c1.1, c1.2, c2, by unfold Sp.Small; omega⟩, vif (fun e4 => ?_) fun e4 => ?_⟩) fun e3 => ?_) fun e2 => ?_)) fun e1 => ?_))))
  · exact same fun h => by rw [h.2.2.2] at e4; cases e4
  · have hd : Sp.drives (cel rc.xs (cel ls i.toNat 1).int.toNat 3).int xc = false := by rw [Bool.not_not] at e4; exact e4
    obtain ⟨y0, y1, y3, y4⟩ := yes ⟨e1, e2, e3, hd⟩
    refine vifn (fun x => absurd y0 x) fun _ => vifn (fun x => absurd y1 x) fun _ => vifn (fun x => absurd y3 x) fun _ => vifd (fun z => vifd (fun _ => again) fun z2 => ?_) fun z => ?_
    · rcases y4 with ⟨_, q⟩ | ⟨q, _⟩
      · exact absurd q z2
      · omega
    · rcases y4 with ⟨q, _⟩ | ⟨q1, q2, q3⟩
      · exact absurd q z
      · exact vifn (fun x => absurd q1 x) fun _ => ar64 (td24 c4) (ar64 (td24 c3) (vifd (fun x => by omega) fun _ => vifn (fun x => absurd q3 x) fun _ => again))
  · exact same fun h => e3 h.2.2.1
  · exact same fun h => e2 h.2.1
  · exact same fun h => e1 h.1
noncomputable def le_moA : LE Try.prog := ⟨11, 16, fun W => @loopRun W lc_moA, okLmoA⟩
noncomputable def TPu : Tab Try.prog := ⟨[pc_bRun, pc_valid, pc_shaped, pc_errs, pc_states, pc_ints, pc_Awake], [le_moA], []⟩
def VC_lawMoved [W : InW] (s_Learners : Ro [.str]) (s_Cars : Ro Ivs) (s_Price : Int) (s_Excess : Int) (s_Lo : Int) (s_Hi : Int) (s_Terms : Ro [.int .i64, .int .i64]) (evs : Ro Iv11) (x_a : Int) (x_b : Int) (x_c : Int) (Q : DS → Prop) : Prop :=
  Vif (decide ((60 : Int) ≤ (↑(List.length evs.xs) : Int))) (Pre True (Q [[Cl.b true]])) (Pre True (Need (decide (((0 : Nat) + List.length evs.xs) * (88 : Nat) ≤ (140737488355328 : Nat))) (Need (decide ((List.length evs.xs + [[Cl.i (2 : Int), Cl.i x_a, Cl.i (0 : Int), Cl.i (0 : Int), Cl.i (0 : Int), Cl.i (0 : Int), Cl.i (0 : Int), Cl.i x_b, Cl.i x_c, Cl.i (0 : Int), Cl.i (0 : Int)]].length) * (88 : Nat) ≤ (140737488355328 : Nat))) (Pre True (Vif (!decide (Sp.rErr ⟨s_Learners.xs, s_Cars.xs, s_Price, s_Excess, s_Lo, s_Hi, s_Terms.xs⟩ evs.xs = (0 : Int))) (Vif (!decide (Sp.rErr ⟨s_Learners.xs, s_Cars.xs, s_Price, s_Excess, s_Lo, s_Hi, s_Terms.xs⟩ evs.xs = (0 : Int))) (Vif (decide (Sp.rErr ⟨s_Learners.xs, s_Cars.xs, s_Price, s_Excess, s_Lo, s_Hi, s_Terms.xs⟩ (evs.xs ++ [[Cl.i (2 : Int), Cl.i x_a, Cl.i (0 : Int), Cl.i (0 : Int), Cl.i (0 : Int), Cl.i (0 : Int), Cl.i (0 : Int), Cl.i x_b, Cl.i x_c, Cl.i (0 : Int), Cl.i (0 : Int)]]) = Sp.rErr ⟨s_Learners.xs, s_Cars.xs, s_Price, s_Excess, s_Lo, s_Hi, s_Terms.xs⟩ evs.xs)) (Pre True (Q [[Cl.b true]])) (Q [[Cl.b false]])) (Q [[Cl.b false]])) (Pre (Sp.NamesOk s_Learners.xs ∧ Sp.NamesOk s_Cars.xs) (Vif (!decide (Sp.chkE s_Learners.xs s_Cars.xs s_Price s_Excess s_Lo s_Hi s_Terms.xs = (0 : Int))) (Vif (!decide (Sp.rErr ⟨s_Learners.xs, s_Cars.xs, s_Price, s_Excess, s_Lo, s_Hi, s_Terms.xs⟩ evs.xs = (0 : Int))) (Vif (decide (Sp.rErr ⟨s_Learners.xs, s_Cars.xs, s_Price, s_Excess, s_Lo, s_Hi, s_Terms.xs⟩ (evs.xs ++ [[Cl.i (2 : Int), Cl.i x_a, Cl.i (0 : Int), Cl.i (0 : Int), Cl.i (0 : Int), Cl.i (0 : Int), Cl.i (0 : Int), Cl.i x_b, Cl.i x_c, Cl.i (0 : Int), Cl.i (0 : Int)]]) = Sp.rErr ⟨s_Learners.xs, s_Cars.xs, s_Price, s_Excess, s_Lo, s_Hi, s_Terms.xs⟩ evs.xs)) (Pre True (Q [[Cl.b true]])) (Q [[Cl.b false]])) (Q [[Cl.b false]])) (Vif (!decide (Sp.rErr ⟨s_Learners.xs, s_Cars.xs, s_Price, s_Excess, s_Lo, s_Hi, s_Terms.xs⟩ (evs.xs ++ [[Cl.i (2 : Int), Cl.i x_a, Cl.i (0 : Int), Cl.i (0 : Int), Cl.i (0 : Int), Cl.i (0 : Int), Cl.i (0 : Int), Cl.i x_b, Cl.i x_c, Cl.i (0 : Int), Cl.i (0 : Int)]]) = (0 : Int))) (Q [[Cl.b false]]) (Ar .i64 ((↑(List.length (Sp.rE ⟨s_Learners.xs, s_Cars.xs, s_Price, s_Excess, s_Lo, s_Hi, s_Terms.xs⟩ evs.xs)) : Int) + (1 : Int)) fun z => Vif (!decide ((↑(List.length (Sp.rE ⟨s_Learners.xs, s_Cars.xs, s_Price, s_Excess, s_Lo, s_Hi, s_Terms.xs⟩ (evs.xs ++ [[Cl.i (2 : Int), Cl.i x_a, Cl.i (0 : Int), Cl.i (0 : Int), Cl.i (0 : Int), Cl.i (0 : Int), Cl.i (0 : Int), Cl.i x_b, Cl.i x_c, Cl.i (0 : Int), Cl.i (0 : Int)]]))) : Int) = z)) (Q [[Cl.b false]]) (Vif (!decide ((↑(List.length (Sp.rE ⟨s_Learners.xs, s_Cars.xs, s_Price, s_Excess, s_Lo, s_Hi, s_Terms.xs⟩ evs.xs)) : Int) = (↑(List.length evs.xs) : Int))) (Q [[Cl.b false]]) (Need (decide ((0 : Int) ≤ (↑(List.length (Sp.rE ⟨s_Learners.xs, s_Cars.xs, s_Price, s_Excess, s_Lo, s_Hi, s_Terms.xs⟩ evs.xs)) : Int))) (Need (decide ((0 : Nat) ≤ (↑(List.length (Sp.rE ⟨s_Learners.xs, s_Cars.xs, s_Price, s_Excess, s_Lo, s_Hi, s_Terms.xs⟩ evs.xs)) : Int).toNat) && decide ((↑(List.length (Sp.rE ⟨s_Learners.xs, s_Cars.xs, s_Price, s_Excess, s_Lo, s_Hi, s_Terms.xs⟩ evs.xs)) : Int).toNat ≤ List.length (Sp.rE ⟨s_Learners.xs, s_Cars.xs, s_Price, s_Excess, s_Lo, s_Hi, s_Terms.xs⟩ (evs.xs ++ [[Cl.i (2 : Int), Cl.i x_a, Cl.i (0 : Int), Cl.i (0 : Int), Cl.i (0 : Int), Cl.i (0 : Int), Cl.i (0 : Int), Cl.i x_b, Cl.i x_c, Cl.i (0 : Int), Cl.i (0 : Int)]])))) (Need (decide ((0 : Nat) + ((↑(List.length (Sp.rE ⟨s_Learners.xs, s_Cars.xs, s_Price, s_Excess, s_Lo, s_Hi, s_Terms.xs⟩ evs.xs)) : Int).toNat - (0 : Nat)) ≤ List.length (Sp.rE ⟨s_Learners.xs, s_Cars.xs, s_Price, s_Excess, s_Lo, s_Hi, s_Terms.xs⟩ (evs.xs ++ [[Cl.i (2 : Int), Cl.i x_a, Cl.i (0 : Int), Cl.i (0 : Int), Cl.i (0 : Int), Cl.i (0 : Int), Cl.i (0 : Int), Cl.i x_b, Cl.i x_c, Cl.i (0 : Int), Cl.i (0 : Int)]])))) (Pre True (Vif (!Sp.ints (Sp.rE ⟨s_Learners.xs, s_Cars.xs, s_Price, s_Excess, s_Lo, s_Hi, s_Terms.xs⟩ evs.xs) (List.take ((↑(List.length (Sp.rE ⟨s_Learners.xs, s_Cars.xs, s_Price, s_Excess, s_Lo, s_Hi, s_Terms.xs⟩ evs.xs)) : Int).toNat - (0 : Nat)) (List.drop (0 : Nat) (Sp.rE ⟨s_Learners.xs, s_Cars.xs, s_Price, s_Excess, s_Lo, s_Hi, s_Terms.xs⟩ (evs.xs ++ [[Cl.i (2 : Int), Cl.i x_a, Cl.i (0 : Int), Cl.i (0 : Int), Cl.i (0 : Int), Cl.i (0 : Int), Cl.i (0 : Int), Cl.i x_b, Cl.i x_c, Cl.i (0 : Int), Cl.i (0 : Int)]]))))) (Q [[Cl.b false]]) (Vif (!decide ((↑(List.length (Sp.rB ⟨s_Learners.xs, s_Cars.xs, s_Price, s_Excess, s_Lo, s_Hi, s_Terms.xs⟩ (evs.xs ++ [[Cl.i (2 : Int), Cl.i x_a, Cl.i (0 : Int), Cl.i (0 : Int), Cl.i (0 : Int), Cl.i (0 : Int), Cl.i (0 : Int), Cl.i x_b, Cl.i x_c, Cl.i (0 : Int), Cl.i (0 : Int)]])).ls) : Int) = (↑(List.length (Sp.rB ⟨s_Learners.xs, s_Cars.xs, s_Price, s_Excess, s_Lo, s_Hi, s_Terms.xs⟩ evs.xs).ls) : Int))) (Q [[Cl.b false]]) (Pre (List.length s_Learners.xs ≤ (1000 : Nat)) (Vif (!Sp.shapedE (List.length s_Learners.xs) (List.length s_Cars.xs) (Sp.rB ⟨s_Learners.xs, s_Cars.xs, s_Price, s_Excess, s_Lo, s_Hi, s_Terms.xs⟩ evs.xs).ls (Sp.rB ⟨s_Learners.xs, s_Cars.xs, s_Price, s_Excess, s_Lo, s_Hi, s_Terms.xs⟩ evs.xs).km (Sp.rB ⟨s_Learners.xs, s_Cars.xs, s_Price, s_Excess, s_Lo, s_Hi, s_Terms.xs⟩ evs.xs).si (Sp.rB ⟨s_Learners.xs, s_Cars.xs, s_Price, s_Excess, s_Lo, s_Hi, s_Terms.xs⟩ evs.xs).ac) (Q [[Cl.b false]]) (Pre (List.length s_Learners.xs ≤ (1000 : Nat)) (Vif (!Sp.shapedE (List.length s_Learners.xs) (List.length s_Cars.xs) (Sp.rB ⟨s_Learners.xs, s_Cars.xs, s_Price, s_Excess, s_Lo, s_Hi, s_Terms.xs⟩ (evs.xs ++ [[Cl.i (2 : Int), Cl.i x_a, Cl.i (0 : Int), Cl.i (0 : Int), Cl.i (0 : Int), Cl.i (0 : Int), Cl.i (0 : Int), Cl.i x_b, Cl.i x_c, Cl.i (0 : Int), Cl.i (0 : Int)]])).ls (Sp.rB ⟨s_Learners.xs, s_Cars.xs, s_Price, s_Excess, s_Lo, s_Hi, s_Terms.xs⟩ (evs.xs ++ [[Cl.i (2 : Int), Cl.i x_a, Cl.i (0 : Int), Cl.i (0 : Int), Cl.i (0 : Int), Cl.i (0 : Int), Cl.i (0 : Int), Cl.i x_b, Cl.i x_c, Cl.i (0 : Int), Cl.i (0 : Int)]])).km (Sp.rB ⟨s_Learners.xs, s_Cars.xs, s_Price, s_Excess, s_Lo, s_Hi, s_Terms.xs⟩ (evs.xs ++ [[Cl.i (2 : Int), Cl.i x_a, Cl.i (0 : Int), Cl.i (0 : Int), Cl.i (0 : Int), Cl.i (0 : Int), Cl.i (0 : Int), Cl.i x_b, Cl.i x_c, Cl.i (0 : Int), Cl.i (0 : Int)]])).si (Sp.rB ⟨s_Learners.xs, s_Cars.xs, s_Price, s_Excess, s_Lo, s_Hi, s_Terms.xs⟩ (evs.xs ++ [[Cl.i (2 : Int), Cl.i x_a, Cl.i (0 : Int), Cl.i (0 : Int), Cl.i (0 : Int), Cl.i (0 : Int), Cl.i (0 : Int), Cl.i x_b, Cl.i x_c, Cl.i (0 : Int), Cl.i (0 : Int)]])).ac) (Q [[Cl.b false]]) (Need (decide ((0 : Int) ≤ (↑(List.length (Sp.rE ⟨s_Learners.xs, s_Cars.xs, s_Price, s_Excess, s_Lo, s_Hi, s_Terms.xs⟩ evs.xs)) : Int)) && decide ((↑(List.length (Sp.rE ⟨s_Learners.xs, s_Cars.xs, s_Price, s_Excess, s_Lo, s_Hi, s_Terms.xs⟩ evs.xs)) : Int) < (↑(List.length (Sp.rE ⟨s_Learners.xs, s_Cars.xs, s_Price, s_Excess, s_Lo, s_Hi, s_Terms.xs⟩ (evs.xs ++ [[Cl.i (2 : Int), Cl.i x_a, Cl.i (0 : Int), Cl.i (0 : Int), Cl.i (0 : Int), Cl.i (0 : Int), Cl.i (0 : Int), Cl.i x_b, Cl.i x_c, Cl.i (0 : Int), Cl.i (0 : Int)]]))) : Int))) (Need (decide ((↑(List.length (Sp.rE ⟨s_Learners.xs, s_Cars.xs, s_Price, s_Excess, s_Lo, s_Hi, s_Terms.xs⟩ evs.xs)) : Int).toNat < List.length (Sp.rE ⟨s_Learners.xs, s_Cars.xs, s_Price, s_Excess, s_Lo, s_Hi, s_Terms.xs⟩ (evs.xs ++ [[Cl.i (2 : Int), Cl.i x_a, Cl.i (0 : Int), Cl.i (0 : Int), Cl.i (0 : Int), Cl.i (0 : Int), Cl.i (0 : Int), Cl.i x_b, Cl.i x_c, Cl.i (0 : Int), Cl.i (0 : Int)]])))) (Vif (!decide ((cel (Sp.rE ⟨s_Learners.xs, s_Cars.xs, s_Price, s_Excess, s_Lo, s_Hi, s_Terms.xs⟩ (evs.xs ++ [[Cl.i (2 : Int), Cl.i x_a, Cl.i (0 : Int), Cl.i (0 : Int), Cl.i (0 : Int), Cl.i (0 : Int), Cl.i (0 : Int), Cl.i x_b, Cl.i x_c, Cl.i (0 : Int), Cl.i (0 : Int)]])) (↑(List.length (Sp.rE ⟨s_Learners.xs, s_Cars.xs, s_Price, s_Excess, s_Lo, s_Hi, s_Terms.xs⟩ evs.xs)) : Int).toNat (0 : Nat)).int = (0 : Int))) (Pre True (Vif (Sp.statesE (Sp.rB ⟨s_Learners.xs, s_Cars.xs, s_Price, s_Excess, s_Lo, s_Hi, s_Terms.xs⟩ evs.xs).ls (Sp.rB ⟨s_Learners.xs, s_Cars.xs, s_Price, s_Excess, s_Lo, s_Hi, s_Terms.xs⟩ evs.xs).km (Sp.rB ⟨s_Learners.xs, s_Cars.xs, s_Price, s_Excess, s_Lo, s_Hi, s_Terms.xs⟩ evs.xs).si (Sp.rB ⟨s_Learners.xs, s_Cars.xs, s_Price, s_Excess, s_Lo, s_Hi, s_Terms.xs⟩ evs.xs).ac (Sp.rB ⟨s_Learners.xs, s_Cars.xs, s_Price, s_Excess, s_Lo, s_Hi, s_Terms.xs⟩ (evs.xs ++ [[Cl.i (2 : Int), Cl.i x_a, Cl.i (0 : Int), Cl.i (0 : Int), Cl.i (0 : Int), Cl.i (0 : Int), Cl.i (0 : Int), Cl.i x_b, Cl.i x_c, Cl.i (0 : Int), Cl.i (0 : Int)]])).ls (Sp.rB ⟨s_Learners.xs, s_Cars.xs, s_Price, s_Excess, s_Lo, s_Hi, s_Terms.xs⟩ (evs.xs ++ [[Cl.i (2 : Int), Cl.i x_a, Cl.i (0 : Int), Cl.i (0 : Int), Cl.i (0 : Int), Cl.i (0 : Int), Cl.i (0 : Int), Cl.i x_b, Cl.i x_c, Cl.i (0 : Int), Cl.i (0 : Int)]])).km (Sp.rB ⟨s_Learners.xs, s_Cars.xs, s_Price, s_Excess, s_Lo, s_Hi, s_Terms.xs⟩ (evs.xs ++ [[Cl.i (2 : Int), Cl.i x_a, Cl.i (0 : Int), Cl.i (0 : Int), Cl.i (0 : Int), Cl.i (0 : Int), Cl.i (0 : Int), Cl.i x_b, Cl.i x_c, Cl.i (0 : Int), Cl.i (0 : Int)]])).si (Sp.rB ⟨s_Learners.xs, s_Cars.xs, s_Price, s_Excess, s_Lo, s_Hi, s_Terms.xs⟩ (evs.xs ++ [[Cl.i (2 : Int), Cl.i x_a, Cl.i (0 : Int), Cl.i (0 : Int), Cl.i (0 : Int), Cl.i (0 : Int), Cl.i (0 : Int), Cl.i x_b, Cl.i x_c, Cl.i (0 : Int), Cl.i (0 : Int)]])).ac) (Pre True (Q [[Cl.b true]])) (Q [[Cl.b false]]))) (Vif (decide (x_c < (0 : Int))) (Q [[Cl.b false]]) (Vif (decide ((8 : Int) ≤ x_c)) (Q [[Cl.b false]]) (Pre ((0 : Int) ≤ (0 : Int) ∧ (0 : Int) ≤ (↑(List.length (Sp.rB ⟨s_Learners.xs, s_Cars.xs, s_Price, s_Excess, s_Lo, s_Hi, s_Terms.xs⟩ (evs.xs ++ [[Cl.i (2 : Int), Cl.i x_a, Cl.i (0 : Int), Cl.i (0 : Int), Cl.i (0 : Int), Cl.i (0 : Int), Cl.i (0 : Int), Cl.i x_b, Cl.i x_c, Cl.i (0 : Int), Cl.i (0 : Int)]])).ls) : Int) ∧ List.length (Sp.rB ⟨s_Learners.xs, s_Cars.xs, s_Price, s_Excess, s_Lo, s_Hi, s_Terms.xs⟩ (evs.xs ++ [[Cl.i (2 : Int), Cl.i x_a, Cl.i (0 : Int), Cl.i (0 : Int), Cl.i (0 : Int), Cl.i (0 : Int), Cl.i (0 : Int), Cl.i x_b, Cl.i x_c, Cl.i (0 : Int), Cl.i (0 : Int)]])).ls ≤ (1000 : Nat) ∧ (0 : Int) ≤ x_c ∧ x_c < (8 : Int) ∧ Sp.MovOk s_Cars.xs (Sp.rB ⟨s_Learners.xs, s_Cars.xs, s_Price, s_Excess, s_Lo, s_Hi, s_Terms.xs⟩ evs.xs).ls (Sp.rB ⟨s_Learners.xs, s_Cars.xs, s_Price, s_Excess, s_Lo, s_Hi, s_Terms.xs⟩ (evs.xs ++ [[Cl.i (2 : Int), Cl.i x_a, Cl.i (0 : Int), Cl.i (0 : Int), Cl.i (0 : Int), Cl.i (0 : Int), Cl.i (0 : Int), Cl.i x_b, Cl.i x_c, Cl.i (0 : Int), Cl.i (0 : Int)]])).ls x_a x_b x_c) (Pre True (Vif (Sp.ints (Sp.rB ⟨s_Learners.xs, s_Cars.xs, s_Price, s_Excess, s_Lo, s_Hi, s_Terms.xs⟩ evs.xs).ac (Sp.rB ⟨s_Learners.xs, s_Cars.xs, s_Price, s_Excess, s_Lo, s_Hi, s_Terms.xs⟩ (evs.xs ++ [[Cl.i (2 : Int), Cl.i x_a, Cl.i (0 : Int), Cl.i (0 : Int), Cl.i (0 : Int), Cl.i (0 : Int), Cl.i (0 : Int), Cl.i x_b, Cl.i x_c, Cl.i (0 : Int), Cl.i (0 : Int)]])).ac) (Pre True (Vif (Sp.ints (Sp.rB ⟨s_Learners.xs, s_Cars.xs, s_Price, s_Excess, s_Lo, s_Hi, s_Terms.xs⟩ evs.xs).km (Sp.rB ⟨s_Learners.xs, s_Cars.xs, s_Price, s_Excess, s_Lo, s_Hi, s_Terms.xs⟩ (evs.xs ++ [[Cl.i (2 : Int), Cl.i x_a, Cl.i (0 : Int), Cl.i (0 : Int), Cl.i (0 : Int), Cl.i (0 : Int), Cl.i (0 : Int), Cl.i x_b, Cl.i x_c, Cl.i (0 : Int), Cl.i (0 : Int)]])).km) (Pre True (Q [[Cl.b true]])) (Q [[Cl.b false]]))) (Q [[Cl.b false]])))))))))))))))))))))))))))))
theorem vc_lawMoved (W : InW) (s_Learners : Ro [.str]) (s_Cars : Ro Ivs) (s_Price : Int) (s_Excess : Int) (s_Lo : Int) (s_Hi : Int) (s_Terms : Ro [.int .i64, .int .i64]) (evs : Ro Iv11) (x_a : Int) (x_b : Int) (x_c : Int) (Q : DS → Prop) : bodyK (cxT Try.prog TT TPu 1000 50) 1000 11 [.agg [.rs _ s_Learners, .rs _ s_Cars, .si .i64 s_Price, .si .i64 s_Excess, .si .i64 s_Lo, .si .i64 s_Hi, .rs _ s_Terms], .rs _ evs, .agg [.si .i64 x_a, .si .i64 x_b, .si .i64 x_c]] [] 0 (leafK [(false, [.bool])] Q) (fun _ _ _ _ => Stuck 421) = VC_lawMoved s_Learners s_Cars s_Price s_Excess s_Lo s_Hi s_Terms evs x_a x_b x_c Q := by kernel_rfl
abbrev ats_lawMoved : List AT := [.agg [.sl [.str], .sl Ivs, .int .i64, .int .i64, .int .i64, .int .i64, .sl [.int .i64, .int .i64]], .one (.sl Iv11), .agg [.int .i64, .int .i64, .int .i64]]
theorem ok_lawMoved {pre : DS → Prop} {res : DS → DS} (hyp_ : ∀ (W : InW) (s_Learners : Ro [.str]) (s_Cars : Ro Ivs) (s_Price : Int) (s_Excess : Int) (s_Lo : Int) (s_Hi : Int) (s_Terms : Ro [.int .i64, .int .i64]) (evs : Ro Iv11) (x_a : Int) (x_b : Int) (x_c : Int), pre [[.l s_Learners.xs, .l s_Cars.xs, .i s_Price, .i s_Excess, .i s_Lo, .i s_Hi, .l s_Terms.xs], [.l evs.xs], [.i x_a, .i x_b, .i x_c]] → ∀ Q : DS → Prop, Q (res [[.l s_Learners.xs, .l s_Cars.xs, .i s_Price, .i s_Excess, .i s_Lo, .i s_Hi, .l s_Terms.xs], [.l evs.xs], [.i x_a, .i x_b, .i x_c]]) → VC_lawMoved s_Learners s_Cars s_Price s_Excess s_Lo s_Hi s_Terms evs x_a x_b x_c Q) : PureOk Try.prog 11 ats_lawMoved [(false, [.bool])] pre res :=
  PureOk.of' (fun W => @TT W) (fun W => @TT_ok W) mixed_ok TPu 1000 50 fun W s_Learners s_Cars s_Price s_Excess s_Lo s_Hi s_Terms evs x_a x_b x_c hp =>
    (vc_lawMoved W s_Learners s_Cars s_Price s_Excess s_Lo s_Hi s_Terms evs x_a x_b x_c (fun o => o = res [[.l s_Learners.xs, .l s_Cars.xs, .i s_Price, .i s_Excess, .i s_Lo, .i s_Hi, .l s_Terms.xs], [.l evs.xs], [.i x_a, .i x_b, .i x_c]])).mpr (hyp_ W s_Learners s_Cars s_Price s_Excess s_Lo s_Hi s_Terms evs x_a x_b x_c hp _ rfl)
end Go.Proofs.Ytiiicnhjjfmpkaa
namespace Go.Proofs.Ytiiicnhjjfmpkaa
open Go.RowKit
set_option linter.unusedVariables false
set_option maxRecDepth 100000
namespace Sp
theorem tdiv_day {s : Int} (h : 0 ≤ s) (k : Nat) : s.tdiv 24 < (s + 24 + 24 * k).tdiv 24 := by
  rw [Int.tdiv_eq_ediv_of_nonneg h, Int.tdiv_eq_ediv_of_nonneg (by omega)]
  omega
theorem mov_ok {s : Sch} {b : Bks} {n : Int} (hI : Inv s b n) {x : Evt} : MovOk s.rc b.ls (weatherL s.rc (seeE b.es x.d x.w) x b.ls.length 0 b.ls) x.at_ x.d x.w := by
  have hl := (weatherL_in (es := seeE b.es x.d x.w) (x := x) b.ls.length 0 b.ls (by omega) (by omega) hI.wok)
  have aff_iff : ∀ j, j < b.ls.length → (aff s.rc b.ls x.at_ x.d x.w j ↔ hit s.rc b.ls j x = true) := fun j hj => by
    have hr := hI.ls j hj
    rw [hit_drives (by rw [Int.toNat_natCast]; exact hI.never _ (by omega)), Int.toNat_natCast]
    unfold aff
    simp only [Bool.and_eq_true, decide_eq_true_eq, Bool.not_eq_true']
  refine ⟨hl.1, fun j hj => ?_, fun j hj hn k hk => ?_, fun j hj hy => ?_⟩
  · have hr := hI.ls j hj
    have hn := hI.never (cel b.ls j 1).int.toNat (by omega)
    have hw := hl.2.1.rows j (by rw [hl.1]; exact hj)
    unfold I64 Small
    exact ⟨hr.2.1, by omega, by omega, by omega⟩
  · rw [aff_iff j hj, Bool.not_eq_true] at hn
    rw [((weatherL_rows (es := seeE b.es x.d x.w) b.ls.length 0 b.ls (by omega) (by omega) j).2 (by omega) (by omega)).1 hn k]
  · have ho := hy.1
    rw [aff_iff j hj] at hy
    obtain ⟨a, c, d, e⟩ := ((weatherL_rows (es := seeE b.es x.d x.w) b.ls.length 0 b.ls (by omega) (by omega) j).2 (by omega) (by omega)).2 hy
    have hs := (hI.ls j hj).2.2.1.1
    refine ⟨a, c, d, ?_⟩
    rcases e with ⟨e1, e2⟩ | ⟨⟨k, e1⟩, e2⟩
    · exact .inl ⟨e2, e1⟩
    · refine .inr ⟨by rw [e2]; exact ho, ?_, ?_⟩
      · rw [e1]; exact tdiv_day hs k
      · rw [e1]; exact tmod_day hs k
end Sp
theorem moved_pure : PureOk Try.prog 11 ats_lawMoved [(false, [.bool])] (WfD ats_lawMoved) fun _ => [[.b true]] :=
  ok_lawMoved fun W rl rc pr ex lo hi rt evs xa xb xc hp Q h => by
    obtain ⟨d, ds, e1, hp1, d2, ds2, e2, _, d3, ds3, e3, hp3, _⟩ := hp
    cases e1
    cases e2
    cases e3
    have hn := school_names hp1
    unfold VC_lawMoved
    simp only [List.drop_zero, Nat.sub_zero, Nat.zero_add, List.length_cons, List.length_nil]
    refine vifd (fun _ => ⟨trivial, h⟩) fun h60 => ⟨trivial, nedd (by omega) (nedd (by omega) ⟨trivial, ?_⟩)⟩
    have h60' : evs.xs.length < 60 := by omega
    have hmore := Sp.rErr_more (s := ⟨rl.xs, rc.xs, pr, ex, lo, hi, rt.xs⟩) (evs := evs.xs) [.i 2, .i xa, .i 0, .i 0, .i 0, .i 0, .i 0, .i xb, .i xc, .i 0, .i 0] h60'
    by_cases e : Sp.rErr ⟨rl.xs, rc.xs, pr, ex, lo, hi, rt.xs⟩ evs.xs = 0
    · have e' := hmore.trans e
      have hz : Sp.chkE rl.xs rc.xs pr ex lo hi rt.xs = 0 := Sp.rErr_chk e
      have hl := (Sp.rErr_ok e).1.learners
      obtain ⟨_, hI, _, hs⟩ := Sp.rB_led e
      obtain ⟨_, hI2, _, hs2⟩ := Sp.rB_led e'
      simp only at hl hs hs2
      have hE := Sp.rE_ok e
      have hE' := Sp.rE_ok e'
      have hB := Sp.rB_ok e
      have hB' := Sp.rB_ok e'
      rw [Sp.more_errs, ← hE] at hE'
      rw [Sp.more_bk, ← Sp.runAll_bk, ← hB, Sp.more_evt] at hB'
      rw [← Sp.runAll_bk, ← hB, Sp.more_evt] at hE'
      have hel : (Sp.rE ⟨rl.xs, rc.xs, pr, ex, lo, hi, rt.xs⟩ evs.xs).length = evs.xs.length := by rw [hE, Sp.errAll_len]
      generalize Sp.rE ⟨rl.xs, rc.xs, pr, ex, lo, hi, rt.xs⟩ (evs.xs ++ [[.i 2, .i xa, .i 0, .i 0, .i 0, .i 0, .i 0, .i xb, .i xc, .i 0, .i 0]]) = E' at *
      generalize Sp.rB ⟨rl.xs, rc.xs, pr, ex, lo, hi, rt.xs⟩ (evs.xs ++ [[.i 2, .i xa, .i 0, .i 0, .i 0, .i 0, .i 0, .i xb, .i xc, .i 0, .i 0]]) = B' at *
      generalize Sp.rE ⟨rl.xs, rc.xs, pr, ex, lo, hi, rt.xs⟩ evs.xs = E at *
      generalize Sp.rB ⟨rl.xs, rc.xs, pr, ex, lo, hi, rt.xs⟩ evs.xs = B at *
      have hel' : E'.length = evs.xs.length + 1 := by rw [hE']; simp [hel]
      have hlast : (cel E' evs.xs.length 0).int = Sp.doE ⟨rl.xs, rc.xs, pr, ex, lo, hi, rt.xs⟩ B evs.xs.length ⟨2, xa, 0, 0, 0, 0, 0, xb, xc, 0, 0⟩ := by
        rw [hE', Sp.cel_right _ _ _ _ (by omega), hel, Nat.sub_self]
        rfl
      have htake : E'.take E.length = E := by rw [hE', List.take_left]
      have hB2 : B' = Sp.doB ⟨rl.xs, rc.xs, pr, ex, lo, hi, rt.xs⟩ B evs.xs.length ⟨2, xa, 0, 0, 0, 0, 0, xb, xc, 0, 0⟩ := hB'
      have hkeep : B'.ls.length = B.ls.length := by
        rcases Sp.step_cases ⟨rl.xs, rc.xs, pr, ex, lo, hi, rt.xs⟩ B evs.xs.length ⟨2, xa, 0, 0, 0, 0, 0, xb, xc, 0, 0⟩ with ⟨_, hk, _, _, he, q⟩ | ⟨_, _, q⟩
        · rw [hB2, q]
          show (Sp.eff _ _ _).ls.length = _
          rw [Sp.eff_ls hk]
          exact (Sp.weatherL_in (es := Sp.seeE B.es xb xc) (x := ⟨2, xa, 0, 0, 0, 0, 0, xb, xc, 0, 0⟩) B.ls.length 0 B.ls (by omega) (by omega) hI.wok).1
        · rw [hB2, q]
      have hm := hI.many
      refine vifn (fun x => absurd e x) fun _ => ⟨hn, vifn (fun x => absurd hz x) fun _ => vifn (fun x => absurd e' x) fun _ => ar64 (by omega) (vifn (fun x => absurd (by rw [hel', hel]; rfl) x) fun _ => vifn (fun x => absurd (by rw [hel]) x) fun _ => nedd (by omega) (ned (by simp; omega) (nedd (by omega) ⟨trivial, vif (fun x => ?_) fun _ => vifn (fun x => absurd (by rw [hkeep]) x) fun _ => ⟨by omega, vif (fun x => by rw [hs] at x; cases x) fun _ => ⟨by omega, vif (fun x => by rw [hs2] at x; cases x) fun _ => ned (by simp; omega) (nedd (by omega) ?_)⟩⟩⟩)))⟩
      · rw [Int.toNat_natCast, htake, Sp.ints_self] at x
        cases x
      · rw [Int.toNat_natCast, hel, hlast]
        rcases Sp.step_cases ⟨rl.xs, rc.xs, pr, ex, lo, hi, rt.xs⟩ B evs.xs.length ⟨2, xa, 0, 0, 0, 0, 0, xb, xc, 0, 0⟩ with ⟨q0, hk, _, _, he, q⟩ | ⟨q0, _, q⟩
        · refine vifn (fun x => absurd q0 x) fun _ => ?_
          have f' : 0 ≤ xc ∧ xc ≤ 7 := by
            rcases Sp.err_ok hk he with ⟨k, _⟩ | ⟨k, _⟩ | ⟨_, _, f⟩ | ⟨k, _⟩ | ⟨k, _⟩ | ⟨k, _⟩ | ⟨k, _⟩
            · exact absurd (show (2 : Int) = 0 from k) (by decide)
            · exact absurd (show (2 : Int) = 1 from k) (by decide)
            · exact f
            · exact absurd (show (2 : Int) = 3 from k) (by decide)
            · exact absurd (show (2 : Int) = 4 from k) (by decide)
            · exact absurd (show (2 : Int) = 5 from k) (by decide)
            · exact absurd (show (2 : Int) = 6 from k) (by decide)
          have hls : B'.ls = Sp.weatherL rc.xs (Sp.seeE B.es xb xc) ⟨2, xa, 0, 0, 0, 0, 0, xb, xc, 0, 0⟩ B.ls.length 0 B.ls := by
            rw [hB2, q]
            show (Sp.eff _ _ _).ls = _
            rw [Sp.eff_ls hk]
            rfl
          have hac : B'.ac = B.ac ∧ B'.km = B.km := by
            rw [hB2, q]
            exact ⟨rfl, rfl⟩
          have hmov := Sp.mov_ok hI (x := ⟨2, xa, 0, 0, 0, 0, 0, xb, xc, 0, 0⟩)
          refine vifd (fun _ => by omega) fun _ => vifd (fun _ => by omega) fun _ => ⟨⟨by omega, by omega, by omega, f'.1, by omega, ?_⟩, trivial, vif (fun _ => ⟨trivial, vif (fun _ => ⟨trivial, h⟩) fun x => ?_⟩) fun x => ?_⟩
          · rw [hls]; exact hmov
          · rw [hac.2, Sp.ints_self] at x; cases x
          · rw [hac.1, Sp.ints_self] at x; cases x
        · refine vifn (fun _ => ⟨trivial, vif (fun _ => ⟨trivial, h⟩) fun x => ?_⟩) fun x => absurd x q0
          rw [hB2, q, Sp.states_self] at x
          cases x
    · simp [Vif_iff, Pre_iff, e, hmore, h]
end Go.Proofs.Ytiiicnhjjfmpkaa
namespace Go.Proofs.Ytiiicnhjjfmpkaa.bookMoved
open Go.ChangeShapes Go.WideShapes Go.ChangeAt Go.RowKit
set_option linter.unusedVariables false
set_option maxRecDepth 100000
theorem own : ownKnob Try.prog.godebug = none := by kernel_rfl
theorem laid : laidOutB Try.prog = true := by kernel_rfl
theorem lifted (os : Os) (started : os.Started) (H : Type) (enc : TypeId × Value → H) :
    ReturnsInHanded {} Try.checked os 11 .any (Rows.bookMovedSpec.pre6 enc Try.prog Try.f11 Rows.bookMovedRow.domain false) (Rows.bookMovedSpec.post enc Try.prog Try.f11 false true false false) := by
  refine returnsInHanded_of_change (C := Try.checked) own started (by kernel_rfl) Try.func11
    (ChangeSpec.witness6 (enc := enc) (C := Try.checked) false ⟨#[], #[(.agg #[.slice none 0 0, .slice none 0 0, .int .i64 0, .int .i64 0, .int .i64 0, .int .i64 0, .slice none 0 0]), (.slice none 0 0), (.agg #[.int .i64 0, .int .i64 0, .int .i64 0])], []⟩ 8 (by kernel_rfl) (by kernel_rfl) (by kernel_rfl) (by kernel_rfl)) ?_
  intro W base args ds gs before hval hW _ _
  exact law_end (f := Try.f11) (s := Rows.bookMovedSpec) (by kernel_rfl) Try.underlying4 (by kernel_rfl) rfl laid (by kernel_rfl)
    (fun ds h => by match ds, (show ds.length = 3 from h) with | [_, _, _], _ => exact ⟨rfl, rfl, rfl⟩) moved_pure hval hW
theorem over : Rows.bookMovedRow.holds Try.pinned (OpenSpec.ofChange Rows.bookMovedSpec) :=
  OpenClaim.holds_of_wide 11 Try.f11 rfl rfl rfl rfl rfl rfl rfl ⟨rfl, rfl, rfl, rfl, rfl⟩ rfl rfl rfl rfl rfl (by kernel_rfl) Try.func11 (by kernel_rfl)
    (of_decide_eq_true (by kernel_rfl)) (by unfold Func.isWrapper; first | (rw [if_pos (by decide +kernel)]; kernel_rfl) | (rw [if_neg (by decide +kernel)]; exact ⟨rfl, rfl⟩))
    (fun os started H enc _ => lifted os started H enc)
theorem proved : Rows.BookMovedSaid := over
end Go.Proofs.Ytiiicnhjjfmpkaa.bookMoved
