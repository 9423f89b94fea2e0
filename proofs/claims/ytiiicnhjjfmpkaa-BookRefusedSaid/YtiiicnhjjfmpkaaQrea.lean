/-
  'BookRefused': for every input the law returns true, and what is handed in reads as before. No condition.
-/
import Derived.Test.YtiiicnhjjfmpkaaQf
import Derived.Test.YtiiicnhjjfmpkaaRows
import Derived.WalkKit
import Derived.ProofKit
set_option linter.unusedVariables false
set_option linter.unusedSectionVars false
set_option linter.unusedSimpArgs false
namespace Go.Proofs.Ytiiicnhjjfmpkaa
open Go.RowKit
set_option linter.unusedVariables false
set_option maxRecDepth 100000
namespace Sp
def pays (ps : Dt) : Nat → Nat → Dt → Dt
  | 0, _, h => h
  | n + 1, i, h => pays ps n (i + 1) (addA (addA h (cel ps i 1).int (-(cel ps i 3).int)) (cel ps i 2).int (cel ps i 3).int)
structure PsOk (na n : Int) (ps : Dt) : Prop where
  row : ∀ j, j < ps.length → (0 ≤ (cel ps j 0).int ∧ (cel ps j 0).int < n) ∧ (0 ≤ (cel ps j 1).int ∧ (cel ps j 1).int < na) ∧ (0 ≤ (cel ps j 2).int ∧ (cel ps j 2).int < na) ∧ (cel ps j 1).int ≠ (cel ps j 2).int ∧ (0 < (cel ps j 3).int ∧ (cel ps j 3).int ≤ 10000000)
  up : ∀ j, j + 1 < ps.length → (cel ps j 0).int ≤ (cel ps (j + 1) 0).int
def sumI (a : Dt) : Nat → Nat → Int
  | _, 0 => 0
  | i, n + 1 => (cel a i 0).int + sumI a (i + 1) n
end Sp
end Go.Proofs.Ytiiicnhjjfmpkaa
namespace Go.Proofs.Ytiiicnhjjfmpkaa
set_option linter.unusedVariables false
namespace Sp
theorem runB_ind {s : Sch} {evs : Dt} {P : Int → Bks → Prop} (hs : ∀ (i : Int) (b : Bks), 0 ≤ i → i < evs.length → Inv s b i → P i b → P (i + 1) (doB s b i (evt evs i))) : ∀ (n : Nat) (i : Int) (b : Bks), 0 ≤ i → i + n ≤ 60 → i + n ≤ evs.length → Inv s b i → P i b → P (i + n) (runB s evs n i b)
  | 0, i, b, h0, _, _, hI, h => by simpa [runB] using h
  | n + 1, i, b, h0, h1, h2, hI, h => by
    rw [show i + ((n + 1 : Nat) : Int) = i + 1 + n by omega]
    exact runB_ind hs n (i + 1) _ (by omega) (by omega) (by omega) (hI.step (by omega) _) (hs i b h0 (by omega) hI h)
theorem run_ind {s : Sch} {evs : Dt} {P : Int → Bks → Prop} (h : rErr s evs = 0) (h0 : P 0 (open0 s)) (hs : ∀ (i : Int) (b : Bks), 0 ≤ i → i < evs.length → Inv s b i → P i b → P (i + 1) (doB s b i (evt evs i))) : P evs.length (runAll s evs) := by
  obtain ⟨h1, h2⟩ := rErr_ok h
  have := runB_ind hs evs.length 0 (open0 s) (by omega) (by omega) (by omega) (Inv.zero h1) h0
  rw [Int.zero_add] at this
  exact this
theorem doB_cases {s : Sch} {b : Bks} {n : Int} {x : Evt} {P : Bks → Prop} (h0 : P b) (h1 : P { b with ev := n }) (h2 : inr x.kind 0 6 = true → b.tm ≤ x.at_ → x.at_ ≤ 4800 → err s b x = 0 → P { eff s { b with ev := n } x with tm := x.at_ }) : P (doB s b n x) := by
  unfold doB
  split
  · exact h0
  rename_i e1
  split
  · exact h0
  rename_i e2
  simp only [Bool.not_eq_true, Bool.not_eq_false'] at e1 e2
  have ht := inr_iff.1 e2
  split
  · rename_i e3
    exact h2 e1 ht.1 ht.2 e3
  · exact h1
theorem rB_ok {s : Sch} {evs : Dt} (h : rErr s evs = 0) : rB s evs = runAll s evs := if_pos h
theorem rE_ok {s : Sch} {evs : Dt} (h : rErr s evs = 0) : rE s evs = errAll s evs := if_pos h
theorem rE_no {s : Sch} {evs : Dt} (h : ¬ rErr s evs = 0) : rE s evs = [] := if_neg h
theorem sumI_set (a : Dt) (v : Int) (i : Nat) (hi : i < a.length) : ∀ (n k : Nat), sumI (a.set i [.i v]) k n = sumI a k n + if k ≤ i ∧ i < k + n then v - (cel a i 0).int else 0
  | 0, k => by simp [sumI]; omega
  | n + 1, k => by
    unfold sumI
    rw [sumI_set a v i hi n (k + 1), cel_set]
    by_cases h : i = k
    · subst h
      rw [if_pos ⟨rfl, hi⟩, if_neg (by omega), if_pos (by omega)]
      show v + _ = _
      omega
    · rw [if_neg (fun e => h e.1)]
      by_cases h2 : k + 1 ≤ i ∧ i < k + 1 + n
      · rw [if_pos h2, if_pos (by omega)]; omega
      · rw [if_neg h2, if_neg (by omega)]; omega
theorem sumI_addA (a : Dt) (i c : Int) (h : 0 ≤ i ∧ i < a.length) : sumI (addA a i c) 0 a.length = sumI a 0 a.length + c := by
  unfold addA
  rw [sumI_set a _ i.toNat (by omega), if_pos (by omega)]
  omega
theorem sumI_zero (n : Nat) : ∀ (m k : Nat), sumI (List.replicate n [.i 0]) k m = 0
  | 0, _ => rfl
  | m + 1, k => by
    unfold sumI
    rw [sumI_zero n m, cel_rep]
    split <;> rfl
theorem pays_app (ps : Dt) (r : List Cl) : ∀ (n i : Nat) (h : Dt), i + n = ps.length → pays (ps ++ [r]) (n + 1) i h = addA (addA (pays ps n i h) (r.getD 1 .z).int (-(r.getD 3 .z).int)) (r.getD 2 .z).int (r.getD 3 .z).int
  | 0, i, h, e => by
    have : ∀ k, cel (ps ++ [r]) i k = r.getD k .z := fun k => by
      rw [show i = ps.length by omega]
      simp [cel, List.getD_eq_getElem?_getD]
    simp only [pays, this]
  | n + 1, i, h, e => by
    have : ∀ k, cel (ps ++ [r]) i k = cel ps i k := fun k => by simp [cel, List.getD_eq_getElem?_getD, List.getElem?_append_left (show i < ps.length by omega)]
    rw [pays, pays_app ps r n (i + 1) _ (by omega), this, this, this]
    rfl
structure Led (s : Sch) (b : Bks) (n : Int) : Prop where
  ac : b.ac = pays b.ps b.ps.length 0 (List.replicate (s.rl.length + 4) [.i 0])
  ps : PsOk ((s.rl.length : Int) + 4) n b.ps
  sum : sumI b.ac 0 b.ac.length = 0
theorem PsOk.up1 {na n : Int} {ps : Dt} (h : PsOk na n ps) : PsOk na (n + 1) ps := ⟨fun j hj => by have := h.row j hj; exact ⟨by omega, this.2⟩, h.up⟩
theorem PsOk.post {na n : Int} {ps : Dt} (h : PsOk na (n + 1) ps) (h0 : 0 ≤ n) {u v c : Int} (hu : 0 ≤ u ∧ u < na) (hv : 0 ≤ v ∧ v < na) (hn : u ≠ v) (hc : 0 ≤ c ∧ c ≤ 10000000) : PsOk na (n + 1) (postP ps n u v c) := by
  unfold postP
  split
  · exact h
  · rename_i e
    have a1 : ∀ j k, j < ps.length → cel (ps ++ [[Cl.i n, .i u, .i v, .i c]]) j k = cel ps j k := fun j k hj => by simp [cel, List.getD_eq_getElem?_getD, List.getElem?_append_left hj]
    have a2 : ∀ k, cel (ps ++ [[Cl.i n, .i u, .i v, .i c]]) ps.length k = [Cl.i n, .i u, .i v, .i c].getD k .z := fun k => by simp [cel, List.getD_eq_getElem?_getD]
    refine ⟨fun j hj => ?_, fun j hj => ?_⟩
    · simp only [List.length_append, List.length_singleton] at hj
      by_cases hj' : j < ps.length
      · simp only [a1 j _ hj']; exact h.row j hj'
      · rw [show j = ps.length by omega]
        simp only [a2]
        exact ⟨⟨h0, by show n < n + 1; omega⟩, hu, hv, hn, by show 0 < c ∧ c ≤ _; omega⟩
    · simp only [List.length_append, List.length_singleton] at hj
      by_cases hj' : j + 1 < ps.length
      · rw [a1 _ _ hj', a1 _ _ (by omega)]; exact h.up j hj'
      · rw [a1 _ _ (by omega), show j + 1 = ps.length by omega, a2]
        have := (h.row j (by omega)).1.2
        show _ ≤ n
        omega
theorem Led.post {s : Sch} {b : Bks} {n : Int} (h : Led s b (n + 1)) (h0 : 0 ≤ n) (he : b.ev = n) (hl : b.ac.length = s.rl.length + 4) {u v c : Int} (hu : 0 ≤ u ∧ u < (s.rl.length : Int) + 4) (hv : 0 ≤ v ∧ v < (s.rl.length : Int) + 4) (hn : u ≠ v) (hc : 0 ≤ c ∧ c ≤ 10000000) : Led s (b.post u v c) (n + 1) := by
  refine ⟨?_, ?_, ?_⟩
  · show postA b.ac u v c = pays (postP b.ps b.ev u v c) (postP b.ps b.ev u v c).length 0 _
    unfold postA postP
    split
    · exact h.ac
    · rw [List.length_append, List.length_singleton, pays_app b.ps _ b.ps.length 0 _ (by omega), ← h.ac]
      rfl
  · show PsOk _ _ (postP b.ps b.ev u v c)
    rw [he]
    exact h.ps.post h0 hu hv hn hc
  · show sumI (postA b.ac u v c) 0 (postA b.ac u v c).length = 0
    rw [postA_len]
    unfold postA
    split
    · exact h.sum
    · have e1 := sumI_addA b.ac u (-c) (by omega)
      have e2 := sumI_addA (addA b.ac u (-c)) v c (by rw [addA_len]; omega)
      rw [addA_len] at e2
      rw [e2, e1, h.sum]
      omega
theorem Led.up1 {s : Sch} {b : Bks} {n : Int} (h : Led s b n) : Led s b (n + 1) := ⟨h.ac, h.ps.up1, h.sum⟩
theorem led_step {s : Sch} {b : Bks} {n : Int} (x : Evt) (hI : Inv s b n) (h : Led s b n) : Led s (doB s b n x) (n + 1) := by
  have h0 := hI.nn.1
  have hu := h.up1
  have hL := hI.sch.learners
  refine doB_cases (P := fun B => Led s B (n + 1)) hu ⟨hu.ac, hu.ps, hu.sum⟩ fun hk t1 t2 he => ?_
  have fin : ∀ B : Bks, Led s B (n + 1) → Led s { B with tm := x.at_ } (n + 1) := fun B h => ⟨h.ac, h.ps, h.sum⟩
  refine fin _ ?_
  have hS : school s = s.rl.length := rfl
  have start : ∀ B : Bks, B.ac = b.ac → B.ps = b.ps → Led s B (n + 1) := fun B e1 e2 => ⟨by rw [e1, e2]; exact hu.ac, by rw [e2]; exact hu.ps, by rw [e1]; exact hu.sum⟩
  rcases err_ok hk he with ⟨k, e⟩ | ⟨k, e, f⟩ | ⟨k, e, f⟩ | ⟨k, e, f, g, q⟩ | ⟨k, e, f⟩ | ⟨k, e, f⟩ | ⟨k, e, f⟩
  · rw [show eff s { b with ev := n } x = { b with ev := n, ls := b.ls ++ [[.i x.l, .i x.c, .i x.s, .i x.h, .i 0]] } by simp [eff, k]]
    exact start _ rfl rfl
  · rw [eff1 k]
    have hr := hI.row e
    have hf := fee_in hI.sch.fees hr.2.2.2 hI.sch.price ((cel b.ls x.b.toNat 2).int - x.at_)
    exact (start { b with ev := n, ls := setSt b.ls x.b 1 } rfl rfl).post h0 rfl hI.ac.1 (by show 0 ≤ (cel b.ls x.b.toNat 0).int ∧ (cel b.ls x.b.toNat 0).int < _; omega) (by omega) (by show (cel b.ls x.b.toNat 0).int ≠ _; omega) (by show 0 ≤ fee s.rt s.pr (cel b.ls x.b.toNat 3).int ((cel b.ls x.b.toNat 2).int - x.at_) ∧ fee s.rt s.pr (cel b.ls x.b.toNat 3).int ((cel b.ls x.b.toNat 2).int - x.at_) ≤ _; omega)
  · rw [show eff s { b with ev := n } x = { b with ev := n, es := seeE b.es x.d x.w, ls := weatherL s.rc (seeE b.es x.d x.w) x b.ls.length 0 b.ls } by simp [eff, k]]
    exact start _ rfl rfl
  · rw [eff3 k]
    have hr := hI.row e
    have hf := price_in hI.sch hr.2.2.2
    exact (start { b with ev := n, ls := setSt b.ls x.b 2, km := addA b.km (cel b.ls x.b.toNat 1).int x.k, si := addA b.si (cel b.ls x.b.toNat 1).int x.k } rfl rfl).post h0 rfl hI.ac.1 (by show 0 ≤ (cel b.ls x.b.toNat 0).int ∧ (cel b.ls x.b.toNat 0).int < _; omega) (by omega) (by show (cel b.ls x.b.toNat 0).int ≠ _; omega) (by show 0 ≤ (cel b.ls x.b.toNat 3).int * s.pr ∧ (cel b.ls x.b.toNat 3).int * s.pr ≤ _; omega)
  · rw [show eff s { b with ev := n } x = Bks.post { b with ev := n, si := b.si.set x.c.toNat [.i 0] } (school s) (school s + 1) x.m by simp [eff, k]]
    exact (start { b with ev := n, si := b.si.set x.c.toNat [.i 0] } rfl rfl).post h0 rfl hI.ac.1 (by omega) (by omega) (by omega) f
  · rw [eff5 k]
    have hx := hI.sch.excess
    have hx' : 0 ≤ s.ex ∧ s.ex ≤ 10000000 := hx
    refine ((start { b with ev := n, ls := setSt b.ls x.b 3 } rfl rfl).post h0 rfl hI.ac.1 (u := school s) (v := school s + 1) (c := min x.m s.ex) (by omega) (by omega) (by omega) (by omega)).post h0 rfl ?_ (by omega) (by omega) (by omega) (by omega)
    show (postA b.ac _ _ _).length = _
    rw [postA_len]; exact hI.ac.1
  · rw [show eff s { b with ev := n } x = Bks.post { b with ev := n } (school s + 3) x.l x.m by simp [eff, k]]
    exact (start { b with ev := n } rfl rfl).post h0 rfl hI.ac.1 (by omega) (by omega) (by omega) f
theorem led_run {s : Sch} {evs : Dt} (h : rErr s evs = 0) : Led s (runAll s evs) evs.length :=
  run_ind (P := fun i b => Led s b i) h ⟨rfl, ⟨fun j hj => by simp [open0] at hj, fun j hj => by simp [open0] at hj⟩, sumI_zero _ _ _⟩ fun i b h0 h1 hI h => led_step _ hI h
theorem shaped_run {s : Sch} {evs : Dt} (h : rErr s evs = 0) : shapedE s.rl.length s.rc.length (runAll s evs).ls (runAll s evs).km (runAll s evs).si (runAll s evs).ac = true := by
  have hI := rErr_inv h
  have row : ∀ (n i : Nat), i + n = (runAll s evs).ls.length → shN s.rl.length s.rc.length (runAll s evs).ls i n = true := by
    intro n
    induction n with
    | zero => intro i _; rfl
    | succ n ih =>
      intro i hi
      rw [shN, shR_iff.2 (by have := hI.ls i (by omega); omega), ih (i + 1) (by omega)]
      rfl
  unfold shapedE
  rw [decide_eq_true hI.km.1, decide_eq_true hI.si.1, decide_eq_true hI.ac.1, row _ _ (by omega)]
  rfl
end Sp
end Go.Proofs.Ytiiicnhjjfmpkaa
namespace Go.Proofs.Ytiiicnhjjfmpkaa
open Go.RowKit
set_option linter.unusedVariables false
set_option maxRecDepth 100000
theorem Sp.rB_led {s : Sp.Sch} {evs : Dt} (e : Sp.rErr s evs = 0) : Sp.Led s (Sp.rB s evs) evs.length ∧ Sp.Inv s (Sp.rB s evs) evs.length ∧ evs.length ≤ 60 ∧ Sp.shapedE s.rl.length s.rc.length (Sp.rB s evs).ls (Sp.rB s evs).km (Sp.rB s evs).si (Sp.rB s evs).ac = true := by
  rw [Sp.rB_ok e]
  exact ⟨Sp.led_run e, Sp.rErr_inv e, (Sp.rErr_ok e).2, Sp.shaped_run e⟩
theorem Sp.sameI_self (a : Dt) : ∀ (n i : Nat), Sp.sameI a a i n = true
  | 0, _ => rfl
  | n + 1, i => by rw [Sp.sameI, Sp.sameI_self a n, if_pos rfl]; rfl
theorem Sp.ints_self (a : Dt) : Sp.ints a a = true := by rw [Sp.ints, if_pos rfl]; exact Sp.sameI_self _ _ _
end Go.Proofs.Ytiiicnhjjfmpkaa
namespace Go.Proofs.Ytiiicnhjjfmpkaa
set_option linter.unusedVariables false
namespace Sp
def iter {α : Type} (f : Nat → α → α) : Nat → Nat → α → α
  | 0, _, a => a
  | n + 1, i, a => iter f n (i + 1) (f i a)
theorem iter_ind {α : Type} {f : Nat → α → α} {P : Nat → α → Prop} : ∀ (n i : Nat) (a : α), P i a → (∀ j a, i ≤ j → j < i + n → P j a → P (j + 1) (f j a)) → P (i + n) (iter f n i a)
  | 0, _, _, h, _ => h
  | n + 1, i, a, h, hs => by
    rw [iter, show i + (n + 1) = i + 1 + n by omega]
    exact iter_ind n (i + 1) _ (hs i a (by omega) (by omega) h) fun j a h1 h2 => hs j a (by omega) (by omega)
def bk (s : Sch) (evs : Dt) (j : Nat) : Bks := runB s evs j 0 (open0 s)
theorem runB_succ (s : Sch) (evs : Dt) : ∀ (n : Nat) (i : Int) (b : Bks), runB s evs (n + 1) i b = doB s (runB s evs n i b) (i + n) (evt evs (i + n))
  | 0, i, b => by simp [runB]
  | n + 1, i, b => by
    rw [runB, runB_succ s evs n (i + 1), runB, show i + 1 + (n : Int) = i + ((n + 1 : Nat) : Int) by omega]
theorem bk_succ (s : Sch) (evs : Dt) (j : Nat) : bk s evs (j + 1) = doB s (bk s evs j) j (evt evs j) := by
  unfold bk
  rw [runB_succ, Int.zero_add]
theorem runE_len (s : Sch) (evs : Dt) : ∀ (n : Nat) (i : Int) (b : Bks), (runE s evs n i b).length = n
  | 0, _, _ => rfl
  | n + 1, i, b => by simp [runE, runE_len s evs n]
theorem runE_cel (s : Sch) (evs : Dt) : ∀ (n : Nat) (i : Int) (b : Bks) (j : Nat), j < n → cel (runE s evs n i b) j 0 = .i (doE s (runB s evs j i b) (i + j) (evt evs (i + j)))
  | 0, _, _, _, h => by omega
  | n + 1, i, b, 0, h => by simp [runE, runB, cel]
  | n + 1, i, b, j + 1, h => by
    have := runE_cel s evs n (i + 1) (doB s b i (evt evs i)) j (by omega)
    rw [show i + 1 + (j : Int) = i + ((j + 1 : Nat) : Int) by omega] at this
    rw [runB]
    rw [← this]
    rfl
theorem runAll_bk (s : Sch) (evs : Dt) : runAll s evs = bk s evs evs.length := rfl
theorem errAll_len (s : Sch) (evs : Dt) : (errAll s evs).length = evs.length := runE_len _ _ _ _ _
theorem errAll_cel (s : Sch) (evs : Dt) (j : Nat) (h : j < evs.length) : cel (errAll s evs) j 0 = .i (doE s (bk s evs j) j (evt evs j)) := by
  have := runE_cel s evs evs.length 0 (open0 s) j h
  rw [Int.zero_add] at this
  exact this
theorem runB_congr {s : Sch} {e1 e2 : Dt} : ∀ (n : Nat) (i : Int) (b : Bks), (∀ j : Int, i ≤ j → j < i + n → evt e1 j = evt e2 j) → runB s e1 n i b = runB s e2 n i b
  | 0, _, _, _ => rfl
  | n + 1, i, b, h => by
    rw [runB, runB, h i (by omega) (by omega)]
    exact runB_congr n (i + 1) _ fun j h1 h2 => h j (by omega) (by omega)
theorem bk_congr {s : Sch} {e1 e2 : Dt} {n : Nat} (h : ∀ j : Nat, j < n → evt e1 j = evt e2 j) : bk s e1 n = bk s e2 n :=
  runB_congr n 0 _ fun j h1 h2 => by
    have := h j.toNat (by omega)
    rw [Int.toNat_of_nonneg h1] at this
    exact this
theorem cel_left (a b : Dt) (j k : Nat) (h : j < a.length) : cel (a ++ b) j k = cel a j k := by simp [cel, List.getD_eq_getElem?_getD, List.getElem?_append_left h]
theorem cel_right (a b : Dt) (j k : Nat) (h : a.length ≤ j) : cel (a ++ b) j k = cel b (j - a.length) k := by simp [cel, List.getD_eq_getElem?_getD, List.getElem?_append_right h]
theorem cel_take (a : Dt) (m j k : Nat) (h : j < m) : cel (a.take m) j k = cel a j k := by simp [cel, List.getD_eq_getElem?_getD, List.getElem?_take, h]
theorem evt_take (a : Dt) (m j : Nat) (h : j < m) : evt (a.take m) j = evt a j := by unfold evt; simp only [Int.toNat_natCast, cel_take a m j _ h]
theorem bk_take (s : Sch) (evs : Dt) (m j : Nat) (h : j ≤ m) : bk s (evs.take m) j = bk s evs j := bk_congr fun i hi => evt_take _ _ _ (by omega)
theorem step_cases (s : Sch) (b : Bks) (n : Int) (x : Evt) :
    (doE s b n x = 0 ∧ inr x.kind 0 6 = true ∧ b.tm ≤ x.at_ ∧ x.at_ ≤ 4800 ∧ err s b x = 0 ∧ doB s b n x = { eff s { b with ev := n } x with tm := x.at_ }) ∨
    (doE s b n x ≠ 0 ∧ ∃ e, doB s b n x = { b with ev := e }) := by
  unfold doE doB
  by_cases e1 : inr x.kind 0 6 = true
  · by_cases e2 : inr x.at_ b.tm 4800 = true
    · by_cases e3 : err s b x = 0
      · have ht := inr_iff.1 e2
        simp only [e1, e2, e3, Bool.not_true, Bool.false_eq_true, if_false, if_true]
        exact .inl ⟨trivial, trivial, ht.1, ht.2, trivial, trivial⟩
      · simp only [e1, e2, e3, Bool.not_true, Bool.false_eq_true, if_false]
        exact .inr ⟨e3, _, rfl⟩
    · simp only [e1, Bool.not_eq_true] at e2 ⊢
      simp only [e2, Bool.not_true, Bool.false_eq_true, if_false, Bool.not_false, if_true]
      exact .inr ⟨by decide, b.ev, rfl⟩
  · rw [Bool.not_eq_true] at e1
    simp only [e1, Bool.not_false, if_true]
    exact .inr ⟨by decide, b.ev, rfl⟩
structure Kept (a b : Dt) : Prop where
  len : a.length ≤ b.length
  row : ∀ j, j < a.length → (cel b j 0).int = (cel a j 0).int ∧ (cel b j 1).int = (cel a j 1).int ∧ (cel b j 3).int = (cel a j 3).int
theorem Kept.refl (a : Dt) : Kept a a := ⟨Nat.le_refl _, fun _ _ => ⟨rfl, rfl, rfl⟩⟩
theorem Kept.trans {a b c : Dt} (h : Kept a b) (h2 : Kept b c) : Kept a c := ⟨Nat.le_trans h.len h2.len, fun j hj => by
  have := h.row j hj
  have := h2.row j (by have := h.len; omega)
  omega⟩
theorem Kept.setSt (a : Dt) (i st : Int) : Kept a (setSt a i st) := ⟨by rw [setSt_len]; exact Nat.le_refl _, fun j hj => by
  rw [cel_setSt _ _ _ _ _ (by decide), cel_setSt _ _ _ _ _ (by decide), cel_setSt _ _ _ _ _ (by decide)]
  exact ⟨rfl, rfl, rfl⟩⟩
end Sp
end Go.Proofs.Ytiiicnhjjfmpkaa
namespace Go.Proofs.Ytiiicnhjjfmpkaa
open Go.RowKit
set_option linter.unusedVariables false
set_option maxRecDepth 100000
end Go.Proofs.Ytiiicnhjjfmpkaa
namespace Go.Proofs.Ytiiicnhjjfmpkaa
open Go.RowKit
set_option linter.unusedVariables false
set_option maxRecDepth 100000
namespace Sp
theorem done_no {s : Sch} {evs : Dt} {j : Nat} (hj : j < evs.length) (he : ¬ (cel (errAll s evs) j 0).int = 0) : ∃ e, bk s evs (j + 1) = { bk s evs j with ev := e } := by
  rw [errAll_cel s evs j hj] at he
  rcases step_cases s (bk s evs j) j (evt evs j) with ⟨h1, _⟩ | ⟨_, h1⟩
  · exact absurd h1 he
  · rw [bk_succ]; exact h1
theorem rErr_chk {s : Sch} {evs : Dt} (e : rErr s evs = 0) : chkE s.rl s.rc s.pr s.ex s.lo s.hi s.rt = 0 := by
  unfold rErr runErr at e
  split at e
  · assumption
  · exact e
end Sp
end Go.Proofs.Ytiiicnhjjfmpkaa
namespace Go.Proofs.Ytiiicnhjjfmpkaa
set_option linter.unusedVariables false
end Go.Proofs.Ytiiicnhjjfmpkaa
namespace Go.Proofs.Ytiiicnhjjfmpkaa
open Go.RowKit
set_option linter.unusedVariables false
set_option maxRecDepth 100000
end Go.Proofs.Ytiiicnhjjfmpkaa
namespace Go.Proofs.Ytiiicnhjjfmpkaa
open Go.RowKit
set_option linter.unusedVariables false
set_option maxRecDepth 100000
end Go.Proofs.Ytiiicnhjjfmpkaa
namespace Go.Proofs.Ytiiicnhjjfmpkaa
open Go.RowKit
set_option linter.unusedVariables false
set_option maxRecDepth 100000
end Go.Proofs.Ytiiicnhjjfmpkaa
namespace Go.Proofs.Ytiiicnhjjfmpkaa
set_option linter.unusedVariables false
namespace Sp
theorem setCls_at (cs : List Cl) : ∀ (n : Nat) (l : List Cl) (k : Nat), k < cs.length → (setCls l n cs).getD (n + k) .z = cs.getD k .z
  | 0, l, k, h => by simp [setCls, List.getD_eq_getElem?_getD, List.getElem?_append_left h]
  | n + 1, l, k, h => by
    rw [show n + 1 + k = (n + k) + 1 by omega, setCls]
    exact setCls_at cs n l.tail k h
theorem cel_setSt4 {ls : Dt} {i st : Int} (h : i.toNat < ls.length) (j : Nat) : cel (setSt ls i st) j 4 = if i.toNat = j then .i st else cel ls j 4 := by
  unfold setSt
  rw [cel_set]
  by_cases e : i.toNat = j
  · rw [if_pos ⟨e, h⟩, if_pos e]
    exact setCls_at [.i st] 4 _ 0 (by simp)
  · rw [if_neg (fun x => e x.1), if_neg e]
theorem moveL_row {rc ls : Dt} {es : List (Int × Int)} {i : Int} (hi : i.toNat < ls.length) (j : Nat) :
    (i.toNat ≠ j → ∀ k, cel (moveL rc ls es i) j k = cel ls j k) ∧
    (i.toNat = j → (cel (moveL rc ls es i) j 0).int = (cel ls j 0).int ∧ (cel (moveL rc ls es i) j 1).int = (cel ls j 1).int ∧ (cel (moveL rc ls es i) j 3).int = (cel ls j 3).int ∧
      ((moveTo rc ls es (cel ls j 0).int (cel ls j 1).int (cel ls j 3).int i (days ((cel ls j 2).int + 24)) ((cel ls j 2).int + 24) = none ∧ (cel (moveL rc ls es i) j 2).int = (cel ls j 2).int ∧ (cel (moveL rc ls es i) j 4).int = 1) ∨
       (moveTo rc ls es (cel ls j 0).int (cel ls j 1).int (cel ls j 3).int i (days ((cel ls j 2).int + 24)) ((cel ls j 2).int + 24) = some (cel (moveL rc ls es i) j 2).int ∧ (cel (moveL rc ls es i) j 4).int = (cel ls j 4).int))) := by
  refine ⟨fun e k => ?_, fun e => ?_⟩
  · unfold moveL setSt
    split
    · rw [cel_set, if_neg (fun h => e h.1)]
    · rw [cel_set, if_neg (fun h => e h.1)]
  · subst e
    unfold moveL
    split
    · rename_i s hs
      have e : ∀ k, cel (ls.set i.toNat [.i (cel ls i.toNat 0).int, .i (cel ls i.toNat 1).int, .i s, .i (cel ls i.toNat 3).int, .i (cel ls i.toNat 4).int]) i.toNat k = [Cl.i (cel ls i.toNat 0).int, .i (cel ls i.toNat 1).int, .i s, .i (cel ls i.toNat 3).int, .i (cel ls i.toNat 4).int].getD k .z := fun k => by rw [cel_set, if_pos ⟨rfl, hi⟩]
      rw [e, e, e, e, e]
      exact ⟨rfl, rfl, rfl, .inr ⟨hs, rfl⟩⟩
    · rename_i hs
      rw [cel_setSt _ _ _ _ _ (by decide), cel_setSt _ _ _ _ _ (by decide), cel_setSt _ _ _ _ _ (by decide), cel_setSt _ _ _ _ _ (by decide), cel_setSt4 hi, if_pos rfl]
      exact ⟨rfl, rfl, rfl, .inl ⟨hs, rfl, rfl⟩⟩
end Sp
end Go.Proofs.Ytiiicnhjjfmpkaa
namespace Go.Proofs.Ytiiicnhjjfmpkaa
open Go.RowKit
set_option linter.unusedVariables false
set_option maxRecDepth 100000
namespace Sp
theorem rErr_take {s : Sch} {evs : Dt} (h : rErr s evs = 0) (j : Nat) : rErr s (evs.take j) = 0 := by
  have h1 := rErr_chk h
  have h2 := (rErr_ok h).2
  unfold rErr runErr
  rw [if_pos h1, if_neg (by rw [List.length_take]; omega)]
end Sp
end Go.Proofs.Ytiiicnhjjfmpkaa
namespace Go.Proofs.Ytiiicnhjjfmpkaa
set_option linter.unusedVariables false
end Go.Proofs.Ytiiicnhjjfmpkaa
namespace Go.Proofs.Ytiiicnhjjfmpkaa
set_option linter.unusedVariables false
namespace Sp
def isOp (ls : Dt) (j : Nat) : Prop := (cel ls j 4).int = 0
theorem apart_comm (a b c d : Int) : apart a b c d = apart c d a b := by unfold apart; rw [Bool.or_comm]
theorem blocked_no {ls : Dt} {but l c s h : Int} : ∀ (n i : Nat), blocked ls but l c s h i n = false → ∀ j, i ≤ j → j < i + n → (j : Int) ≠ but → way ls j l c s h = false
  | 0, i, _, j, h1, h2, _ => by omega
  | n + 1, i, e, j, h1, h2, h3 => by
    rw [blocked, Bool.or_eq_false_iff] at e
    by_cases hj : i = j
    · subst hj
      rw [if_neg h3] at e
      exact e.1
    · exact blocked_no n (i + 1) e.2 j (by omega) (by omega) h3
theorem way_no {ls : Dt} {j : Nat} {l c s h : Int} (e : way ls j l c s h = false) (ho : isOp ls j) (hs : (cel ls j 0).int = l ∨ (cel ls j 1).int = c) : apart (cel ls j 2).int (cel ls j 3).int s h = true := by
  unfold way at e
  rw [if_pos (show (cel ls j 4).int = 0 from ho), if_pos hs] at e
  exact notF e
theorem moveTo_ok {rc ls : Dt} {es : List (Int × Int)} {l c h i : Int} : ∀ (n : Nat) (s t : Int), moveTo rc ls es l c h i n s = some t → (∃ k : Nat, t = s + 24 * k) ∧ t + h ≤ 4800 ∧ dryB rc es c t = true ∧ blocked ls i l c t h 0 ls.length = false
  | 0, s, t, e => by simp [moveTo] at e
  | n + 1, s, t, e => by
    unfold moveTo at e
    split at e
    · rename_i h1
      split at e
      · rename_i h2
        cases e
        simp only [Bool.and_eq_true, Bool.not_eq_true'] at h2
        exact ⟨⟨0, by simp⟩, h1, h2.1, h2.2⟩
      · obtain ⟨⟨k, hk⟩, r⟩ := moveTo_ok n (s + 24) t e
        exact ⟨⟨k + 1, by omega⟩, r⟩
    · cases e
theorem tmod_day {s : Int} (h : 0 ≤ s) (k : Nat) : (s + 24 + 24 * k).tmod 24 = s.tmod 24 := by
  rw [Int.tmod_eq_emod_of_nonneg (by omega), Int.tmod_eq_emod_of_nonneg h]
  omega
theorem fits_day {lo hi s h : Int} (h0 : 0 ≤ s) (k : Nat) : fits lo hi (s + 24 + 24 * k) h = fits lo hi s h := by
  unfold fits
  rw [tmod_day h0 k]
structure Good (lo hi : Int) (ls : Dt) : Prop where
  fit : ∀ j, j < ls.length → isOp ls j → fits lo hi (cel ls j 2).int (cel ls j 3).int = true
  apart : ∀ j k, j < ls.length → k < ls.length → j ≠ k → isOp ls j → isOp ls k → ((cel ls j 0).int = (cel ls k 0).int ∨ (cel ls j 1).int = (cel ls k 1).int) → Sp.apart (cel ls j 2).int (cel ls j 3).int (cel ls k 2).int (cel ls k 3).int = true
theorem Good.setSt {lo hi : Int} {ls : Dt} (h : Good lo hi ls) {i st : Int} (hi' : i.toNat < ls.length) (hs : st ≠ 0) : Good lo hi (setSt ls i st) := by
  have op : ∀ j, isOp (Sp.setSt ls i st) j → isOp ls j := fun j e => by
    unfold isOp at *
    rw [cel_setSt4 hi'] at e
    split at e
    · exact absurd e hs
    · exact e
  refine ⟨fun j hj ho => ?_, fun j k hj hk hn h1 h2 h3 => ?_⟩
  · rw [cel_setSt _ _ _ _ 2 (by decide), cel_setSt _ _ _ _ 3 (by decide)]
    rw [setSt_len] at hj
    exact h.fit j hj (op j ho)
  · rw [setSt_len] at hj hk
    simp only [cel_setSt _ _ _ _ 0 (by decide), cel_setSt _ _ _ _ 1 (by decide), cel_setSt _ _ _ _ 2 (by decide), cel_setSt _ _ _ _ 3 (by decide)] at *
    exact h.apart j k hj hk hn (op j h1) (op k h2) h3
theorem Good.move {lo hi : Int} {rc ls : Dt} {es : List (Int × Int)} (h : Good lo hi ls) {i : Int} (h0 : 0 ≤ i) (hi' : i.toNat < ls.length) (hs : 0 ≤ (cel ls i.toNat 2).int) (ho : isOp ls i.toNat) :
    Good lo hi (moveL rc ls es i) ∧ (isOp (moveL rc ls es i) i.toNat → dryB rc es (cel (moveL rc ls es i) i.toNat 1).int (cel (moveL rc ls es i) i.toNat 2).int = true) := by
  have hrow := fun j => moveL_row (rc := rc) (es := es) hi' j
  obtain ⟨r0, r1, r3, r4⟩ := (hrow i.toNat).2 rfl
  have hlen := moveL_len rc ls es i
  have mv : isOp (moveL rc ls es i) i.toNat → (∃ k : Nat, (cel (moveL rc ls es i) i.toNat 2).int = (cel ls i.toNat 2).int + 24 + 24 * k) ∧ dryB rc es (cel ls i.toNat 1).int (cel (moveL rc ls es i) i.toNat 2).int = true ∧ blocked ls i (cel ls i.toNat 0).int (cel ls i.toNat 1).int (cel (moveL rc ls es i) i.toNat 2).int (cel ls i.toNat 3).int 0 ls.length = false := fun e => by
    rcases r4 with ⟨_, _, r4⟩ | ⟨r4, _⟩
    · unfold isOp at e; rw [r4] at e; exact absurd e (by decide)
    · obtain ⟨a, b, c, d⟩ := moveTo_ok _ _ _ r4
      exact ⟨a, c, d⟩
  have op : ∀ j, i.toNat ≠ j → isOp (moveL rc ls es i) j → isOp ls j := fun j hj e => by
    unfold isOp at *
    rwa [(hrow j).1 hj] at e
  have key : isOp (moveL rc ls es i) i.toNat → ∀ k, k < ls.length → i.toNat ≠ k → isOp ls k → ((cel ls k 0).int = (cel ls i.toNat 0).int ∨ (cel ls k 1).int = (cel ls i.toNat 1).int) → Sp.apart (cel ls k 2).int (cel ls k 3).int (cel (moveL rc ls es i) i.toNat 2).int (cel ls i.toNat 3).int = true := fun e k hk hn h1 h2 =>
    way_no (blocked_no _ _ (mv e).2.2 k (by omega) (by omega) (by omega)) h1 h2
  refine ⟨⟨fun j hj e => ?_, fun j k hj hk hn h1 h2 h3 => ?_⟩, fun e => ?_⟩
  · rw [hlen] at hj
    by_cases hj' : i.toNat = j
    · subst hj'
      obtain ⟨⟨k, hk⟩, _⟩ := mv e
      rw [r3, hk, fits_day hs]
      exact h.fit _ hj ho
    · rw [(hrow j).1 hj', (hrow j).1 hj']
      exact h.fit j hj (op j hj' e)
  · rw [hlen] at hj hk
    by_cases hj' : i.toNat = j
    · subst hj'
      simp only [(hrow k).1 hn, r0, r1, r3] at *
      rw [apart_comm]
      exact key h1 k hk hn (op k hn h2) (h3.imp Eq.symm Eq.symm)
    · by_cases hk' : i.toNat = k
      · subst hk'
        simp only [(hrow j).1 hj', r0, r1, r3] at *
        exact key h2 j hj hj' (op j hj' h1) h3
      · simp only [(hrow j).1 hj', (hrow k).1 hk'] at *
        exact h.apart j k hj hk hn (op j hj' h1) (op k hk' h2) h3
  · rw [r1]
    exact (mv e).2.1
end Sp
end Go.Proofs.Ytiiicnhjjfmpkaa
namespace Go.Proofs.Ytiiicnhjjfmpkaa
set_option linter.unusedVariables false
end Go.Proofs.Ytiiicnhjjfmpkaa
namespace Go.Proofs.Ytiiicnhjjfmpkaa
open Go.RowKit
set_option linter.unusedVariables false
set_option maxRecDepth 100000
namespace Sp
def same (ls : Dt) (j k : Nat) : Prop := (cel ls j 0).int = (cel ls k 0).int ∨ (cel ls j 1).int = (cel ls k 1).int
end Sp
end Go.Proofs.Ytiiicnhjjfmpkaa
namespace Go.Proofs.Ytiiicnhjjfmpkaa
open Go.RowKit
set_option linter.unusedVariables false
set_option maxRecDepth 100000
end Go.Proofs.Ytiiicnhjjfmpkaa
namespace Go.Proofs.Ytiiicnhjjfmpkaa
set_option linter.unusedVariables false
namespace Sp
structure Rel (a b : Bks) : Prop where
  ls : a.ls = b.ls
  km : a.km = b.km
  si : a.si = b.si
  ac : a.ac = b.ac
  es : a.es = b.es
  tm : a.tm = b.tm
theorem Rel.refl (a : Bks) : Rel a a := ⟨rfl, rfl, rfl, rfl, rfl, rfl⟩
theorem Rel.post {a b : Bks} (h : Rel a b) (u v c : Int) : Rel (a.post u v c) (b.post u v c) := ⟨h.ls, h.km, h.si, by show postA a.ac u v c = postA b.ac u v c; rw [h.ac], h.es, h.tm⟩
theorem Rel.err {s : Sch} {a b : Bks} (h : Rel a b) (x : Evt) : err s a x = err s b x := by
  unfold Sp.err
  rw [h.ls, h.si, h.es]
theorem Rel.eff {s : Sch} {a b : Bks} (h : Rel a b) (x : Evt) : Rel (eff s a x) (eff s b x) := by
  obtain ⟨ls, km, si, ac, es, ps, tm, ev⟩ := a
  obtain ⟨ls', km', si', ac', es', ps', tm', ev'⟩ := b
  obtain ⟨h1, h2, h3, h4, h5, h6⟩ := h
  simp only at h1 h2 h3 h4 h5 h6
  subst h1 h2 h3 h4 h5 h6
  unfold Sp.eff
  dsimp only
  repeat' split
  all_goals exact ⟨rfl, rfl, rfl, rfl, rfl, rfl⟩
theorem Rel.doE {s : Sch} {a b : Bks} (h : Rel a b) (n m : Int) (x : Evt) : doE s a n x = doE s b m x := by
  unfold Sp.doE
  rw [h.tm, h.err]
theorem Rel.doB {s : Sch} {a b : Bks} (h : Rel a b) (n m : Int) (x : Evt) : Rel (doB s a n x) (doB s b m x) := by
  have h1 : Rel { a with ev := n } { b with ev := m } := ⟨h.ls, h.km, h.si, h.ac, h.es, h.tm⟩
  have h2 := h1.eff (s := s) x
  have he := h.err (s := s) x
  have h3 : Rel { Sp.eff s { a with ev := n } x with tm := x.at_ } { Sp.eff s { b with ev := m } x with tm := x.at_ } := ⟨h2.ls, h2.km, h2.si, h2.ac, h2.es, rfl⟩
  have ht := h.tm
  unfold Sp.doB
  rw [he]
  by_cases e1 : (!inr x.kind 0 6) = true
  · rw [if_pos e1, if_pos e1]; exact h
  rw [if_neg e1, if_neg e1]
  by_cases e2 : (!inr x.at_ a.tm 4800) = true
  · have e2' : (!inr x.at_ b.tm 4800) = true := ht ▸ e2
    rw [if_pos e2, if_pos e2']; exact h
  have e2' : ¬ (!inr x.at_ b.tm 4800) = true := ht ▸ e2
  rw [if_neg e2, if_neg e2']
  by_cases e3 : Sp.err s b x = 0
  · rw [if_pos e3, if_pos e3]; exact h3
  · rw [if_neg e3, if_neg e3]; exact h1
def less (evs : Dt) (k : Nat) : Dt := evs.take k ++ evs.drop (k + 1)
theorem less_len {evs : Dt} {k : Nat} (hk : k < evs.length) : (less evs k).length + 1 = evs.length := by simp [less]; omega
theorem less_evt {evs : Dt} {k j : Nat} (hk : k < evs.length) : evt (less evs k) j = if j < k then evt evs j else evt evs (j + 1) := by
  have e : ∀ c, cel (less evs k) j c = if j < k then cel evs j c else cel evs (j + 1) c := fun c => by
    unfold less
    split
    · rename_i h
      rw [cel_left _ _ _ _ (by rw [List.length_take]; omega), cel_take _ _ _ _ h]
    · rename_i h
      rw [cel_right _ _ _ _ (by rw [List.length_take]; omega), List.length_take, Nat.min_eq_left (by omega)]
      simp only [cel, List.getD_eq_getElem?_getD, List.getElem?_drop]
      rw [show k + 1 + (j - k) = j + 1 by omega]
  unfold evt
  rw [show ((j : Int) + 1).toNat = j + 1 by omega]
  simp only [Int.toNat_natCast, e]
  split <;> rfl
theorem less_bk {s : Sch} {evs : Dt} {k : Nat} (hk : k < evs.length) (he : ¬ (cel (errAll s evs) k 0).int = 0) : ∀ d, k + d < evs.length → Rel (bk s (less evs k) (k + d)) (bk s evs (k + d + 1))
  | 0, _ => by
    obtain ⟨e, h1⟩ := done_no hk he
    rw [Nat.add_zero, h1]
    rw [bk_congr (e1 := less evs k) (e2 := evs) (n := k) fun j hj => by rw [less_evt hk, if_pos hj]]
    exact ⟨rfl, rfl, rfl, rfl, rfl, rfl⟩
  | d + 1, hd => by
    have ih := less_bk hk he d (by omega)
    rw [← Nat.add_assoc, bk_succ, bk_succ s evs (k + d + 1), less_evt hk, if_neg (by omega)]
    exact ih.doB _ _ _
theorem less_errs {s : Sch} {evs : Dt} {k : Nat} (hk : k < evs.length) (he : ¬ (cel (errAll s evs) k 0).int = 0) (j : Nat) (hj : j < (less evs k).length) : (cel (errAll s (less evs k)) j 0).int = if j < k then (cel (errAll s evs) j 0).int else (cel (errAll s evs) (j + 1) 0).int := by
  have hl := less_len hk
  rw [errAll_cel _ _ _ hj, less_evt hk]
  split
  · rename_i h
    rw [errAll_cel _ _ _ (by omega), bk_congr (e1 := less evs k) (e2 := evs) (n := j) fun i hi => by rw [less_evt hk, if_pos (by omega)]]
  · rename_i h
    rw [errAll_cel _ _ _ (by omega)]
    have := less_bk hk he (j - k) (by omega)
    rw [show k + (j - k) = j by omega] at this
    exact this.doE (j : Int) ((j + 1 : Nat) : Int) (evt evs ((j + 1 : Nat) : Int))
theorem sameI_of {a b : Dt} : ∀ (n i : Nat), (∀ j, i ≤ j → j < i + n → (cel a j 0).int = (cel b j 0).int) → sameI a b i n = true
  | 0, _, _ => rfl
  | n + 1, i, h => by
    rw [sameI, if_pos (h i (by omega) (by omega)), sameI_of n (i + 1) fun j h1 h2 => h j (by omega) (by omega)]
    rfl
theorem ints_of {a b : Dt} (hl : a.length = b.length) (h : ∀ j, j < a.length → (cel a j 0).int = (cel b j 0).int) : ints a b = true := by
  rw [ints, if_pos hl]
  exact sameI_of _ _ fun j _ hj => h j (by omega)
theorem sameC_self (a : Dt) (i : Nat) : ∀ (w k : Nat), sameC a a i k w = true
  | 0, _ => rfl
  | w + 1, k => by rw [sameC, sameC_self a i w, decide_eq_true rfl]; rfl
theorem sameW_self (w : Nat) (a : Dt) : ∀ (n i : Nat), sameW w a a i n = true
  | 0, _ => rfl
  | n + 1, i => by rw [sameW, sameC_self, sameW_self w a n]; rfl
theorem states_self (a b c d : Dt) : statesE a b c d a b c d = true := by
  unfold statesE rowsE
  rw [decide_eq_true rfl, sameW_self, ints_self, ints_self, ints_self]
  rfl
end Sp
end Go.Proofs.Ytiiicnhjjfmpkaa
namespace Go.Proofs.Ytiiicnhjjfmpkaa
open Go.RowKit
set_option linter.unusedVariables false
set_option maxRecDepth 100000
namespace Sp
def reS (er : Dt) (j : Nat) (rf : Dt) : Dt := if (cel er j 0).int = 0 then rf else rf ++ [[.i j]]
end Sp
def sp_reA [InW] (e : List Ed) (K : Nat → List Ed → Prop) : Prop := match e with
  | [.ro _ evs, .i i, .ro _ rl, .ro _ rc, .i pr, .i ex, .i lo, .i hi, .ro _ rt, .l er, .i xa, .i xb, .l ls, .l km, .l si, .l ac, .l rf] =>
    Pre (0 ≤ i ∧ i ≤ er.length ∧ er.length ≤ 1000 ∧ rf.length ≤ i)
      (K 0 [.ro _ evs, .ro _ rl, .ro _ rc, .i pr, .i ex, .i lo, .i hi, .ro _ rt, .l er, .i xa, .i xb, .l ls, .l km, .l si, .l ac, .l (Sp.iter (Sp.reS er) (er.length - i.toNat) i.toNat rf)])
  | _ => False
noncomputable def lc_reA : LC where
  len := 141
  T := [(1, .rs Iv11), (3, (.ptr 1 0)), (5, (.ptr 46 0)), (7, (.row 28)), (8, (.ptr 4 0)), (14, (.row 6)), (15, .int .i64)]
  H := [(1, .blk 28 [.rs [.str], .rs Ivs, .int .i64, .int .i64, .int .i64, .int .i64, .rs [.int .i64, .int .i64]]), (28, .arr 30 [.int .i64]), (46, .blk 75 [.int .u8, .int .u8]), (4, .blk 42 [(.row 31), (.row 34), (.row 37), (.row 40)]), (31, .arr 63 Iv5), (34, .arr 3 [.int .i64]), (37, .arr 3 [.int .i64]), (40, .arr 3 [.int .i64]), (6, .arr 3 [.int .i64])]
  W := [72, 73, 74, 75, 76, 77, 78, 79, 80, 81, 82, 83, 84, 85, 86]
  outs := [⟨.exit 0, [(1, .rs Iv11), (3, (.ptr 1 0)), (5, (.ptr 46 0)), (7, (.row 28)), (8, (.ptr 4 0)), (14, (.row 9))], [(1, .blk 28 [.rs [.str], .rs Ivs, .int .i64, .int .i64, .int .i64, .int .i64, .rs [.int .i64, .int .i64]]), (28, .arr 30 [.int .i64]), (46, .blk 75 [.int .u8, .int .u8]), (4, .blk 42 [(.row 31), (.row 34), (.row 37), (.row 40)]), (31, .arr 63 Iv5), (34, .arr 3 [.int .i64]), (37, .arr 3 [.int .i64]), (40, .arr 3 [.int .i64]), (9, .arr 3 [.int .i64])], [15, 72, 73, 74, 75, 76, 77, 78, 79, 80, 81, 82, 83, 84, 85, 86]⟩]
  spec := sp_reA
def VCL_reA [W : InW] (evs : Ro Iv11) (i : Int) (rl : Ro [.str]) (rc : Ro Ivs) (pr : Int) (ex : Int) (lo : Int) (hi : Int) (rt : Ro [.int .i64, .int .i64]) (er : Dt) (xa : Int) (xb : Int) (ls : Dt) (km : Dt) (si : Dt) (ac : Dt) (rf : Dt) (A : List Ed → Prop) (K : Nat → List Ed → Prop) : Prop :=
  Vif (decide (i < (↑(List.length er) : Int))) (Need (decide ((0 : Int) ≤ i) && decide (i < (↑(List.length er) : Int))) (Need (decide (i.toNat < List.length er)) (Vif (!decide ((cel er i.toNat (0 : Nat)).int = (0 : Int))) (Need (decide ((List.length rf + [[Cl.i i]].length) * (8 : Nat) ≤ (140737488355328 : Nat))) (Ar .i64 (i + (1 : Int)) fun z => A [.ro _ evs, .i z, .ro _ rl, .ro _ rc, .i pr, .i ex, .i lo, .i hi, .ro _ rt, .l er, .i xa, .i xb, .l ls, .l km, .l si, .l ac, .l (rf ++ [[Cl.i i]])])) (Ar .i64 (i + (1 : Int)) fun z => A [.ro _ evs, .i z, .ro _ rl, .ro _ rc, .i pr, .i ex, .i lo, .i hi, .ro _ rt, .l er, .i xa, .i xb, .l ls, .l km, .l si, .l ac, .l rf])))) (K (0 : Nat) [.ro _ evs, .ro _ rl, .ro _ rc, .i pr, .i ex, .i lo, .i hi, .ro _ rt, .l er, .i xa, .i xb, .l ls, .l km, .l si, .l ac, .l rf])
theorem vcl_reA (W : InW) (evs : Ro Iv11) (i : Int) (rl : Ro [.str]) (rc : Ro Ivs) (pr : Int) (ex : Int) (lo : Int) (hi : Int) (rt : Ro [.int .i64, .int .i64]) (er : Dt) (xa : Int) (xb : Int) (ls : Dt) (km : Dt) (si : Dt) (ac : Dt) (rf : Dt) (A : List Ed → Prop) (K : Nat → List Ed → Prop) : vcTop { cxT Try.prog TT TPl 1000 50 with fn := 14 } 1000 (loopAt Try.prog 14 11) (tmOut 141 [(1, .rs _ evs), (3, .ptr 1 0), (5, .ptr 46 0), (7, .rw 28), (8, .ptr 4 0), (14, .rw 6), (15, .si .i64 i)] [72, 73, 74, 75, 76, 77, 78, 79, 80, 81, 82, 83, 84, 85, 86]) [(1, .blk 28 [.rs _ rl, .rs _ rc, .si .i64 pr, .si .i64 ex, .si .i64 lo, .si .i64 hi, .rs _ rt]), (28, .arr 30 [.int .i64] er), (46, .blk 75 [.si .u8 xa, .si .u8 xb]), (4, .blk 42 [.rw 31, .rw 34, .rw 37, .rw 40]), (31, .arr 63 Iv5 ls), (34, .arr 3 [.int .i64] km), (37, .arr 3 [.int .i64] si), (40, .arr 3 [.int .i64] ac), (6, .arr 3 [.int .i64] rf)] (roundL lc_reA A K) = VCL_reA evs i rl rc pr ex lo hi rt er xa xb ls km si ac rf A K := by kernel_rfl
def okLt_reA : Prop := ∀ (W : InW) (body a : Code), (Try.prog.funcs[14]?).bind (·.body) = some body → a ∈ loopsIn body → keyOf a = 11 → @LoopOk W Try.prog a (@loopRun W lc_reA)
theorem okl_reA (meas : [InW] → List Ed → Nat) (hyp_ : ∀ (W : InW) (evs : Ro Iv11) (i : Int) (rl : Ro [.str]) (rc : Ro Ivs) (pr : Int) (ex : Int) (lo : Int) (hi : Int) (rt : Ro [.int .i64, .int .i64]) (er : Dt) (xa : Int) (xb : Int) (ls : Dt) (km : Dt) (si : Dt) (ac : Dt) (rf : Dt) (K : Nat → List Ed → Prop), sp_reA [.ro _ evs, .i i, .ro _ rl, .ro _ rc, .i pr, .i ex, .i lo, .i hi, .ro _ rt, .l er, .i xa, .i xb, .l ls, .l km, .l si, .l ac, .l rf] K → ∀ A : List Ed → Prop, (∀ e, meas e < meas [.ro _ evs, .i i, .ro _ rl, .ro _ rc, .i pr, .i ex, .i lo, .i hi, .ro _ rt, .l er, .i xa, .i xb, .l ls, .l km, .l si, .l ac, .l rf] → sp_reA e K → A e) → VCL_reA evs i rl rc pr ex lo hi rt er xa xb ls km si ac rf A K) : okLt_reA :=
  LE.okOf' (fun W => @TT W) (fun W => @TT_ok W) mixed_ok TPl 1000 50 (by kernel_rfl) lc_reA (fun W => @meas W) fun W evs i rl rc pr ex lo hi rt er xa xb ls km si ac rf K hs =>
    (vcl_reA W evs i rl rc pr ex lo hi rt er xa xb ls km si ac rf (fun e => meas e < meas [.ro _ evs, .i i, .ro _ rl, .ro _ rc, .i pr, .i ex, .i lo, .i hi, .ro _ rt, .l er, .i xa, .i xb, .l ls, .l km, .l si, .l ac, .l rf] ∧ sp_reA e K) K).mpr (hyp_ W evs i rl rc pr ex lo hi rt er xa xb ls km si ac rf K hs _ fun e h1 h2 => ⟨h1, h2⟩)
theorem okLreA : okLt_reA := okl_reA (fun e => match e with | _ :: .i i :: r => (match r with | [_, _, _, _, _, _, _, .l er, _, _, _, _, _, _, _] => ((er.length : Int) - i).toNat | _ => 0) | _ => 0) fun W evs i rl rc pr ex lo hi rt er xa xb ls km si ac rf K hs A hA => by
  obtain ⟨⟨h0, h1, h2, h3⟩, hk⟩ := hs
  unfold VCL_reA
  simp only [Nat.zero_add, Nat.reduceAdd, List.length_cons, List.length_nil]
  refine vifd (fun e => ?_) fun e => ?_
  · have hA' : A [.ro _ evs, .i (i + 1), .ro _ rl, .ro _ rc, .i pr, .i ex, .i lo, .i hi, .ro _ rt, .l er, .i xa, .i xb, .l ls, .l km, .l si, .l ac, .l (Sp.reS er i.toNat rf)] := by
      refine hA _ (by show ((er.length : Int) - (i + 1)).toNat < ((er.length : Int) - i).toNat; omega) ⟨⟨by omega, by omega, h2, ?_⟩, ?_⟩
      · unfold Sp.reS
        split
        · omega
        · simp only [List.length_append, List.length_cons, List.length_nil]; omega
      · rw [show er.length - i.toNat = (er.length - (i.toNat + 1)) + 1 by omega, Sp.iter] at hk
        rw [show (i + 1).toNat = i.toNat + 1 by omega]
        exact hk
    clear hA hk
    unfold Sp.reS at hA'
    rw [Int.toNat_of_nonneg h0] at hA'
    by_cases e1 : (cel er i.toNat 0).int = 0
    · rw [if_pos e1] at hA'
      repeat' (first | refine vifd (fun _ => ?_) fun _ => ?_ | refine vifn (fun _ => ?_) fun _ => ?_ | refine nedd (by omega) ?_ | refine ned (by simp only [Bool.and_eq_true, decide_eq_true_eq]; omega) ?_ | refine ar64 (by omega) ?_ | omega)
      all_goals exact hA'
    · rw [if_neg e1] at hA'
      repeat' (first | refine vifd (fun _ => ?_) fun _ => ?_ | refine vifn (fun _ => ?_) fun _ => ?_ | refine nedd (by omega) ?_ | refine ned (by simp only [Bool.and_eq_true, decide_eq_true_eq]; omega) ?_ | refine ar64 (by omega) ?_ | omega)
      all_goals exact hA'
  · rw [show er.length - i.toNat = 0 by omega] at hk
    exact hk
noncomputable def le_reA : LE Try.prog := ⟨14, 11, fun W => @loopRun W lc_reA, okLreA⟩
noncomputable def TPr : Tab Try.prog := ⟨[pc_bRun, pc_errs, pc_states, pc_Awake], [le_reA], []⟩
def VC_lawRefused [W : InW] (s_Learners : Ro [.str]) (s_Cars : Ro Ivs) (s_Price : Int) (s_Excess : Int) (s_Lo : Int) (s_Hi : Int) (s_Terms : Ro [.int .i64, .int .i64]) (evs : Ro Iv11) (x_a : Int) (x_b : Int) (Q : DS → Prop) : Prop :=
  Pre True (Vif (!decide (Sp.rErr ⟨s_Learners.xs, s_Cars.xs, s_Price, s_Excess, s_Lo, s_Hi, s_Terms.xs⟩ evs.xs = (0 : Int))) (Vif (!decide (Sp.rErr ⟨s_Learners.xs, s_Cars.xs, s_Price, s_Excess, s_Lo, s_Hi, s_Terms.xs⟩ evs.xs = (0 : Int))) (Vif (decide ((↑(List.length (Sp.rE ⟨s_Learners.xs, s_Cars.xs, s_Price, s_Excess, s_Lo, s_Hi, s_Terms.xs⟩ evs.xs)) : Int) = (0 : Int))) (Pre True (Q [[Cl.b true]])) (Q [[Cl.b false]])) (Q [[Cl.b false]])) (Vif (!decide ((↑(List.length (Sp.rE ⟨s_Learners.xs, s_Cars.xs, s_Price, s_Excess, s_Lo, s_Hi, s_Terms.xs⟩ evs.xs)) : Int) = (↑(List.length evs.xs) : Int))) (Vif (!decide (Sp.rErr ⟨s_Learners.xs, s_Cars.xs, s_Price, s_Excess, s_Lo, s_Hi, s_Terms.xs⟩ evs.xs = (0 : Int))) (Vif (decide ((↑(List.length (Sp.rE ⟨s_Learners.xs, s_Cars.xs, s_Price, s_Excess, s_Lo, s_Hi, s_Terms.xs⟩ evs.xs)) : Int) = (0 : Int))) (Pre True (Q [[Cl.b true]])) (Q [[Cl.b false]])) (Q [[Cl.b false]])) (Ar .i64 x_b fun z => Ar .i64 ((↑(List.length evs.xs) : Int) + (1 : Int)) fun z_1 => Need (!decide (z_1 = (0 : Int))) (Need (decide ((0 : Int) ≤ z.tmod z_1)) (Need (decide ((0 : Nat) ≤ (z.tmod z_1).toNat) && decide ((z.tmod z_1).toNat ≤ List.length evs.xs)) (Pre True (Vif (!decide (Sp.rErr ⟨s_Learners.xs, s_Cars.xs, s_Price, s_Excess, s_Lo, s_Hi, s_Terms.xs⟩ (List.drop (0 : Nat) (List.take (z.tmod z_1).toNat evs.xs)) = (0 : Int))) (Q [[Cl.b false]]) (Need (decide ((0 : Int) ≤ z.tmod z_1)) (Need (decide ((0 : Nat) ≤ (z.tmod z_1).toNat) && decide ((z.tmod z_1).toNat ≤ List.length (Sp.rE ⟨s_Learners.xs, s_Cars.xs, s_Price, s_Excess, s_Lo, s_Hi, s_Terms.xs⟩ evs.xs))) (Need (decide ((0 : Nat) + ((z.tmod z_1).toNat - (0 : Nat)) ≤ List.length (Sp.rE ⟨s_Learners.xs, s_Cars.xs, s_Price, s_Excess, s_Lo, s_Hi, s_Terms.xs⟩ evs.xs))) (Pre True (Vif (!Sp.ints (Sp.rE ⟨s_Learners.xs, s_Cars.xs, s_Price, s_Excess, s_Lo, s_Hi, s_Terms.xs⟩ (List.drop (0 : Nat) (List.take (z.tmod z_1).toNat evs.xs))) (List.take ((z.tmod z_1).toNat - (0 : Nat)) (List.drop (0 : Nat) (Sp.rE ⟨s_Learners.xs, s_Cars.xs, s_Price, s_Excess, s_Lo, s_Hi, s_Terms.xs⟩ evs.xs)))) (Q [[Cl.b false]]) (Pre ((0 : Int) ≤ (0 : Int) ∧ (0 : Int) ≤ (↑(List.length (Sp.rE ⟨s_Learners.xs, s_Cars.xs, s_Price, s_Excess, s_Lo, s_Hi, s_Terms.xs⟩ evs.xs)) : Int) ∧ List.length (Sp.rE ⟨s_Learners.xs, s_Cars.xs, s_Price, s_Excess, s_Lo, s_Hi, s_Terms.xs⟩ evs.xs) ≤ (1000 : Nat) ∧ (↑(0 : Nat) : Int) ≤ (0 : Int)) (Vif (decide ((↑(List.length (Sp.iter (Sp.reS (Sp.rE ⟨s_Learners.xs, s_Cars.xs, s_Price, s_Excess, s_Lo, s_Hi, s_Terms.xs⟩ evs.xs)) (List.length (Sp.rE ⟨s_Learners.xs, s_Cars.xs, s_Price, s_Excess, s_Lo, s_Hi, s_Terms.xs⟩ evs.xs) - Int.toNat (0 : Int)) (Int.toNat (0 : Int)) [])) : Int) = (0 : Int))) (Pre True (Q [[Cl.b true]])) (Ar .i64 x_a fun z => Need (!decide ((↑(List.length (Sp.iter (Sp.reS (Sp.rE ⟨s_Learners.xs, s_Cars.xs, s_Price, s_Excess, s_Lo, s_Hi, s_Terms.xs⟩ evs.xs)) (List.length (Sp.rE ⟨s_Learners.xs, s_Cars.xs, s_Price, s_Excess, s_Lo, s_Hi, s_Terms.xs⟩ evs.xs) - Int.toNat (0 : Int)) (Int.toNat (0 : Int)) [])) : Int) = (0 : Int))) (Need (decide ((0 : Int) ≤ z.tmod (↑(List.length (Sp.iter (Sp.reS (Sp.rE ⟨s_Learners.xs, s_Cars.xs, s_Price, s_Excess, s_Lo, s_Hi, s_Terms.xs⟩ evs.xs)) (List.length (Sp.rE ⟨s_Learners.xs, s_Cars.xs, s_Price, s_Excess, s_Lo, s_Hi, s_Terms.xs⟩ evs.xs) - Int.toNat (0 : Int)) (Int.toNat (0 : Int)) [])) : Int)) && decide (z.tmod (↑(List.length (Sp.iter (Sp.reS (Sp.rE ⟨s_Learners.xs, s_Cars.xs, s_Price, s_Excess, s_Lo, s_Hi, s_Terms.xs⟩ evs.xs)) (List.length (Sp.rE ⟨s_Learners.xs, s_Cars.xs, s_Price, s_Excess, s_Lo, s_Hi, s_Terms.xs⟩ evs.xs) - Int.toNat (0 : Int)) (Int.toNat (0 : Int)) [])) : Int) < (↑(List.length (Sp.iter (Sp.reS (Sp.rE ⟨s_Learners.xs, s_Cars.xs, s_Price, s_Excess, s_Lo, s_Hi, s_Terms.xs⟩ evs.xs)) (List.length (Sp.rE ⟨s_Learners.xs, s_Cars.xs, s_Price, s_Excess, s_Lo, s_Hi, s_Terms.xs⟩ evs.xs) - Int.toNat (0 : Int)) (Int.toNat (0 : Int)) [])) : Int))) (Need (decide ((z.tmod (↑(List.length (Sp.iter (Sp.reS (Sp.rE ⟨s_Learners.xs, s_Cars.xs, s_Price, s_Excess, s_Lo, s_Hi, s_Terms.xs⟩ evs.xs)) (List.length (Sp.rE ⟨s_Learners.xs, s_Cars.xs, s_Price, s_Excess, s_Lo, s_Hi, s_Terms.xs⟩ evs.xs) - Int.toNat (0 : Int)) (Int.toNat (0 : Int)) [])) : Int)).toNat < List.length (Sp.iter (Sp.reS (Sp.rE ⟨s_Learners.xs, s_Cars.xs, s_Price, s_Excess, s_Lo, s_Hi, s_Terms.xs⟩ evs.xs)) (List.length (Sp.rE ⟨s_Learners.xs, s_Cars.xs, s_Price, s_Excess, s_Lo, s_Hi, s_Terms.xs⟩ evs.xs) - Int.toNat (0 : Int)) (Int.toNat (0 : Int)) []))) (Need (decide ((0 : Int) ≤ (cel (Sp.iter (Sp.reS (Sp.rE ⟨s_Learners.xs, s_Cars.xs, s_Price, s_Excess, s_Lo, s_Hi, s_Terms.xs⟩ evs.xs)) (List.length (Sp.rE ⟨s_Learners.xs, s_Cars.xs, s_Price, s_Excess, s_Lo, s_Hi, s_Terms.xs⟩ evs.xs) - Int.toNat (0 : Int)) (Int.toNat (0 : Int)) []) (z.tmod (↑(List.length (Sp.iter (Sp.reS (Sp.rE ⟨s_Learners.xs, s_Cars.xs, s_Price, s_Excess, s_Lo, s_Hi, s_Terms.xs⟩ evs.xs)) (List.length (Sp.rE ⟨s_Learners.xs, s_Cars.xs, s_Price, s_Excess, s_Lo, s_Hi, s_Terms.xs⟩ evs.xs) - Int.toNat (0 : Int)) (Int.toNat (0 : Int)) [])) : Int)).toNat (0 : Nat)).int)) (Need (decide ((0 : Nat) ≤ (cel (Sp.iter (Sp.reS (Sp.rE ⟨s_Learners.xs, s_Cars.xs, s_Price, s_Excess, s_Lo, s_Hi, s_Terms.xs⟩ evs.xs)) (List.length (Sp.rE ⟨s_Learners.xs, s_Cars.xs, s_Price, s_Excess, s_Lo, s_Hi, s_Terms.xs⟩ evs.xs) - Int.toNat (0 : Int)) (Int.toNat (0 : Int)) []) (z.tmod (↑(List.length (Sp.iter (Sp.reS (Sp.rE ⟨s_Learners.xs, s_Cars.xs, s_Price, s_Excess, s_Lo, s_Hi, s_Terms.xs⟩ evs.xs)) (List.length (Sp.rE ⟨s_Learners.xs, s_Cars.xs, s_Price, s_Excess, s_Lo, s_Hi, s_Terms.xs⟩ evs.xs) - Int.toNat (0 : Int)) (Int.toNat (0 : Int)) [])) : Int)).toNat (0 : Nat)).int.toNat) && decide ((cel (Sp.iter (Sp.reS (Sp.rE ⟨s_Learners.xs, s_Cars.xs, s_Price, s_Excess, s_Lo, s_Hi, s_Terms.xs⟩ evs.xs)) (List.length (Sp.rE ⟨s_Learners.xs, s_Cars.xs, s_Price, s_Excess, s_Lo, s_Hi, s_Terms.xs⟩ evs.xs) - Int.toNat (0 : Int)) (Int.toNat (0 : Int)) []) (z.tmod (↑(List.length (Sp.iter (Sp.reS (Sp.rE ⟨s_Learners.xs, s_Cars.xs, s_Price, s_Excess, s_Lo, s_Hi, s_Terms.xs⟩ evs.xs)) (List.length (Sp.rE ⟨s_Learners.xs, s_Cars.xs, s_Price, s_Excess, s_Lo, s_Hi, s_Terms.xs⟩ evs.xs) - Int.toNat (0 : Int)) (Int.toNat (0 : Int)) [])) : Int)).toNat (0 : Nat)).int.toNat ≤ List.length evs.xs)) (Need (decide (((0 : Nat) + (List.drop (0 : Nat) (List.take (cel (Sp.iter (Sp.reS (Sp.rE ⟨s_Learners.xs, s_Cars.xs, s_Price, s_Excess, s_Lo, s_Hi, s_Terms.xs⟩ evs.xs)) (List.length (Sp.rE ⟨s_Learners.xs, s_Cars.xs, s_Price, s_Excess, s_Lo, s_Hi, s_Terms.xs⟩ evs.xs) - Int.toNat (0 : Int)) (Int.toNat (0 : Int)) []) (z.tmod (↑(List.length (Sp.iter (Sp.reS (Sp.rE ⟨s_Learners.xs, s_Cars.xs, s_Price, s_Excess, s_Lo, s_Hi, s_Terms.xs⟩ evs.xs)) (List.length (Sp.rE ⟨s_Learners.xs, s_Cars.xs, s_Price, s_Excess, s_Lo, s_Hi, s_Terms.xs⟩ evs.xs) - Int.toNat (0 : Int)) (Int.toNat (0 : Int)) [])) : Int)).toNat (0 : Nat)).int.toNat evs.xs)).length) * (88 : Nat) ≤ (140737488355328 : Nat))) (Ar .i64 ((cel (Sp.iter (Sp.reS (Sp.rE ⟨s_Learners.xs, s_Cars.xs, s_Price, s_Excess, s_Lo, s_Hi, s_Terms.xs⟩ evs.xs)) (List.length (Sp.rE ⟨s_Learners.xs, s_Cars.xs, s_Price, s_Excess, s_Lo, s_Hi, s_Terms.xs⟩ evs.xs) - Int.toNat (0 : Int)) (Int.toNat (0 : Int)) []) (z.tmod (↑(List.length (Sp.iter (Sp.reS (Sp.rE ⟨s_Learners.xs, s_Cars.xs, s_Price, s_Excess, s_Lo, s_Hi, s_Terms.xs⟩ evs.xs)) (List.length (Sp.rE ⟨s_Learners.xs, s_Cars.xs, s_Price, s_Excess, s_Lo, s_Hi, s_Terms.xs⟩ evs.xs) - Int.toNat (0 : Int)) (Int.toNat (0 : Int)) [])) : Int)).toNat (0 : Nat)).int + (1 : Int)) fun z_2 => Need (decide ((0 : Int) ≤ z_2)) (Need (decide (z_2.toNat ≤ List.length evs.xs) && decide (List.length evs.xs ≤ List.length evs.xs)) (Need (decide (((List.drop (0 : Nat) (List.take (cel (Sp.iter (Sp.reS (Sp.rE ⟨s_Learners.xs, s_Cars.xs, s_Price, s_Excess, s_Lo, s_Hi, s_Terms.xs⟩ evs.xs)) (List.length (Sp.rE ⟨s_Learners.xs, s_Cars.xs, s_Price, s_Excess, s_Lo, s_Hi, s_Terms.xs⟩ evs.xs) - Int.toNat (0 : Int)) (Int.toNat (0 : Int)) []) (z.tmod (↑(List.length (Sp.iter (Sp.reS (Sp.rE ⟨s_Learners.xs, s_Cars.xs, s_Price, s_Excess, s_Lo, s_Hi, s_Terms.xs⟩ evs.xs)) (List.length (Sp.rE ⟨s_Learners.xs, s_Cars.xs, s_Price, s_Excess, s_Lo, s_Hi, s_Terms.xs⟩ evs.xs) - Int.toNat (0 : Int)) (Int.toNat (0 : Int)) [])) : Int)).toNat (0 : Nat)).int.toNat evs.xs)).length + (List.drop z_2.toNat (List.take (List.length evs.xs) evs.xs)).length) * (88 : Nat) ≤ (140737488355328 : Nat))) (Pre True (Vif (decide (Sp.rErr ⟨s_Learners.xs, s_Cars.xs, s_Price, s_Excess, s_Lo, s_Hi, s_Terms.xs⟩ (List.drop (0 : Nat) (List.take (cel (Sp.iter (Sp.reS (Sp.rE ⟨s_Learners.xs, s_Cars.xs, s_Price, s_Excess, s_Lo, s_Hi, s_Terms.xs⟩ evs.xs)) (List.length (Sp.rE ⟨s_Learners.xs, s_Cars.xs, s_Price, s_Excess, s_Lo, s_Hi, s_Terms.xs⟩ evs.xs) - Int.toNat (0 : Int)) (Int.toNat (0 : Int)) []) (z.tmod (↑(List.length (Sp.iter (Sp.reS (Sp.rE ⟨s_Learners.xs, s_Cars.xs, s_Price, s_Excess, s_Lo, s_Hi, s_Terms.xs⟩ evs.xs)) (List.length (Sp.rE ⟨s_Learners.xs, s_Cars.xs, s_Price, s_Excess, s_Lo, s_Hi, s_Terms.xs⟩ evs.xs) - Int.toNat (0 : Int)) (Int.toNat (0 : Int)) [])) : Int)).toNat (0 : Nat)).int.toNat evs.xs) ++ List.drop z_2.toNat (List.take (List.length evs.xs) evs.xs)) = (0 : Int))) (Need (decide ((0 : Int) ≤ (cel (Sp.iter (Sp.reS (Sp.rE ⟨s_Learners.xs, s_Cars.xs, s_Price, s_Excess, s_Lo, s_Hi, s_Terms.xs⟩ evs.xs)) (List.length (Sp.rE ⟨s_Learners.xs, s_Cars.xs, s_Price, s_Excess, s_Lo, s_Hi, s_Terms.xs⟩ evs.xs) - Int.toNat (0 : Int)) (Int.toNat (0 : Int)) []) (z.tmod (↑(List.length (Sp.iter (Sp.reS (Sp.rE ⟨s_Learners.xs, s_Cars.xs, s_Price, s_Excess, s_Lo, s_Hi, s_Terms.xs⟩ evs.xs)) (List.length (Sp.rE ⟨s_Learners.xs, s_Cars.xs, s_Price, s_Excess, s_Lo, s_Hi, s_Terms.xs⟩ evs.xs) - Int.toNat (0 : Int)) (Int.toNat (0 : Int)) [])) : Int)).toNat (0 : Nat)).int)) (Need (decide ((0 : Nat) ≤ (cel (Sp.iter (Sp.reS (Sp.rE ⟨s_Learners.xs, s_Cars.xs, s_Price, s_Excess, s_Lo, s_Hi, s_Terms.xs⟩ evs.xs)) (List.length (Sp.rE ⟨s_Learners.xs, s_Cars.xs, s_Price, s_Excess, s_Lo, s_Hi, s_Terms.xs⟩ evs.xs) - Int.toNat (0 : Int)) (Int.toNat (0 : Int)) []) (z.tmod (↑(List.length (Sp.iter (Sp.reS (Sp.rE ⟨s_Learners.xs, s_Cars.xs, s_Price, s_Excess, s_Lo, s_Hi, s_Terms.xs⟩ evs.xs)) (List.length (Sp.rE ⟨s_Learners.xs, s_Cars.xs, s_Price, s_Excess, s_Lo, s_Hi, s_Terms.xs⟩ evs.xs) - Int.toNat (0 : Int)) (Int.toNat (0 : Int)) [])) : Int)).toNat (0 : Nat)).int.toNat) && decide ((cel (Sp.iter (Sp.reS (Sp.rE ⟨s_Learners.xs, s_Cars.xs, s_Price, s_Excess, s_Lo, s_Hi, s_Terms.xs⟩ evs.xs)) (List.length (Sp.rE ⟨s_Learners.xs, s_Cars.xs, s_Price, s_Excess, s_Lo, s_Hi, s_Terms.xs⟩ evs.xs) - Int.toNat (0 : Int)) (Int.toNat (0 : Int)) []) (z.tmod (↑(List.length (Sp.iter (Sp.reS (Sp.rE ⟨s_Learners.xs, s_Cars.xs, s_Price, s_Excess, s_Lo, s_Hi, s_Terms.xs⟩ evs.xs)) (List.length (Sp.rE ⟨s_Learners.xs, s_Cars.xs, s_Price, s_Excess, s_Lo, s_Hi, s_Terms.xs⟩ evs.xs) - Int.toNat (0 : Int)) (Int.toNat (0 : Int)) [])) : Int)).toNat (0 : Nat)).int.toNat ≤ List.length (Sp.rE ⟨s_Learners.xs, s_Cars.xs, s_Price, s_Excess, s_Lo, s_Hi, s_Terms.xs⟩ evs.xs))) (Need (decide ((0 : Nat) + ((cel (Sp.iter (Sp.reS (Sp.rE ⟨s_Learners.xs, s_Cars.xs, s_Price, s_Excess, s_Lo, s_Hi, s_Terms.xs⟩ evs.xs)) (List.length (Sp.rE ⟨s_Learners.xs, s_Cars.xs, s_Price, s_Excess, s_Lo, s_Hi, s_Terms.xs⟩ evs.xs) - Int.toNat (0 : Int)) (Int.toNat (0 : Int)) []) (z.tmod (↑(List.length (Sp.iter (Sp.reS (Sp.rE ⟨s_Learners.xs, s_Cars.xs, s_Price, s_Excess, s_Lo, s_Hi, s_Terms.xs⟩ evs.xs)) (List.length (Sp.rE ⟨s_Learners.xs, s_Cars.xs, s_Price, s_Excess, s_Lo, s_Hi, s_Terms.xs⟩ evs.xs) - Int.toNat (0 : Int)) (Int.toNat (0 : Int)) [])) : Int)).toNat (0 : Nat)).int.toNat - (0 : Nat)) ≤ List.length (Sp.rE ⟨s_Learners.xs, s_Cars.xs, s_Price, s_Excess, s_Lo, s_Hi, s_Terms.xs⟩ evs.xs))) (Need (decide (((0 : Nat) + (List.take ((cel (Sp.iter (Sp.reS (Sp.rE ⟨s_Learners.xs, s_Cars.xs, s_Price, s_Excess, s_Lo, s_Hi, s_Terms.xs⟩ evs.xs)) (List.length (Sp.rE ⟨s_Learners.xs, s_Cars.xs, s_Price, s_Excess, s_Lo, s_Hi, s_Terms.xs⟩ evs.xs) - Int.toNat (0 : Int)) (Int.toNat (0 : Int)) []) (z.tmod (↑(List.length (Sp.iter (Sp.reS (Sp.rE ⟨s_Learners.xs, s_Cars.xs, s_Price, s_Excess, s_Lo, s_Hi, s_Terms.xs⟩ evs.xs)) (List.length (Sp.rE ⟨s_Learners.xs, s_Cars.xs, s_Price, s_Excess, s_Lo, s_Hi, s_Terms.xs⟩ evs.xs) - Int.toNat (0 : Int)) (Int.toNat (0 : Int)) [])) : Int)).toNat (0 : Nat)).int.toNat - (0 : Nat)) (List.drop (0 : Nat) (Sp.rE ⟨s_Learners.xs, s_Cars.xs, s_Price, s_Excess, s_Lo, s_Hi, s_Terms.xs⟩ evs.xs))).length) * (8 : Nat) ≤ (140737488355328 : Nat))) (Ar .i64 ((cel (Sp.iter (Sp.reS (Sp.rE ⟨s_Learners.xs, s_Cars.xs, s_Price, s_Excess, s_Lo, s_Hi, s_Terms.xs⟩ evs.xs)) (List.length (Sp.rE ⟨s_Learners.xs, s_Cars.xs, s_Price, s_Excess, s_Lo, s_Hi, s_Terms.xs⟩ evs.xs) - Int.toNat (0 : Int)) (Int.toNat (0 : Int)) []) (z.tmod (↑(List.length (Sp.iter (Sp.reS (Sp.rE ⟨s_Learners.xs, s_Cars.xs, s_Price, s_Excess, s_Lo, s_Hi, s_Terms.xs⟩ evs.xs)) (List.length (Sp.rE ⟨s_Learners.xs, s_Cars.xs, s_Price, s_Excess, s_Lo, s_Hi, s_Terms.xs⟩ evs.xs) - Int.toNat (0 : Int)) (Int.toNat (0 : Int)) [])) : Int)).toNat (0 : Nat)).int + (1 : Int)) fun z_3 => Need (decide ((0 : Int) ≤ z_3)) (Need (decide (z_3.toNat ≤ List.length (Sp.rE ⟨s_Learners.xs, s_Cars.xs, s_Price, s_Excess, s_Lo, s_Hi, s_Terms.xs⟩ evs.xs)) && decide (List.length (Sp.rE ⟨s_Learners.xs, s_Cars.xs, s_Price, s_Excess, s_Lo, s_Hi, s_Terms.xs⟩ evs.xs) ≤ List.length (Sp.rE ⟨s_Learners.xs, s_Cars.xs, s_Price, s_Excess, s_Lo, s_Hi, s_Terms.xs⟩ evs.xs))) (Need (decide (z_3.toNat + (List.length (Sp.rE ⟨s_Learners.xs, s_Cars.xs, s_Price, s_Excess, s_Lo, s_Hi, s_Terms.xs⟩ evs.xs) - z_3.toNat) ≤ List.length (Sp.rE ⟨s_Learners.xs, s_Cars.xs, s_Price, s_Excess, s_Lo, s_Hi, s_Terms.xs⟩ evs.xs))) (Need (decide (((List.take ((cel (Sp.iter (Sp.reS (Sp.rE ⟨s_Learners.xs, s_Cars.xs, s_Price, s_Excess, s_Lo, s_Hi, s_Terms.xs⟩ evs.xs)) (List.length (Sp.rE ⟨s_Learners.xs, s_Cars.xs, s_Price, s_Excess, s_Lo, s_Hi, s_Terms.xs⟩ evs.xs) - Int.toNat (0 : Int)) (Int.toNat (0 : Int)) []) (z.tmod (↑(List.length (Sp.iter (Sp.reS (Sp.rE ⟨s_Learners.xs, s_Cars.xs, s_Price, s_Excess, s_Lo, s_Hi, s_Terms.xs⟩ evs.xs)) (List.length (Sp.rE ⟨s_Learners.xs, s_Cars.xs, s_Price, s_Excess, s_Lo, s_Hi, s_Terms.xs⟩ evs.xs) - Int.toNat (0 : Int)) (Int.toNat (0 : Int)) [])) : Int)).toNat (0 : Nat)).int.toNat - (0 : Nat)) (List.drop (0 : Nat) (Sp.rE ⟨s_Learners.xs, s_Cars.xs, s_Price, s_Excess, s_Lo, s_Hi, s_Terms.xs⟩ evs.xs))).length + (List.take (List.length (Sp.rE ⟨s_Learners.xs, s_Cars.xs, s_Price, s_Excess, s_Lo, s_Hi, s_Terms.xs⟩ evs.xs) - z_3.toNat) (List.drop z_3.toNat (Sp.rE ⟨s_Learners.xs, s_Cars.xs, s_Price, s_Excess, s_Lo, s_Hi, s_Terms.xs⟩ evs.xs))).length) * (8 : Nat) ≤ (140737488355328 : Nat))) (Pre True (Vif (Sp.ints (Sp.rE ⟨s_Learners.xs, s_Cars.xs, s_Price, s_Excess, s_Lo, s_Hi, s_Terms.xs⟩ (List.drop (0 : Nat) (List.take (cel (Sp.iter (Sp.reS (Sp.rE ⟨s_Learners.xs, s_Cars.xs, s_Price, s_Excess, s_Lo, s_Hi, s_Terms.xs⟩ evs.xs)) (List.length (Sp.rE ⟨s_Learners.xs, s_Cars.xs, s_Price, s_Excess, s_Lo, s_Hi, s_Terms.xs⟩ evs.xs) - Int.toNat (0 : Int)) (Int.toNat (0 : Int)) []) (z.tmod (↑(List.length (Sp.iter (Sp.reS (Sp.rE ⟨s_Learners.xs, s_Cars.xs, s_Price, s_Excess, s_Lo, s_Hi, s_Terms.xs⟩ evs.xs)) (List.length (Sp.rE ⟨s_Learners.xs, s_Cars.xs, s_Price, s_Excess, s_Lo, s_Hi, s_Terms.xs⟩ evs.xs) - Int.toNat (0 : Int)) (Int.toNat (0 : Int)) [])) : Int)).toNat (0 : Nat)).int.toNat evs.xs) ++ List.drop z_2.toNat (List.take (List.length evs.xs) evs.xs))) (List.take ((cel (Sp.iter (Sp.reS (Sp.rE ⟨s_Learners.xs, s_Cars.xs, s_Price, s_Excess, s_Lo, s_Hi, s_Terms.xs⟩ evs.xs)) (List.length (Sp.rE ⟨s_Learners.xs, s_Cars.xs, s_Price, s_Excess, s_Lo, s_Hi, s_Terms.xs⟩ evs.xs) - Int.toNat (0 : Int)) (Int.toNat (0 : Int)) []) (z.tmod (↑(List.length (Sp.iter (Sp.reS (Sp.rE ⟨s_Learners.xs, s_Cars.xs, s_Price, s_Excess, s_Lo, s_Hi, s_Terms.xs⟩ evs.xs)) (List.length (Sp.rE ⟨s_Learners.xs, s_Cars.xs, s_Price, s_Excess, s_Lo, s_Hi, s_Terms.xs⟩ evs.xs) - Int.toNat (0 : Int)) (Int.toNat (0 : Int)) [])) : Int)).toNat (0 : Nat)).int.toNat - (0 : Nat)) (List.drop (0 : Nat) (Sp.rE ⟨s_Learners.xs, s_Cars.xs, s_Price, s_Excess, s_Lo, s_Hi, s_Terms.xs⟩ evs.xs)) ++ List.take (List.length (Sp.rE ⟨s_Learners.xs, s_Cars.xs, s_Price, s_Excess, s_Lo, s_Hi, s_Terms.xs⟩ evs.xs) - z_3.toNat) (List.drop z_3.toNat (Sp.rE ⟨s_Learners.xs, s_Cars.xs, s_Price, s_Excess, s_Lo, s_Hi, s_Terms.xs⟩ evs.xs)))) (Pre True (Vif (Sp.statesE (Sp.rB ⟨s_Learners.xs, s_Cars.xs, s_Price, s_Excess, s_Lo, s_Hi, s_Terms.xs⟩ evs.xs).ls (Sp.rB ⟨s_Learners.xs, s_Cars.xs, s_Price, s_Excess, s_Lo, s_Hi, s_Terms.xs⟩ evs.xs).km (Sp.rB ⟨s_Learners.xs, s_Cars.xs, s_Price, s_Excess, s_Lo, s_Hi, s_Terms.xs⟩ evs.xs).si (Sp.rB ⟨s_Learners.xs, s_Cars.xs, s_Price, s_Excess, s_Lo, s_Hi, s_Terms.xs⟩ evs.xs).ac (Sp.rB ⟨s_Learners.xs, s_Cars.xs, s_Price, s_Excess, s_Lo, s_Hi, s_Terms.xs⟩ (List.drop (0 : Nat) (List.take (cel (Sp.iter (Sp.reS (Sp.rE ⟨s_Learners.xs, s_Cars.xs, s_Price, s_Excess, s_Lo, s_Hi, s_Terms.xs⟩ evs.xs)) (List.length (Sp.rE ⟨s_Learners.xs, s_Cars.xs, s_Price, s_Excess, s_Lo, s_Hi, s_Terms.xs⟩ evs.xs) - Int.toNat (0 : Int)) (Int.toNat (0 : Int)) []) (z.tmod (↑(List.length (Sp.iter (Sp.reS (Sp.rE ⟨s_Learners.xs, s_Cars.xs, s_Price, s_Excess, s_Lo, s_Hi, s_Terms.xs⟩ evs.xs)) (List.length (Sp.rE ⟨s_Learners.xs, s_Cars.xs, s_Price, s_Excess, s_Lo, s_Hi, s_Terms.xs⟩ evs.xs) - Int.toNat (0 : Int)) (Int.toNat (0 : Int)) [])) : Int)).toNat (0 : Nat)).int.toNat evs.xs) ++ List.drop z_2.toNat (List.take (List.length evs.xs) evs.xs))).ls (Sp.rB ⟨s_Learners.xs, s_Cars.xs, s_Price, s_Excess, s_Lo, s_Hi, s_Terms.xs⟩ (List.drop (0 : Nat) (List.take (cel (Sp.iter (Sp.reS (Sp.rE ⟨s_Learners.xs, s_Cars.xs, s_Price, s_Excess, s_Lo, s_Hi, s_Terms.xs⟩ evs.xs)) (List.length (Sp.rE ⟨s_Learners.xs, s_Cars.xs, s_Price, s_Excess, s_Lo, s_Hi, s_Terms.xs⟩ evs.xs) - Int.toNat (0 : Int)) (Int.toNat (0 : Int)) []) (z.tmod (↑(List.length (Sp.iter (Sp.reS (Sp.rE ⟨s_Learners.xs, s_Cars.xs, s_Price, s_Excess, s_Lo, s_Hi, s_Terms.xs⟩ evs.xs)) (List.length (Sp.rE ⟨s_Learners.xs, s_Cars.xs, s_Price, s_Excess, s_Lo, s_Hi, s_Terms.xs⟩ evs.xs) - Int.toNat (0 : Int)) (Int.toNat (0 : Int)) [])) : Int)).toNat (0 : Nat)).int.toNat evs.xs) ++ List.drop z_2.toNat (List.take (List.length evs.xs) evs.xs))).km (Sp.rB ⟨s_Learners.xs, s_Cars.xs, s_Price, s_Excess, s_Lo, s_Hi, s_Terms.xs⟩ (List.drop (0 : Nat) (List.take (cel (Sp.iter (Sp.reS (Sp.rE ⟨s_Learners.xs, s_Cars.xs, s_Price, s_Excess, s_Lo, s_Hi, s_Terms.xs⟩ evs.xs)) (List.length (Sp.rE ⟨s_Learners.xs, s_Cars.xs, s_Price, s_Excess, s_Lo, s_Hi, s_Terms.xs⟩ evs.xs) - Int.toNat (0 : Int)) (Int.toNat (0 : Int)) []) (z.tmod (↑(List.length (Sp.iter (Sp.reS (Sp.rE ⟨s_Learners.xs, s_Cars.xs, s_Price, s_Excess, s_Lo, s_Hi, s_Terms.xs⟩ evs.xs)) (List.length (Sp.rE ⟨s_Learners.xs, s_Cars.xs, s_Price, s_Excess, s_Lo, s_Hi, s_Terms.xs⟩ evs.xs) - Int.toNat (0 : Int)) (Int.toNat (0 : Int)) [])) : Int)).toNat (0 : Nat)).int.toNat evs.xs) ++ List.drop z_2.toNat (List.take (List.length evs.xs) evs.xs))).si (Sp.rB ⟨s_Learners.xs, s_Cars.xs, s_Price, s_Excess, s_Lo, s_Hi, s_Terms.xs⟩ (List.drop (0 : Nat) (List.take (cel (Sp.iter (Sp.reS (Sp.rE ⟨s_Learners.xs, s_Cars.xs, s_Price, s_Excess, s_Lo, s_Hi, s_Terms.xs⟩ evs.xs)) (List.length (Sp.rE ⟨s_Learners.xs, s_Cars.xs, s_Price, s_Excess, s_Lo, s_Hi, s_Terms.xs⟩ evs.xs) - Int.toNat (0 : Int)) (Int.toNat (0 : Int)) []) (z.tmod (↑(List.length (Sp.iter (Sp.reS (Sp.rE ⟨s_Learners.xs, s_Cars.xs, s_Price, s_Excess, s_Lo, s_Hi, s_Terms.xs⟩ evs.xs)) (List.length (Sp.rE ⟨s_Learners.xs, s_Cars.xs, s_Price, s_Excess, s_Lo, s_Hi, s_Terms.xs⟩ evs.xs) - Int.toNat (0 : Int)) (Int.toNat (0 : Int)) [])) : Int)).toNat (0 : Nat)).int.toNat evs.xs) ++ List.drop z_2.toNat (List.take (List.length evs.xs) evs.xs))).ac) (Pre True (Q [[Cl.b true]])) (Q [[Cl.b false]]))) (Q [[Cl.b false]]))))))))))) (Q [[Cl.b false]]))))))))))))))))))))))))))
theorem vc_lawRefused (W : InW) (s_Learners : Ro [.str]) (s_Cars : Ro Ivs) (s_Price : Int) (s_Excess : Int) (s_Lo : Int) (s_Hi : Int) (s_Terms : Ro [.int .i64, .int .i64]) (evs : Ro Iv11) (x_a : Int) (x_b : Int) (Q : DS → Prop) : bodyK (cxT Try.prog TT TPr 1000 50) 1000 14 [.agg [.rs _ s_Learners, .rs _ s_Cars, .si .i64 s_Price, .si .i64 s_Excess, .si .i64 s_Lo, .si .i64 s_Hi, .rs _ s_Terms], .rs _ evs, .agg [.si .u8 x_a, .si .u8 x_b]] [] 0 (leafK [(false, [.bool])] Q) (fun _ _ _ _ => Stuck 421) = VC_lawRefused s_Learners s_Cars s_Price s_Excess s_Lo s_Hi s_Terms evs x_a x_b Q := by kernel_rfl
abbrev ats_lawRefused : List AT := [.agg [.sl [.str], .sl Ivs, .int .i64, .int .i64, .int .i64, .int .i64, .sl [.int .i64, .int .i64]], .one (.sl Iv11), .agg [.int .u8, .int .u8]]
theorem ok_lawRefused {pre : DS → Prop} {res : DS → DS} (hyp_ : ∀ (W : InW) (s_Learners : Ro [.str]) (s_Cars : Ro Ivs) (s_Price : Int) (s_Excess : Int) (s_Lo : Int) (s_Hi : Int) (s_Terms : Ro [.int .i64, .int .i64]) (evs : Ro Iv11) (x_a : Int) (x_b : Int), pre [[.l s_Learners.xs, .l s_Cars.xs, .i s_Price, .i s_Excess, .i s_Lo, .i s_Hi, .l s_Terms.xs], [.l evs.xs], [.i x_a, .i x_b]] → ∀ Q : DS → Prop, Q (res [[.l s_Learners.xs, .l s_Cars.xs, .i s_Price, .i s_Excess, .i s_Lo, .i s_Hi, .l s_Terms.xs], [.l evs.xs], [.i x_a, .i x_b]]) → VC_lawRefused s_Learners s_Cars s_Price s_Excess s_Lo s_Hi s_Terms evs x_a x_b Q) : PureOk Try.prog 14 ats_lawRefused [(false, [.bool])] pre res :=
  PureOk.of' (fun W => @TT W) (fun W => @TT_ok W) mixed_ok TPr 1000 50 fun W s_Learners s_Cars s_Price s_Excess s_Lo s_Hi s_Terms evs x_a x_b hp =>
    (vc_lawRefused W s_Learners s_Cars s_Price s_Excess s_Lo s_Hi s_Terms evs x_a x_b (fun o => o = res [[.l s_Learners.xs, .l s_Cars.xs, .i s_Price, .i s_Excess, .i s_Lo, .i s_Hi, .l s_Terms.xs], [.l evs.xs], [.i x_a, .i x_b]])).mpr (hyp_ W s_Learners s_Cars s_Price s_Excess s_Lo s_Hi s_Terms evs x_a x_b hp _ rfl)
end Go.Proofs.Ytiiicnhjjfmpkaa
namespace Go.Proofs.Ytiiicnhjjfmpkaa
open Go.RowKit
set_option linter.unusedVariables false
set_option maxRecDepth 100000
namespace Sp
theorem reS_ok (er : Dt) : ∀ m, m < (iter (reS er) er.length 0 []).length → (0 ≤ (cel (iter (reS er) er.length 0 []) m 0).int ∧ (cel (iter (reS er) er.length 0 []) m 0).int < er.length) ∧ (cel er (cel (iter (reS er) er.length 0 []) m 0).int.toNat 0).int ≠ 0 := by
  have := iter_ind (f := reS er) (P := fun j rf => ∀ m, m < rf.length → (0 ≤ (cel rf m 0).int ∧ (cel rf m 0).int < (j : Int)) ∧ (cel er (cel rf m 0).int.toNat 0).int ≠ 0) er.length 0 [] (fun m hm => by simp at hm) fun j rf h1 h2 ih m hm => by
    unfold reS at hm ⊢
    split
    · rename_i e
      rw [if_pos e] at hm
      have := ih m hm
      exact ⟨by omega, this.2⟩
    · rename_i e
      rw [if_neg e] at hm
      by_cases hm' : m < rf.length
      · rw [cel_left _ _ _ _ hm']
        have := ih m hm'
        exact ⟨by omega, this.2⟩
      · have : m = rf.length := by simp at hm; omega
        subst this
        rw [cel_right _ _ _ _ (Nat.le_refl _), Nat.sub_self]
        show (0 ≤ (j : Int) ∧ (j : Int) < ((j + 1 : Nat) : Int)) ∧ (cel er j 0).int ≠ 0
        exact ⟨by omega, e⟩
  rw [Nat.zero_add] at this
  exact this
theorem take_errs {s : Sch} {evs : Dt} {n j : Nat} (hn : n ≤ evs.length) (hj : j < n) : (cel (errAll s (evs.take n)) j 0).int = (cel (errAll s evs) j 0).int := by
  rw [errAll_cel _ _ _ (by rw [List.length_take]; omega), errAll_cel _ _ _ (by omega), bk_take _ _ _ _ (by omega), evt_take _ _ _ hj]
end Sp
theorem u8_le {n : Int} (h : WfC (.int .u8) (.i n)) : 0 ≤ n ∧ n ≤ 255 := by cases h with | int _ _ h => exact bounds_u8 h
theorem two_le {a b : Int} (h : WfL [.int .u8, .int .u8] [.i a, .i b]) : (0 ≤ a ∧ a ≤ 255) ∧ (0 ≤ b ∧ b ≤ 255) := by
  cases h with
  | cons h1 h =>
    cases h with
    | cons h2 h => exact ⟨u8_le h1, u8_le h2⟩
theorem refused_pure : PureOk Try.prog 14 ats_lawRefused [(false, [.bool])] (WfD ats_lawRefused) fun _ => [[.b true]] :=
  ok_lawRefused fun W rl rc pr ex lo hi rt evs xa xb hp Q h => by
    obtain ⟨d, ds, e1, hp1, d2, ds2, e2, _, d3, ds3, e3, hp3, _⟩ := hp
    cases e1
    cases e2
    cases e3
    obtain ⟨ha, hb⟩ := two_le hp3
    unfold VC_lawRefused
    by_cases e : Sp.rErr ⟨rl.xs, rc.xs, pr, ex, lo, hi, rt.xs⟩ evs.xs = 0
    · obtain ⟨hL, hI, h60, hs⟩ := Sp.rB_led e
      clear hL hs
      have hel : (Sp.rE ⟨rl.xs, rc.xs, pr, ex, lo, hi, rt.xs⟩ evs.xs).length = evs.xs.length := by rw [Sp.rE_ok e, Sp.errAll_len]
      have hE := Sp.rE_ok e
      have hB := Sp.rB_ok e
      simp only [List.drop_zero, List.take_length, Nat.sub_zero, Nat.zero_add, show Int.toNat 0 = 0 from rfl]
      refine ⟨trivial, vifn (fun x => absurd e x) fun _ => vifn (fun x => absurd (by rw [hel]) x) fun _ => ar64 (by omega) (ar64 (by omega) ?_)⟩
      have t1 := Int.tmod_nonneg ((evs.xs.length : Int) + 1) hb.1
      have t2 := Int.tmod_lt_of_pos xb (show 0 < (evs.xs.length : Int) + 1 by omega)
      generalize xb.tmod ((evs.xs.length : Int) + 1) = n at *
      have en := Sp.rErr_take e n.toNat
      have hen := Sp.rE_ok en
      refine ned (by simp; omega) (nedd t1 (ned (by simp; omega) ⟨trivial, vifn (fun x => absurd en x) fun _ => nedd t1 (ned (by simp; omega) (nedd (by omega) ⟨trivial, vif (fun x => ?_) fun _ => ⟨by omega, vifd (fun _ => ⟨trivial, h⟩) fun e0 => ?_⟩⟩))⟩))
      · rw [hen, hE, Sp.ints_of (by rw [Sp.errAll_len, List.length_take, List.length_take, Sp.errAll_len]) fun j hj => ?_] at x
        · cases x
        · rw [Sp.errAll_len, List.length_take] at hj
          rw [Sp.take_errs (by omega) (by omega), Sp.cel_take _ _ _ _ (by omega)]
      · have hrf := Sp.reS_ok (Sp.rE ⟨rl.xs, rc.xs, pr, ex, lo, hi, rt.xs⟩ evs.xs)
        generalize Sp.iter (Sp.reS (Sp.rE ⟨rl.xs, rc.xs, pr, ex, lo, hi, rt.xs⟩ evs.xs)) (Sp.rE ⟨rl.xs, rc.xs, pr, ex, lo, hi, rt.xs⟩ evs.xs).length 0 [] = rf at *
        have u1 := Int.tmod_nonneg (rf.length : Int) ha.1
        have u2 := Int.tmod_lt_of_pos xa (show 0 < (rf.length : Int) by omega)
        refine ar64 (by omega) ?_
        generalize xa.tmod (rf.length : Int) = m at *
        obtain ⟨k1, k2⟩ := hrf m.toNat (by omega)
        generalize (cel rf m.toNat 0).int = k at *
        rw [hel] at k1
        have hkl : k.toNat < evs.xs.length := by omega
        rw [hE] at k2
        have ll : Sp.less evs.xs k.toNat = List.take k.toNat evs.xs ++ List.drop (k + 1).toNat evs.xs := by rw [Sp.less, show (k + 1).toNat = k.toNat + 1 by omega]
        have len := Sp.less_len hkl
        rw [ll] at len
        have el : Sp.rErr ⟨rl.xs, rc.xs, pr, ex, lo, hi, rt.xs⟩ (List.take k.toNat evs.xs ++ List.drop (k + 1).toNat evs.xs) = 0 := by
          have hz := Sp.rErr_chk e
          unfold Sp.rErr Sp.runErr
          rw [if_pos hz, if_neg (by omega)]
        have hEl := Sp.rE_ok el
        have hBl := Sp.rB_ok el
        refine ned (by simp only [Bool.not_eq_true', decide_eq_false_iff_not]; omega) (ned (by simp; omega) (nedd (by omega) (nedd k1.1 (ned (by simp; omega) (nedd (by rw [List.length_take]; omega) (ar64 (by omega) (nedd (by omega) (ned (by simp; omega) (nedd (by rw [← List.length_append]; omega) ⟨trivial, vifd (fun _ => ?_) fun x => absurd el x⟩)))))))))
        refine nedd k1.1 (ned (by simp; omega) (nedd (by omega) (nedd (by rw [List.length_take]; omega) (ar64 (by omega) (nedd (by omega) (ned (by simp; omega) (nedd (by omega) (nedd (by rw [List.length_take, List.length_take, List.length_drop]; omega) ⟨trivial, vif (fun _ => ⟨trivial, vif (fun _ => ⟨trivial, h⟩) fun x => ?_⟩) fun x => ?_⟩))))))))
        · rw [hB, hBl, ← ll] at x
          have hr := Sp.less_bk hkl k2 (evs.xs.length - 1 - k.toNat) (by omega)
          rw [← ll] at len
          rw [show k.toNat + (evs.xs.length - 1 - k.toNat) = (Sp.less evs.xs k.toNat).length by omega, len, ← Sp.runAll_bk, ← Sp.runAll_bk] at hr
          rw [hr.ls, hr.km, hr.si, hr.ac, Sp.states_self] at x
          cases x
        · rw [hE, hEl, ← ll, Sp.ints_of ?_ fun j hj => ?_] at x
          · cases x
          · rw [Sp.errAll_len, List.length_append, List.length_take, List.length_take, List.length_drop, Sp.errAll_len]
            rw [← ll] at len
            omega
          · rw [← ll] at len
            rw [Sp.errAll_len] at hj
            rw [Sp.less_errs hkl k2 j hj]
            split
            · rename_i hjk
              rw [Sp.cel_left _ _ _ _ (by rw [List.length_take, Sp.errAll_len]; omega), Sp.cel_take _ _ _ _ hjk]
            · rename_i hjk
              rw [Sp.cel_right _ _ _ _ (by rw [List.length_take, Sp.errAll_len]; omega), List.length_take, Sp.errAll_len, Nat.min_eq_left (by omega), Sp.cel_take _ _ _ _ (by omega)]
              simp only [cel, List.getD_eq_getElem?_getD, List.getElem?_drop]
              rw [show (k + 1).toNat + (j - k.toNat) = j + 1 by omega]
    · simp [Vif_iff, Pre_iff, e, Sp.rE_no e, h]
end Go.Proofs.Ytiiicnhjjfmpkaa
namespace Go.Proofs.Ytiiicnhjjfmpkaa.bookRefused
open Go.ChangeShapes Go.WideShapes Go.ChangeAt Go.RowKit
set_option linter.unusedVariables false
set_option maxRecDepth 100000
theorem own : ownKnob Try.prog.godebug = none := by kernel_rfl
theorem laid : laidOutB Try.prog = true := by kernel_rfl
theorem lifted (os : Os) (started : os.Started) (H : Type) (enc : TypeId × Value → H) :
    ReturnsInHanded {} Try.checked os 14 .any (Rows.bookRefusedSpec.pre6 enc Try.prog Try.f14 Rows.bookRefusedRow.domain false) (Rows.bookRefusedSpec.post enc Try.prog Try.f14 false true false false) := by
  refine returnsInHanded_of_change (C := Try.checked) own started (by kernel_rfl) Try.func14
    (ChangeSpec.witness6 (enc := enc) (C := Try.checked) false ⟨#[], #[(.agg #[.slice none 0 0, .slice none 0 0, .int .i64 0, .int .i64 0, .int .i64 0, .int .i64 0, .slice none 0 0]), (.slice none 0 0), (.agg #[.int .u8 0, .int .u8 0])], []⟩ 8 (by kernel_rfl) (by kernel_rfl) (by kernel_rfl) (by kernel_rfl)) ?_
  intro W base args ds gs before hval hW _ _
  exact law_end (f := Try.f14) (s := Rows.bookRefusedSpec) (by kernel_rfl) Try.underlying4 (by kernel_rfl) rfl laid (by kernel_rfl)
    (fun ds h => by match ds, (show ds.length = 3 from h) with | [_, _, _], _ => exact ⟨rfl, rfl, rfl⟩) refused_pure hval hW
theorem over : Rows.bookRefusedRow.holds Try.pinned (OpenSpec.ofChange Rows.bookRefusedSpec) :=
  OpenClaim.holds_of_wide 14 Try.f14 rfl rfl rfl rfl rfl rfl rfl ⟨rfl, rfl, rfl, rfl, rfl⟩ rfl rfl rfl rfl rfl (by kernel_rfl) Try.func14 (by kernel_rfl)
    (of_decide_eq_true (by kernel_rfl)) (by unfold Func.isWrapper; first | (rw [if_pos (by decide +kernel)]; kernel_rfl) | (rw [if_neg (by decide +kernel)]; exact ⟨rfl, rfl⟩))
    (fun os started H enc _ => lifted os started H enc)
theorem proved : Rows.BookRefusedSaid := over
end Go.Proofs.Ytiiicnhjjfmpkaa.bookRefused
