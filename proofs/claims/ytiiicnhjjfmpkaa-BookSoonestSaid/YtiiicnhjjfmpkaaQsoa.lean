/-
  'BookSoonest': for every input the law returns true, and what is handed in reads as before. No condition.
-/
import Derived.Test.YtiiicnhjjfmpkaaQf
import Derived.Test.YtiiicnhjjfmpkaaRows
import Derived.WalkKit
import Derived.ProofKit
set_option linter.unusedVariables false
set_option linter.unusedSectionVars false
set_option linter.unusedSimpArgs false
namespace Go.Proofs.Ytiiicnhjjfmpkaa
open Go.RowKit
set_option linter.unusedVariables false
set_option maxRecDepth 100000
namespace Sp
def pays (ps : Dt) : Nat → Nat → Dt → Dt
  | 0, _, h => h
  | n + 1, i, h => pays ps n (i + 1) (addA (addA h (cel ps i 1).int (-(cel ps i 3).int)) (cel ps i 2).int (cel ps i 3).int)
structure PsOk (na n : Int) (ps : Dt) : Prop where
  row : ∀ j, j < ps.length → (0 ≤ (cel ps j 0).int ∧ (cel ps j 0).int < n) ∧ (0 ≤ (cel ps j 1).int ∧ (cel ps j 1).int < na) ∧ (0 ≤ (cel ps j 2).int ∧ (cel ps j 2).int < na) ∧ (cel ps j 1).int ≠ (cel ps j 2).int ∧ (0 < (cel ps j 3).int ∧ (cel ps j 3).int ≤ 10000000)
  up : ∀ j, j + 1 < ps.length → (cel ps j 0).int ≤ (cel ps (j + 1) 0).int
def sumI (a : Dt) : Nat → Nat → Int
  | _, 0 => 0
  | i, n + 1 => (cel a i 0).int + sumI a (i + 1) n
end Sp
end Go.Proofs.Ytiiicnhjjfmpkaa
namespace Go.Proofs.Ytiiicnhjjfmpkaa
set_option linter.unusedVariables false
namespace Sp
theorem rE_ok {s : Sch} {evs : Dt} (h : rErr s evs = 0) : rE s evs = errAll s evs := if_pos h
theorem sumI_set (a : Dt) (v : Int) (i : Nat) (hi : i < a.length) : ∀ (n k : Nat), sumI (a.set i [.i v]) k n = sumI a k n + if k ≤ i ∧ i < k + n then v - (cel a i 0).int else 0
  | 0, k => by simp [sumI]; omega
  | n + 1, k => by
    unfold sumI
    rw [sumI_set a v i hi n (k + 1), cel_set]
    by_cases h : i = k
    · subst h
      rw [if_pos ⟨rfl, hi⟩, if_neg (by omega), if_pos (by omega)]
      show v + _ = _
      omega
    · rw [if_neg (fun e => h e.1)]
      by_cases h2 : k + 1 ≤ i ∧ i < k + 1 + n
      · rw [if_pos h2, if_pos (by omega)]; omega
      · rw [if_neg h2, if_neg (by omega)]; omega
theorem sumI_addA (a : Dt) (i c : Int) (h : 0 ≤ i ∧ i < a.length) : sumI (addA a i c) 0 a.length = sumI a 0 a.length + c := by
  unfold addA
  rw [sumI_set a _ i.toNat (by omega), if_pos (by omega)]
  omega
theorem pays_app (ps : Dt) (r : List Cl) : ∀ (n i : Nat) (h : Dt), i + n = ps.length → pays (ps ++ [r]) (n + 1) i h = addA (addA (pays ps n i h) (r.getD 1 .z).int (-(r.getD 3 .z).int)) (r.getD 2 .z).int (r.getD 3 .z).int
  | 0, i, h, e => by
    have : ∀ k, cel (ps ++ [r]) i k = r.getD k .z := fun k => by
      rw [show i = ps.length by omega]
      simp [cel, List.getD_eq_getElem?_getD]
    simp only [pays, this]
  | n + 1, i, h, e => by
    have : ∀ k, cel (ps ++ [r]) i k = cel ps i k := fun k => by simp [cel, List.getD_eq_getElem?_getD, List.getElem?_append_left (show i < ps.length by omega)]
    rw [pays, pays_app ps r n (i + 1) _ (by omega), this, this, this]
    rfl
structure Led (s : Sch) (b : Bks) (n : Int) : Prop where
  ac : b.ac = pays b.ps b.ps.length 0 (List.replicate (s.rl.length + 4) [.i 0])
  ps : PsOk ((s.rl.length : Int) + 4) n b.ps
  sum : sumI b.ac 0 b.ac.length = 0
theorem PsOk.post {na n : Int} {ps : Dt} (h : PsOk na (n + 1) ps) (h0 : 0 ≤ n) {u v c : Int} (hu : 0 ≤ u ∧ u < na) (hv : 0 ≤ v ∧ v < na) (hn : u ≠ v) (hc : 0 ≤ c ∧ c ≤ 10000000) : PsOk na (n + 1) (postP ps n u v c) := by
  unfold postP
  split
  · exact h
  · rename_i e
    have a1 : ∀ j k, j < ps.length → cel (ps ++ [[Cl.i n, .i u, .i v, .i c]]) j k = cel ps j k := fun j k hj => by simp [cel, List.getD_eq_getElem?_getD, List.getElem?_append_left hj]
    have a2 : ∀ k, cel (ps ++ [[Cl.i n, .i u, .i v, .i c]]) ps.length k = [Cl.i n, .i u, .i v, .i c].getD k .z := fun k => by simp [cel, List.getD_eq_getElem?_getD]
    refine ⟨fun j hj => ?_, fun j hj => ?_⟩
    · simp only [List.length_append, List.length_singleton] at hj
      by_cases hj' : j < ps.length
      · simp only [a1 j _ hj']; exact h.row j hj'
      · rw [show j = ps.length by omega]
        simp only [a2]
        exact ⟨⟨h0, by show n < n + 1; omega⟩, hu, hv, hn, by show 0 < c ∧ c ≤ _; omega⟩
    · simp only [List.length_append, List.length_singleton] at hj
      by_cases hj' : j + 1 < ps.length
      · rw [a1 _ _ hj', a1 _ _ (by omega)]; exact h.up j hj'
      · rw [a1 _ _ (by omega), show j + 1 = ps.length by omega, a2]
        have := (h.row j (by omega)).1.2
        show _ ≤ n
        omega
theorem Led.post {s : Sch} {b : Bks} {n : Int} (h : Led s b (n + 1)) (h0 : 0 ≤ n) (he : b.ev = n) (hl : b.ac.length = s.rl.length + 4) {u v c : Int} (hu : 0 ≤ u ∧ u < (s.rl.length : Int) + 4) (hv : 0 ≤ v ∧ v < (s.rl.length : Int) + 4) (hn : u ≠ v) (hc : 0 ≤ c ∧ c ≤ 10000000) : Led s (b.post u v c) (n + 1) := by
  refine ⟨?_, ?_, ?_⟩
  · show postA b.ac u v c = pays (postP b.ps b.ev u v c) (postP b.ps b.ev u v c).length 0 _
    unfold postA postP
    split
    · exact h.ac
    · rw [List.length_append, List.length_singleton, pays_app b.ps _ b.ps.length 0 _ (by omega), ← h.ac]
      rfl
  · show PsOk _ _ (postP b.ps b.ev u v c)
    rw [he]
    exact h.ps.post h0 hu hv hn hc
  · show sumI (postA b.ac u v c) 0 (postA b.ac u v c).length = 0
    rw [postA_len]
    unfold postA
    split
    · exact h.sum
    · have e1 := sumI_addA b.ac u (-c) (by omega)
      have e2 := sumI_addA (addA b.ac u (-c)) v c (by rw [addA_len]; omega)
      rw [addA_len] at e2
      rw [e2, e1, h.sum]
      omega
end Sp
end Go.Proofs.Ytiiicnhjjfmpkaa
namespace Go.Proofs.Ytiiicnhjjfmpkaa
open Go.RowKit
set_option linter.unusedVariables false
set_option maxRecDepth 100000
end Go.Proofs.Ytiiicnhjjfmpkaa
namespace Go.Proofs.Ytiiicnhjjfmpkaa
set_option linter.unusedVariables false
namespace Sp
def iter {α : Type} (f : Nat → α → α) : Nat → Nat → α → α
  | 0, _, a => a
  | n + 1, i, a => iter f n (i + 1) (f i a)
theorem iter_succ {α : Type} (f : Nat → α → α) : ∀ (n i : Nat) (a : α), iter f (n + 1) i a = f (i + n) (iter f n i a)
  | 0, i, a => rfl
  | n + 1, i, a => by
    rw [iter, iter_succ f n (i + 1), iter, show i + 1 + n = i + (n + 1) by omega]
def bk (s : Sch) (evs : Dt) (j : Nat) : Bks := runB s evs j 0 (open0 s)
theorem runB_succ (s : Sch) (evs : Dt) : ∀ (n : Nat) (i : Int) (b : Bks), runB s evs (n + 1) i b = doB s (runB s evs n i b) (i + n) (evt evs (i + n))
  | 0, i, b => by simp [runB]
  | n + 1, i, b => by
    rw [runB, runB_succ s evs n (i + 1), runB, show i + 1 + (n : Int) = i + ((n + 1 : Nat) : Int) by omega]
theorem bk_succ (s : Sch) (evs : Dt) (j : Nat) : bk s evs (j + 1) = doB s (bk s evs j) j (evt evs j) := by
  unfold bk
  rw [runB_succ, Int.zero_add]
theorem runE_len (s : Sch) (evs : Dt) : ∀ (n : Nat) (i : Int) (b : Bks), (runE s evs n i b).length = n
  | 0, _, _ => rfl
  | n + 1, i, b => by simp [runE, runE_len s evs n]
theorem runE_cel (s : Sch) (evs : Dt) : ∀ (n : Nat) (i : Int) (b : Bks) (j : Nat), j < n → cel (runE s evs n i b) j 0 = .i (doE s (runB s evs j i b) (i + j) (evt evs (i + j)))
  | 0, _, _, _, h => by omega
  | n + 1, i, b, 0, h => by simp [runE, runB, cel]
  | n + 1, i, b, j + 1, h => by
    have := runE_cel s evs n (i + 1) (doB s b i (evt evs i)) j (by omega)
    rw [show i + 1 + (j : Int) = i + ((j + 1 : Nat) : Int) by omega] at this
    rw [runB]
    rw [← this]
    rfl
theorem runAll_bk (s : Sch) (evs : Dt) : runAll s evs = bk s evs evs.length := rfl
theorem errAll_len (s : Sch) (evs : Dt) : (errAll s evs).length = evs.length := runE_len _ _ _ _ _
theorem errAll_cel (s : Sch) (evs : Dt) (j : Nat) (h : j < evs.length) : cel (errAll s evs) j 0 = .i (doE s (bk s evs j) j (evt evs j)) := by
  have := runE_cel s evs evs.length 0 (open0 s) j h
  rw [Int.zero_add] at this
  exact this
theorem runB_congr {s : Sch} {e1 e2 : Dt} : ∀ (n : Nat) (i : Int) (b : Bks), (∀ j : Int, i ≤ j → j < i + n → evt e1 j = evt e2 j) → runB s e1 n i b = runB s e2 n i b
  | 0, _, _, _ => rfl
  | n + 1, i, b, h => by
    rw [runB, runB, h i (by omega) (by omega)]
    exact runB_congr n (i + 1) _ fun j h1 h2 => h j (by omega) (by omega)
theorem bk_congr {s : Sch} {e1 e2 : Dt} {n : Nat} (h : ∀ j : Nat, j < n → evt e1 j = evt e2 j) : bk s e1 n = bk s e2 n :=
  runB_congr n 0 _ fun j h1 h2 => by
    have := h j.toNat (by omega)
    rw [Int.toNat_of_nonneg h1] at this
    exact this
theorem cel_left (a b : Dt) (j k : Nat) (h : j < a.length) : cel (a ++ b) j k = cel a j k := by simp [cel, List.getD_eq_getElem?_getD, List.getElem?_append_left h]
theorem cel_right (a b : Dt) (j k : Nat) (h : a.length ≤ j) : cel (a ++ b) j k = cel b (j - a.length) k := by simp [cel, List.getD_eq_getElem?_getD, List.getElem?_append_right h]
theorem cel_take (a : Dt) (m j k : Nat) (h : j < m) : cel (a.take m) j k = cel a j k := by simp [cel, List.getD_eq_getElem?_getD, List.getElem?_take, h]
theorem evt_left (a b : Dt) (j : Nat) (h : j < a.length) : evt (a ++ b) j = evt a j := by unfold evt; simp only [Int.toNat_natCast, cel_left a b j _ h]
theorem bk_left (s : Sch) (a b : Dt) (j : Nat) (h : j ≤ a.length) : bk s (a ++ b) j = bk s a j := bk_congr fun i hi => evt_left _ _ _ (by omega)
theorem step_cases (s : Sch) (b : Bks) (n : Int) (x : Evt) :
    (doE s b n x = 0 ∧ inr x.kind 0 6 = true ∧ b.tm ≤ x.at_ ∧ x.at_ ≤ 4800 ∧ err s b x = 0 ∧ doB s b n x = { eff s { b with ev := n } x with tm := x.at_ }) ∨
    (doE s b n x ≠ 0 ∧ ∃ e, doB s b n x = { b with ev := e }) := by
  unfold doE doB
  by_cases e1 : inr x.kind 0 6 = true
  · by_cases e2 : inr x.at_ b.tm 4800 = true
    · by_cases e3 : err s b x = 0
      · have ht := inr_iff.1 e2
        simp only [e1, e2, e3, Bool.not_true, Bool.false_eq_true, if_false, if_true]
        exact .inl ⟨trivial, trivial, ht.1, ht.2, trivial, trivial⟩
      · simp only [e1, e2, e3, Bool.not_true, Bool.false_eq_true, if_false]
        exact .inr ⟨e3, _, rfl⟩
    · simp only [e1, Bool.not_eq_true] at e2 ⊢
      simp only [e2, Bool.not_true, Bool.false_eq_true, if_false, Bool.not_false, if_true]
      exact .inr ⟨by decide, b.ev, rfl⟩
  · rw [Bool.not_eq_true] at e1
    simp only [e1, Bool.not_false, if_true]
    exact .inr ⟨by decide, b.ev, rfl⟩
structure Kept (a b : Dt) : Prop where
  len : a.length ≤ b.length
  row : ∀ j, j < a.length → (cel b j 0).int = (cel a j 0).int ∧ (cel b j 1).int = (cel a j 1).int ∧ (cel b j 3).int = (cel a j 3).int
theorem Kept.refl (a : Dt) : Kept a a := ⟨Nat.le_refl _, fun _ _ => ⟨rfl, rfl, rfl⟩⟩
theorem Kept.trans {a b c : Dt} (h : Kept a b) (h2 : Kept b c) : Kept a c := ⟨Nat.le_trans h.len h2.len, fun j hj => by
  have := h.row j hj
  have := h2.row j (by have := h.len; omega)
  omega⟩
theorem Kept.setSt (a : Dt) (i st : Int) : Kept a (setSt a i st) := ⟨by rw [setSt_len]; exact Nat.le_refl _, fun j hj => by
  rw [cel_setSt _ _ _ _ _ (by decide), cel_setSt _ _ _ _ _ (by decide), cel_setSt _ _ _ _ _ (by decide)]
  exact ⟨rfl, rfl, rfl⟩⟩
end Sp
end Go.Proofs.Ytiiicnhjjfmpkaa
namespace Go.Proofs.Ytiiicnhjjfmpkaa
open Go.RowKit
set_option linter.unusedVariables false
set_option maxRecDepth 100000
end Go.Proofs.Ytiiicnhjjfmpkaa
namespace Go.Proofs.Ytiiicnhjjfmpkaa
open Go.RowKit
set_option linter.unusedVariables false
set_option maxRecDepth 100000
namespace Sp
theorem done_ok {s : Sch} {evs : Dt} {j : Nat} (hj : j < evs.length) (he : (cel (errAll s evs) j 0).int = 0) :
    inr (evt evs j).kind 0 6 = true ∧ (bk s evs j).tm ≤ (evt evs j).at_ ∧ (evt evs j).at_ ≤ 4800 ∧ err s (bk s evs j) (evt evs j) = 0 ∧ bk s evs (j + 1) = { eff s { bk s evs j with ev := j } (evt evs j) with tm := (evt evs j).at_ } := by
  rw [errAll_cel s evs j hj] at he
  rcases step_cases s (bk s evs j) j (evt evs j) with ⟨_, h1, h2, h3, h4, h5⟩ | ⟨h1, _⟩
  · exact ⟨h1, h2, h3, h4, by rw [bk_succ]; exact h5⟩
  · exact absurd he h1
theorem done_no {s : Sch} {evs : Dt} {j : Nat} (hj : j < evs.length) (he : ¬ (cel (errAll s evs) j 0).int = 0) : ∃ e, bk s evs (j + 1) = { bk s evs j with ev := e } := by
  rw [errAll_cel s evs j hj] at he
  rcases step_cases s (bk s evs j) j (evt evs j) with ⟨h1, _⟩ | ⟨_, h1⟩
  · exact absurd h1 he
  · rw [bk_succ]; exact h1
end Sp
end Go.Proofs.Ytiiicnhjjfmpkaa
namespace Go.Proofs.Ytiiicnhjjfmpkaa
set_option linter.unusedVariables false
namespace Sp
def rI (r : List Cl) (k : Nat) : Int := (r.getD k .z).int
end Sp
end Go.Proofs.Ytiiicnhjjfmpkaa
namespace Go.Proofs.Ytiiicnhjjfmpkaa
open Go.RowKit
set_option linter.unusedVariables false
set_option maxRecDepth 100000
end Go.Proofs.Ytiiicnhjjfmpkaa
namespace Go.Proofs.Ytiiicnhjjfmpkaa
open Go.RowKit
set_option linter.unusedVariables false
set_option maxRecDepth 100000
end Go.Proofs.Ytiiicnhjjfmpkaa
namespace Go.Proofs.Ytiiicnhjjfmpkaa
open Go.RowKit
set_option linter.unusedVariables false
set_option maxRecDepth 100000
end Go.Proofs.Ytiiicnhjjfmpkaa
namespace Go.Proofs.Ytiiicnhjjfmpkaa
set_option linter.unusedVariables false
namespace Sp
theorem setCls_at (cs : List Cl) : ∀ (n : Nat) (l : List Cl) (k : Nat), k < cs.length → (setCls l n cs).getD (n + k) .z = cs.getD k .z
  | 0, l, k, h => by simp [setCls, List.getD_eq_getElem?_getD, List.getElem?_append_left h]
  | n + 1, l, k, h => by
    rw [show n + 1 + k = (n + k) + 1 by omega, setCls]
    exact setCls_at cs n l.tail k h
theorem cel_setSt4 {ls : Dt} {i st : Int} (h : i.toNat < ls.length) (j : Nat) : cel (setSt ls i st) j 4 = if i.toNat = j then .i st else cel ls j 4 := by
  unfold setSt
  rw [cel_set]
  by_cases e : i.toNat = j
  · rw [if_pos ⟨e, h⟩, if_pos e]
    exact setCls_at [.i st] 4 _ 0 (by simp)
  · rw [if_neg (fun x => e x.1), if_neg e]
theorem moveL_row {rc ls : Dt} {es : List (Int × Int)} {i : Int} (hi : i.toNat < ls.length) (j : Nat) :
    (i.toNat ≠ j → ∀ k, cel (moveL rc ls es i) j k = cel ls j k) ∧
    (i.toNat = j → (cel (moveL rc ls es i) j 0).int = (cel ls j 0).int ∧ (cel (moveL rc ls es i) j 1).int = (cel ls j 1).int ∧ (cel (moveL rc ls es i) j 3).int = (cel ls j 3).int ∧
      ((moveTo rc ls es (cel ls j 0).int (cel ls j 1).int (cel ls j 3).int i (days ((cel ls j 2).int + 24)) ((cel ls j 2).int + 24) = none ∧ (cel (moveL rc ls es i) j 2).int = (cel ls j 2).int ∧ (cel (moveL rc ls es i) j 4).int = 1) ∨
       (moveTo rc ls es (cel ls j 0).int (cel ls j 1).int (cel ls j 3).int i (days ((cel ls j 2).int + 24)) ((cel ls j 2).int + 24) = some (cel (moveL rc ls es i) j 2).int ∧ (cel (moveL rc ls es i) j 4).int = (cel ls j 4).int))) := by
  refine ⟨fun e k => ?_, fun e => ?_⟩
  · unfold moveL setSt
    split
    · rw [cel_set, if_neg (fun h => e h.1)]
    · rw [cel_set, if_neg (fun h => e h.1)]
  · subst e
    unfold moveL
    split
    · rename_i s hs
      have e : ∀ k, cel (ls.set i.toNat [.i (cel ls i.toNat 0).int, .i (cel ls i.toNat 1).int, .i s, .i (cel ls i.toNat 3).int, .i (cel ls i.toNat 4).int]) i.toNat k = [Cl.i (cel ls i.toNat 0).int, .i (cel ls i.toNat 1).int, .i s, .i (cel ls i.toNat 3).int, .i (cel ls i.toNat 4).int].getD k .z := fun k => by rw [cel_set, if_pos ⟨rfl, hi⟩]
      rw [e, e, e, e, e]
      exact ⟨rfl, rfl, rfl, .inr ⟨hs, rfl⟩⟩
    · rename_i hs
      rw [cel_setSt _ _ _ _ _ (by decide), cel_setSt _ _ _ _ _ (by decide), cel_setSt _ _ _ _ _ (by decide), cel_setSt _ _ _ _ _ (by decide), cel_setSt4 hi, if_pos rfl]
      exact ⟨rfl, rfl, rfl, .inl ⟨hs, rfl, rfl⟩⟩
end Sp
end Go.Proofs.Ytiiicnhjjfmpkaa
namespace Go.Proofs.Ytiiicnhjjfmpkaa
open Go.RowKit
set_option linter.unusedVariables false
set_option maxRecDepth 100000
end Go.Proofs.Ytiiicnhjjfmpkaa
namespace Go.Proofs.Ytiiicnhjjfmpkaa
set_option linter.unusedVariables false
end Go.Proofs.Ytiiicnhjjfmpkaa
namespace Go.Proofs.Ytiiicnhjjfmpkaa
set_option linter.unusedVariables false
namespace Sp
def isOp (ls : Dt) (j : Nat) : Prop := (cel ls j 4).int = 0
theorem apart_comm (a b c d : Int) : apart a b c d = apart c d a b := by unfold apart; rw [Bool.or_comm]
theorem blocked_no {ls : Dt} {but l c s h : Int} : ∀ (n i : Nat), blocked ls but l c s h i n = false → ∀ j, i ≤ j → j < i + n → (j : Int) ≠ but → way ls j l c s h = false
  | 0, i, _, j, h1, h2, _ => by omega
  | n + 1, i, e, j, h1, h2, h3 => by
    rw [blocked, Bool.or_eq_false_iff] at e
    by_cases hj : i = j
    · subst hj
      rw [if_neg h3] at e
      exact e.1
    · exact blocked_no n (i + 1) e.2 j (by omega) (by omega) h3
theorem way_no {ls : Dt} {j : Nat} {l c s h : Int} (e : way ls j l c s h = false) (ho : isOp ls j) (hs : (cel ls j 0).int = l ∨ (cel ls j 1).int = c) : apart (cel ls j 2).int (cel ls j 3).int s h = true := by
  unfold way at e
  rw [if_pos (show (cel ls j 4).int = 0 from ho), if_pos hs] at e
  exact notF e
theorem moveTo_ok {rc ls : Dt} {es : List (Int × Int)} {l c h i : Int} : ∀ (n : Nat) (s t : Int), moveTo rc ls es l c h i n s = some t → (∃ k : Nat, t = s + 24 * k) ∧ t + h ≤ 4800 ∧ dryB rc es c t = true ∧ blocked ls i l c t h 0 ls.length = false
  | 0, s, t, e => by simp [moveTo] at e
  | n + 1, s, t, e => by
    unfold moveTo at e
    split at e
    · rename_i h1
      split at e
      · rename_i h2
        cases e
        simp only [Bool.and_eq_true, Bool.not_eq_true'] at h2
        exact ⟨⟨0, by simp⟩, h1, h2.1, h2.2⟩
      · obtain ⟨⟨k, hk⟩, r⟩ := moveTo_ok n (s + 24) t e
        exact ⟨⟨k + 1, by omega⟩, r⟩
    · cases e
theorem tmod_day {s : Int} (h : 0 ≤ s) (k : Nat) : (s + 24 + 24 * k).tmod 24 = s.tmod 24 := by
  rw [Int.tmod_eq_emod_of_nonneg (by omega), Int.tmod_eq_emod_of_nonneg h]
  omega
theorem fits_day {lo hi s h : Int} (h0 : 0 ≤ s) (k : Nat) : fits lo hi (s + 24 + 24 * k) h = fits lo hi s h := by
  unfold fits
  rw [tmod_day h0 k]
structure Good (lo hi : Int) (ls : Dt) : Prop where
  fit : ∀ j, j < ls.length → isOp ls j → fits lo hi (cel ls j 2).int (cel ls j 3).int = true
  apart : ∀ j k, j < ls.length → k < ls.length → j ≠ k → isOp ls j → isOp ls k → ((cel ls j 0).int = (cel ls k 0).int ∨ (cel ls j 1).int = (cel ls k 1).int) → Sp.apart (cel ls j 2).int (cel ls j 3).int (cel ls k 2).int (cel ls k 3).int = true
theorem Good.setSt {lo hi : Int} {ls : Dt} (h : Good lo hi ls) {i st : Int} (hi' : i.toNat < ls.length) (hs : st ≠ 0) : Good lo hi (setSt ls i st) := by
  have op : ∀ j, isOp (Sp.setSt ls i st) j → isOp ls j := fun j e => by
    unfold isOp at *
    rw [cel_setSt4 hi'] at e
    split at e
    · exact absurd e hs
    · exact e
  refine ⟨fun j hj ho => ?_, fun j k hj hk hn h1 h2 h3 => ?_⟩
  · rw [cel_setSt _ _ _ _ 2 (by decide), cel_setSt _ _ _ _ 3 (by decide)]
    rw [setSt_len] at hj
    exact h.fit j hj (op j ho)
  · rw [setSt_len] at hj hk
    simp only [cel_setSt _ _ _ _ 0 (by decide), cel_setSt _ _ _ _ 1 (by decide), cel_setSt _ _ _ _ 2 (by decide), cel_setSt _ _ _ _ 3 (by decide)] at *
    exact h.apart j k hj hk hn (op j h1) (op k h2) h3
theorem Good.move {lo hi : Int} {rc ls : Dt} {es : List (Int × Int)} (h : Good lo hi ls) {i : Int} (h0 : 0 ≤ i) (hi' : i.toNat < ls.length) (hs : 0 ≤ (cel ls i.toNat 2).int) (ho : isOp ls i.toNat) :
    Good lo hi (moveL rc ls es i) ∧ (isOp (moveL rc ls es i) i.toNat → dryB rc es (cel (moveL rc ls es i) i.toNat 1).int (cel (moveL rc ls es i) i.toNat 2).int = true) := by
  have hrow := fun j => moveL_row (rc := rc) (es := es) hi' j
  obtain ⟨r0, r1, r3, r4⟩ := (hrow i.toNat).2 rfl
  have hlen := moveL_len rc ls es i
  have mv : isOp (moveL rc ls es i) i.toNat → (∃ k : Nat, (cel (moveL rc ls es i) i.toNat 2).int = (cel ls i.toNat 2).int + 24 + 24 * k) ∧ dryB rc es (cel ls i.toNat 1).int (cel (moveL rc ls es i) i.toNat 2).int = true ∧ blocked ls i (cel ls i.toNat 0).int (cel ls i.toNat 1).int (cel (moveL rc ls es i) i.toNat 2).int (cel ls i.toNat 3).int 0 ls.length = false := fun e => by
    rcases r4 with ⟨_, _, r4⟩ | ⟨r4, _⟩
    · unfold isOp at e; rw [r4] at e; exact absurd e (by decide)
    · obtain ⟨a, b, c, d⟩ := moveTo_ok _ _ _ r4
      exact ⟨a, c, d⟩
  have op : ∀ j, i.toNat ≠ j → isOp (moveL rc ls es i) j → isOp ls j := fun j hj e => by
    unfold isOp at *
    rwa [(hrow j).1 hj] at e
  have key : isOp (moveL rc ls es i) i.toNat → ∀ k, k < ls.length → i.toNat ≠ k → isOp ls k → ((cel ls k 0).int = (cel ls i.toNat 0).int ∨ (cel ls k 1).int = (cel ls i.toNat 1).int) → Sp.apart (cel ls k 2).int (cel ls k 3).int (cel (moveL rc ls es i) i.toNat 2).int (cel ls i.toNat 3).int = true := fun e k hk hn h1 h2 =>
    way_no (blocked_no _ _ (mv e).2.2 k (by omega) (by omega) (by omega)) h1 h2
  refine ⟨⟨fun j hj e => ?_, fun j k hj hk hn h1 h2 h3 => ?_⟩, fun e => ?_⟩
  · rw [hlen] at hj
    by_cases hj' : i.toNat = j
    · subst hj'
      obtain ⟨⟨k, hk⟩, _⟩ := mv e
      rw [r3, hk, fits_day hs]
      exact h.fit _ hj ho
    · rw [(hrow j).1 hj', (hrow j).1 hj']
      exact h.fit j hj (op j hj' e)
  · rw [hlen] at hj hk
    by_cases hj' : i.toNat = j
    · subst hj'
      simp only [(hrow k).1 hn, r0, r1, r3] at *
      rw [apart_comm]
      exact key h1 k hk hn (op k hn h2) (h3.imp Eq.symm Eq.symm)
    · by_cases hk' : i.toNat = k
      · subst hk'
        simp only [(hrow j).1 hj', r0, r1, r3] at *
        exact key h2 j hj hj' (op j hj' h1) h3
      · simp only [(hrow j).1 hj', (hrow k).1 hk'] at *
        exact h.apart j k hj hk hn (op j hj' h1) (op k hk' h2) h3
  · rw [r1]
    exact (mv e).2.1
end Sp
end Go.Proofs.Ytiiicnhjjfmpkaa
namespace Go.Proofs.Ytiiicnhjjfmpkaa
set_option linter.unusedVariables false
namespace Sp
def onT (evs er : Dt) (j : Nat) (t : Int) : Int := if (cel er j 0).int = 0 then (cel evs j 1).int else t
theorem onT_def (evs er : Dt) (j : Nat) (t : Int) : onT evs er j t = if (cel er j 0).int = 0 then (cel evs j 1).int else t := rfl
theorem time_run (s : Sch) (evs : Dt) : ∀ n, n ≤ evs.length → (bk s evs n).tm = iter (onT evs (errAll s evs)) n 0 0
  | 0, _ => rfl
  | n + 1, hn => by
    rw [iter_succ, Nat.zero_add, ← time_run s evs n (by omega), onT_def]
    by_cases he : (cel (errAll s evs) n 0).int = 0
    · obtain ⟨_, _, _, _, h5⟩ := done_ok (show n < evs.length by omega) he
      rw [h5, if_pos he]
      rfl
    · obtain ⟨e, h1⟩ := done_no (show n < evs.length by omega) he
      rw [h1, if_neg he]
end Sp
end Go.Proofs.Ytiiicnhjjfmpkaa
namespace Go.Proofs.Ytiiicnhjjfmpkaa
open Go.RowKit
set_option linter.unusedVariables false
set_option maxRecDepth 100000
namespace Sp
def same (ls : Dt) (j k : Nat) : Prop := (cel ls j 0).int = (cel ls k 0).int ∨ (cel ls j 1).int = (cel ls k 1).int
end Sp
end Go.Proofs.Ytiiicnhjjfmpkaa
namespace Go.Proofs.Ytiiicnhjjfmpkaa
open Go.RowKit
set_option linter.unusedVariables false
set_option maxRecDepth 100000
end Go.Proofs.Ytiiicnhjjfmpkaa
namespace Go.Proofs.Ytiiicnhjjfmpkaa
set_option linter.unusedVariables false
namespace Sp
structure Rel (a b : Bks) : Prop where
  ls : a.ls = b.ls
  km : a.km = b.km
  si : a.si = b.si
  ac : a.ac = b.ac
  es : a.es = b.es
  tm : a.tm = b.tm
theorem Rel.refl (a : Bks) : Rel a a := ⟨rfl, rfl, rfl, rfl, rfl, rfl⟩
theorem Rel.post {a b : Bks} (h : Rel a b) (u v c : Int) : Rel (a.post u v c) (b.post u v c) := ⟨h.ls, h.km, h.si, by show postA a.ac u v c = postA b.ac u v c; rw [h.ac], h.es, h.tm⟩
theorem Rel.err {s : Sch} {a b : Bks} (h : Rel a b) (x : Evt) : err s a x = err s b x := by
  unfold Sp.err
  rw [h.ls, h.si, h.es]
theorem Rel.eff {s : Sch} {a b : Bks} (h : Rel a b) (x : Evt) : Rel (eff s a x) (eff s b x) := by
  obtain ⟨ls, km, si, ac, es, ps, tm, ev⟩ := a
  obtain ⟨ls', km', si', ac', es', ps', tm', ev'⟩ := b
  obtain ⟨h1, h2, h3, h4, h5, h6⟩ := h
  simp only at h1 h2 h3 h4 h5 h6
  subst h1 h2 h3 h4 h5 h6
  unfold Sp.eff
  dsimp only
  repeat' split
  all_goals exact ⟨rfl, rfl, rfl, rfl, rfl, rfl⟩
theorem Rel.doE {s : Sch} {a b : Bks} (h : Rel a b) (n m : Int) (x : Evt) : doE s a n x = doE s b m x := by
  unfold Sp.doE
  rw [h.tm, h.err]
theorem Rel.doB {s : Sch} {a b : Bks} (h : Rel a b) (n m : Int) (x : Evt) : Rel (doB s a n x) (doB s b m x) := by
  have h1 : Rel { a with ev := n } { b with ev := m } := ⟨h.ls, h.km, h.si, h.ac, h.es, h.tm⟩
  have h2 := h1.eff (s := s) x
  have he := h.err (s := s) x
  have h3 : Rel { Sp.eff s { a with ev := n } x with tm := x.at_ } { Sp.eff s { b with ev := m } x with tm := x.at_ } := ⟨h2.ls, h2.km, h2.si, h2.ac, h2.es, rfl⟩
  have ht := h.tm
  unfold Sp.doB
  rw [he]
  by_cases e1 : (!inr x.kind 0 6) = true
  · rw [if_pos e1, if_pos e1]; exact h
  rw [if_neg e1, if_neg e1]
  by_cases e2 : (!inr x.at_ a.tm 4800) = true
  · have e2' : (!inr x.at_ b.tm 4800) = true := ht ▸ e2
    rw [if_pos e2, if_pos e2']; exact h
  have e2' : ¬ (!inr x.at_ b.tm 4800) = true := ht ▸ e2
  rw [if_neg e2, if_neg e2']
  by_cases e3 : Sp.err s b x = 0
  · rw [if_pos e3, if_pos e3]; exact h3
  · rw [if_neg e3, if_neg e3]; exact h1
theorem rErr_more {s : Sch} {evs : Dt} (r : List Cl) (h : evs.length < 60) : rErr s (evs ++ [r]) = rErr s evs := by
  unfold rErr runErr
  rw [List.length_append, List.length_singleton]
  split
  · rw [if_neg (by omega), if_neg (by omega)]
  · rfl
theorem more_errs {s : Sch} {evs : Dt} (r : List Cl) : errAll s (evs ++ [r]) = errAll s evs ++ [[.i (doE s (bk s evs evs.length) evs.length (evt (evs ++ [r]) evs.length))]] := by
  have key : ∀ (n : Nat) (i : Int) (b : Bks), runE s (evs ++ [r]) (n + 1) i b = runE s (evs ++ [r]) n i b ++ [[.i (doE s (runB s (evs ++ [r]) n i b) (i + n) (evt (evs ++ [r]) (i + n)))]] := by
    intro n
    induction n with
    | zero => intro i b; simp [runE, runB]
    | succ n ih =>
      intro i b
      rw [runE, ih, runE, runB, show i + 1 + (n : Int) = i + ((n + 1 : Nat) : Int) by omega]
      rfl
  have cong : ∀ (n : Nat) (i : Int) (b : Bks), 0 ≤ i → i + n ≤ evs.length → runE s (evs ++ [r]) n i b = runE s evs n i b := by
    intro n
    induction n with
    | zero => intro i b _ _; rfl
    | succ n ih =>
      intro i b h0 h1
      have : evt (evs ++ [r]) i = evt evs i := by
        have := evt_left evs [r] i.toNat (by omega)
        rwa [Int.toNat_of_nonneg h0] at this
      rw [runE, runE, this, ih _ _ (by omega) (by omega)]
  unfold errAll
  rw [List.length_append, List.length_singleton, key, cong _ _ _ (by omega) (by omega), Int.zero_add]
  have := bk_left s evs [r] evs.length (Nat.le_refl _)
  unfold bk at this
  rw [this]
  rfl
theorem more_evt {evs : Dt} (r : List Cl) : evt (evs ++ [r]) evs.length = ⟨rI r 0, rI r 1, rI r 2, rI r 3, rI r 4, rI r 5, rI r 6, rI r 7, rI r 8, rI r 9, rI r 10⟩ := by
  have e : ∀ k, cel (evs ++ [r]) evs.length k = r.getD k .z := fun k => by rw [cel_right _ _ _ _ (Nat.le_refl _), Nat.sub_self]; rfl
  unfold evt
  simp only [Int.toNat_natCast, e]
  rfl
theorem firstH_some {s : Sch} {b : Bks} {l c h : Int} : ∀ (n : Nat) (x t : Int), firstH s b l c h n x = some t → x ≤ t ∧ t < x + n ∧ canE s.rl s.rc s.lo s.hi b.ls b.es b.tm l c t h = 0 ∧ ∀ u, x ≤ u → u < t → canE s.rl s.rc s.lo s.hi b.ls b.es b.tm l c u h ≠ 0
  | 0, x, t, e => by cases e
  | n + 1, x, t, e => by
    rw [firstH] at e
    split at e
    · rename_i h1
      cases e
      exact ⟨by omega, by omega, h1, fun u h2 h3 => by omega⟩
    · rename_i h1
      obtain ⟨a, b, c, d⟩ := firstH_some n (x + 1) t e
      refine ⟨by omega, by omega, c, fun u h2 h3 => ?_⟩
      by_cases hu : u = x
      · rw [hu]; exact h1
      · exact d u (by omega) h3
theorem firstH_none {s : Sch} {b : Bks} {l c h : Int} : ∀ (n : Nat) (x : Int), firstH s b l c h n x = none → ∀ u, x ≤ u → u < x + n → canE s.rl s.rc s.lo s.hi b.ls b.es b.tm l c u h ≠ 0
  | 0, x, e => fun u h2 h3 => by omega
  | n + 1, x, e => fun u h2 h3 => by
    rw [firstH] at e
    split at e
    · cases e
    · rename_i h1
      by_cases hu : u = x
      · rw [hu]; exact h1
      · exact firstH_none n (x + 1) e u (by omega) (by omega)
end Sp
end Go.Proofs.Ytiiicnhjjfmpkaa
namespace Go.Proofs.Ytiiicnhjjfmpkaa
open Go.RowKit
set_option linter.unusedVariables false
set_option maxRecDepth 100000
def sp_soA [InW] (e : List Ed) (K : Nat → List Ed → Prop) : Prop := match e with
  | [.ro _ evs, .i f, .i i, .ro _ rl, .ro _ rc, .i pr, .i ex, .i lo, .i hi, .ro _ rt, .l er, .i xa, .i xb, .i xc, .i xd, .i xe, .i t, .i l, .i c, .i hr] =>
    Pre (0 ≤ i ∧ i ≤ evs.xs.length ∧ evs.xs.length ≤ 1000 ∧ er.length = evs.xs.length)
      (K 0 [.ro _ evs, .i f, .ro _ rl, .ro _ rc, .i pr, .i ex, .i lo, .i hi, .ro _ rt, .i xa, .i xb, .i xc, .i xd, .i xe, .i (Sp.iter (Sp.onT evs.xs er) (evs.xs.length - i.toNat) i.toNat t), .i l, .i c, .i hr])
  | _ => False
noncomputable def lc_soA : LC where
  len := 191
  T := [(1, .rs Iv11), (3, (.ptr 1 0)), (5, (.ptr 46 0)), (7, (.row 28)), (10, (.ptr 40 0)), (11, .int .i64), (12, .int .i64)]
  H := [(1, .blk 28 [.rs [.str], .rs Ivs, .int .i64, .int .i64, .int .i64, .int .i64, .rs [.int .i64, .int .i64]]), (28, .arr 30 [.int .i64]), (46, .blk 77 [.int .u16, .int .u16, .int .u16, .int .u16, .int .u16]), (40, .blk 65 [(.lit (.int .i64 0)), .int .i64, .int .i64, .int .i64, (.lit (.int .i64 0)), (.lit (.int .i64 0)), .int .i64, (.lit (.int .i64 0)), (.lit (.int .i64 0)), (.lit (.int .i64 0)), (.lit (.int .i64 0))])]
  W := [70, 71, 72, 73, 74, 75, 76, 77, 78, 79, 80, 81, 82, 83, 84, 85, 86]
  outs := [⟨.exit 0, [(1, .rs Iv11), (3, (.ptr 1 0)), (5, (.ptr 46 0)), (10, (.ptr 40 0)), (11, .int .i64)], [(1, .blk 28 [.rs [.str], .rs Ivs, .int .i64, .int .i64, .int .i64, .int .i64, .rs [.int .i64, .int .i64]]), (46, .blk 77 [.int .u16, .int .u16, .int .u16, .int .u16, .int .u16]), (40, .blk 65 [(.lit (.int .i64 0)), .int .i64, .int .i64, .int .i64, (.lit (.int .i64 0)), (.lit (.int .i64 0)), .int .i64, (.lit (.int .i64 0)), (.lit (.int .i64 0)), (.lit (.int .i64 0)), (.lit (.int .i64 0))])], [7, 12, 70, 71, 72, 73, 74, 75, 76, 77, 78, 79, 80, 81, 82, 83, 84, 85, 86]⟩]
  spec := sp_soA
def VCL_soA [W : InW] (evs : Ro Iv11) (f : Int) (i : Int) (rl : Ro [.str]) (rc : Ro Ivs) (pr : Int) (ex : Int) (lo : Int) (hi : Int) (rt : Ro [.int .i64, .int .i64]) (er : Dt) (xa : Int) (xb : Int) (xc : Int) (xd : Int) (xe : Int) (t : Int) (l : Int) (c : Int) (hr : Int) (A : List Ed → Prop) (K : Nat → List Ed → Prop) : Prop :=
  Vif (decide (i < (↑(List.length evs.xs) : Int))) (Need (decide ((0 : Int) ≤ i) && decide (i < (↑(List.length er) : Int))) (Need (decide (i.toNat < List.length er)) (Vif (decide ((cel er i.toNat (0 : Nat)).int = (0 : Int))) (Need (decide ((0 : Int) ≤ i) && decide (i < (↑(List.length evs.xs) : Int))) (Need (decide (i.toNat < List.length evs.xs)) (Ar .i64 (i + (1 : Int)) fun z => A [.ro _ evs, .i f, .i z, .ro _ rl, .ro _ rc, .i pr, .i ex, .i lo, .i hi, .ro _ rt, .l er, .i xa, .i xb, .i xc, .i xd, .i xe, .i (cel evs.xs i.toNat ((0 : Nat) + (1 : Nat))).int, .i l, .i c, .i hr]))) (Ar .i64 (i + (1 : Int)) fun z => A [.ro _ evs, .i f, .i z, .ro _ rl, .ro _ rc, .i pr, .i ex, .i lo, .i hi, .ro _ rt, .l er, .i xa, .i xb, .i xc, .i xd, .i xe, .i t, .i l, .i c, .i hr])))) (K (0 : Nat) [.ro _ evs, .i f, .ro _ rl, .ro _ rc, .i pr, .i ex, .i lo, .i hi, .ro _ rt, .i xa, .i xb, .i xc, .i xd, .i xe, .i t, .i l, .i c, .i hr])
theorem vcl_soA (W : InW) (evs : Ro Iv11) (f : Int) (i : Int) (rl : Ro [.str]) (rc : Ro Ivs) (pr : Int) (ex : Int) (lo : Int) (hi : Int) (rt : Ro [.int .i64, .int .i64]) (er : Dt) (xa : Int) (xb : Int) (xc : Int) (xd : Int) (xe : Int) (t : Int) (l : Int) (c : Int) (hr : Int) (A : List Ed → Prop) (K : Nat → List Ed → Prop) : vcTop { cxT Try.prog TT TPl 1000 50 with fn := 15 } 1000 (loopAt Try.prog 15 10) (tmOut 191 [(1, .rs _ evs), (3, .ptr 1 0), (5, .ptr 46 0), (7, .rw 28), (10, .ptr 40 0), (11, .si .i64 f), (12, .si .i64 i)] [70, 71, 72, 73, 74, 75, 76, 77, 78, 79, 80, 81, 82, 83, 84, 85, 86]) [(1, .blk 28 [.rs _ rl, .rs _ rc, .si .i64 pr, .si .i64 ex, .si .i64 lo, .si .i64 hi, .rs _ rt]), (28, .arr 30 [.int .i64] er), (46, .blk 77 [.si .u16 xa, .si .u16 xb, .si .u16 xc, .si .u16 xd, .si .u16 xe]), (40, .blk 65 [.v (.int .i64 0), .si .i64 t, .si .i64 l, .si .i64 c, .v (.int .i64 0), .v (.int .i64 0), .si .i64 hr, .v (.int .i64 0), .v (.int .i64 0), .v (.int .i64 0), .v (.int .i64 0)])] (roundL lc_soA A K) = VCL_soA evs f i rl rc pr ex lo hi rt er xa xb xc xd xe t l c hr A K := by kernel_rfl
def okLt_soA : Prop := ∀ (W : InW) (body a : Code), (Try.prog.funcs[15]?).bind (·.body) = some body → a ∈ loopsIn body → keyOf a = 10 → @LoopOk W Try.prog a (@loopRun W lc_soA)
theorem okl_soA (meas : [InW] → List Ed → Nat) (hyp_ : ∀ (W : InW) (evs : Ro Iv11) (f : Int) (i : Int) (rl : Ro [.str]) (rc : Ro Ivs) (pr : Int) (ex : Int) (lo : Int) (hi : Int) (rt : Ro [.int .i64, .int .i64]) (er : Dt) (xa : Int) (xb : Int) (xc : Int) (xd : Int) (xe : Int) (t : Int) (l : Int) (c : Int) (hr : Int) (K : Nat → List Ed → Prop), sp_soA [.ro _ evs, .i f, .i i, .ro _ rl, .ro _ rc, .i pr, .i ex, .i lo, .i hi, .ro _ rt, .l er, .i xa, .i xb, .i xc, .i xd, .i xe, .i t, .i l, .i c, .i hr] K → ∀ A : List Ed → Prop, (∀ e, meas e < meas [.ro _ evs, .i f, .i i, .ro _ rl, .ro _ rc, .i pr, .i ex, .i lo, .i hi, .ro _ rt, .l er, .i xa, .i xb, .i xc, .i xd, .i xe, .i t, .i l, .i c, .i hr] → sp_soA e K → A e) → VCL_soA evs f i rl rc pr ex lo hi rt er xa xb xc xd xe t l c hr A K) : okLt_soA :=
  LE.okOf' (fun W => @TT W) (fun W => @TT_ok W) mixed_ok TPl 1000 50 (by kernel_rfl) lc_soA (fun W => @meas W) fun W evs f i rl rc pr ex lo hi rt er xa xb xc xd xe t l c hr K hs =>
    (vcl_soA W evs f i rl rc pr ex lo hi rt er xa xb xc xd xe t l c hr (fun e => meas e < meas [.ro _ evs, .i f, .i i, .ro _ rl, .ro _ rc, .i pr, .i ex, .i lo, .i hi, .ro _ rt, .l er, .i xa, .i xb, .i xc, .i xd, .i xe, .i t, .i l, .i c, .i hr] ∧ sp_soA e K) K).mpr (hyp_ W evs f i rl rc pr ex lo hi rt er xa xb xc xd xe t l c hr K hs _ fun e h1 h2 => ⟨h1, h2⟩)
theorem okLsoA : okLt_soA := okl_soA (fun e => match e with | .ro _ evs :: _ :: .i i :: _ => ((evs.xs.length : Int) - i).toNat | _ => 0) fun W evs f i rl rc pr ex lo hi rt er xa xb xc xd xe t l c hr K hs A hA => by
  obtain ⟨⟨h0, h1, h2, h3⟩, hk⟩ := hs
  unfold VCL_soA
  simp only [Nat.zero_add, Nat.reduceAdd]
  refine vifd (fun e => ?_) fun e => ?_
  · have hx : i.toNat < evs.xs.length := by omega
    have hA' : A [.ro _ evs, .i f, .i (i + 1), .ro _ rl, .ro _ rc, .i pr, .i ex, .i lo, .i hi, .ro _ rt, .l er, .i xa, .i xb, .i xc, .i xd, .i xe, .i (Sp.onT evs.xs er i.toNat t), .i l, .i c, .i hr] := by
      refine hA _ (by show ((evs.xs.length : Int) - (i + 1)).toNat < ((evs.xs.length : Int) - i).toNat; omega) ⟨⟨by omega, by omega, h2, h3⟩, ?_⟩
      rw [show evs.xs.length - i.toNat = (evs.xs.length - (i.toNat + 1)) + 1 by omega, Sp.iter] at hk
      rw [show (i + 1).toNat = i.toNat + 1 by omega]
      exact hk
    clear hA hk
    unfold Sp.onT at hA'
    by_cases e1 : (cel er i.toNat 0).int = 0
    · rw [if_pos e1] at hA'
      repeat' (first | refine vifd (fun _ => ?_) fun _ => ?_ | refine vifn (fun _ => ?_) fun _ => ?_ | refine nedd (by omega) ?_ | refine ned (by simp only [Bool.and_eq_true, decide_eq_true_eq]; omega) ?_ | refine ar64 (by omega) ?_ | omega)
      all_goals exact hA'
    · rw [if_neg e1] at hA'
      repeat' (first | refine vifd (fun _ => ?_) fun _ => ?_ | refine vifn (fun _ => ?_) fun _ => ?_ | refine nedd (by omega) ?_ | refine ned (by simp only [Bool.and_eq_true, decide_eq_true_eq]; omega) ?_ | refine ar64 (by omega) ?_ | omega)
      all_goals exact hA'
  · rw [show evs.xs.length - i.toNat = 0 by omega] at hk
    exact hk
noncomputable def le_soA : LE Try.prog := ⟨15, 10, fun W => @loopRun W lc_soA, okLsoA⟩
noncomputable def TPs : Tab Try.prog := ⟨[pc_bRun, pc_bFirst, pc_valid, pc_Awake], [le_soA], []⟩
def VC_lawSoon [W : InW] (s_Learners : Ro [.str]) (s_Cars : Ro Ivs) (s_Price : Int) (s_Excess : Int) (s_Lo : Int) (s_Hi : Int) (s_Terms : Ro [.int .i64, .int .i64]) (evs : Ro Iv11) (x_a : Int) (x_b : Int) (x_c : Int) (x_d : Int) (x_e : Int) (Q : DS → Prop) : Prop :=
  Pre (Sp.NamesOk s_Learners.xs ∧ Sp.NamesOk s_Cars.xs) (Vif (!decide (Sp.chkE s_Learners.xs s_Cars.xs s_Price s_Excess s_Lo s_Hi s_Terms.xs = (0 : Int))) (Pre True (Q [[Cl.b true]])) (Vif (decide ((60 : Int) ≤ (↑(List.length evs.xs) : Int))) (Pre True (Q [[Cl.b true]])) (Pre True (Vif (!decide (Sp.rErr ⟨s_Learners.xs, s_Cars.xs, s_Price, s_Excess, s_Lo, s_Hi, s_Terms.xs⟩ evs.xs = (0 : Int))) (Q [[Cl.b false]]) (Vif (!decide ((↑(List.length (Sp.rE ⟨s_Learners.xs, s_Cars.xs, s_Price, s_Excess, s_Lo, s_Hi, s_Terms.xs⟩ evs.xs)) : Int) = (↑(List.length evs.xs) : Int))) (Q [[Cl.b false]]) (Ar .i64 x_a fun z => Need (!decide ((↑(List.length s_Learners.xs) : Int) = (0 : Int))) (Ar .i64 x_b fun z_1 => Need (!decide ((↑(List.length s_Cars.xs) : Int) = (0 : Int))) (Ar .i64 x_c fun z_2 => Ar .i64 ((1 : Int) + z_2.tmod (4 : Int)) fun z_3 => Ar .i64 x_d fun z_4 => Pre ((0 : Int) ≤ (0 : Int) ∧ (0 : Int) ≤ (↑(List.length evs.xs) : Int) ∧ List.length evs.xs ≤ (1000 : Nat) ∧ List.length (Sp.rE ⟨s_Learners.xs, s_Cars.xs, s_Price, s_Excess, s_Lo, s_Hi, s_Terms.xs⟩ evs.xs) = List.length evs.xs) (Pre True (Vif (!decide (Sp.firE ⟨s_Learners.xs, s_Cars.xs, s_Price, s_Excess, s_Lo, s_Hi, s_Terms.xs⟩ evs.xs (z.tmod (↑(List.length s_Learners.xs) : Int)) (z_1.tmod (↑(List.length s_Cars.xs) : Int)) (z_4.tmod (4801 : Int)) z_3 = (0 : Int))) (Vif (!decide (Sp.firE ⟨s_Learners.xs, s_Cars.xs, s_Price, s_Excess, s_Lo, s_Hi, s_Terms.xs⟩ evs.xs (z.tmod (↑(List.length s_Learners.xs) : Int)) (z_1.tmod (↑(List.length s_Cars.xs) : Int)) (z_4.tmod (4801 : Int)) z_3 = (9 : Int))) (Q [[Cl.b false]]) (Vif (decide (Sp.firE ⟨s_Learners.xs, s_Cars.xs, s_Price, s_Excess, s_Lo, s_Hi, s_Terms.xs⟩ evs.xs (z.tmod (↑(List.length s_Learners.xs) : Int)) (z_1.tmod (↑(List.length s_Cars.xs) : Int)) (z_4.tmod (4801 : Int)) z_3 = (0 : Int))) (Vif (decide (Sp.firV ⟨s_Learners.xs, s_Cars.xs, s_Price, s_Excess, s_Lo, s_Hi, s_Terms.xs⟩ evs.xs (z.tmod (↑(List.length s_Learners.xs) : Int)) (z_1.tmod (↑(List.length s_Cars.xs) : Int)) (z_4.tmod (4801 : Int)) z_3 < z_4.tmod (4801 : Int))) (Q [[Cl.b false]]) (Need (decide (((0 : Nat) + List.length evs.xs) * (88 : Nat) ≤ (140737488355328 : Nat))) (Need (decide ((List.length evs.xs + [[Cl.i (0 : Int), Cl.i (Sp.iter (Sp.onT evs.xs (Sp.rE ⟨s_Learners.xs, s_Cars.xs, s_Price, s_Excess, s_Lo, s_Hi, s_Terms.xs⟩ evs.xs)) (List.length evs.xs - Int.toNat (0 : Int)) (Int.toNat (0 : Int)) (0 : Int)), Cl.i (z.tmod (↑(List.length s_Learners.xs) : Int)), Cl.i (z_1.tmod (↑(List.length s_Cars.xs) : Int)), Cl.i (0 : Int), Cl.i (Sp.firV ⟨s_Learners.xs, s_Cars.xs, s_Price, s_Excess, s_Lo, s_Hi, s_Terms.xs⟩ evs.xs (z.tmod (↑(List.length s_Learners.xs) : Int)) (z_1.tmod (↑(List.length s_Cars.xs) : Int)) (z_4.tmod (4801 : Int)) z_3), Cl.i z_3, Cl.i (0 : Int), Cl.i (0 : Int), Cl.i (0 : Int), Cl.i (0 : Int)]].length) * (88 : Nat) ≤ (140737488355328 : Nat))) (Pre True (Vif (!decide (Sp.rErr ⟨s_Learners.xs, s_Cars.xs, s_Price, s_Excess, s_Lo, s_Hi, s_Terms.xs⟩ (evs.xs ++ [[Cl.i (0 : Int), Cl.i (Sp.iter (Sp.onT evs.xs (Sp.rE ⟨s_Learners.xs, s_Cars.xs, s_Price, s_Excess, s_Lo, s_Hi, s_Terms.xs⟩ evs.xs)) (List.length evs.xs - Int.toNat (0 : Int)) (Int.toNat (0 : Int)) (0 : Int)), Cl.i (z.tmod (↑(List.length s_Learners.xs) : Int)), Cl.i (z_1.tmod (↑(List.length s_Cars.xs) : Int)), Cl.i (0 : Int), Cl.i (Sp.firV ⟨s_Learners.xs, s_Cars.xs, s_Price, s_Excess, s_Lo, s_Hi, s_Terms.xs⟩ evs.xs (z.tmod (↑(List.length s_Learners.xs) : Int)) (z_1.tmod (↑(List.length s_Cars.xs) : Int)) (z_4.tmod (4801 : Int)) z_3), Cl.i z_3, Cl.i (0 : Int), Cl.i (0 : Int), Cl.i (0 : Int), Cl.i (0 : Int)]]) = (0 : Int))) (Q [[Cl.b false]]) (Ar .i64 ((↑(List.length evs.xs) : Int) + (1 : Int)) fun z_5 => Vif (!decide ((↑(List.length (Sp.rE ⟨s_Learners.xs, s_Cars.xs, s_Price, s_Excess, s_Lo, s_Hi, s_Terms.xs⟩ (evs.xs ++ [[Cl.i (0 : Int), Cl.i (Sp.iter (Sp.onT evs.xs (Sp.rE ⟨s_Learners.xs, s_Cars.xs, s_Price, s_Excess, s_Lo, s_Hi, s_Terms.xs⟩ evs.xs)) (List.length evs.xs - Int.toNat (0 : Int)) (Int.toNat (0 : Int)) (0 : Int)), Cl.i (z.tmod (↑(List.length s_Learners.xs) : Int)), Cl.i (z_1.tmod (↑(List.length s_Cars.xs) : Int)), Cl.i (0 : Int), Cl.i (Sp.firV ⟨s_Learners.xs, s_Cars.xs, s_Price, s_Excess, s_Lo, s_Hi, s_Terms.xs⟩ evs.xs (z.tmod (↑(List.length s_Learners.xs) : Int)) (z_1.tmod (↑(List.length s_Cars.xs) : Int)) (z_4.tmod (4801 : Int)) z_3), Cl.i z_3, Cl.i (0 : Int), Cl.i (0 : Int), Cl.i (0 : Int), Cl.i (0 : Int)]]))) : Int) = z_5)) (Q [[Cl.b false]]) (Need (decide ((0 : Int) ≤ (↑(List.length evs.xs) : Int)) && decide ((↑(List.length evs.xs) : Int) < (↑(List.length (Sp.rE ⟨s_Learners.xs, s_Cars.xs, s_Price, s_Excess, s_Lo, s_Hi, s_Terms.xs⟩ (evs.xs ++ [[Cl.i (0 : Int), Cl.i (Sp.iter (Sp.onT evs.xs (Sp.rE ⟨s_Learners.xs, s_Cars.xs, s_Price, s_Excess, s_Lo, s_Hi, s_Terms.xs⟩ evs.xs)) (List.length evs.xs - Int.toNat (0 : Int)) (Int.toNat (0 : Int)) (0 : Int)), Cl.i (z.tmod (↑(List.length s_Learners.xs) : Int)), Cl.i (z_1.tmod (↑(List.length s_Cars.xs) : Int)), Cl.i (0 : Int), Cl.i (Sp.firV ⟨s_Learners.xs, s_Cars.xs, s_Price, s_Excess, s_Lo, s_Hi, s_Terms.xs⟩ evs.xs (z.tmod (↑(List.length s_Learners.xs) : Int)) (z_1.tmod (↑(List.length s_Cars.xs) : Int)) (z_4.tmod (4801 : Int)) z_3), Cl.i z_3, Cl.i (0 : Int), Cl.i (0 : Int), Cl.i (0 : Int), Cl.i (0 : Int)]]))) : Int))) (Need (decide ((↑(List.length evs.xs) : Int).toNat < List.length (Sp.rE ⟨s_Learners.xs, s_Cars.xs, s_Price, s_Excess, s_Lo, s_Hi, s_Terms.xs⟩ (evs.xs ++ [[Cl.i (0 : Int), Cl.i (Sp.iter (Sp.onT evs.xs (Sp.rE ⟨s_Learners.xs, s_Cars.xs, s_Price, s_Excess, s_Lo, s_Hi, s_Terms.xs⟩ evs.xs)) (List.length evs.xs - Int.toNat (0 : Int)) (Int.toNat (0 : Int)) (0 : Int)), Cl.i (z.tmod (↑(List.length s_Learners.xs) : Int)), Cl.i (z_1.tmod (↑(List.length s_Cars.xs) : Int)), Cl.i (0 : Int), Cl.i (Sp.firV ⟨s_Learners.xs, s_Cars.xs, s_Price, s_Excess, s_Lo, s_Hi, s_Terms.xs⟩ evs.xs (z.tmod (↑(List.length s_Learners.xs) : Int)) (z_1.tmod (↑(List.length s_Cars.xs) : Int)) (z_4.tmod (4801 : Int)) z_3), Cl.i z_3, Cl.i (0 : Int), Cl.i (0 : Int), Cl.i (0 : Int), Cl.i (0 : Int)]])))) (Vif (!decide ((cel (Sp.rE ⟨s_Learners.xs, s_Cars.xs, s_Price, s_Excess, s_Lo, s_Hi, s_Terms.xs⟩ (evs.xs ++ [[Cl.i (0 : Int), Cl.i (Sp.iter (Sp.onT evs.xs (Sp.rE ⟨s_Learners.xs, s_Cars.xs, s_Price, s_Excess, s_Lo, s_Hi, s_Terms.xs⟩ evs.xs)) (List.length evs.xs - Int.toNat (0 : Int)) (Int.toNat (0 : Int)) (0 : Int)), Cl.i (z.tmod (↑(List.length s_Learners.xs) : Int)), Cl.i (z_1.tmod (↑(List.length s_Cars.xs) : Int)), Cl.i (0 : Int), Cl.i (Sp.firV ⟨s_Learners.xs, s_Cars.xs, s_Price, s_Excess, s_Lo, s_Hi, s_Terms.xs⟩ evs.xs (z.tmod (↑(List.length s_Learners.xs) : Int)) (z_1.tmod (↑(List.length s_Cars.xs) : Int)) (z_4.tmod (4801 : Int)) z_3), Cl.i z_3, Cl.i (0 : Int), Cl.i (0 : Int), Cl.i (0 : Int), Cl.i (0 : Int)]])) (↑(List.length evs.xs) : Int).toNat (0 : Nat)).int = (0 : Int))) (Q [[Cl.b false]]) (Vif (decide (Sp.firV ⟨s_Learners.xs, s_Cars.xs, s_Price, s_Excess, s_Lo, s_Hi, s_Terms.xs⟩ evs.xs (z.tmod (↑(List.length s_Learners.xs) : Int)) (z_1.tmod (↑(List.length s_Cars.xs) : Int)) (z_4.tmod (4801 : Int)) z_3 ≤ z_4.tmod (4801 : Int))) (Pre True (Q [[Cl.b true]])) (Ar .i64 x_e fun z_6 => Ar .i64 (Sp.firV ⟨s_Learners.xs, s_Cars.xs, s_Price, s_Excess, s_Lo, s_Hi, s_Terms.xs⟩ evs.xs (z.tmod (↑(List.length s_Learners.xs) : Int)) (z_1.tmod (↑(List.length s_Cars.xs) : Int)) (z_4.tmod (4801 : Int)) z_3 - z_4.tmod (4801 : Int)) fun z_7 => Need (!decide (z_7 = (0 : Int))) (Ar .i64 (z_4.tmod (4801 : Int) + z_6.tmod z_7) fun z_8 => Need (decide (((0 : Nat) + List.length evs.xs) * (88 : Nat) ≤ (140737488355328 : Nat))) (Need (decide ((List.length evs.xs + [[Cl.i (0 : Int), Cl.i (Sp.iter (Sp.onT evs.xs (Sp.rE ⟨s_Learners.xs, s_Cars.xs, s_Price, s_Excess, s_Lo, s_Hi, s_Terms.xs⟩ evs.xs)) (List.length evs.xs - Int.toNat (0 : Int)) (Int.toNat (0 : Int)) (0 : Int)), Cl.i (z.tmod (↑(List.length s_Learners.xs) : Int)), Cl.i (z_1.tmod (↑(List.length s_Cars.xs) : Int)), Cl.i (0 : Int), Cl.i z_8, Cl.i z_3, Cl.i (0 : Int), Cl.i (0 : Int), Cl.i (0 : Int), Cl.i (0 : Int)]].length) * (88 : Nat) ≤ (140737488355328 : Nat))) (Pre True (Vif (decide (Sp.rErr ⟨s_Learners.xs, s_Cars.xs, s_Price, s_Excess, s_Lo, s_Hi, s_Terms.xs⟩ (evs.xs ++ [[Cl.i (0 : Int), Cl.i (Sp.iter (Sp.onT evs.xs (Sp.rE ⟨s_Learners.xs, s_Cars.xs, s_Price, s_Excess, s_Lo, s_Hi, s_Terms.xs⟩ evs.xs)) (List.length evs.xs - Int.toNat (0 : Int)) (Int.toNat (0 : Int)) (0 : Int)), Cl.i (z.tmod (↑(List.length s_Learners.xs) : Int)), Cl.i (z_1.tmod (↑(List.length s_Cars.xs) : Int)), Cl.i (0 : Int), Cl.i z_8, Cl.i z_3, Cl.i (0 : Int), Cl.i (0 : Int), Cl.i (0 : Int), Cl.i (0 : Int)]]) = (0 : Int))) (Ar .i64 ((↑(List.length evs.xs) : Int) + (1 : Int)) fun z_9 => Vif (decide ((↑(List.length (Sp.rE ⟨s_Learners.xs, s_Cars.xs, s_Price, s_Excess, s_Lo, s_Hi, s_Terms.xs⟩ (evs.xs ++ [[Cl.i (0 : Int), Cl.i (Sp.iter (Sp.onT evs.xs (Sp.rE ⟨s_Learners.xs, s_Cars.xs, s_Price, s_Excess, s_Lo, s_Hi, s_Terms.xs⟩ evs.xs)) (List.length evs.xs - Int.toNat (0 : Int)) (Int.toNat (0 : Int)) (0 : Int)), Cl.i (z.tmod (↑(List.length s_Learners.xs) : Int)), Cl.i (z_1.tmod (↑(List.length s_Cars.xs) : Int)), Cl.i (0 : Int), Cl.i z_8, Cl.i z_3, Cl.i (0 : Int), Cl.i (0 : Int), Cl.i (0 : Int), Cl.i (0 : Int)]]))) : Int) = z_9)) (Need (decide ((0 : Int) ≤ (↑(List.length evs.xs) : Int)) && decide ((↑(List.length evs.xs) : Int) < (↑(List.length (Sp.rE ⟨s_Learners.xs, s_Cars.xs, s_Price, s_Excess, s_Lo, s_Hi, s_Terms.xs⟩ (evs.xs ++ [[Cl.i (0 : Int), Cl.i (Sp.iter (Sp.onT evs.xs (Sp.rE ⟨s_Learners.xs, s_Cars.xs, s_Price, s_Excess, s_Lo, s_Hi, s_Terms.xs⟩ evs.xs)) (List.length evs.xs - Int.toNat (0 : Int)) (Int.toNat (0 : Int)) (0 : Int)), Cl.i (z.tmod (↑(List.length s_Learners.xs) : Int)), Cl.i (z_1.tmod (↑(List.length s_Cars.xs) : Int)), Cl.i (0 : Int), Cl.i z_8, Cl.i z_3, Cl.i (0 : Int), Cl.i (0 : Int), Cl.i (0 : Int), Cl.i (0 : Int)]]))) : Int))) (Need (decide ((↑(List.length evs.xs) : Int).toNat < List.length (Sp.rE ⟨s_Learners.xs, s_Cars.xs, s_Price, s_Excess, s_Lo, s_Hi, s_Terms.xs⟩ (evs.xs ++ [[Cl.i (0 : Int), Cl.i (Sp.iter (Sp.onT evs.xs (Sp.rE ⟨s_Learners.xs, s_Cars.xs, s_Price, s_Excess, s_Lo, s_Hi, s_Terms.xs⟩ evs.xs)) (List.length evs.xs - Int.toNat (0 : Int)) (Int.toNat (0 : Int)) (0 : Int)), Cl.i (z.tmod (↑(List.length s_Learners.xs) : Int)), Cl.i (z_1.tmod (↑(List.length s_Cars.xs) : Int)), Cl.i (0 : Int), Cl.i z_8, Cl.i z_3, Cl.i (0 : Int), Cl.i (0 : Int), Cl.i (0 : Int), Cl.i (0 : Int)]])))) (Vif (!decide ((cel (Sp.rE ⟨s_Learners.xs, s_Cars.xs, s_Price, s_Excess, s_Lo, s_Hi, s_Terms.xs⟩ (evs.xs ++ [[Cl.i (0 : Int), Cl.i (Sp.iter (Sp.onT evs.xs (Sp.rE ⟨s_Learners.xs, s_Cars.xs, s_Price, s_Excess, s_Lo, s_Hi, s_Terms.xs⟩ evs.xs)) (List.length evs.xs - Int.toNat (0 : Int)) (Int.toNat (0 : Int)) (0 : Int)), Cl.i (z.tmod (↑(List.length s_Learners.xs) : Int)), Cl.i (z_1.tmod (↑(List.length s_Cars.xs) : Int)), Cl.i (0 : Int), Cl.i z_8, Cl.i z_3, Cl.i (0 : Int), Cl.i (0 : Int), Cl.i (0 : Int), Cl.i (0 : Int)]])) (↑(List.length evs.xs) : Int).toNat (0 : Nat)).int = (0 : Int))) (Pre True (Q [[Cl.b true]])) (Q [[Cl.b false]])))) (Q [[Cl.b false]])) (Q [[Cl.b false]])))))))))))))))) (Vif (decide ((4801 : Int) ≤ z_4.tmod (4801 : Int))) (Pre True (Q [[Cl.b true]])) (Ar .i64 x_e fun z_5 => Ar .i64 ((4801 : Int) - z_4.tmod (4801 : Int)) fun z_6 => Need (!decide (z_6 = (0 : Int))) (Ar .i64 (z_4.tmod (4801 : Int) + z_5.tmod z_6) fun z_7 => Need (decide (((0 : Nat) + List.length evs.xs) * (88 : Nat) ≤ (140737488355328 : Nat))) (Need (decide ((List.length evs.xs + [[Cl.i (0 : Int), Cl.i (Sp.iter (Sp.onT evs.xs (Sp.rE ⟨s_Learners.xs, s_Cars.xs, s_Price, s_Excess, s_Lo, s_Hi, s_Terms.xs⟩ evs.xs)) (List.length evs.xs - Int.toNat (0 : Int)) (Int.toNat (0 : Int)) (0 : Int)), Cl.i (z.tmod (↑(List.length s_Learners.xs) : Int)), Cl.i (z_1.tmod (↑(List.length s_Cars.xs) : Int)), Cl.i (0 : Int), Cl.i z_7, Cl.i z_3, Cl.i (0 : Int), Cl.i (0 : Int), Cl.i (0 : Int), Cl.i (0 : Int)]].length) * (88 : Nat) ≤ (140737488355328 : Nat))) (Pre True (Vif (decide (Sp.rErr ⟨s_Learners.xs, s_Cars.xs, s_Price, s_Excess, s_Lo, s_Hi, s_Terms.xs⟩ (evs.xs ++ [[Cl.i (0 : Int), Cl.i (Sp.iter (Sp.onT evs.xs (Sp.rE ⟨s_Learners.xs, s_Cars.xs, s_Price, s_Excess, s_Lo, s_Hi, s_Terms.xs⟩ evs.xs)) (List.length evs.xs - Int.toNat (0 : Int)) (Int.toNat (0 : Int)) (0 : Int)), Cl.i (z.tmod (↑(List.length s_Learners.xs) : Int)), Cl.i (z_1.tmod (↑(List.length s_Cars.xs) : Int)), Cl.i (0 : Int), Cl.i z_7, Cl.i z_3, Cl.i (0 : Int), Cl.i (0 : Int), Cl.i (0 : Int), Cl.i (0 : Int)]]) = (0 : Int))) (Ar .i64 ((↑(List.length evs.xs) : Int) + (1 : Int)) fun z_8 => Vif (decide ((↑(List.length (Sp.rE ⟨s_Learners.xs, s_Cars.xs, s_Price, s_Excess, s_Lo, s_Hi, s_Terms.xs⟩ (evs.xs ++ [[Cl.i (0 : Int), Cl.i (Sp.iter (Sp.onT evs.xs (Sp.rE ⟨s_Learners.xs, s_Cars.xs, s_Price, s_Excess, s_Lo, s_Hi, s_Terms.xs⟩ evs.xs)) (List.length evs.xs - Int.toNat (0 : Int)) (Int.toNat (0 : Int)) (0 : Int)), Cl.i (z.tmod (↑(List.length s_Learners.xs) : Int)), Cl.i (z_1.tmod (↑(List.length s_Cars.xs) : Int)), Cl.i (0 : Int), Cl.i z_7, Cl.i z_3, Cl.i (0 : Int), Cl.i (0 : Int), Cl.i (0 : Int), Cl.i (0 : Int)]]))) : Int) = z_8)) (Need (decide ((0 : Int) ≤ (↑(List.length evs.xs) : Int)) && decide ((↑(List.length evs.xs) : Int) < (↑(List.length (Sp.rE ⟨s_Learners.xs, s_Cars.xs, s_Price, s_Excess, s_Lo, s_Hi, s_Terms.xs⟩ (evs.xs ++ [[Cl.i (0 : Int), Cl.i (Sp.iter (Sp.onT evs.xs (Sp.rE ⟨s_Learners.xs, s_Cars.xs, s_Price, s_Excess, s_Lo, s_Hi, s_Terms.xs⟩ evs.xs)) (List.length evs.xs - Int.toNat (0 : Int)) (Int.toNat (0 : Int)) (0 : Int)), Cl.i (z.tmod (↑(List.length s_Learners.xs) : Int)), Cl.i (z_1.tmod (↑(List.length s_Cars.xs) : Int)), Cl.i (0 : Int), Cl.i z_7, Cl.i z_3, Cl.i (0 : Int), Cl.i (0 : Int), Cl.i (0 : Int), Cl.i (0 : Int)]]))) : Int))) (Need (decide ((↑(List.length evs.xs) : Int).toNat < List.length (Sp.rE ⟨s_Learners.xs, s_Cars.xs, s_Price, s_Excess, s_Lo, s_Hi, s_Terms.xs⟩ (evs.xs ++ [[Cl.i (0 : Int), Cl.i (Sp.iter (Sp.onT evs.xs (Sp.rE ⟨s_Learners.xs, s_Cars.xs, s_Price, s_Excess, s_Lo, s_Hi, s_Terms.xs⟩ evs.xs)) (List.length evs.xs - Int.toNat (0 : Int)) (Int.toNat (0 : Int)) (0 : Int)), Cl.i (z.tmod (↑(List.length s_Learners.xs) : Int)), Cl.i (z_1.tmod (↑(List.length s_Cars.xs) : Int)), Cl.i (0 : Int), Cl.i z_7, Cl.i z_3, Cl.i (0 : Int), Cl.i (0 : Int), Cl.i (0 : Int), Cl.i (0 : Int)]])))) (Vif (!decide ((cel (Sp.rE ⟨s_Learners.xs, s_Cars.xs, s_Price, s_Excess, s_Lo, s_Hi, s_Terms.xs⟩ (evs.xs ++ [[Cl.i (0 : Int), Cl.i (Sp.iter (Sp.onT evs.xs (Sp.rE ⟨s_Learners.xs, s_Cars.xs, s_Price, s_Excess, s_Lo, s_Hi, s_Terms.xs⟩ evs.xs)) (List.length evs.xs - Int.toNat (0 : Int)) (Int.toNat (0 : Int)) (0 : Int)), Cl.i (z.tmod (↑(List.length s_Learners.xs) : Int)), Cl.i (z_1.tmod (↑(List.length s_Cars.xs) : Int)), Cl.i (0 : Int), Cl.i z_7, Cl.i z_3, Cl.i (0 : Int), Cl.i (0 : Int), Cl.i (0 : Int), Cl.i (0 : Int)]])) (↑(List.length evs.xs) : Int).toNat (0 : Nat)).int = (0 : Int))) (Pre True (Q [[Cl.b true]])) (Q [[Cl.b false]])))) (Q [[Cl.b false]])) (Q [[Cl.b false]]))))))))) (Vif (decide (Sp.firE ⟨s_Learners.xs, s_Cars.xs, s_Price, s_Excess, s_Lo, s_Hi, s_Terms.xs⟩ evs.xs (z.tmod (↑(List.length s_Learners.xs) : Int)) (z_1.tmod (↑(List.length s_Cars.xs) : Int)) (z_4.tmod (4801 : Int)) z_3 = (0 : Int))) (Vif (decide (Sp.firV ⟨s_Learners.xs, s_Cars.xs, s_Price, s_Excess, s_Lo, s_Hi, s_Terms.xs⟩ evs.xs (z.tmod (↑(List.length s_Learners.xs) : Int)) (z_1.tmod (↑(List.length s_Cars.xs) : Int)) (z_4.tmod (4801 : Int)) z_3 < z_4.tmod (4801 : Int))) (Q [[Cl.b false]]) (Need (decide (((0 : Nat) + List.length evs.xs) * (88 : Nat) ≤ (140737488355328 : Nat))) (Need (decide ((List.length evs.xs + [[Cl.i (0 : Int), Cl.i (Sp.iter (Sp.onT evs.xs (Sp.rE ⟨s_Learners.xs, s_Cars.xs, s_Price, s_Excess, s_Lo, s_Hi, s_Terms.xs⟩ evs.xs)) (List.length evs.xs - Int.toNat (0 : Int)) (Int.toNat (0 : Int)) (0 : Int)), Cl.i (z.tmod (↑(List.length s_Learners.xs) : Int)), Cl.i (z_1.tmod (↑(List.length s_Cars.xs) : Int)), Cl.i (0 : Int), Cl.i (Sp.firV ⟨s_Learners.xs, s_Cars.xs, s_Price, s_Excess, s_Lo, s_Hi, s_Terms.xs⟩ evs.xs (z.tmod (↑(List.length s_Learners.xs) : Int)) (z_1.tmod (↑(List.length s_Cars.xs) : Int)) (z_4.tmod (4801 : Int)) z_3), Cl.i z_3, Cl.i (0 : Int), Cl.i (0 : Int), Cl.i (0 : Int), Cl.i (0 : Int)]].length) * (88 : Nat) ≤ (140737488355328 : Nat))) (Pre True (Vif (!decide (Sp.rErr ⟨s_Learners.xs, s_Cars.xs, s_Price, s_Excess, s_Lo, s_Hi, s_Terms.xs⟩ (evs.xs ++ [[Cl.i (0 : Int), Cl.i (Sp.iter (Sp.onT evs.xs (Sp.rE ⟨s_Learners.xs, s_Cars.xs, s_Price, s_Excess, s_Lo, s_Hi, s_Terms.xs⟩ evs.xs)) (List.length evs.xs - Int.toNat (0 : Int)) (Int.toNat (0 : Int)) (0 : Int)), Cl.i (z.tmod (↑(List.length s_Learners.xs) : Int)), Cl.i (z_1.tmod (↑(List.length s_Cars.xs) : Int)), Cl.i (0 : Int), Cl.i (Sp.firV ⟨s_Learners.xs, s_Cars.xs, s_Price, s_Excess, s_Lo, s_Hi, s_Terms.xs⟩ evs.xs (z.tmod (↑(List.length s_Learners.xs) : Int)) (z_1.tmod (↑(List.length s_Cars.xs) : Int)) (z_4.tmod (4801 : Int)) z_3), Cl.i z_3, Cl.i (0 : Int), Cl.i (0 : Int), Cl.i (0 : Int), Cl.i (0 : Int)]]) = (0 : Int))) (Q [[Cl.b false]]) (Ar .i64 ((↑(List.length evs.xs) : Int) + (1 : Int)) fun z_5 => Vif (!decide ((↑(List.length (Sp.rE ⟨s_Learners.xs, s_Cars.xs, s_Price, s_Excess, s_Lo, s_Hi, s_Terms.xs⟩ (evs.xs ++ [[Cl.i (0 : Int), Cl.i (Sp.iter (Sp.onT evs.xs (Sp.rE ⟨s_Learners.xs, s_Cars.xs, s_Price, s_Excess, s_Lo, s_Hi, s_Terms.xs⟩ evs.xs)) (List.length evs.xs - Int.toNat (0 : Int)) (Int.toNat (0 : Int)) (0 : Int)), Cl.i (z.tmod (↑(List.length s_Learners.xs) : Int)), Cl.i (z_1.tmod (↑(List.length s_Cars.xs) : Int)), Cl.i (0 : Int), Cl.i (Sp.firV ⟨s_Learners.xs, s_Cars.xs, s_Price, s_Excess, s_Lo, s_Hi, s_Terms.xs⟩ evs.xs (z.tmod (↑(List.length s_Learners.xs) : Int)) (z_1.tmod (↑(List.length s_Cars.xs) : Int)) (z_4.tmod (4801 : Int)) z_3), Cl.i z_3, Cl.i (0 : Int), Cl.i (0 : Int), Cl.i (0 : Int), Cl.i (0 : Int)]]))) : Int) = z_5)) (Q [[Cl.b false]]) (Need (decide ((0 : Int) ≤ (↑(List.length evs.xs) : Int)) && decide ((↑(List.length evs.xs) : Int) < (↑(List.length (Sp.rE ⟨s_Learners.xs, s_Cars.xs, s_Price, s_Excess, s_Lo, s_Hi, s_Terms.xs⟩ (evs.xs ++ [[Cl.i (0 : Int), Cl.i (Sp.iter (Sp.onT evs.xs (Sp.rE ⟨s_Learners.xs, s_Cars.xs, s_Price, s_Excess, s_Lo, s_Hi, s_Terms.xs⟩ evs.xs)) (List.length evs.xs - Int.toNat (0 : Int)) (Int.toNat (0 : Int)) (0 : Int)), Cl.i (z.tmod (↑(List.length s_Learners.xs) : Int)), Cl.i (z_1.tmod (↑(List.length s_Cars.xs) : Int)), Cl.i (0 : Int), Cl.i (Sp.firV ⟨s_Learners.xs, s_Cars.xs, s_Price, s_Excess, s_Lo, s_Hi, s_Terms.xs⟩ evs.xs (z.tmod (↑(List.length s_Learners.xs) : Int)) (z_1.tmod (↑(List.length s_Cars.xs) : Int)) (z_4.tmod (4801 : Int)) z_3), Cl.i z_3, Cl.i (0 : Int), Cl.i (0 : Int), Cl.i (0 : Int), Cl.i (0 : Int)]]))) : Int))) (Need (decide ((↑(List.length evs.xs) : Int).toNat < List.length (Sp.rE ⟨s_Learners.xs, s_Cars.xs, s_Price, s_Excess, s_Lo, s_Hi, s_Terms.xs⟩ (evs.xs ++ [[Cl.i (0 : Int), Cl.i (Sp.iter (Sp.onT evs.xs (Sp.rE ⟨s_Learners.xs, s_Cars.xs, s_Price, s_Excess, s_Lo, s_Hi, s_Terms.xs⟩ evs.xs)) (List.length evs.xs - Int.toNat (0 : Int)) (Int.toNat (0 : Int)) (0 : Int)), Cl.i (z.tmod (↑(List.length s_Learners.xs) : Int)), Cl.i (z_1.tmod (↑(List.length s_Cars.xs) : Int)), Cl.i (0 : Int), Cl.i (Sp.firV ⟨s_Learners.xs, s_Cars.xs, s_Price, s_Excess, s_Lo, s_Hi, s_Terms.xs⟩ evs.xs (z.tmod (↑(List.length s_Learners.xs) : Int)) (z_1.tmod (↑(List.length s_Cars.xs) : Int)) (z_4.tmod (4801 : Int)) z_3), Cl.i z_3, Cl.i (0 : Int), Cl.i (0 : Int), Cl.i (0 : Int), Cl.i (0 : Int)]])))) (Vif (!decide ((cel (Sp.rE ⟨s_Learners.xs, s_Cars.xs, s_Price, s_Excess, s_Lo, s_Hi, s_Terms.xs⟩ (evs.xs ++ [[Cl.i (0 : Int), Cl.i (Sp.iter (Sp.onT evs.xs (Sp.rE ⟨s_Learners.xs, s_Cars.xs, s_Price, s_Excess, s_Lo, s_Hi, s_Terms.xs⟩ evs.xs)) (List.length evs.xs - Int.toNat (0 : Int)) (Int.toNat (0 : Int)) (0 : Int)), Cl.i (z.tmod (↑(List.length s_Learners.xs) : Int)), Cl.i (z_1.tmod (↑(List.length s_Cars.xs) : Int)), Cl.i (0 : Int), Cl.i (Sp.firV ⟨s_Learners.xs, s_Cars.xs, s_Price, s_Excess, s_Lo, s_Hi, s_Terms.xs⟩ evs.xs (z.tmod (↑(List.length s_Learners.xs) : Int)) (z_1.tmod (↑(List.length s_Cars.xs) : Int)) (z_4.tmod (4801 : Int)) z_3), Cl.i z_3, Cl.i (0 : Int), Cl.i (0 : Int), Cl.i (0 : Int), Cl.i (0 : Int)]])) (↑(List.length evs.xs) : Int).toNat (0 : Nat)).int = (0 : Int))) (Q [[Cl.b false]]) (Vif (decide (Sp.firV ⟨s_Learners.xs, s_Cars.xs, s_Price, s_Excess, s_Lo, s_Hi, s_Terms.xs⟩ evs.xs (z.tmod (↑(List.length s_Learners.xs) : Int)) (z_1.tmod (↑(List.length s_Cars.xs) : Int)) (z_4.tmod (4801 : Int)) z_3 ≤ z_4.tmod (4801 : Int))) (Pre True (Q [[Cl.b true]])) (Ar .i64 x_e fun z_6 => Ar .i64 (Sp.firV ⟨s_Learners.xs, s_Cars.xs, s_Price, s_Excess, s_Lo, s_Hi, s_Terms.xs⟩ evs.xs (z.tmod (↑(List.length s_Learners.xs) : Int)) (z_1.tmod (↑(List.length s_Cars.xs) : Int)) (z_4.tmod (4801 : Int)) z_3 - z_4.tmod (4801 : Int)) fun z_7 => Need (!decide (z_7 = (0 : Int))) (Ar .i64 (z_4.tmod (4801 : Int) + z_6.tmod z_7) fun z_8 => Need (decide (((0 : Nat) + List.length evs.xs) * (88 : Nat) ≤ (140737488355328 : Nat))) (Need (decide ((List.length evs.xs + [[Cl.i (0 : Int), Cl.i (Sp.iter (Sp.onT evs.xs (Sp.rE ⟨s_Learners.xs, s_Cars.xs, s_Price, s_Excess, s_Lo, s_Hi, s_Terms.xs⟩ evs.xs)) (List.length evs.xs - Int.toNat (0 : Int)) (Int.toNat (0 : Int)) (0 : Int)), Cl.i (z.tmod (↑(List.length s_Learners.xs) : Int)), Cl.i (z_1.tmod (↑(List.length s_Cars.xs) : Int)), Cl.i (0 : Int), Cl.i z_8, Cl.i z_3, Cl.i (0 : Int), Cl.i (0 : Int), Cl.i (0 : Int), Cl.i (0 : Int)]].length) * (88 : Nat) ≤ (140737488355328 : Nat))) (Pre True (Vif (decide (Sp.rErr ⟨s_Learners.xs, s_Cars.xs, s_Price, s_Excess, s_Lo, s_Hi, s_Terms.xs⟩ (evs.xs ++ [[Cl.i (0 : Int), Cl.i (Sp.iter (Sp.onT evs.xs (Sp.rE ⟨s_Learners.xs, s_Cars.xs, s_Price, s_Excess, s_Lo, s_Hi, s_Terms.xs⟩ evs.xs)) (List.length evs.xs - Int.toNat (0 : Int)) (Int.toNat (0 : Int)) (0 : Int)), Cl.i (z.tmod (↑(List.length s_Learners.xs) : Int)), Cl.i (z_1.tmod (↑(List.length s_Cars.xs) : Int)), Cl.i (0 : Int), Cl.i z_8, Cl.i z_3, Cl.i (0 : Int), Cl.i (0 : Int), Cl.i (0 : Int), Cl.i (0 : Int)]]) = (0 : Int))) (Ar .i64 ((↑(List.length evs.xs) : Int) + (1 : Int)) fun z_9 => Vif (decide ((↑(List.length (Sp.rE ⟨s_Learners.xs, s_Cars.xs, s_Price, s_Excess, s_Lo, s_Hi, s_Terms.xs⟩ (evs.xs ++ [[Cl.i (0 : Int), Cl.i (Sp.iter (Sp.onT evs.xs (Sp.rE ⟨s_Learners.xs, s_Cars.xs, s_Price, s_Excess, s_Lo, s_Hi, s_Terms.xs⟩ evs.xs)) (List.length evs.xs - Int.toNat (0 : Int)) (Int.toNat (0 : Int)) (0 : Int)), Cl.i (z.tmod (↑(List.length s_Learners.xs) : Int)), Cl.i (z_1.tmod (↑(List.length s_Cars.xs) : Int)), Cl.i (0 : Int), Cl.i z_8, Cl.i z_3, Cl.i (0 : Int), Cl.i (0 : Int), Cl.i (0 : Int), Cl.i (0 : Int)]]))) : Int) = z_9)) (Need (decide ((0 : Int) ≤ (↑(List.length evs.xs) : Int)) && decide ((↑(List.length evs.xs) : Int) < (↑(List.length (Sp.rE ⟨s_Learners.xs, s_Cars.xs, s_Price, s_Excess, s_Lo, s_Hi, s_Terms.xs⟩ (evs.xs ++ [[Cl.i (0 : Int), Cl.i (Sp.iter (Sp.onT evs.xs (Sp.rE ⟨s_Learners.xs, s_Cars.xs, s_Price, s_Excess, s_Lo, s_Hi, s_Terms.xs⟩ evs.xs)) (List.length evs.xs - Int.toNat (0 : Int)) (Int.toNat (0 : Int)) (0 : Int)), Cl.i (z.tmod (↑(List.length s_Learners.xs) : Int)), Cl.i (z_1.tmod (↑(List.length s_Cars.xs) : Int)), Cl.i (0 : Int), Cl.i z_8, Cl.i z_3, Cl.i (0 : Int), Cl.i (0 : Int), Cl.i (0 : Int), Cl.i (0 : Int)]]))) : Int))) (Need (decide ((↑(List.length evs.xs) : Int).toNat < List.length (Sp.rE ⟨s_Learners.xs, s_Cars.xs, s_Price, s_Excess, s_Lo, s_Hi, s_Terms.xs⟩ (evs.xs ++ [[Cl.i (0 : Int), Cl.i (Sp.iter (Sp.onT evs.xs (Sp.rE ⟨s_Learners.xs, s_Cars.xs, s_Price, s_Excess, s_Lo, s_Hi, s_Terms.xs⟩ evs.xs)) (List.length evs.xs - Int.toNat (0 : Int)) (Int.toNat (0 : Int)) (0 : Int)), Cl.i (z.tmod (↑(List.length s_Learners.xs) : Int)), Cl.i (z_1.tmod (↑(List.length s_Cars.xs) : Int)), Cl.i (0 : Int), Cl.i z_8, Cl.i z_3, Cl.i (0 : Int), Cl.i (0 : Int), Cl.i (0 : Int), Cl.i (0 : Int)]])))) (Vif (!decide ((cel (Sp.rE ⟨s_Learners.xs, s_Cars.xs, s_Price, s_Excess, s_Lo, s_Hi, s_Terms.xs⟩ (evs.xs ++ [[Cl.i (0 : Int), Cl.i (Sp.iter (Sp.onT evs.xs (Sp.rE ⟨s_Learners.xs, s_Cars.xs, s_Price, s_Excess, s_Lo, s_Hi, s_Terms.xs⟩ evs.xs)) (List.length evs.xs - Int.toNat (0 : Int)) (Int.toNat (0 : Int)) (0 : Int)), Cl.i (z.tmod (↑(List.length s_Learners.xs) : Int)), Cl.i (z_1.tmod (↑(List.length s_Cars.xs) : Int)), Cl.i (0 : Int), Cl.i z_8, Cl.i z_3, Cl.i (0 : Int), Cl.i (0 : Int), Cl.i (0 : Int), Cl.i (0 : Int)]])) (↑(List.length evs.xs) : Int).toNat (0 : Nat)).int = (0 : Int))) (Pre True (Q [[Cl.b true]])) (Q [[Cl.b false]])))) (Q [[Cl.b false]])) (Q [[Cl.b false]])))))))))))))))) (Vif (decide ((4801 : Int) ≤ z_4.tmod (4801 : Int))) (Pre True (Q [[Cl.b true]])) (Ar .i64 x_e fun z_5 => Ar .i64 ((4801 : Int) - z_4.tmod (4801 : Int)) fun z_6 => Need (!decide (z_6 = (0 : Int))) (Ar .i64 (z_4.tmod (4801 : Int) + z_5.tmod z_6) fun z_7 => Need (decide (((0 : Nat) + List.length evs.xs) * (88 : Nat) ≤ (140737488355328 : Nat))) (Need (decide ((List.length evs.xs + [[Cl.i (0 : Int), Cl.i (Sp.iter (Sp.onT evs.xs (Sp.rE ⟨s_Learners.xs, s_Cars.xs, s_Price, s_Excess, s_Lo, s_Hi, s_Terms.xs⟩ evs.xs)) (List.length evs.xs - Int.toNat (0 : Int)) (Int.toNat (0 : Int)) (0 : Int)), Cl.i (z.tmod (↑(List.length s_Learners.xs) : Int)), Cl.i (z_1.tmod (↑(List.length s_Cars.xs) : Int)), Cl.i (0 : Int), Cl.i z_7, Cl.i z_3, Cl.i (0 : Int), Cl.i (0 : Int), Cl.i (0 : Int), Cl.i (0 : Int)]].length) * (88 : Nat) ≤ (140737488355328 : Nat))) (Pre True (Vif (decide (Sp.rErr ⟨s_Learners.xs, s_Cars.xs, s_Price, s_Excess, s_Lo, s_Hi, s_Terms.xs⟩ (evs.xs ++ [[Cl.i (0 : Int), Cl.i (Sp.iter (Sp.onT evs.xs (Sp.rE ⟨s_Learners.xs, s_Cars.xs, s_Price, s_Excess, s_Lo, s_Hi, s_Terms.xs⟩ evs.xs)) (List.length evs.xs - Int.toNat (0 : Int)) (Int.toNat (0 : Int)) (0 : Int)), Cl.i (z.tmod (↑(List.length s_Learners.xs) : Int)), Cl.i (z_1.tmod (↑(List.length s_Cars.xs) : Int)), Cl.i (0 : Int), Cl.i z_7, Cl.i z_3, Cl.i (0 : Int), Cl.i (0 : Int), Cl.i (0 : Int), Cl.i (0 : Int)]]) = (0 : Int))) (Ar .i64 ((↑(List.length evs.xs) : Int) + (1 : Int)) fun z_8 => Vif (decide ((↑(List.length (Sp.rE ⟨s_Learners.xs, s_Cars.xs, s_Price, s_Excess, s_Lo, s_Hi, s_Terms.xs⟩ (evs.xs ++ [[Cl.i (0 : Int), Cl.i (Sp.iter (Sp.onT evs.xs (Sp.rE ⟨s_Learners.xs, s_Cars.xs, s_Price, s_Excess, s_Lo, s_Hi, s_Terms.xs⟩ evs.xs)) (List.length evs.xs - Int.toNat (0 : Int)) (Int.toNat (0 : Int)) (0 : Int)), Cl.i (z.tmod (↑(List.length s_Learners.xs) : Int)), Cl.i (z_1.tmod (↑(List.length s_Cars.xs) : Int)), Cl.i (0 : Int), Cl.i z_7, Cl.i z_3, Cl.i (0 : Int), Cl.i (0 : Int), Cl.i (0 : Int), Cl.i (0 : Int)]]))) : Int) = z_8)) (Need (decide ((0 : Int) ≤ (↑(List.length evs.xs) : Int)) && decide ((↑(List.length evs.xs) : Int) < (↑(List.length (Sp.rE ⟨s_Learners.xs, s_Cars.xs, s_Price, s_Excess, s_Lo, s_Hi, s_Terms.xs⟩ (evs.xs ++ [[Cl.i (0 : Int), Cl.i (Sp.iter (Sp.onT evs.xs (Sp.rE ⟨s_Learners.xs, s_Cars.xs, s_Price, s_Excess, s_Lo, s_Hi, s_Terms.xs⟩ evs.xs)) (List.length evs.xs - Int.toNat (0 : Int)) (Int.toNat (0 : Int)) (0 : Int)), Cl.i (z.tmod (↑(List.length s_Learners.xs) : Int)), Cl.i (z_1.tmod (↑(List.length s_Cars.xs) : Int)), Cl.i (0 : Int), Cl.i z_7, Cl.i z_3, Cl.i (0 : Int), Cl.i (0 : Int), Cl.i (0 : Int), Cl.i (0 : Int)]]))) : Int))) (Need (decide ((↑(List.length evs.xs) : Int).toNat < List.length (Sp.rE ⟨s_Learners.xs, s_Cars.xs, s_Price, s_Excess, s_Lo, s_Hi, s_Terms.xs⟩ (evs.xs ++ [[Cl.i (0 : Int), Cl.i (Sp.iter (Sp.onT evs.xs (Sp.rE ⟨s_Learners.xs, s_Cars.xs, s_Price, s_Excess, s_Lo, s_Hi, s_Terms.xs⟩ evs.xs)) (List.length evs.xs - Int.toNat (0 : Int)) (Int.toNat (0 : Int)) (0 : Int)), Cl.i (z.tmod (↑(List.length s_Learners.xs) : Int)), Cl.i (z_1.tmod (↑(List.length s_Cars.xs) : Int)), Cl.i (0 : Int), Cl.i z_7, Cl.i z_3, Cl.i (0 : Int), Cl.i (0 : Int), Cl.i (0 : Int), Cl.i (0 : Int)]])))) (Vif (!decide ((cel (Sp.rE ⟨s_Learners.xs, s_Cars.xs, s_Price, s_Excess, s_Lo, s_Hi, s_Terms.xs⟩ (evs.xs ++ [[Cl.i (0 : Int), Cl.i (Sp.iter (Sp.onT evs.xs (Sp.rE ⟨s_Learners.xs, s_Cars.xs, s_Price, s_Excess, s_Lo, s_Hi, s_Terms.xs⟩ evs.xs)) (List.length evs.xs - Int.toNat (0 : Int)) (Int.toNat (0 : Int)) (0 : Int)), Cl.i (z.tmod (↑(List.length s_Learners.xs) : Int)), Cl.i (z_1.tmod (↑(List.length s_Cars.xs) : Int)), Cl.i (0 : Int), Cl.i z_7, Cl.i z_3, Cl.i (0 : Int), Cl.i (0 : Int), Cl.i (0 : Int), Cl.i (0 : Int)]])) (↑(List.length evs.xs) : Int).toNat (0 : Nat)).int = (0 : Int))) (Pre True (Q [[Cl.b true]])) (Q [[Cl.b false]])))) (Q [[Cl.b false]])) (Q [[Cl.b false]]))))))))))))))))))
theorem vc_lawSoon (W : InW) (s_Learners : Ro [.str]) (s_Cars : Ro Ivs) (s_Price : Int) (s_Excess : Int) (s_Lo : Int) (s_Hi : Int) (s_Terms : Ro [.int .i64, .int .i64]) (evs : Ro Iv11) (x_a : Int) (x_b : Int) (x_c : Int) (x_d : Int) (x_e : Int) (Q : DS → Prop) : bodyK (cxT Try.prog TT TPs 1000 50) 1000 15 [.agg [.rs _ s_Learners, .rs _ s_Cars, .si .i64 s_Price, .si .i64 s_Excess, .si .i64 s_Lo, .si .i64 s_Hi, .rs _ s_Terms], .rs _ evs, .agg [.si .u16 x_a, .si .u16 x_b, .si .u16 x_c, .si .u16 x_d, .si .u16 x_e]] [] 0 (leafK [(false, [.bool])] Q) (fun _ _ _ _ => Stuck 421) = VC_lawSoon s_Learners s_Cars s_Price s_Excess s_Lo s_Hi s_Terms evs x_a x_b x_c x_d x_e Q := by kernel_rfl
abbrev ats_lawSoon : List AT := [.agg [.sl [.str], .sl Ivs, .int .i64, .int .i64, .int .i64, .int .i64, .sl [.int .i64, .int .i64]], .one (.sl Iv11), .agg [.int .u16, .int .u16, .int .u16, .int .u16, .int .u16]]
theorem ok_lawSoon {pre : DS → Prop} {res : DS → DS} (hyp_ : ∀ (W : InW) (s_Learners : Ro [.str]) (s_Cars : Ro Ivs) (s_Price : Int) (s_Excess : Int) (s_Lo : Int) (s_Hi : Int) (s_Terms : Ro [.int .i64, .int .i64]) (evs : Ro Iv11) (x_a : Int) (x_b : Int) (x_c : Int) (x_d : Int) (x_e : Int), pre [[.l s_Learners.xs, .l s_Cars.xs, .i s_Price, .i s_Excess, .i s_Lo, .i s_Hi, .l s_Terms.xs], [.l evs.xs], [.i x_a, .i x_b, .i x_c, .i x_d, .i x_e]] → ∀ Q : DS → Prop, Q (res [[.l s_Learners.xs, .l s_Cars.xs, .i s_Price, .i s_Excess, .i s_Lo, .i s_Hi, .l s_Terms.xs], [.l evs.xs], [.i x_a, .i x_b, .i x_c, .i x_d, .i x_e]]) → VC_lawSoon s_Learners s_Cars s_Price s_Excess s_Lo s_Hi s_Terms evs x_a x_b x_c x_d x_e Q) : PureOk Try.prog 15 ats_lawSoon [(false, [.bool])] pre res :=
  PureOk.of' (fun W => @TT W) (fun W => @TT_ok W) mixed_ok TPs 1000 50 fun W s_Learners s_Cars s_Price s_Excess s_Lo s_Hi s_Terms evs x_a x_b x_c x_d x_e hp =>
    (vc_lawSoon W s_Learners s_Cars s_Price s_Excess s_Lo s_Hi s_Terms evs x_a x_b x_c x_d x_e (fun o => o = res [[.l s_Learners.xs, .l s_Cars.xs, .i s_Price, .i s_Excess, .i s_Lo, .i s_Hi, .l s_Terms.xs], [.l evs.xs], [.i x_a, .i x_b, .i x_c, .i x_d, .i x_e]])).mpr (hyp_ W s_Learners s_Cars s_Price s_Excess s_Lo s_Hi s_Terms evs x_a x_b x_c x_d x_e hp _ rfl)
end Go.Proofs.Ytiiicnhjjfmpkaa
namespace Go.Proofs.Ytiiicnhjjfmpkaa
open Go.RowKit
set_option linter.unusedVariables false
set_option maxRecDepth 100000
end Go.Proofs.Ytiiicnhjjfmpkaa
namespace Go.Proofs.Ytiiicnhjjfmpkaa
open Go.RowKit
set_option linter.unusedVariables false
set_option maxRecDepth 100000
end Go.Proofs.Ytiiicnhjjfmpkaa
namespace Go.Proofs.Ytiiicnhjjfmpkaa
open Go.RowKit
set_option linter.unusedVariables false
set_option maxRecDepth 100000
namespace Sp
theorem doE_book {s : Sch} {b : Bks} {n l c t h z1 z2 z3 z4 z5 : Int} (ht : 0 ≤ b.tm ∧ b.tm ≤ 4800) : doE s b n ⟨0, b.tm, l, c, z1, t, h, z2, z3, z4, z5⟩ = canE s.rl s.rc s.lo s.hi b.ls b.es b.tm l c t h := by
  unfold doE
  rw [show inr (0 : Int) 0 6 = true by decide, show inr b.tm b.tm 4800 = true from inr_iff.2 (by omega)]
  simp [err]
theorem more_book {s : Sch} {evs : Dt} (h60 : evs.length < 60) (e : rErr s evs = 0) (l c t h : Int) :
    rErr s (evs ++ [[.i 0, .i (runAll s evs).tm, .i l, .i c, .i 0, .i t, .i h, .i 0, .i 0, .i 0, .i 0]]) = 0 ∧
    (rE s (evs ++ [[.i 0, .i (runAll s evs).tm, .i l, .i c, .i 0, .i t, .i h, .i 0, .i 0, .i 0, .i 0]])).length = evs.length + 1 ∧
    (cel (rE s (evs ++ [[.i 0, .i (runAll s evs).tm, .i l, .i c, .i 0, .i t, .i h, .i 0, .i 0, .i 0, .i 0]])) evs.length 0).int = canE s.rl s.rc s.lo s.hi (runAll s evs).ls (runAll s evs).es (runAll s evs).tm l c t h := by
  have e' : rErr s (evs ++ [[.i 0, .i (runAll s evs).tm, .i l, .i c, .i 0, .i t, .i h, .i 0, .i 0, .i 0, .i 0]]) = 0 := by rw [rErr_more _ h60]; exact e
  refine ⟨e', ?_, ?_⟩
  · rw [rE_ok e', errAll_len]; simp
  · rw [rE_ok e', more_errs, cel_right _ _ _ _ (by rw [errAll_len]; exact Nat.le_refl _), errAll_len, Nat.sub_self, more_evt]
    exact doE_book (b := runAll s evs) (n := (evs.length : Int)) (rErr_inv e).tm
theorem firE_in {s : Sch} {evs : Dt} {l c f h : Int} (e : rErr s evs = 0) (hl : 0 ≤ l ∧ l < s.rl.length) (hc : 0 ≤ c ∧ c < s.rc.length) (hf : 0 ≤ f ∧ f ≤ 4800) (hh : 1 ≤ h ∧ h ≤ 4) :
    (firE s evs l c f h = 0 ∧ (f ≤ firV s evs l c f h ∧ firV s evs l c f h ≤ 4800) ∧ canE s.rl s.rc s.lo s.hi (runAll s evs).ls (runAll s evs).es (runAll s evs).tm l c (firV s evs l c f h) h = 0 ∧ ∀ u, f ≤ u → u < firV s evs l c f h → canE s.rl s.rc s.lo s.hi (runAll s evs).ls (runAll s evs).es (runAll s evs).tm l c u h ≠ 0) ∨
    (firE s evs l c f h = 9 ∧ ∀ u, f ≤ u → u < 4801 → canE s.rl s.rc s.lo s.hi (runAll s evs).ls (runAll s evs).es (runAll s evs).tm l c u h ≠ 0) := by
  have e1 : (inr l 0 ((s.rl.length : Int) - 1) && inr c 0 ((s.rc.length : Int) - 1)) = true := by rw [Bool.and_eq_true, inr_iff, inr_iff]; omega
  have e2 : (inr f 0 4800 && inr h 1 4) = true := by rw [Bool.and_eq_true, inr_iff, inr_iff]; omega
  have e3 : firE s evs l c f h = if fB s (runAll s evs) l c h f then 0 else 9 := by
    unfold firE
    rw [if_pos e, e1, e2]
    rfl
  cases hx : firstH s (runAll s evs) l c h (4801 - f).toNat f with
  | none =>
    refine .inr ⟨by rw [e3, fB, hx]; rfl, fun u h1 h2 => firstH_none _ _ hx u h1 (by omega)⟩
  | some t =>
    have e4 : firE s evs l c f h = 0 := by rw [e3, fB, hx]; rfl
    have e5 : firV s evs l c f h = t := by rw [firV, if_pos e4, fS, hx]; rfl
    obtain ⟨a1, a2, a3, a4⟩ := firstH_some _ _ _ hx
    refine .inl ⟨e4, ?_, ?_, ?_⟩
    · rw [e5]; omega
    · rw [e5]; exact a3
    · rw [e5]; exact a4
end Sp
theorem u16s_le {a b c d e : Int} (h : WfL [.int .u16, .int .u16, .int .u16, .int .u16, .int .u16] [.i a, .i b, .i c, .i d, .i e]) : (0 ≤ a ∧ a ≤ 65535) ∧ (0 ≤ b ∧ b ≤ 65535) ∧ (0 ≤ c ∧ c ≤ 65535) ∧ (0 ≤ d ∧ d ≤ 65535) ∧ (0 ≤ e ∧ e ≤ 65535) := by
  cases h with
  | cons h1 h => cases h with
    | cons h2 h => cases h with
      | cons h3 h => cases h with
        | cons h4 h => cases h with
          | cons h5 h => exact ⟨u16_le h1, u16_le h2, u16_le h3, u16_le h4, u16_le h5⟩
theorem nonz {n : Int} (h : n ≠ 0) : (!decide (n = 0)) = true := by rw [decide_eq_false h]; rfl
theorem soonest_pure : PureOk Try.prog 15 ats_lawSoon [(false, [.bool])] (WfD ats_lawSoon) fun _ => [[.b true]] :=
  ok_lawSoon fun W rl rc pr ex lo hi rt evs xa xb xc xd xe hp Q h => by
    obtain ⟨d, ds, e1, hp1, d2, ds2, e2, _, d3, ds3, e3, hp3, _⟩ := hp
    cases e1
    cases e2
    cases e3
    have hn := school_names hp1
    obtain ⟨ha, hb, hc, hd, he⟩ := u16s_le hp3
    unfold VC_lawSoon
    refine ⟨hn, vifn (fun _ => ⟨trivial, h⟩) fun hz => vifd (fun _ => ⟨trivial, h⟩) fun h60 => ⟨trivial, ?_⟩⟩
    have h60' : evs.xs.length < 60 := by omega
    have e : Sp.rErr ⟨rl.xs, rc.xs, pr, ex, lo, hi, rt.xs⟩ evs.xs = 0 := by
      unfold Sp.rErr Sp.runErr
      rw [if_pos hz, if_neg (by omega)]
    have hok := (Sp.rErr_ok e).1
    have hl := hok.learners
    have hl2 := hok.cars
    simp only at hl hl2
    have hel : (Sp.rE ⟨rl.xs, rc.xs, pr, ex, lo, hi, rt.xs⟩ evs.xs).length = evs.xs.length := by rw [Sp.rE_ok e, Sp.errAll_len]
    have htm : Sp.iter (Sp.onT evs.xs (Sp.rE ⟨rl.xs, rc.xs, pr, ex, lo, hi, rt.xs⟩ evs.xs)) evs.xs.length 0 0 = (Sp.runAll ⟨rl.xs, rc.xs, pr, ex, lo, hi, rt.xs⟩ evs.xs).tm := by
      rw [Sp.rE_ok e, Sp.runAll_bk, Sp.time_run _ _ _ (Nat.le_refl _)]
    simp only [show Int.toNat 0 = 0 from rfl, Nat.sub_zero, htm]
    have a1 := Int.tmod_nonneg (rl.xs.length : Int) ha.1
    have a2 := Int.tmod_lt_of_pos xa (show 0 < (rl.xs.length : Int) by omega)
    have b1 := Int.tmod_nonneg (rc.xs.length : Int) hb.1
    have b2 := Int.tmod_lt_of_pos xb (show 0 < (rc.xs.length : Int) by omega)
    have c1 := Int.tmod_nonneg (4 : Int) hc.1
    have c2 := Int.tmod_lt_of_pos xc (show (0 : Int) < 4 by decide)
    have d1 := Int.tmod_nonneg (4801 : Int) hd.1
    have d2 := Int.tmod_lt_of_pos xd (show (0 : Int) < 4801 by decide)
    refine vifn (fun x => absurd e x) fun _ => vifn (fun x => absurd (by rw [hel]) x) fun _ => ar64 (by omega) (ned (nonz (by omega)) (ar64 (by omega) (ned (nonz (by omega)) (ar64 (by omega) (ar64 (by omega) (ar64 (by omega) ⟨⟨by omega, by omega, by omega, hel⟩, trivial, ?_⟩))))))
    generalize xa.tmod (rl.xs.length : Int) = l at *
    generalize xb.tmod (rc.xs.length : Int) = c at *
    generalize xc.tmod 4 = hr at *
    generalize xd.tmod 4801 = f at *
    have hm := Sp.more_book h60' e l c
    have hE := Sp.firE_in (l := l) (c := c) (f := f) (h := 1 + hr) e (by simp only; omega) (by simp only; omega) (by omega) (by omega)
    generalize Sp.firV ⟨rl.xs, rc.xs, pr, ex, lo, hi, rt.xs⟩ evs.xs l c f (1 + hr) = v at *
    generalize Sp.firE ⟨rl.xs, rc.xs, pr, ex, lo, hi, rt.xs⟩ evs.xs l c f (1 + hr) = E at *
    refine vifn (fun x => vifn (fun y => ?_) fun y => ?_) fun x => ?_
    · rcases hE with ⟨r, _⟩ | ⟨r, _⟩
      · exact absurd r x
      · exact absurd r y
    · rcases hE with ⟨r, _⟩ | ⟨_, r⟩
      · exact absurd r x
      refine vifd (fun z => absurd z x) fun _ => vifd (fun _ => ⟨trivial, h⟩) fun x2 => ar64 (by omega) (ar64 (by omega) (ned (nonz (by omega)) ?_))
      have u1 := Int.tmod_nonneg (4801 - f) he.1
      have u2 := Int.tmod_lt_of_pos xe (show 0 < 4801 - f by omega)
      generalize xe.tmod (4801 - f) = u at *
      refine ar64 (by omega) ?_
      obtain ⟨m1, m2, m3⟩ := hm (f + u) (1 + hr)
      refine nedd (by omega) (nedd (by simp only [List.length_cons, List.length_nil]; omega) ⟨trivial, vifd (fun _ => ar64 (by omega) (vifd (fun _ => ned (by rw [m2]; simp; omega) (nedd (by rw [m2]; omega) (vifn (fun _ => ⟨trivial, h⟩) fun x3 => ?_))) fun x3 => absurd (by rw [m2]; rfl) x3)) fun x3 => absurd m1 x3⟩)
      rw [Int.toNat_natCast, m3] at x3
      exact absurd x3 (r (f + u) (by omega) (by omega))
    · rcases hE.symm with ⟨r, _⟩ | ⟨_, r1, r2, r3⟩
      · omega
      refine vifd (fun _ => vifd (fun z => by omega) fun _ => ?_) fun z => absurd x z
      obtain ⟨m1, m2, m3⟩ := hm v (1 + hr)
      refine nedd (by omega) (nedd (by simp only [List.length_cons, List.length_nil]; omega) ⟨trivial, vifn (fun x3 => absurd m1 x3) fun _ => ar64 (by omega) (vifn (fun x3 => absurd (by rw [m2]; rfl) x3) fun _ => ned (by rw [m2]; simp; omega) (nedd (by rw [m2]; omega) (vifn (fun x3 => ?_) fun _ => ?_)))⟩)
      · rw [Int.toNat_natCast, m3] at x3
        exact absurd r2 x3
      · refine vifd (fun _ => ⟨trivial, h⟩) fun x2 => ar64 (by omega) (ar64 (by omega) (ned (nonz (by omega)) ?_))
        have u1 := Int.tmod_nonneg (v - f) he.1
        have u2 := Int.tmod_lt_of_pos xe (show 0 < v - f by omega)
        generalize xe.tmod (v - f) = u at *
        refine ar64 (by omega) ?_
        obtain ⟨m1, m2, m3⟩ := hm (f + u) (1 + hr)
        refine nedd (by omega) (nedd (by simp only [List.length_cons, List.length_nil]; omega) ⟨trivial, vifd (fun _ => ar64 (by omega) (vifd (fun _ => ned (by rw [m2]; simp; omega) (nedd (by rw [m2]; omega) (vifn (fun _ => ⟨trivial, h⟩) fun x3 => ?_))) fun x3 => absurd (by rw [m2]; rfl) x3)) fun x3 => absurd m1 x3⟩)
        rw [Int.toNat_natCast, m3] at x3
        exact absurd x3 (r3 (f + u) (by omega) (by omega))
end Go.Proofs.Ytiiicnhjjfmpkaa
namespace Go.Proofs.Ytiiicnhjjfmpkaa.bookSoonest
open Go.ChangeShapes Go.WideShapes Go.ChangeAt Go.RowKit
set_option linter.unusedVariables false
set_option maxRecDepth 100000
theorem own : ownKnob Try.prog.godebug = none := by kernel_rfl
theorem laid : laidOutB Try.prog = true := by kernel_rfl
theorem lifted (os : Os) (started : os.Started) (H : Type) (enc : TypeId × Value → H) :
    ReturnsInHanded {} Try.checked os 15 .any (Rows.bookSoonestSpec.pre6 enc Try.prog Try.f15 Rows.bookSoonestRow.domain false) (Rows.bookSoonestSpec.post enc Try.prog Try.f15 false true false false) := by
  refine returnsInHanded_of_change (C := Try.checked) own started (by kernel_rfl) Try.func15
    (ChangeSpec.witness6 (enc := enc) (C := Try.checked) false ⟨#[], #[(.agg #[.slice none 0 0, .slice none 0 0, .int .i64 0, .int .i64 0, .int .i64 0, .int .i64 0, .slice none 0 0]), (.slice none 0 0), (.agg #[.int .u16 0, .int .u16 0, .int .u16 0, .int .u16 0, .int .u16 0])], []⟩ 8 (by kernel_rfl) (by kernel_rfl) (by kernel_rfl) (by kernel_rfl)) ?_
  intro W base args ds gs before hval hW _ _
  exact law_end (f := Try.f15) (s := Rows.bookSoonestSpec) (by kernel_rfl) Try.underlying4 (by kernel_rfl) rfl laid (by kernel_rfl)
    (fun ds h => by match ds, (show ds.length = 3 from h) with | [_, _, _], _ => exact ⟨rfl, rfl, rfl⟩) soonest_pure hval hW
theorem over : Rows.bookSoonestRow.holds Try.pinned (OpenSpec.ofChange Rows.bookSoonestSpec) :=
  OpenClaim.holds_of_wide 15 Try.f15 rfl rfl rfl rfl rfl rfl rfl ⟨rfl, rfl, rfl, rfl, rfl⟩ rfl rfl rfl rfl rfl (by kernel_rfl) Try.func15 (by kernel_rfl)
    (of_decide_eq_true (by kernel_rfl)) (by unfold Func.isWrapper; first | (rw [if_pos (by decide +kernel)]; kernel_rfl) | (rw [if_neg (by decide +kernel)]; exact ⟨rfl, rfl⟩))
    (fun os started H enc _ => lifted os started H enc)
theorem proved : Rows.BookSoonestSaid := over
end Go.Proofs.Ytiiicnhjjfmpkaa.bookSoonest
