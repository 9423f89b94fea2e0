/-
  'AnswerMarks': for every input the law returns true, and what is handed in reads as before. No condition.
-/
import Derived.Test.YtifhdbgciehicaaQmab
set_option linter.unusedVariables false
set_option linter.unusedSectionVars false
set_option linter.unusedSimpArgs false
namespace Go.Proofs.Ytifhdbgciehicaa
open Go.RowKit
set_option maxRecDepth 100000
set_option maxHeartbeats 1600000
namespace Sp
theorem and7 : ∀ k a : Fin 128, andI .i64 (k.val : Int) (a.val : Int) = ((k.val &&& a.val : Nat) : Int) := by decide +kernel
theorem and_iff {w k a b : Nat} (ha : a < 2 ^ w) (hb : b &&& a = b) : (k &&& a = b) ↔ ∀ i, i < w -> a / 2 ^ i % 2 = 1 -> k / 2 ^ i % 2 = b / 2 ^ i % 2 := by
 constructor
 ·rintro rfl i hi h1;have t := Nat.testBit_and k a i;simp only [Nat.testBit_eq_decide_div_mod_eq, h1, decide_true, Bool.and_true, decide_eq_decide] at t;omega
 ·intro h;apply Nat.eq_of_testBit_eq;intro i;rw [Nat.testBit_and];cases hta : a.testBit i with
  | false => rw [Bool.and_false, <- hb, Nat.testBit_and, hta, Bool.and_false]
  | true =>
   have hi : i < w := by
    rcases Nat.lt_or_ge i w with h | h
    ·exact h
    ·rw [Nat.testBit_lt_two_pow (Nat.lt_of_lt_of_le ha (Nat.pow_le_pow_right (by decide) h))] at hta;cases hta
   have := h i hi (by simpa [Nat.testBit_eq_decide_div_mod_eq] using hta);rw [Bool.and_true, Nat.testBit_eq_decide_div_mod_eq, Nat.testBit_eq_decide_div_mod_eq, this]
theorem fillP_get {f : Nat -> Bool} : ∀ (n i : Nat) (p : Dt) (k : Nat), i + n <= p.length -> psb (fillP f i n p) k = if i <= k /\ k < i + n then f k else psb p k
 | 0, i, p, k, _ => by rw [if_neg (by omega)]; rfl
 | n + 1, i, p, k, h => by
  rw [fillP, fillP_get n (i + 1) _ k (by rw [List.length_set]; omega)]
  by_cases e : k = i
  ·subst e;rw [if_neg (by omega), if_pos (by omega)];unfold psb cel;rw [List.getD_eq_getElem?_getD (l := p.set k _), List.getElem?_set_self (by omega)];rfl
  ·have : psb (p.set i [.b (f i)]) k = psb p k := by
    unfold psb cel;rw [List.getD_eq_getElem?_getD (l := p.set i _), List.getElem?_set_ne (Ne.symm e), <- List.getD_eq_getElem?_getD]
   rw [this]
   by_cases c : i + 1 <= k /\ k < i + 1 + n
   ·rw [if_pos c, if_pos (by omega)]
   ·rw [if_neg c, if_neg (by omega)]
theorem lpP_len (qs ps : Dt) (all : Int) (sh : Dt) : (lpP qs ps all sh).length = 2 ^ (uns sh).length := by unfold lpP; rw [Xbq, List.length_replicate]
theorem lpP_get {qs ps sh : Dt} {all : Int} {k : Nat} (h : k < 2 ^ (uns sh).length) : psb (lpP qs ps all sh) k = psB qs ps all sh (uns sh) k := by
 unfold lpP;rw [fillP_get _ _ _ _ (by rw [List.length_replicate]; omega), if_pos (by omega)]
theorem oc2 {qs ps s : Dt} {all : Int} : ocV qs ps all s = 2 ↔ (∃ r ∈ rds s, psS qs ps all r = true) /\ ∃ r ∈ rds s, psS qs ps all r = false := by
 have h1 : anyP qs ps all (rdD s) = true ↔ ∃ r ∈ rds s, psS qs ps all r = true := by
  refine (anyF_0 (f := fun k => psS qs ps all (row (rdD s) k))).trans ?_;constructor
  ·rintro ⟨k, hk, e⟩; exact ⟨_, rds_ix.2 ⟨k, hk, rfl⟩, e⟩
  ·rintro ⟨r, hr, e⟩; obtain ⟨k, hk, e2⟩ := rds_ix.1 hr; exact ⟨k, hk, by rw [e2]; exact e⟩
 have h2 : allP qs ps all (rdD s) = true ↔ ∀ r ∈ rds s, psS qs ps all r = true := by
  refine (allF_0 (f := fun k => psS qs ps all (row (rdD s) k))).trans ?_;constructor
  ·intro h r hr; obtain ⟨k, hk, e2⟩ := rds_ix.1 hr; rw [<- e2]; exact h k hk
  ·intro h k hk; exact h _ (rds_ix.2 ⟨k, hk, rfl⟩)
 have h3 : (∃ r ∈ rds s, psS qs ps all r = false) ↔ ¬ ∀ r ∈ rds s, psS qs ps all r = true := by
  constructor
  ·rintro ⟨r, hr, e⟩ h; rw [h r hr] at e; cases e
  ·intro h
   by_cases c : ∃ r ∈ rds s, psS qs ps all r = false
   ·exact c
   ·exact absurd (fun r hr => by cases e : psS qs ps all r with | true => rfl | false => exact absurd ⟨r, hr, e⟩ c) h
 rw [h3, <- h1, <- h2];unfold ocV
 split
 ·rename_i h; simp [h]
 ·rename_i h
  split
  ·rename_i h'; simp [h, h']
  ·rename_i h'; simp [h, h']
theorem fit_iff {w k a b : Nat} (hw : w <= 7) (hk : k < 2 ^ w) (ha : a < 2 ^ w) (hb : b &&& a = b) : fit a b k = true ↔ ∀ i, i < w -> a / 2 ^ i % 2 = 1 -> k / 2 ^ i % 2 = b / 2 ^ i % 2 := by
 have p : 2 ^ w <= 2 ^ 7 := Nat.pow_le_pow_right (by decide) hw;have h7 : (2 : Nat) ^ 7 = 128 := rfl;unfold fit;rw [decide_eq_true_eq, <- and_iff ha hb];have := and7 ⟨k, by omega⟩ ⟨a, by omega⟩;rw [this];exact ⟨fun e => Int.ofNat.inj e, fun e => congrArg _ e⟩
theorem mix_iff {qs ps sh : Dt} {all : Int} {a b : Nat} (hk : KeyOk qs ps all) (hs : ShOk qs sh) (ha : a < 2 ^ (pos sh).length) (hb : b &&& a = b) : mixB (lpP qs ps all sh) a b = true ↔ ocV qs ps all (shA (pos sh) a b sh) = 2 := by
 have h7 := hs.seven;rw [uns_len] at h7;have hp : pos (shA (pos sh) a b sh) = frA (pos sh) a := by
  have := pos_shA (pos sh) a b sh [] (pos_nd sh) (fun p hp => by cases hp) rfl;exact this
 have hr : ∀ r, r ∈ rds (shA (pos sh) a b sh) ↔ ∃ c, c < 2 ^ (pos sh).length /\ fit a b c = true /\ r = itW (pos sh) c sh := fun r => by
  rw [rds_it _ _ r hp, it_shA _ a b sh r (pos_nd sh) hb];constructor
  ·rintro ⟨c, hc, h, e⟩; exact ⟨c, hc, (fit_iff h7 hc ha hb).2 h, e⟩
  ·rintro ⟨c, hc, h, e⟩; exact ⟨c, hc, (fit_iff h7 hc ha hb).1 h, e⟩
 have hg : ∀ c, c < 2 ^ (pos sh).length -> psb (lpP qs ps all sh) c = psS qs ps all (itW (pos sh) c sh) := fun c hc => by
  rw [lpP_get (by rw [uns_len]; exact hc)];exact psW_it hk hs.n h7 hc
 have hl : (lpP qs ps all sh).length = 2 ^ (pos sh).length := by rw [lpP_len, uns_len]
 have m1 : anyF (fitA (lpP qs ps all sh) a b) 0 (lpP qs ps all sh).length = true ↔ ∃ r ∈ rds (shA (pos sh) a b sh), psS qs ps all r = true := by
  rw [anyF_0, hl];constructor
  ·rintro ⟨c, hc, e⟩;unfold fitA at e;rw [Bool.and_eq_true] at e;exact ⟨_, (hr _).2 ⟨c, hc, e.1, rfl⟩, by rw [<- hg c hc]; exact e.2⟩
  ·rintro ⟨r, h, e⟩;obtain ⟨c, hc, h1, rfl⟩ := (hr _).1 h;exact ⟨c, hc, by unfold fitA; rw [h1, hg c hc, e]; rfl⟩
 have m2 : (!allF (fitE (lpP qs ps all sh) a b) 0 (lpP qs ps all sh).length) = true ↔ ∃ r ∈ rds (shA (pos sh) a b sh), psS qs ps all r = false := by
  rw [Bool.not_eq_true', <- Bool.not_eq_true, allF_0, hl];constructor
  ·intro h
   by_cases c : ∃ r ∈ rds (shA (pos sh) a b sh), psS qs ps all r = false
   ·exact c
   ·refine absurd (fun k hk => ?_) h;unfold fitE;cases e : fit a b k with
    | false => rfl
    | true =>
     cases e2 : psS qs ps all (itW (pos sh) k sh) with
     | true => rw [hg k hk, e2]; rfl
     | false => exact absurd ⟨_, (hr _).2 ⟨k, hk, e, rfl⟩, e2⟩ c
  ·rintro ⟨r, h, e⟩ h2;obtain ⟨c, hc, h1, rfl⟩ := (hr _).1 h;have := h2 c hc;unfold fitE at this;rw [h1, hg c hc, e] at this;cases this
 unfold mixB;rw [Bool.and_eq_true, oc2, m1, m2]
end Sp
open Go.RowKit
set_option maxRecDepth 100000
set_option maxHeartbeats 1600000
namespace Sp
theorem orFacts : ∀ (a : Fin 128) (i : Fin 7), bitA (a.val : Int) (i.val : Int) = ((a.val / 2 ^ i.val % 2 : Nat) : Int) /\ (a.val / 2 ^ i.val % 2 = 0 -> orB (a.val : Int) (i.val : Int) = ((a.val + 2 ^ i.val : Nat) : Int) /\ a.val + 2 ^ i.val = a.val ||| 2 ^ i.val) := by decide +kernel
theorem sub_or {a b y : Nat} (h : b &&& a = b) : b &&& (a ||| y) = b /\ (b ||| y) &&& (a ||| y) = b ||| y := by
 have hj : ∀ j, (b.testBit j && a.testBit j) = b.testBit j := fun j => by rw [<- Nat.testBit_and, h]
 constructor <;> apply Nat.eq_of_testBit_eq <;> intro j <;> have := hj j <;> simp only [Nat.testBit_and, Nat.testBit_or] <;> revert this <;> cases b.testBit j <;> cases a.testBit j <;> cases y.testBit j <;> simp
theorem sub_bit {a b i : Nat} (h : b &&& a = b) (ha : a / 2 ^ i % 2 = 0) : b / 2 ^ i % 2 = 0 := by
 have : (b.testBit i && a.testBit i) = b.testBit i := by rw [<- Nat.testBit_and, h]
 simp only [Nat.testBit_eq_decide_div_mod_eq, ha] at this;simp at this;omega
theorem frA_mem : ∀ {ps : List (Nat × Nat)} {a i : Nat} (h : i < ps.length), a / 2 ^ i % 2 = 0 -> ps[i] ∈ frA ps a
 | [], _, i, h, _ => absurd h (Nat.not_lt_zero _)
 | p :: ps, a, 0, h, ha => by
  have ha : a % 2 = 0 := by simpa using ha
  unfold frA;rw [if_neg (by omega)];exact List.mem_cons_self
 | p :: ps, a, i + 1, h, ha => by
  have hi : i < ps.length := by simpa using h
  rw [Nat.pow_succ, Nat.mul_comm (2 ^ i) 2, <- Nat.div_div_eq_div_mul] at ha;have := frA_mem (a := a / 2) hi ha;unfold frA
  split
  ·exact this
  ·exact List.mem_cons_of_mem _ this
def lkL (c : Nat × Nat -> Int) : List (Nat × Nat) -> LkR -> LkR
 | [], r => r
 | p :: l, r => lkL c l (if r.n < 0 \/ c p < r.n then ⟨c p, p.1, p.2⟩ else r)
theorem lkF_L {c : Nat -> Int} {c' : Nat × Nat -> Int} (l : List (Nat × Nat)) (hc : ∀ i (h : i < l.length), c i = c' l[i]) : ∀ (n i : Nat) (r : LkR), i + n = l.length -> lkF c (l.map prC) i n r = lkL c' (l.drop i) r
 | 0, i, r, h => by rw [List.drop_eq_nil_of_le (by omega)]; rfl
 | n + 1, i, r, h => by
  have hi : i < l.length := by omega
  rw [List.drop_eq_getElem_cons hi];unfold lkF lkL;rw [(prC_cel l i hi).1, (prC_cel l i hi).2, hc i hi, lkF_L l hc n (i + 1) _ (by omega)]
structure LkRel (us : List (Nat × Nat)) (r : LkR) (t : LpR) : Prop where
 neg : r.n < 0 ↔ t.i < 0
 pos : 0 <= t.i -> r.n = t.n /\ ∃ h : t.i.toNat < us.length, r.a = us[t.i.toNat].1 /\ r.b = us[t.i.toNat].2
theorem lk_lp {c : Nat -> Int} {c' : Nat × Nat -> Int} (us : List (Nat × Nat)) (A : Nat) (hc : ∀ k (h : k < us.length), A / 2 ^ k % 2 = 0 -> c k = c' us[k] /\ 0 <= c k) : ∀ (n k : Nat) (r : LkR) (t : LpR), k + n = us.length -> LkRel us r t -> LkRel us (lkL c' (frA (us.drop k) (A / 2 ^ k)) r) (lpF c (fun i => decide (A / 2 ^ i % 2 = 1)) k n t)
 | 0, k, r, t, h, hr => by rw [List.drop_eq_nil_of_le (by omega)]; exact hr
 | n + 1, k, r, t, h, hr => by
  have hk : k < us.length := by omega
  have ih := lk_lp us A hc n (k + 1);rw [Nat.pow_succ, <- Nat.div_div_eq_div_mul] at ih;rw [List.drop_eq_getElem_cons hk];unfold frA lpF
  by_cases e : A / 2 ^ k % 2 = 1
  ·rw [if_pos e, if_pos (by simpa using e)];exact ih r t (by omega) hr
  ·rw [if_neg e, if_neg (by simpa using e)];obtain ⟨c1, c2⟩ := hc k hk (by omega);unfold lkL;refine ih _ _ (by omega) ?_;rw [<- c1];have hiff : (r.n < 0 \/ c k < r.n) ↔ (t.i < 0 \/ c k < t.n) := by
    by_cases ht : t.i < 0
    ·exact ⟨fun _ => .inl ht, fun _ => .inl (hr.neg.2 ht)⟩
    ·have h1 := (hr.pos (by omega)).1;have h2 : ¬ r.n < 0 := fun x => ht (hr.neg.1 x);rw [h1];constructor
     ·rintro (x | x)
      ·rw [<- h1] at x; exact absurd x h2
      ·exact .inr x
     ·rintro (x | x)
      ·exact absurd x ht
      ·exact .inr x
   by_cases x : r.n < 0 \/ c k < r.n
   ·rw [if_pos x, if_pos (hiff.1 x)];refine ⟨⟨fun y => ?_, fun y => ?_⟩, fun _ => ⟨rfl, ?_⟩⟩
    ·have : c k < 0 := y;omega
    ·have : ((k : Nat) : Int) < 0 := y;omega
    ·show ∃ h : ((k : Nat) : Int).toNat < us.length, _
     simp only [Int.toNat_natCast];exact ⟨hk, by simp⟩
   ·rw [if_neg x, if_neg fun y => x (hiff.2 y)];exact hr
end Sp
open Go.RowKit
set_option maxRecDepth 100000
set_option maxHeartbeats 1600000
namespace Sp
theorem lpF_skip {c : Nat -> Int} {s s' : Nat -> Bool} : ∀ (n i : Nat) (r : LpR), (∀ k, i <= k -> k < i + n -> s k = s' k) -> lpF c s i n r = lpF c s' i n r
 | 0, _, _, _ => rfl
 | n + 1, i, r, h => by
  unfold lpF;rw [h i (Nat.le_refl _) (by omega)];exact lpF_skip n _ _ fun k h1 h2 => h k (by omega) (by omega)
theorem lkL_pos {c : Nat × Nat -> Int} (hc : ∀ p, 0 <= c p) : ∀ (l : List (Nat × Nat)) (r : LkR), (0 <= r.n \/ l ≠ []) -> 0 <= (lkL c l r).n
 | [], r, h => h.elim id fun x => absurd rfl x
 | p :: l, r, h => by
  unfold lkL;refine lkL_pos hc l _ (.inl ?_)
  split
  ·exact hc p
  ·omega
theorem oc_free {qs ps s : Dt} {all : Int} (h : ocV qs ps all s = 2) : pos s ≠ [] := fun e => by
 obtain ⟨⟨r, hr, h1⟩, r', hr', h2⟩ := oc2.1 h;rw [rds_nil e, List.mem_singleton] at hr hr';rw [hr] at h1;rw [hr', h1] at h2;cases h2
theorem look_same {qs ps sh : Dt} {all : Int} (hk : KeyOk qs ps all) (hs : ShOk qs sh) : ∀ (n A B : Nat), A < 2 ^ (pos sh).length -> B &&& A = B -> (pos (shA (pos sh) A B sh)).length < n ->
  (lkN qs ps all n (shA (pos sh) A B sh)).n = (lpC (lpP qs ps all sh) (pos sh).length A B).n /\
  ((lpC (lpP qs ps all sh) (pos sh).length A B).i < 0 -> ocV qs ps all (shA (pos sh) A B sh) ≠ 2) /\
  (0 <= (lpC (lpP qs ps all sh) (pos sh).length A B).i -> ocV qs ps all (shA (pos sh) A B sh) = 2 /\ ∃ h : (lpC (lpP qs ps all sh) (pos sh).length A B).i.toNat < (pos sh).length, (lkN qs ps all n (shA (pos sh) A B sh)).a = (pos sh)[(lpC (lpP qs ps all sh) (pos sh).length A B).i.toNat].1 /\ (lkN qs ps all n (shA (pos sh) A B sh)).b = (pos sh)[(lpC (lpP qs ps all sh) (pos sh).length A B).i.toNat].2)
 | 0, _, _, _, _, h => absurd h (Nat.not_lt_zero _)
 | n + 1, A, B, hA, hB, hn => by
  have h7 := hs.seven;rw [uns_len] at h7;have p7 : 2 ^ (pos sh).length <= 2 ^ 7 := Nat.pow_le_pow_right (by decide) h7;have e7 : (2 : Nat) ^ 7 = 128 := rfl;have hAi : (A : Int) < ((2 ^ (pos sh).length : Nat) : Int) := Int.ofNat_lt.2 hA;have mi := mix_iff (ps := ps) (all := all) hk hs hA hB;have hp : pos (shA (pos sh) A B sh) = frA (pos sh) A := pos_shA (pos sh) A B sh [] (pos_nd sh) (fun p hp => by cases hp) rfl;have hB2 : B < 2 ^ (pos sh).length := Nat.lt_of_le_of_lt (by rw [<- hB]; exact Nat.and_le_right) hA;have hu : uns (shA (pos sh) A B sh) = (frA (pos sh) A).map prC := by rw [uns_pos, hp]
  have leq := Xk2 (ps := lpP qs ps all sh) (w := (pos sh).length) (a := (A : Int)) (b := (B : Int)) h7 (Int.natCast_nonneg _) hAi
  by_cases m : ocV qs ps all (shA (pos sh) A B sh) = 2
  ·rw [if_pos (mi.2 m)] at leq;obtain ⟨cc, hcc⟩ : ∃ c : Nat × Nat -> Int, ∀ p, c p = 1 + max (lkN qs ps all n (withD (shA (pos sh) A B sh) p.1 p.2 0)).n (lkN qs ps all n (withD (shA (pos sh) A B sh) p.1 p.2 1)).n := ⟨_, fun _ => rfl⟩;have c1 : ∀ k (h : k < (pos sh).length), A / 2 ^ k % 2 = 0 -> lpc (lpP qs ps all sh) (pos sh).length A B k = cc (pos sh)[k] /\ 0 <= lpc (lpP qs ps all sh) (pos sh).length A B k := fun k h ha => by
    have hb := sub_bit hB ha;obtain ⟨oa, oa2⟩ := (orFacts ⟨A, by omega⟩ ⟨k, by omega⟩).2 ha;obtain ⟨ob, ob2⟩ := (orFacts ⟨B, by omega⟩ ⟨k, by omega⟩).2 hb;have lt := (Xbe (a := (A : Int)) (i := (k : Int)) h7 (Int.natCast_nonneg _) hAi (Int.natCast_nonneg _) (Int.ofNat_lt.2 h)).2.1;have oa : orB (A : Int) (k : Int) = ((A + 2 ^ k : Nat) : Int) := oa;have ob : orB (B : Int) (k : Int) = ((B + 2 ^ k : Nat) : Int) := ob;have oa2 : A + 2 ^ k = A ||| 2 ^ k := oa2
    have ob2 : B + 2 ^ k = B ||| 2 ^ k := ob2
    rw [oa] at lt;have lt := Int.ofNat_lt.1 lt;have so := sub_or (y := 2 ^ k) hB;have hm : (pos sh)[k] ∈ pos (shA (pos sh) A B sh) := by rw [hp]; exact frA_mem h ha
    have s0 := shA_step (pos sh) k A B sh 0 (pos_nd sh) h ha hb (by decide);have s1 := shA_step (pos sh) k A B sh 1 (pos_nd sh) h ha hb (by decide);rw [Nat.zero_mul, Nat.add_zero] at s0;rw [Nat.one_mul] at s1;have l0 : (pos (withD (shA (pos sh) A B sh) (pos sh)[k].1 (pos sh)[k].2 0)).length + 1 = (pos (shA (pos sh) A B sh)).length := pos_with_len (v := 0) (by decide) hm;have l1 : (pos (withD (shA (pos sh) A B sh) (pos sh)[k].1 (pos sh)[k].2 1)).length + 1 = (pos (shA (pos sh) A B sh)).length := pos_with_len (v := 1) (by decide) hm;have s0 : withD (shA (pos sh) A B sh) (pos sh)[k].1 (pos sh)[k].2 0 = shA (pos sh) (A + 2 ^ k) B sh := s0;have s1 : withD (shA (pos sh) A B sh) (pos sh)[k].1 (pos sh)[k].2 1 = shA (pos sh) (A + 2 ^ k) (B + 2 ^ k) sh := s1;rw [s0] at l0;rw [s1] at l1;have i0 := (look_same hk hs n (A + 2 ^ k) B lt (by rw [oa2]; exact so.1) (by omega)).1;have i1 := (look_same hk hs n (A + 2 ^ k) (B + 2 ^ k) lt (by rw [oa2, ob2]; exact so.2) (by omega)).1;have bd := Xbo (ps := lpP qs ps all sh) (w := (pos sh).length) (a := ((A + 2 ^ k : Nat) : Int)) (b := (B : Int)) h7 (Int.natCast_nonneg _) (Int.ofNat_lt.2 lt);have e : lpc (lpP qs ps all sh) (pos sh).length A B k = 1 + max (lpC (lpP qs ps all sh) (pos sh).length ((A + 2 ^ k : Nat) : Int) B).n (lpC (lpP qs ps all sh) (pos sh).length ((A + 2 ^ k : Nat) : Int) ((B + 2 ^ k : Nat) : Int)).n := by
     unfold lpc;rw [oa, ob]
    refine ⟨?_, by rw [e]; omega⟩;rw [hcc, e, s0, s1, i0, i1]
   have rel := lk_lp (pos sh) A (c := lpc (lpP qs ps all sh) (pos sh).length A B) c1 (pos sh).length 0 ⟨-1, 0, 0⟩ ⟨0, -1⟩ (by omega) ⟨⟨fun _ => by decide, fun _ => by decide⟩, fun h => absurd h (by decide)⟩;rw [lpF_skip (s' := lps A) _ _ _ (fun k _ h => by
    unfold lps;rw [(orFacts ⟨A, by omega⟩ ⟨k, by omega⟩).1];simp only [decide_eq_decide];omega), <- leq, Nat.pow_zero, Nat.div_one, List.drop_zero] at rel
   have er : lkN qs ps all (n + 1) (shA (pos sh) A B sh) = lkL cc (frA (pos sh) A) ⟨-1, 0, 0⟩ := by
    rw [lkN, if_pos m, hu, List.length_map];refine (lkF_L (frA (pos sh) A) (fun i h => ?_) _ 0 _ (by omega)).trans (by rw [List.drop_zero]);rw [hcc, (prC_cel _ i h).1, (prC_cel _ i h).2, Int.toNat_natCast, Int.toNat_natCast]
   rw [<- er] at rel;have ge : 0 <= (lkN qs ps all (n + 1) (shA (pos sh) A B sh)).n := by
    rw [er];refine lkL_pos (fun p => ?_) _ _ (.inr (by rw [<- hp]; exact oc_free m));have := (lkN_in qs ps all n (withD (shA (pos sh) A B sh) p.1 p.2 0)).1;rw [hcc];omega
   have hi : ¬ (lpC (lpP qs ps all sh) (pos sh).length A B).i < 0 := fun x => by have := rel.neg.2 x; omega
   obtain ⟨r1, r2⟩ := rel.pos (by omega);exact ⟨r1, fun x => absurd x hi, fun _ => ⟨m, r2⟩⟩
  ·rw [if_neg fun x => m (mi.1 x)] at leq;rw [leq, lkN, if_neg m];exact ⟨rfl, fun _ => m, fun h => absurd h (by decide)⟩
end Sp
open Go.RowKit
set_option maxRecDepth 100000
set_option maxHeartbeats 1600000
namespace Sp
theorem shA_zero : ∀ (ps : List (Nat × Nat)) (b : Nat) (s : Dt), shA ps 0 b s = s
 | [], _, _ => rfl
 | p :: ps, b, s => by
  rw [shA, if_neg (by decide)];exact shA_zero ps _ s
theorem lpR_eq (qs ps : Dt) (all : Int) (sh : Dt) : lpR qs ps all sh = lpC (lpP qs ps all sh) (pos sh).length ((0 : Nat) : Int) ((0 : Nat) : Int) := by
 unfold lpR;rw [uns_len];rfl
theorem lk_lpR {qs ps sh : Dt} {all : Int} (hk : KeyOk qs ps all) (hs : ShOk qs sh) : (ocV qs ps all sh = 2 ↔ ¬ (lpR qs ps all sh).i < 0) /\ (ocV qs ps all sh = 2 -> lkN qs ps all 8 sh = ⟨(lpR qs ps all sh).n, cA (uns sh) (lpR qs ps all sh).i.toNat, cB (uns sh) (lpR qs ps all sh).i.toNat⟩) := by
 have h7 := hs.seven;rw [uns_len] at h7;have L := look_same (ps := ps) (all := all) hk hs 8 0 0 (Nat.two_pow_pos _) rfl (by rw [shA_zero]; omega);rw [shA_zero, <- lpR_eq] at L;obtain ⟨l1, l2, l3⟩ := L;refine ⟨⟨fun h x => l2 x h, fun h => (l3 (by omega)).1⟩, fun h => ?_⟩;have hi : 0 <= (lpR qs ps all sh).i := by
  rcases Int.lt_or_le (lpR qs ps all sh).i 0 with x | x
  ·exact absurd h (l2 x)
  ·exact x
 obtain ⟨_, hj, ha, hb⟩ := l3 hi;have e := prC_cel (pos sh) _ hj;rw [uns_pos, e.1, e.2, <- ha, <- hb, <- l1]
theorem plE_eq (qs ps : Dt) (all : Int) (sh : Dt) : plE qs ps all sh = lookE qs ps all sh := by
 unfold plE lookE
 by_cases e : askE qs ps all sh = 0
 ·obtain ⟨hk, hs⟩ := askE_ok e;rw [if_pos e, if_pos e];have h := (lk_lpR hk hs).1
  by_cases x : (lpR qs ps all sh).i < 0
  ·rw [if_pos x, if_neg fun y => h.1 y x]
  ·rw [if_neg x, if_pos (h.2 x)]
 ·rw [if_neg e, if_neg e]
theorem plR_eq (qs ps : Dt) (all : Int) (sh : Dt) : plR qs ps all sh = lookR qs ps all sh := by
 unfold plR lookR;rw [plE_eq]
 by_cases e : lookE qs ps all sh = 0
 ·rw [if_pos e, if_pos e];have ea : askE qs ps all sh = 0 := by
   unfold lookE at e
   split at e
   ·assumption
   ·exact e
  obtain ⟨hk, hs⟩ := askE_ok ea;have eo : ocV qs ps all sh = 2 := by
   unfold lookE at e;rw [if_pos ea] at e
   split at e
   ·assumption
   ·cases e
  exact ((lk_lpR hk hs).2 eo).symm
 ·rw [if_neg e, if_neg e]
end Sp
theorem Xjx : PureOk Try.prog 30 Xy [(true, [.int .i64, .int .i64]), (false, [.int .i64]), (false, [.int .i64])] (fun _ => True) Xcc := by
 have e : Xs = Xcc := by
  funext ds
  unfold Xs;simp only [Sp.plR_eq, Sp.plE_eq];rfl
 rw [<- e];exact Xmk
noncomputable def Xjq : PC Try.prog := ⟨30, Xy, [(true, [.int .i64, .int .i64]), (false, [.int .i64]), (false, [.int .i64])], fun _ => True, Xcc, Xjx⟩
end Go.Proofs.Ytifhdbgciehicaa
