/-
  'PaperFair': for every input the law returns true, and what is handed in reads as before. No condition.
-/
import Derived.Test.YtilnbgpogfabaaaQfaa
import Derived.Shelf.Sort.AssemblyIn
import Derived.Sort.EveryDepth
import Derived.Sort.OwnSortedInts
set_option linter.unusedVariables false
set_option linter.unusedSectionVars false
set_option linter.unusedSimpArgs false
namespace Go.Proofs.Ytilnbgpogfabaaa
open Go.RowKit
abbrev Jc : List Ty := [.sl [.int .i64]]
set_option maxRecDepth 100000
namespace Sp
def fstQ (xs : Dt) : Int := if xs.length = 0 then 0 else (cel xs (xs.length - 1) 0).int + 1
def vOf (qs ws xs : Dt) : V4 := ⟨(cel ws 0 0).int - many (px qs xs) 0 xs.length, (cel ws 1 0).int - many (px qs xs) 1 xs.length, (cel ws 2 0).int - many (px qs xs) 2 xs.length, (cel ws 3 0).int - many (px qs xs) 3 xs.length⟩
structure PreOk (qs ws xs : Dt) : Prop where
 up : allF (isF qs xs) 0 xs.length = true
 cap : ∀ p : Nat, many (px qs xs) p xs.length <= (cel ws p 0).int
theorem cel_snoc {xs : Dt} {r : List Cl} {i k : Nat} (h : i < xs.length) : cel (xs ++ [r]) i k = cel xs i k := by
 unfold cel;rw [List.getD_eq_getElem?_getD (l := xs ++ [r]), List.getElem?_append_left h, <- List.getD_eq_getElem?_getD]
theorem cel_last {xs : Dt} {r : List Cl} {k : Nat} : cel (xs ++ [r]) xs.length k = r.getD k .z := by
 unfold cel;rw [List.getD_eq_getElem?_getD (l := xs ++ [r]), List.getElem?_append_right (Nat.le_refl _)];simp
theorem many_snoc {l : Dt} {r : List Cl} {p : Int} : ∀ {n : Nat}, n <= l.length -> many (l ++ [r]) p n = many l p n
 | 0, _ => rfl
 | n + 1, h => by rw [many_succ, many_succ, many_snoc (by omega), cel_snoc (by omega)]
theorem px_snoc (qs xs : Dt) (i : Int) : px qs (xs ++ [[Cl.i i]]) = px qs xs ++ [[Cl.i (qPart qs i.toNat)]] := by simp [px, Cl.int]
theorem many_px_snoc (qs xs : Dt) (i p : Int) : many (px qs (xs ++ [[Cl.i i]])) p (xs ++ [[Cl.i i]]).length = many (px qs xs) p xs.length + (if qPart qs i.toNat = p then 1 else 0) := by
 rw [px_snoc, List.length_append]
 show many _ p (xs.length + 1) = _
 rw [many_succ, many_snoc (by rw [length_px]; exact Nat.le_refl _)];have : cel (px qs xs ++ [[Cl.i (qPart qs i.toNat)]]) xs.length 0 = .i (qPart qs i.toNat) := by
  rw [<- length_px qs xs, cel_last]; rfl
 rw [this];rfl
theorem vOf_snoc {qs ws xs : Dt} {i : Int} (h0 : 0 <= qPart qs i.toNat) (h3 : qPart qs i.toNat <= 3) : vOf qs ws (xs ++ [[Cl.i i]]) = V4.dec (vOf qs ws xs) (qPart qs i.toNat) := by
 unfold vOf;simp only [many_px_snoc];unfold V4.dec;generalize qPart qs i.toNat = p at *;have hp : p = 0 \/ p = 1 \/ p = 2 \/ p = 3 := by omega
 rcases hp with rfl | rfl | rfl | rfl <;> simp <;> omega
theorem sumN_ext {f g : Nat -> Int} : ∀ {n i : Nat}, (∀ k, i <= k -> k < i + n -> f k = g k) -> sumN f i n = sumN g i n
 | 0, i, _ => rfl
 | n + 1, i, h => by rw [sumN, sumN, h i (by omega) (by omega), sumN_ext fun k a b => h k (by omega) (by omega)]
theorem sumN_last {f : Nat -> Int} : ∀ {n i : Nat}, sumN f i (n + 1) = sumN f i n + f (i + n)
 | 0, i => by simp [sumN]
 | n + 1, i => by rw [sumN, sumN_last, sumN, show i + 1 + n = i + (n + 1) by omega]; omega
theorem lvl_snoc (qs xs : Dt) (i : Int) : lvl qs (xs ++ [[Cl.i i]]) = lvl qs xs + wt qs i.toNat := by
 have e1 : (xs ++ [[Cl.i i]]).length = xs.length + 1 := by simp
 have e2 : sumN (lvf qs (xs ++ [[Cl.i i]])) 0 xs.length = sumN (lvf qs xs) 0 xs.length := sumN_ext fun k a b => by
  unfold lvf;rw [cel_snoc (by omega)]
 have e3 : lvf qs (xs ++ [[Cl.i i]]) (0 + xs.length) = wt qs i.toNat := by
  unfold lvf;rw [Nat.zero_add, cel_last];rfl
 unfold lvl;rw [e1, sumN_last, e2, e3]
theorem V4.get_vOf {qs ws xs : Dt} {p : Int} (h0 : 0 <= p) (h3 : p <= 3) : V4.get (vOf qs ws xs) p = (cel ws p.toNat 0).int - many (px qs xs) p xs.length := by
 have hp : p = 0 \/ p = 1 \/ p = 2 \/ p = 3 := by omega
 rcases hp with rfl | rfl | rfl | rfl <;> rfl
theorem sum_many {l : Dt} {np : Nat} : ∀ {n : Nat}, (∀ k, k < n -> 0 <= (cel l k 0).int /\ (cel l k 0).int < np) -> sumN (fun p => many l p n) 0 np = n
 | 0, _ => by
  have : ∀ m i, sumN (fun p => many l p 0) i m = 0 := fun m => by
   induction m with
   | zero => intro i; rfl
   | succ m ih => intro i; rw [sumN, ih]; rfl
  rw [this]; rfl
 | n + 1, h => by
  have h1 := sum_many (n := n) fun k hk => h k (by omega);obtain ⟨q0, q1⟩ := h n (by omega);have h2 : ∀ m i, sumN (fun p => many l p (n + 1)) i m = sumN (fun p => many l p n) i m + (if (i : Int) <= (cel l n 0).int /\ (cel l n 0).int < i + m then 1 else 0) := fun m => by
   induction m with
   | zero => intro i; simp only [sumN]; rw [if_neg (by omega)]; rfl
   | succ m ih =>
    intro i;rw [sumN, sumN, ih, many_succ]
    by_cases e : (cel l n 0).int = i
    ·rw [if_pos e, if_neg (by omega), if_pos (by omega)]; omega
    ·rw [if_neg e]
     by_cases e2 : ((i + 1 : Nat) : Int) <= (cel l n 0).int /\ (cel l n 0).int < ((i + 1 : Nat) : Int) + m
     ·rw [if_pos e2, if_pos (by omega)]; omega
     ·rw [if_neg e2, if_neg (by omega)]; omega
  rw [h2, h1, if_pos (by omega)]
  push_cast; rfl
theorem sumN_le {f g : Nat -> Int} : ∀ {n i : Nat}, (∀ k, i <= k -> k < i + n -> f k <= g k) -> sumN f i n <= sumN g i n /\ (sumN f i n = sumN g i n -> ∀ k, i <= k -> k < i + n -> f k = g k)
 | 0, i, _ => ⟨by simp [sumN], fun _ k a b => by omega⟩
 | n + 1, i, h => by
  have h1 := sumN_le (n := n) (i := i + 1) fun k a b => h k (by omega) (by omega);have h2 := h i (by omega) (by omega);rw [sumN, sumN];refine ⟨by omega, fun e k a b => ?_⟩
  by_cases hk : k = i
  ·subst hk; omega
  ·exact h1.2 (by omega) k (by omega) (by omega)
theorem PreOk.isf {qs ws xs : Dt} (h : PreOk qs ws xs) : ∀ k, k < xs.length -> isF qs xs k = true := fun k hk => allF_iff.1 h.up k (Nat.zero_le _) (by omega)
theorem PreOk.px {qs ws xs : Dt} {lo hi : Int} (bv : BankV qs ws lo hi) (h : PreOk qs ws xs) : ∀ k, k < xs.length -> 0 <= (cel (Sp.px qs xs) k 0).int /\ (cel (Sp.px qs xs) k 0).int < ws.length := fun k hk => by
 have h1 := isF_up h.isf k hk;have h2 := bv.part (cel xs k 0).int.toNat (by omega);rw [cel_px hk];omega
theorem cel_out {ws : Dt} {p : Nat} (h : ws.length <= p) : (cel ws p 0).int = 0 := by
 rw [show cel ws p 0 = .z by simp [cel, List.getD_eq_getElem?_getD, List.getElem?_eq_none h]]; rfl
theorem vOf_eq (qs ws xs : Dt) : (vOf qs ws xs).a = (cel ws 0 0).int - many (px qs xs) ((0 : Nat) : Int) xs.length /\ (vOf qs ws xs).b = (cel ws 1 0).int - many (px qs xs) ((1 : Nat) : Int) xs.length /\ (vOf qs ws xs).c = (cel ws 2 0).int - many (px qs xs) ((2 : Nat) : Int) xs.length /\ (vOf qs ws xs).d = (cel ws 3 0).int - many (px qs xs) ((3 : Nat) : Int) xs.length := ⟨rfl, rfl, rfl, rfl⟩
theorem nil_iff {qs ws xs : Dt} {lo hi : Int} (bv : BankV qs ws lo hi) (h : PreOk qs ws xs) : V4.nil (vOf qs ws xs) = true ↔ (xs.length : Int) = wan ws := by
 have hs := sum_many (h.px bv);have hw := bv.w2;have hc := sumN_le (f := fun p => many (Sp.px qs xs) p xs.length) (g := fun p => (cel ws p 0).int) (n := ws.length) (i := 0) fun k _ _ => h.cap k;have e4 : V4.nil (vOf qs ws xs) = true ↔ ∀ p : Nat, p < 4 -> many (Sp.px qs xs) p xs.length = (cel ws p 0).int := by
  obtain ⟨a0, a1, a2, a3⟩ := vOf_eq qs ws xs;simp only [V4.nil, Bool.and_eq_true, decide_eq_true_eq];constructor
  ·rintro ⟨⟨⟨h0, h1⟩, h2⟩, h3⟩ p hp;have hp4 : p = 0 \/ p = 1 \/ p = 2 \/ p = 3 := by omega
   rcases hp4 with rfl | rfl | rfl | rfl <;> omega
  ·intro hp;have h0 := hp 0 (by omega);have h1 := hp 1 (by omega);have h2 := hp 2 (by omega);have h3 := hp 3 (by omega);omega
 rw [e4];unfold wan;constructor
 ·intro hp;rw [<- hs];exact sumN_ext fun k a b => hp k (by omega)
 ·intro he p hp
  by_cases hpn : p < ws.length
  ·exact hc.2 (by rw [hs]; exact he) p (Nat.zero_le _) (by omega)
  ·have h1 := h.cap p;rw [cel_out (by omega)] at h1 ⊢;have := many_bound (Sp.px qs xs) p xs.length;omega
theorem fst_bound {qs ws xs : Dt} (h : PreOk qs ws xs) : (xs.length : Int) <= fstQ xs /\ fstQ xs <= qs.length := by
 unfold fstQ
 split
 ·omega
 ·have := isF_up h.isf (xs.length - 1) (by omega);omega
theorem PreOk.st {qs ws xs : Dt} {lo hi : Int} (bv : BankV qs ws lo hi) (h : PreOk qs ws xs) : StOk qs (fstQ xs) (lvl qs xs) (vOf qs ws xs) := by
 obtain ⟨f0, f1⟩ := fst_bound h;have hl : ∀ i, 0 <= lvf qs xs i /\ lvf qs xs i <= 1000 := fun i => by
  unfold lvf
  by_cases hi : i < xs.length
  ·have := isF_up h.isf i hi;exact bv.wt (by omega)
  ·rw [cel_out (by omega)];exact bv.wt bv.n1
 have hb := sumN_bound hl xs.length 0;have hw := bv.w16;have hc := h.cap;have hm := fun p => many_bound (Sp.px qs xs) p xs.length;obtain ⟨a0, a1, a2, a3⟩ := vOf_eq qs ws xs;refine ⟨by omega, f1, hb.1, by unfold lvl; omega, ⟨?_, ?_, ?_, ?_⟩⟩
 ·have := hw 0; have := hc 0; have := hm ((0 : Nat) : Int); rw [a0]; omega
 ·have := hw 1; have := hc 1; have := hm ((1 : Nat) : Int); rw [a1]; omega
 ·have := hw 2; have := hc 2; have := hm ((2 : Nat) : Int); rw [a2]; omega
 ·have := hw 3; have := hc 3; have := hm ((3 : Nat) : Int); rw [a3]; omega
theorem isF_snoc {qs xs : Dt} {i : Int} {k : Nat} (h : k < xs.length) : isF qs (xs ++ [[Cl.i i]]) k = isF qs xs k := by
 unfold isF;rw [cel_snoc h, cel_snoc (show k - 1 < xs.length by omega)]
theorem PreOk.snoc {qs ws xs : Dt} (h : PreOk qs ws xs) {i : Int} (h0 : fstQ xs <= i) (h1 : i < qs.length) (p0 : 0 <= qPart qs i.toNat) (p3 : qPart qs i.toNat <= 3) (hg : 1 <= V4.get (vOf qs ws xs) (qPart qs i.toNat)) : PreOk qs ws (xs ++ [[Cl.i i]]) := by
 have hb := fst_bound h;rw [V4.get_vOf p0 p3] at hg;refine ⟨allF_iff.2 fun k _ hk => ?_, fun p => ?_⟩
 ·rw [List.length_append] at hk
  by_cases hk2 : k < xs.length
  ·rw [isF_snoc hk2]; exact h.isf k hk2
  ·have e : k = xs.length := by simp at hk; omega
   subst e;unfold isF;rw [cel_last];simp only [Bool.and_eq_true, inr_iff, Bool.or_eq_true, decide_eq_true_eq];refine ⟨by simp [Cl.int]; omega, ?_⟩
   by_cases hz : xs.length = 0
   ·exact .inl hz
   ·refine .inr ?_;rw [cel_snoc (by omega)];unfold fstQ at h0;rw [if_neg hz] at h0
    show _ < i
    omega
 ·have hc := h.cap p;rw [many_px_snoc]
  split
  ·rename_i e;rw [e, Int.toNat_natCast] at hg;omega
  ·omega
theorem many_mono {l : Dt} {p : Int} {n : Nat} : ∀ (d : Nat), many l p n <= many l p (n + d)
 | 0 => by simp
 | d + 1 => by
  have := many_mono (l := l) (p := p) (n := n) d;rw [<- Nat.add_assoc, many_succ]
  split <;> omega
theorem ovr_snoc {qs ws xs : Dt} {lo hi : Int} (bv : BankV qs ws lo hi) (h : PreOk qs ws xs) {i : Int} (p0 : 0 <= qPart qs i.toNat) (p3 : qPart qs i.toNat <= 3) : ovr qs ws (xs ++ [[Cl.i i]]) = !decide (1 <= V4.get (vOf qs ws xs) (qPart qs i.toNat)) := by
 have hl : (xs ++ [[Cl.i i]]).length = xs.length + 1 := by simp
 have hlast : ovF qs ws (xs ++ [[Cl.i i]]) xs.length = !decide (1 <= V4.get (vOf qs ws xs) (qPart qs i.toNat)) := by
  have hm := many_px_snoc qs xs i (qPart qs i.toNat);rw [hl, if_pos rfl] at hm;unfold ovF;rw [cel_last, V4.get_vOf p0 p3]
  show decide ((cel ws (qPart qs i.toNat).toNat 0).int < many _ (qPart qs i.toNat) (xs.length + 1)) = _
  rw [hm, <- decide_not]
  congr 1
  simp only [eq_iff_iff];omega
 have hno : ∀ k, k < xs.length -> ovF qs ws (xs ++ [[Cl.i i]]) k = false := fun k hk => by
  have hp := isF_up h.isf k hk;have hb := bv.part (cel xs k 0).int.toNat (by omega);have hc := h.cap (qPart qs (cel xs k 0).int.toNat).toNat;have hmm := many_mono (l := px qs xs) (p := qPart qs (cel xs k 0).int.toNat) (n := k + 1) (xs.length - (k + 1));rw [Int.toNat_of_nonneg hb.1] at hc;rw [show k + 1 + (xs.length - (k + 1)) = xs.length by omega] at hmm;unfold ovF;rw [cel_snoc hk, px_snoc, many_snoc (by rw [length_px]; omega)];exact decide_eq_false (by omega)
 rw [<- hlast];unfold ovr;rw [hl];cases hx : ovF qs ws (xs ++ [[Cl.i i]]) xs.length with
 | true => exact anyF_iff.2 ⟨xs.length, Nat.zero_le _, by omega, hx⟩
 | false =>
  rw [<- Bool.not_eq_true, anyF_iff];rintro ⟨k, _, hk, hk2⟩
  by_cases hk3 : k < xs.length
  ·rw [hno k hk3] at hk2; cases hk2
  ·rw [show k = xs.length by omega, hx] at hk2; cases hk2
end Sp
set_option maxHeartbeats 1600000
namespace Sp
def toN (pre : Dt) (ps : List Dt) : Dt := ps.map fun p => [.l (pre ++ p)]
def bhdD (qs ws : Dt) (lo hi : Int) (pre : Dt) : Dt := toN pre (gen qs lo hi (qs.length - (fstQ pre).toNat) (lvl qs pre) (vOf qs ws pre))
theorem toN_cons (pre : Dt) (i : Int) (ps : List Dt) : toN pre (ps.map ([Cl.i i] :: ·)) = toN (pre ++ [[Cl.i i]]) ps := by
 simp [toN]
theorem toN_app (pre : Dt) (a b : List Dt) : toN pre (a ++ b) = toN pre a ++ toN pre b := by simp [toN]
theorem fst_snoc (xs : Dt) (i : Int) : fstQ (xs ++ [[Cl.i i]]) = i + 1 := by
 unfold fstQ;rw [if_neg (by simp), show (xs ++ [[Cl.i i]]).length - 1 = xs.length by simp, cel_last];rfl
theorem In_snoc {qs ws xs : Dt} {lo hi : Int} (bv : BankV qs ws lo hi) (h : PreOk qs ws xs) {i : Int} (h0 : fstQ xs <= i) (h1 : i < qs.length) : In qs (xs ++ [[Cl.i i]]) := by
 have hb := fst_bound h;have hn := bv.n2;refine ⟨by simp; omega, fun k hk => ?_⟩
 by_cases hk2 : k < xs.length
 ·rw [cel_snoc hk2];have := isF_up h.isf k hk2;omega
 ·have e : k = xs.length := by simp at hk; omega
  subst e;rw [cel_last]
  show 0 <= i /\ i < _
  omega
theorem gen_at {qs : Dt} {lo hi s : Int} {v : V4} (h : V4.nil v = false) {i : Int} (h0 : 0 <= i) (h1 : i < qs.length) :
  gen qs lo hi (qs.length - i.toNat) s v = (if 1 <= V4.get v (qPart qs i.toNat) then (gen qs lo hi (qs.length - (i + 1).toNat) (s + wt qs i.toNat) (V4.dec v (qPart qs i.toNat))).map ([Cl.i i] :: ·) else []) ++ gen qs lo hi (qs.length - (i + 1).toNat) s v := by
 rw [show qs.length - i.toNat = (qs.length - (i + 1).toNat) + 1 by omega, gen_succ h (i := i.toNat) (by omega), Int.toNat_of_nonneg h0]
end Sp
abbrev Xe9 : List AT := [.agg [.sl Ja, .sl Jb, .int .i64, .int .i64], .one (.sl Jb)]
abbrev Xd8 : RTs := [(false, [.nst 23 [.sl Jb]])]
abbrev Xbe (ds : DS) : DS := match ds with | [[.l qs, .l ws, .i lo, .i hi], [.l pre]] => [[.l (Sp.bhdD qs ws lo hi pre)]] | _ => []
abbrev X1 (n : Nat) (ds : DS) : Prop := match ds with | [[.l qs, .l ws, .i lo, .i hi], [.l pre]] => Sp.BankV qs ws lo hi /\ Sp.PreOk qs ws pre /\ qs.length - (Sp.fstQ pre).toNat < n | _ => False
def BhdP (n : Nat) : Prop := PureOk Try.prog 64 Xe9 Xd8 (X1 n) Xbe
def Xd7 (n : Nat) [InW] (e : List Ed) (K : Nat -> List Ed -> Prop) : Prop := match e with
 | [.ro _ pre, .i i, .ro _ qs, .ro _ ws, .i lo, .i hi, .l rs] => Pre (Sp.BankV qs.xs ws.xs lo hi /\ Sp.PreOk qs.xs ws.xs pre.xs /\ Sp.V4.nil (Sp.vOf qs.xs ws.xs pre.xs) = false /\ qs.xs.length - (Sp.fstQ pre.xs).toNat < n + 1 /\ Sp.fstQ pre.xs <= i /\ i <= qs.xs.length /\ rs.length + Sp.cnt qs.xs lo hi (qs.xs.length - i.toNat) (Sp.lvl qs.xs pre.xs) (Sp.vOf qs.xs ws.xs pre.xs) <= 65536)
   (K 0 [.l (rs ++ Sp.toN pre.xs (Sp.gen qs.xs lo hi (qs.xs.length - i.toNat) (Sp.lvl qs.xs pre.xs) (Sp.vOf qs.xs ws.xs pre.xs)))])
 | _ => False
noncomputable def Xb1 (n : Nat) : LC where
 len := 55
 T := [(1, .rs Jb), (2, (.ptr 4 0)), (6, (.row 3)), (7, .int .i64)]
 H := [(4, .blk 27 [.rs Ja, .rs Jb, .int .i64, .int .i64]), (3, .nst 23 [.sl Jb])]
 W := ([8] ++ rg 32 22)
 outs := [⟨.exit 0, [(6, (.row 6))], [(6, .nst 23 [.sl Jb])], ([1, 2, 7, 8] ++ rg 32 22)⟩]
 spec := Xd7 n
def Xdd [W : InW] (n : Nat) (pre : Ro Jb) (i : Int) (qs : Ro Ja) (ws : Ro Jb) (lo hi : Int) (rs : Dt) (A : List Ed -> Prop) (K : Nat -> List Ed -> Prop) : Prop :=
 Vif (decide (i < (↑(qs.xs.length) : Int))) (Need (decide (((0 : Nat) + pre.xs.length) * 8 <= 140737488355328)) (Need (decide ((pre.xs.length + [[Cl.i i]].length) * 8 <= 140737488355328)) (Pre (Sp.BankV qs.xs ws.xs lo hi /\ Sp.In qs.xs (pre.xs ++ [[Cl.i i]])) (Vif (!Sp.ovr qs.xs ws.xs (pre.xs ++ [[Cl.i i]])) (Pre (Sp.BankV qs.xs ws.xs lo hi /\ Sp.PreOk qs.xs ws.xs (pre.xs ++ [[Cl.i i]]) /\ qs.xs.length - (Sp.fstQ (pre.xs ++ [[Cl.i i]])).toNat < n) (Need (decide ((rs.length + List.length (Sp.bhdD qs.xs ws.xs lo hi (pre.xs ++ [[Cl.i i]]))) * 24 <= 140737488355328)) (Ar .i64 (i + 1) fun z => A [.ro _ pre, .i z, .ro _ qs, .ro _ ws, .i lo, .i hi, .l (rs ++ Sp.bhdD qs.xs ws.xs lo hi (pre.xs ++ [[Cl.i i]]))]))) (Ar .i64 (i + 1) fun z => A [.ro _ pre, .i z, .ro _ qs, .ro _ ws, .i lo, .i hi, .l rs]))))) (K 0 [.l rs])
theorem Xil (W : InW) (n h pre i qs ws lo hi rs A K) : Yff { cxT Try.prog TT (⟨[Xkz, ⟨64, Xe9, Xd8, X1 n, Xbe, h⟩], [], []⟩) 1000 50 with fn := 64 } 1000 (Yob Try.prog 64 11) (Yd6 55 [(1, .rs _ pre), (2, .ptr 4 0), (6, .rw 3), (7, .si .i64 i)] ([8] ++ rg 32 22)) [(4, .blk 27 [.rs _ qs, .rs _ ws, .si .i64 lo, .si .i64 hi]), (3, .nst 23 [.sl Jb] rs)] (Yut (Xb1 n) A K) = Xdd n pre i qs ws lo hi rs A K := by kernel_rfl
def Xbh (n : Nat) : Prop := ∀ (W : InW) (body a : Code), (Try.prog.funcs[64]?).bind (·.body) = some body -> a ∈ Yy body -> Yf0 a = 11 -> @Yms W Try.prog a (@Ytz W (Xb1 n))
theorem Xjv (n : Nat) (h : BhdP n) (meas : [InW] -> List Ed -> Nat) (hyp_ : ∀ (W : InW) pre i qs ws lo hi rs K, Xd7 n [.ro _ pre, .i i, .ro _ qs, .ro _ ws, .i lo, .i hi, .l rs] K -> ∀ A : List Ed -> Prop, (∀ e, meas e < meas [.ro _ pre, .i i, .ro _ qs, .ro _ ws, .i lo, .i hi, .l rs] -> Xd7 n e K -> A e) -> Xdd n pre i qs ws lo hi rs A K) : Xbh n :=
 LE.okOf' (fun W => @TT W) (fun W => @Xc W) Xa (⟨[Xkz, ⟨64, Xe9, Xd8, X1 n, Xbe, h⟩], [], []⟩) 1000 50 (by kernel_rfl) (Xb1 n) (fun W => @meas W) fun W pre i qs ws lo hi rs K hs =>
  (Xil W n h pre i qs ws lo hi rs (fun e => meas e < meas [.ro _ pre, .i i, .ro _ qs, .ro _ ws, .i lo, .i hi, .l rs] /\ Xd7 n e K) K).mpr (hyp_ W pre i qs ws lo hi rs K hs _ fun e h1 h2 => ⟨h1, h2⟩)
theorem Xl8 (n : Nat) (h : BhdP n) : Xbh n := Xjv n h (fun e => match e with | _ :: .i i :: .ro _ qs :: _ => ((qs.xs.length : Int) - i).toNat | _ => 0) fun W pre i qs ws lo hi rs K hs A hA => by
 obtain ⟨⟨bv, po, hv, fu, h0, h1, hb⟩, hk⟩ := hs;unfold Xdd;have hn := bv.n2;have hw := bv.w2;have hf := Sp.fst_bound po
 by_cases hi' : i < qs.xs.length
 ·have hp := bv.part i.toNat (by omega);have hin := Sp.In_snoc bv po h0 hi';have hc := Sp.cnt_at (qs := qs.xs) (lo := lo) (hi := hi) (s := Sp.lvl qs.xs pre.xs) hv (by omega) hi';have hov := Sp.ovr_snoc (lo := lo) (hi := hi) (i := i) bv po hp.1 (by omega);have hl : ((qs.xs.length : Int) - (i + 1)).toNat < ((qs.xs.length : Int) - i).toNat := by omega
  have p1 := Sp.cnt_pos (qs := qs.xs) (lo := lo) (hi := hi) (s := Sp.lvl qs.xs pre.xs) (v := Sp.vOf qs.xs ws.xs pre.xs) (m := qs.xs.length - (i + 1).toNat);rw [Sp.gen_at hv (by omega) hi', Sp.toN_app] at hk;refine vifd (fun _ => ?_) (fun h => absurd hi' h);refine nedd (by omega) (nedd (by simp; omega) ⟨⟨bv, hin⟩, ?_⟩);rw [hov, Bool.not_not];refine vifd (fun hg => ?_) (fun hg => ?_)
  ·rw [if_pos hg] at hc;rw [if_pos hg, Sp.toN_cons] at hk;have hlen : ((Sp.bhdD qs.xs ws.xs lo hi (pre.xs ++ [[Cl.i i]])).length : Int) = Sp.cnt qs.xs lo hi (qs.xs.length - (i + 1).toNat) (Sp.lvl qs.xs pre.xs + Sp.wt qs.xs i.toNat) (Sp.V4.dec (Sp.vOf qs.xs ws.xs pre.xs) (Sp.qPart qs.xs i.toNat)) := by
    unfold Sp.bhdD Sp.toN Sp.cnt;rw [List.length_map, Sp.fst_snoc, Sp.lvl_snoc, Sp.vOf_snoc hp.1 (by omega)]
   have heq : Sp.bhdD qs.xs ws.xs lo hi (pre.xs ++ [[Cl.i i]]) = Sp.toN (pre.xs ++ [[Cl.i i]]) (Sp.gen qs.xs lo hi (qs.xs.length - (i + 1).toNat) (Sp.lvl qs.xs pre.xs + Sp.wt qs.xs i.toNat) (Sp.V4.dec (Sp.vOf qs.xs ws.xs pre.xs) (Sp.qPart qs.xs i.toNat))) := by
    unfold Sp.bhdD;rw [Sp.fst_snoc, Sp.lvl_snoc, Sp.vOf_snoc hp.1 (by omega)]
   refine ⟨⟨bv, po.snoc h0 hi' hp.1 (by omega) hg, by rw [Sp.fst_snoc]; omega⟩, nedd (by omega) (ar64 (by omega) (hA _ hl ⟨⟨bv, po, hv, fu, by omega, by omega, by rw [List.length_append]; omega⟩, ?_⟩))⟩;rw [heq, List.append_assoc];exact hk
  ·rw [if_neg hg] at hc;rw [if_neg hg] at hk;exact ar64 (by omega) (hA _ hl ⟨⟨bv, po, hv, fu, by omega, by omega, by omega⟩, hk⟩)
 ·refine vifd (fun h => absurd h hi') (fun _ => ?_);rw [show qs.xs.length - i.toNat = 0 by omega, Sp.gen_zero hv] at hk;simpa [Sp.toN] using hk
def Xbu [W : InW] (n : Nat) (kQ : Ro Ja) (k_Ws : Ro Jb) (k_Lo k_Hi : Int) (xs : Ro Jb) (Q : DS -> Prop) : Prop :=
 Pre (Sp.BankV kQ.xs k_Ws.xs k_Lo k_Hi) (Vif (decide ((↑(xs.xs.length) : Int) = Sp.wan k_Ws.xs)) (Pre (Sp.BankV kQ.xs k_Ws.xs k_Lo k_Hi) (Vif (Sp.isP kQ.xs k_Ws.xs k_Lo k_Hi xs.xs) (Need (decide ((Zbc + xs.xs.length) * 8 <= 140737488355328)) (Q [[Cl.l [[Cl.l xs.xs]]]])) (Q [[Cl.l []]]))) (Vif (decide (Zk < (↑(xs.xs.length) : Int))) (Ar .i64 ((↑(xs.xs.length) : Int) - 1) fun z => Need (decide (0 <= z) && decide (z < (↑(xs.xs.length) : Int))) (Need (decide (z.toNat < xs.xs.length)) (Ar .i64 ((cel xs.xs z.toNat Zbc).int + 1) fun z => Pre (Sp.BankV kQ.xs k_Ws.xs k_Lo k_Hi /\ Sp.PreOk kQ.xs k_Ws.xs xs.xs /\ Sp.V4.nil (Sp.vOf kQ.xs k_Ws.xs xs.xs) = false /\ kQ.xs.length - (Sp.fstQ xs.xs).toNat < n + 1 /\ Sp.fstQ xs.xs <= z /\ z <= (↑(kQ.xs.length) : Int) /\ (↑Zbc : Int) + Sp.cnt kQ.xs k_Lo k_Hi (kQ.xs.length - z.toNat) (Sp.lvl kQ.xs xs.xs) (Sp.vOf kQ.xs k_Ws.xs xs.xs) <= 65536) (Q [[Cl.l (Sp.toN xs.xs (Sp.gen kQ.xs k_Lo k_Hi (kQ.xs.length - z.toNat) (Sp.lvl kQ.xs xs.xs) (Sp.vOf kQ.xs k_Ws.xs xs.xs)))]])))) (Pre (Sp.BankV kQ.xs k_Ws.xs k_Lo k_Hi /\ Sp.PreOk kQ.xs k_Ws.xs xs.xs /\ Sp.V4.nil (Sp.vOf kQ.xs k_Ws.xs xs.xs) = false /\ kQ.xs.length - (Sp.fstQ xs.xs).toNat < n + 1 /\ Sp.fstQ xs.xs <= 0 /\ Zk <= (↑(kQ.xs.length) : Int) /\ (↑Zbc : Int) + Sp.cnt kQ.xs k_Lo k_Hi (kQ.xs.length - Int.toNat Zk) (Sp.lvl kQ.xs xs.xs) (Sp.vOf kQ.xs k_Ws.xs xs.xs) <= 65536) (Q [[Cl.l (Sp.toN xs.xs (Sp.gen kQ.xs k_Lo k_Hi (kQ.xs.length - Int.toNat Zk) (Sp.lvl kQ.xs xs.xs) (Sp.vOf kQ.xs k_Ws.xs xs.xs)))]]))))
theorem Xi1 (W : InW) (n h kQ k_Ws k_Lo k_Hi xs Q) : Yw5 (cxT Try.prog TT (⟨[Xhv, Xk0], [⟨64, 11, fun W => @Ytz W (Xb1 n), h⟩], []⟩) 1000 50) 1000 64 [.agg [.rs _ kQ, .rs _ k_Ws, .si .i64 k_Lo, .si .i64 k_Hi], .rs _ xs] [] 0 (Y1i [(false, [.nst 23 [.sl Jb]])] Q) (fun _ _ _ _ => Stuck 421) = Xbu n kQ k_Ws k_Lo k_Hi xs Q := by kernel_rfl
abbrev Xhk : List AT := [.agg [.sl Ja, .sl Jb, .int .i64, .int .i64], .one (.sl Jb)]
theorem Xkb (n : Nat) (h : Xbh n) {pre : DS -> Prop} {res : DS -> DS} (hyp_ : ∀ (W : InW) (kQ : Ro Ja) (k_Ws : Ro Jb) (k_Lo k_Hi : Int) (xs : Ro Jb), pre [[.l kQ.xs, .l k_Ws.xs, .i k_Lo, .i k_Hi], [.l xs.xs]] -> ∀ Q : DS -> Prop, Q (res [[.l kQ.xs, .l k_Ws.xs, .i k_Lo, .i k_Hi], [.l xs.xs]]) -> Xbu n kQ k_Ws k_Lo k_Hi xs Q) : PureOk Try.prog 64 Xhk [(false, [.nst 23 [.sl Jb]])] pre res :=
 PureOk.of' (fun W => @TT W) (fun W => @Xc W) Xa (⟨[Xhv, Xk0], [⟨64, 11, fun W => @Ytz W (Xb1 n), h⟩], []⟩) 1000 50 fun W kQ k_Ws k_Lo k_Hi xs hp =>
  (Xi1 W n h kQ k_Ws k_Lo k_Hi xs (fun o => o = res [[.l kQ.xs, .l k_Ws.xs, .i k_Lo, .i k_Hi], [.l xs.xs]])).mpr (hyp_ W kQ k_Ws k_Lo k_Hi xs hp _ rfl)
theorem Sp.isP_full {qs ws xs : Dt} {lo hi : Int} (bv : Sp.BankV qs ws lo hi) (h : Sp.PreOk qs ws xs) (he : (xs.length : Int) = Sp.wan ws) : Sp.isP qs ws lo hi xs = Sp.inr (Sp.lvl qs xs) lo hi := by
 have hc := Sp.sumN_le (f := fun p => Sp.many (Sp.px qs xs) p xs.length) (g := fun p => (cel ws p 0).int) (n := ws.length) (i := 0) fun k _ _ => h.cap k;have h2 : Sp.allF (Sp.isM qs ws xs) 0 ws.length = true := Sp.allF_iff.2 fun k a b => decide_eq_true (hc.2 (by rw [Sp.sum_many (h.px bv)]; exact he) k a b);unfold Sp.isP;rw [h.up, h2, Bool.true_and, Bool.true_and]
theorem Xhi [W : InW] (n : Nat) (qs : Ro Ja) (ws : Ro Jb) (lo hi : Int) (pre : Ro Jb) (Q : DS -> Prop) (bv : Sp.BankV qs.xs ws.xs lo hi) (po : Sp.PreOk qs.xs ws.xs pre.xs) (fu : qs.xs.length - (Sp.fstQ pre.xs).toNat < n + 1) (hq : Q [[.l (Sp.bhdD qs.xs ws.xs lo hi pre.xs)]]) : Xbu n qs ws lo hi pre Q := by
 unfold Xbu;delta Zk Zbc;have hn := bv.n2;have hb := Sp.fst_bound po;have hz := Sp.nil_iff bv po;refine ⟨bv, vifd (fun he => ⟨bv, ?_⟩) (fun he => ?_)⟩
 ·rw [Sp.isP_full bv po he];unfold Sp.bhdD at hq;rw [Sp.gen_nil (hz.2 he)] at hq;refine vif (fun hi' => nedd (by omega) ?_) (fun hi' => ?_)
  ·rw [if_pos hi'] at hq;simpa [Sp.toN] using hq
  ·rw [if_neg (by rw [hi']; decide)] at hq;exact hq
 ·have hv : Sp.V4.nil (Sp.vOf qs.xs ws.xs pre.xs) = false := by
   rw [<- Bool.not_eq_true]; exact fun h => he (hz.1 h)
  have b1 := Sp.cnt_16 (qs := qs.xs) (lo := lo) (hi := hi) (m := qs.xs.length - (Sp.fstQ pre.xs).toNat) (by omega) (Sp.lvl qs.xs pre.xs) (Sp.vOf qs.xs ws.xs pre.xs);unfold Sp.bhdD at hq;refine vifd (fun h0 => ?_) (fun h0 => ?_)
  ·have ef : Sp.fstQ pre.xs = (cel pre.xs (pre.xs.length - 1) 0).int + 1 := by unfold Sp.fstQ; rw [if_neg (by omega)]
   have ez : ((pre.xs.length : Int) - 1).toNat = pre.xs.length - 1 := by omega
   refine ar64 (by omega) (ned (by simp; omega) (nedd (by omega) ?_));rw [ez, <- ef];exact ar64 (by omega) ⟨⟨bv, po, hv, fu, by omega, hb.2, by omega⟩, hq⟩
  ·have ef : Sp.fstQ pre.xs = 0 := by unfold Sp.fstQ; rw [if_pos (by omega)]
   rw [ef] at b1 hq;exact ⟨⟨bv, po, hv, fu, by omega, by omega, by omega⟩, hq⟩
theorem Xmt : ∀ n, BhdP n
 | 0 => fun W args ds _ hp => by
  exfalso;unfold X1 at hp
  split at hp
  ·exact absurd hp.2.2 (Nat.not_lt_zero _)
  ·exact hp
 | n + 1 => Xkb n (Xl8 n (Xmt n)) fun W qs ws lo hi xs hp Q h => Xhi n qs ws lo hi xs Q hp.1 hp.2.1 hp.2.2 h
noncomputable def Xk2 : PC Try.prog := ⟨64, Xe9, Xd8, X1 17, Xbe, Xmt 17⟩
namespace Sp
def paps (qs ws : Dt) (lo hi : Int) : List Dt := gen qs lo hi qs.length 0 (v0 ws)
def papD (qs ws : Dt) (lo hi : Int) : Dt := (paps qs ws lo hi).map fun p => [.l p]
theorem PreOk_nil {qs ws : Dt} {lo hi : Int} (bv : BankV qs ws lo hi) : PreOk qs ws [] := ⟨rfl, fun p => (bv.w16 p).1⟩
theorem bhd_nil (qs ws : Dt) (lo hi : Int) : bhdD qs ws lo hi [] = papD qs ws lo hi := by
 have e : vOf qs ws [] = v0 ws := by simp [vOf, v0, many]
 unfold bhdD papD paps toN;rw [e];simp [fstQ, lvl, sumN]
end Sp
noncomputable def T20 : Tab Try.prog := ⟨[Xk2], [], []⟩
abbrev Xb6 (ds : DS) : DS := match ds with | [[.l qs, .l ws, .i lo, .i hi]] => [[.l (Sp.papD qs ws lo hi)]] | _ => []
def Xgd [W : InW] (kQ : Ro Ja) (k_Ws : Ro Jb) (k_Lo k_Hi : Int) (Q : DS -> Prop) : Prop :=
 Pre (Sp.BankV kQ.xs k_Ws.xs k_Lo k_Hi /\ Sp.PreOk kQ.xs k_Ws.xs [] /\ kQ.xs.length - (Sp.fstQ []).toNat < 17) (Q [[Cl.l (Sp.bhdD kQ.xs k_Ws.xs k_Lo k_Hi [])]])
theorem Xkt (W : InW) (kQ k_Ws k_Lo k_Hi Q) : Yw5 (cxT Try.prog TT T20 1000 50) 1000 48 [.agg [.rs _ kQ, .rs _ k_Ws, .si .i64 k_Lo, .si .i64 k_Hi]] [] 0 (Y1i [(false, [.nst 23 [.sl Jb]])] Q) (fun _ _ _ _ => Stuck 421) = Xgd kQ k_Ws k_Lo k_Hi Q := by kernel_rfl
abbrev Xci : List AT := [.agg [.sl Ja, .sl Jb, .int .i64, .int .i64]]
theorem Xll {pre : DS -> Prop} {res : DS -> DS} (hyp_ : ∀ (W : InW) (kQ : Ro Ja) (k_Ws : Ro Jb) (k_Lo k_Hi : Int), pre [[.l kQ.xs, .l k_Ws.xs, .i k_Lo, .i k_Hi]] -> ∀ Q : DS -> Prop, Q (res [[.l kQ.xs, .l k_Ws.xs, .i k_Lo, .i k_Hi]]) -> Xgd kQ k_Ws k_Lo k_Hi Q) : PureOk Try.prog 48 Xci [(false, [.nst 23 [.sl Jb]])] pre res :=
 PureOk.of' (fun W => @TT W) (fun W => @Xc W) Xa T20 1000 50 fun W kQ k_Ws k_Lo k_Hi hp =>
  (Xkt W kQ k_Ws k_Lo k_Hi (fun o => o = res [[.l kQ.xs, .l k_Ws.xs, .i k_Lo, .i k_Hi]])).mpr (hyp_ W kQ k_Ws k_Lo k_Hi hp _ rfl)
theorem okpap : PureOk Try.prog 48 Xci [(false, [.nst 23 [.sl Jb]])] Xq Xb6 :=
 Xll fun W qs ws lo hi hp Q h => by
  unfold Xgd;have hn := hp.n2;simp only [Xb6] at h;rw [<- Sp.bhd_nil] at h;exact ⟨⟨hp, Sp.PreOk_nil hp, by omega⟩, h⟩
noncomputable def Xhw : PC Try.prog := ⟨48, Xci, [(false, [.nst 23 [.sl Jb]])], Xq, Xb6, okpap⟩
namespace Sp
theorem length_papD (qs ws : Dt) (lo hi : Int) : ((papD qs ws lo hi).length : Int) = total qs ws lo hi := by simp [papD, paps, total, cnt]
end Sp
namespace Sp
theorem cel_papD {qs ws : Dt} {lo hi : Int} {k : Nat} (h : k < (papD qs ws lo hi).length) : (cel (papD qs ws lo hi) k 0).lst = (paps qs ws lo hi).getD k [] := by
 have h2 : k < (paps qs ws lo hi).length := by simpa [papD] using h
 simp [cel, papD, h2, List.getD_eq_getElem?_getD, Cl.lst]
end Sp
namespace Sp
def norm (xs : Dt) : Dt := xs.map fun r => [.i (r.getD 0 .z).int]
theorem length_norm (xs : Dt) : (norm xs).length = xs.length := by simp [norm]
theorem cel_norm (xs : Dt) (k : Nat) : (cel (norm xs) k 0).int = (cel xs k 0).int := by
 by_cases h : k < xs.length
 ·simp [cel, norm, h, Cl.int, List.getD_eq_getElem?_getD]
 ·rw [cel_out (by rw [length_norm]; omega), cel_out (by omega)]
theorem norm_norm (xs : Dt) : norm (norm xs) = norm xs := by simp [norm, Cl.int]
theorem px_norm (qs xs : Dt) : px qs (norm xs) = px qs xs := by simp [px, norm, Cl.int]
theorem isP_norm (qs ws : Dt) (lo hi : Int) (xs : Dt) : isP qs ws lo hi (norm xs) = isP qs ws lo hi xs := by
 have e1 : isF qs (norm xs) = isF qs xs := by funext i; unfold isF; simp only [cel_norm]
 have e2 : isM qs ws (norm xs) = isM qs ws xs := by funext i; unfold isM; rw [px_norm, length_norm]
 have e3 : lvf qs (norm xs) = lvf qs xs := by funext i; unfold lvf; simp only [cel_norm]
 unfold isP lvl;rw [e1, e2, e3, length_norm]
theorem folS_norm (qs : Dt) (lo hi : Int) : ∀ (xs : Dt) (r : FolR), folS qs lo hi (norm xs) r = folS qs lo hi xs r
 | [], r => rfl
 | x :: xs, r => by
  show folS qs lo hi ([Cl.i (x.getD 0 .z).int] :: norm xs) r = _
  rw [folS, folS, folS_norm qs lo hi xs];rfl
theorem eqI_iff {a b : Dt} : eqI a b = true ↔ norm a = norm b := by
 unfold eqI;simp only [Bool.and_eq_true, decide_eq_true_eq, allF_iff, eqA];constructor
 ·rintro ⟨hl, h⟩;refine List.ext_getElem (by rw [length_norm, length_norm, hl]) fun k h1 h2 => ?_;rw [length_norm] at h1 h2;have := h k (by omega) (by omega);simp [cel, List.getD_eq_getElem?_getD, h1, h2] at this;simp [norm, List.getD_eq_getElem?_getD, this]
 ·intro h;have hl : a.length = b.length := by rw [<- length_norm, h, length_norm]
  refine ⟨hl, fun k _ hk => ?_⟩;rw [<- cel_norm a, <- cel_norm b, h]
theorem gen_norm (qs : Dt) (lo hi : Int) : ∀ m s v p, p ∈ gen qs lo hi m s v -> norm p = p
 | 0, s, v, p, h => by
  rw [gen] at h
  split at h
  ·simp only [List.mem_singleton] at h; subst h; rfl
  ·cases h
 | m + 1, s, v, p, h => by
  cases hv : V4.nil v with
  | true =>
   rw [gen_nil hv] at h
   split at h
   ·simp only [List.mem_singleton] at h; subst h; rfl
   ·cases h
  | false =>
   rw [gen, if_neg (by simp [hv]), List.mem_append] at h;rcases h with h | h
   ·split at h
    ·simp only [List.mem_map] at h;obtain ⟨a, ha, rfl⟩ := h
     show [Cl.i _] :: norm a = _
     rw [gen_norm qs lo hi m _ _ a ha];rfl
    ·cases h
   ·exact gen_norm qs lo hi m s v p h
def lat : Dt -> Dt -> Bool
 | x :: xs, y :: ys => if (x.getD 0 .z).int = (y.getD 0 .z).int then lat xs ys else decide ((x.getD 0 .z).int < (y.getD 0 .z).int)
 | _, _ => false
theorem lat_irr : ∀ xs, lat xs xs = false
 | [] => rfl
 | x :: xs => by simp [lat, lat_irr xs]
theorem gen_head (qs : Dt) (lo hi : Int) : ∀ m s v p, V4.nil v = false -> m <= qs.length -> p ∈ gen qs lo hi m s v -> ∃ (i : Nat) (q : Dt), p = [Cl.i (i : Int)] :: q /\ qs.length <= i + m
 | 0, s, v, p, hv, hm, h => by rw [gen_zero hv] at h; cases h
 | m + 1, s, v, p, hv, hm, h => by
  rw [gen, if_neg (by simp [hv]), List.mem_append] at h;rcases h with h | h
  ·split at h
   ·simp only [List.mem_map] at h;obtain ⟨a, ha, rfl⟩ := h;exact ⟨_, a, rfl, by omega⟩
   ·cases h
  ·obtain ⟨i, q, e, hi'⟩ := gen_head qs lo hi m s v p hv (by omega) h;exact ⟨i, q, e, by omega⟩
theorem gen_lat (qs : Dt) (lo hi : Int) : ∀ m s v, m <= qs.length -> List.Pairwise (fun a b => lat a b = true) (gen qs lo hi m s v)
 | 0, s, v, hm => by
  rw [gen]; split
  ·exact List.pairwise_singleton _ _
  ·exact List.Pairwise.nil
 | m + 1, s, v, hm => by
  cases hv : V4.nil v with
  | true =>
   rw [gen_nil hv]; split
   ·exact List.pairwise_singleton _ _
   ·exact List.Pairwise.nil
  | false =>
   rw [gen, if_neg (by simp [hv]), List.pairwise_append];refine ⟨?_, gen_lat qs lo hi m s v (by omega), ?_⟩
   ·split
    ·rw [List.pairwise_map];refine (gen_lat qs lo hi m _ _ (by omega)).imp fun {a b} h => ?_;simpa [lat] using h
    ·exact List.Pairwise.nil
   ·intro a ha b hb
    split at ha
    ·simp only [List.mem_map] at ha;obtain ⟨a, ha, rfl⟩ := ha;obtain ⟨i, q, rfl, hi'⟩ := gen_head qs lo hi m s v b hv (by omega) hb;simp only [lat, List.getD_cons_zero, Cl.int];rw [if_neg (by omega)];exact decide_eq_true (by omega)
    ·cases ha
theorem gen_cut {qs : Dt} {lo hi s : Int} {v : V4} (hv : V4.nil v = false) : ∀ (d : Nat) (t : Int), 0 <= t -> t + d <= qs.length -> ∃ A : List Dt, gen qs lo hi (qs.length - t.toNat) s v = A ++ gen qs lo hi (qs.length - (t + d).toNat) s v
 | 0, t, h0, h1 => ⟨[], by simp⟩
 | d + 1, t, h0, h1 => by
  obtain ⟨A, hA⟩ := gen_cut (qs := qs) (lo := lo) (hi := hi) (s := s) hv d (t + 1) (by omega) (by omega);rw [gen_at (qs := qs) (lo := lo) (hi := hi) (s := s) hv h0 (show t < qs.length by omega), hA, show t + 1 + (d : Int) = t + ((d + 1 : Nat) : Int) by omega, <- List.append_assoc];exact ⟨_, rfl⟩
theorem nil_get {v : V4} {p : Int} (h : 1 <= V4.get v p) : V4.nil v = false := by
 rw [<- Bool.not_eq_true]; intro h2;rw [V4.get_nil h2] at h; omega
theorem folS_ix {qs : Dt} {lo hi : Int} : ∀ (zs : Dt) (n t s : Int) (v : V4) (r : FolR), norm zs = zs -> 0 <= t -> t <= qs.length -> folS qs lo hi zs ⟨n, t, s, v⟩ = some r -> V4.nil r.v = true -> inr r.s lo hi = true ->
  ∃ k : Nat, r.n = n + k /\ (gen qs lo hi (qs.length - t.toNat) s v)[k]? = some zs
 | [], n, t, s, v, r, hn, h0, h1, hf, hz, hs => by
  simp only [folS, Option.some.injEq] at hf;subst hf;exact ⟨0, by simp, by rw [gen_nil hz, if_pos hs]; rfl⟩
 | z :: zs, n, t, s, v, r, hn, h0, h1, hf, hz, hs => by
  have hn2 : [Cl.i (z.getD 0 .z).int] = z /\ norm zs = zs := by simpa [norm] using hn
  obtain ⟨e1, hn2⟩ := hn2;simp only [folS] at hf
  split at hf
  ·rename_i hc;obtain ⟨hc, hg⟩ := hc;generalize (z.getD 0 .z).int = x at *;subst e1;rw [inr_iff] at hc;obtain ⟨k, hk, hk2⟩ := folS_ix zs _ (x + 1) _ _ r hn2 (by omega) (by omega) hf hz hs;have hv := nil_get hg;obtain ⟨A, hA⟩ := gen_cut (qs := qs) (lo := lo) (hi := hi) (s := s) hv (x - t).toNat t h0 (by omega);rw [show t + ((x - t).toNat : Int) = x by omega] at hA;have hl : (A.length : Int) = cnt qs lo hi (qs.length - t.toNat) s v - cnt qs lo hi (qs.length - x.toNat) s v := by
    unfold cnt; rw [hA, List.length_append]; push_cast; omega
   refine ⟨A.length + k, by rw [hk]; push_cast; omega, ?_⟩;rw [hA, List.getElem?_append_right (by omega), show A.length + k - A.length = k by omega, gen_at hv (by omega) (by omega), if_pos hg];have hlt : k < (gen qs lo hi (qs.length - (x + 1).toNat) (s + wt qs x.toNat) (V4.dec v (qPart qs x.toNat))).length := by
    rw [List.getElem?_eq_some_iff] at hk2; exact hk2.1
   rw [List.getElem?_append_left (by simpa using hlt), List.getElem?_map, hk2];rfl
  ·cases hf
theorem gen_fol {qs : Dt} {lo hi : Int} : ∀ (m i : Nat) (n t s : Int) (v : V4) (p : Dt), i + m = qs.length -> t <= i -> p ∈ gen qs lo hi m s v ->
  ∃ r, folS qs lo hi p ⟨n, t, s, v⟩ = some r /\ V4.nil r.v = true /\ inr r.s lo hi = true
 | 0, i, n, t, s, v, p, hm, ht, h => by
  rw [gen] at h
  split at h
  ·rename_i hc;simp only [Bool.and_eq_true] at hc;simp only [List.mem_singleton] at h; subst h;exact ⟨_, rfl, hc.1, hc.2⟩
  ·cases h
 | m + 1, i, n, t, s, v, p, hm, ht, h => by
  cases hv : V4.nil v with
  | true =>
   rw [gen_nil hv] at h
   split at h
   ·rename_i hc;simp only [List.mem_singleton] at h; subst h;exact ⟨_, rfl, hv, hc⟩
   ·cases h
  | false =>
   rw [gen_succ hv (i := i) (by omega), List.mem_append] at h;rcases h with h | h
   ·split at h
    ·rename_i hg;simp only [List.mem_map] at h;obtain ⟨a, ha, rfl⟩ := h;obtain ⟨r, h1, h2, h3⟩ := gen_fol m (i + 1) (n + (cnt qs lo hi (qs.length - t.toNat) s v - cnt qs lo hi (qs.length - i) s v)) ((i : Int) + 1) _ _ a (by omega) (by omega) ha;refine ⟨r, ?_, h2, h3⟩;simp only [folS, List.getD_cons_zero, Cl.int, Int.toNat_natCast];rw [if_pos ⟨inr_iff.2 (by omega), hg⟩];exact h1
    ·cases h
   ·exact gen_fol m (i + 1) n t s v p (by omega) (by omega) h
theorem many_left {a b : Dt} {p : Int} : ∀ {n : Nat}, n <= a.length -> many (a ++ b) p n = many a p n
 | 0, _ => rfl
 | n + 1, h => by
  have : cel (a ++ b) n 0 = cel a n 0 := by
   unfold cel;rw [List.getD_eq_getElem?_getD (l := a ++ b), List.getElem?_append_left h, <- List.getD_eq_getElem?_getD]
  rw [many_succ, many_succ, many_left (by omega), this]
theorem isP_len {qs ws xs : Dt} {lo hi : Int} (bv : BankV qs ws lo hi) (h : PreOk qs ws xs) (hp : isP qs ws lo hi xs = true) : (xs.length : Int) = wan ws := by
 unfold isP at hp;simp only [Bool.and_eq_true] at hp;rw [<- sum_many (h.px bv)];exact sumN_ext fun k a b => of_decide_eq_true (allF_iff.1 hp.2.1 k a b)
theorem folS_is {qs ws : Dt} {lo hi : Int} (bv : BankV qs ws lo hi) : ∀ (zs pre : Dt) (n : Int), norm zs = zs -> PreOk qs ws pre ->
  (match folS qs lo hi zs ⟨n, fstQ pre, lvl qs pre, vOf qs ws pre⟩ with | none => false | some r => V4.nil r.v && inr r.s lo hi) = isP qs ws lo hi (pre ++ zs)
 | [], pre, n, hn, po => by
  simp only [folS, List.append_nil]
  by_cases he : (pre.length : Int) = wan ws
  ·rw [isP_full bv po he, (nil_iff bv po).2 he, Bool.true_and]
  ·rw [Bool.eq_false_iff.2 fun h => he ((nil_iff bv po).1 h), Bool.false_and, Bool.eq_false_iff.2 fun h => he (isP_len bv po h)]
 | z :: zs, pre, n, hn, po => by
  have hn2 : [Cl.i (z.getD 0 .z).int] = z /\ norm zs = zs := by simpa [norm] using hn
  obtain ⟨e1, hn2⟩ := hn2;have fb := fst_bound po;simp only [folS];generalize (z.getD 0 .z).int = x at *;subst e1
  by_cases hc : inr x (fstQ pre) ((qs.length : Int) - 1) = true /\ 1 <= V4.get (vOf qs ws pre) (qPart qs x.toNat)
  ·rw [if_pos hc];obtain ⟨hc, hg⟩ := hc;rw [inr_iff] at hc;have hp := bv.part x.toNat (by omega);have hw := bv.w2;have ih := folS_is bv zs (pre ++ [[Cl.i x]]) (n + (cnt qs lo hi (qs.length - (fstQ pre).toNat) (lvl qs pre) (vOf qs ws pre) - cnt qs lo hi (qs.length - x.toNat) (lvl qs pre) (vOf qs ws pre))) hn2 (po.snoc hc.1 (by omega) hp.1 (by omega) hg);rw [fst_snoc, lvl_snoc, vOf_snoc hp.1 (by omega), List.append_assoc] at ih;exact ih
  ·rw [if_neg hc]
   show false = _
   symm;rw [Bool.eq_false_iff];intro hp;unfold isP at hp;simp only [Bool.and_eq_true] at hp;obtain ⟨h1, h2, h3⟩ := hp;have hl : (pre ++ [Cl.i x] :: zs).length = pre.length + 1 + zs.length := by simp; omega
   have g1 := allF_iff.1 h1 pre.length (Nat.zero_le _) (by omega);have ec : ∀ k, k <= pre.length -> cel (pre ++ [Cl.i x] :: zs) k 0 = cel (pre ++ [[Cl.i x]]) k 0 := fun k hk => by
    unfold cel;rw [show pre ++ [Cl.i x] :: zs = (pre ++ [[Cl.i x]]) ++ zs by simp, List.getD_eq_getElem?_getD (l := (pre ++ [[Cl.i x]]) ++ zs), List.getElem?_append_left (by simp; omega), <- List.getD_eq_getElem?_getD]
   unfold isF at g1;rw [ec _ (Nat.le_refl _), ec _ (by omega), cel_last] at g1;simp only [Bool.and_eq_true, inr_iff, Bool.or_eq_true, decide_eq_true_eq, List.getD_cons_zero, Cl.int] at g1;have hx : fstQ pre <= x := by
    unfold fstQ
    split
    ·omega
    ·rename_i hz;have h7 : (cel (pre ++ [[Cl.i x]]) (pre.length - 1) 0).int < x := g1.2.resolve_left hz;rw [cel_snoc (by omega)] at h7;omega
   have hp := bv.part x.toNat (by omega);have hw := bv.w2;have g2 := of_decide_eq_true (allF_iff.1 h2 (qPart qs x.toNat).toNat (Nat.zero_le _) (by omega));have g3 := many_mono (l := px qs (pre ++ [Cl.i x] :: zs)) (p := qPart qs x.toNat) (n := pre.length + 1) zs.length;rw [<- hl] at g3;rw [Int.toNat_of_nonneg hp.1] at g2;have g4 : many (px qs (pre ++ [Cl.i x] :: zs)) (qPart qs x.toNat) (pre.length + 1) = many (px qs pre) (qPart qs x.toNat) pre.length + 1 := by
    have h5 := many_px_snoc qs pre x (qPart qs x.toNat);rw [if_pos rfl, List.length_append] at h5;rw [show px qs (pre ++ [Cl.i x] :: zs) = px qs (pre ++ [[Cl.i x]]) ++ px qs zs by simp [px], many_left (by rw [length_px]; simp)];exact h5
   refine hc ⟨inr_iff.2 (by omega), ?_⟩;rw [V4.get_vOf hp.1 (by omega)];omega
theorem fol_is {qs ws : Dt} {lo hi : Int} (bv : BankV qs ws lo hi) (xs : Dt) : (fol qs ws lo hi xs).2 = isP qs ws lo hi xs := by
 have e : vOf qs ws [] = v0 ws := by simp [vOf, v0, many]
 have h := folS_is bv (norm xs) [] 0 (norm_norm xs) (PreOk_nil bv);rw [e, folS_norm] at h;rw [show fstQ [] = 0 from rfl, show lvl qs [] = 0 from rfl, List.nil_append, isP_norm] at h;rw [<- h];unfold fol;cases folS qs lo hi xs ⟨0, 0, 0, v0 ws⟩ with
 | none => rfl
 | some r => rfl
theorem fol_ix {qs ws : Dt} {lo hi : Int} {xs : Dt} (h : (fol qs ws lo hi xs).2 = true) : ∃ k : Nat, (fol qs ws lo hi xs).1 = k /\ (paps qs ws lo hi)[k]? = some (norm xs) := by
 have e := folS_norm qs lo hi xs ⟨0, 0, 0, v0 ws⟩;unfold fol at h ⊢;generalize folS qs lo hi xs ⟨0, 0, 0, v0 ws⟩ = R at *;cases R with
 | none => cases h
 | some r =>
  have h : (V4.nil r.v && inr r.s lo hi) = true := h;simp only [Bool.and_eq_true] at h;obtain ⟨k, h1, h2⟩ := folS_ix (norm xs) 0 0 0 (v0 ws) r (norm_norm xs) (by omega) (by omega) e h.1 h.2;exact ⟨k, by show r.n = _; rw [h1]; omega, by simpa [paps] using h2⟩
theorem paps_inj {qs ws : Dt} {lo hi : Int} {i k : Nat} (h : (paps qs ws lo hi).getD i [] = (paps qs ws lo hi).getD k []) (h1 : i < (paps qs ws lo hi).length) (h2 : k < (paps qs ws lo hi).length) : i = k := by
 have hp := List.pairwise_iff_getElem.1 (gen_lat qs lo hi qs.length 0 (v0 ws) (Nat.le_refl _));have hx : ∀ i, (h1 : i < (paps qs ws lo hi).length) -> (paps qs ws lo hi).getD i [] = (gen qs lo hi qs.length 0 (v0 ws))[i]'h1 := fun i h1 => by
  rw [List.getD_eq_getElem?_getD, List.getElem?_eq_getElem h1]; rfl
 rw [hx i h1, hx k h2] at h;rcases Nat.lt_trichotomy i k with e | e | e
 ·have := hp i k h1 h2 e;rw [h, lat_irr] at this; cases this
 ·exact e
 ·have := hp k i h2 h1 e;rw [h, lat_irr] at this; cases this
theorem paps_norm {qs ws : Dt} {lo hi : Int} {i : Nat} (h1 : i < (paps qs ws lo hi).length) : norm ((paps qs ws lo hi).getD i []) = (paps qs ws lo hi).getD i [] := by
 refine gen_norm qs lo hi qs.length 0 (v0 ws) _ ?_;rw [List.getD_eq_getElem?_getD, List.getElem?_eq_getElem h1];exact List.getElem_mem h1
theorem num_ok {qs ws : Dt} {lo hi : Int} {xs : Dt} (h : (fol qs ws lo hi xs).2 = true) : 0 <= (fol qs ws lo hi xs).1 /\ (fol qs ws lo hi xs).1 < (paps qs ws lo hi).length /\ ∀ i : Nat, i < (paps qs ws lo hi).length -> (eqI ((paps qs ws lo hi).getD i []) xs = true ↔ (i : Int) = (fol qs ws lo hi xs).1) := by
 obtain ⟨k, h1, h2⟩ := fol_ix h;obtain ⟨h3, h4⟩ := List.getElem?_eq_some_iff.1 h2;have h5 : (paps qs ws lo hi).getD k [] = norm xs := by rw [List.getD_eq_getElem?_getD, h2]; rfl
 refine ⟨by omega, by omega, fun i hi' => ?_⟩;rw [eqI_iff, paps_norm hi', <- h5, h1];constructor
 ·exact fun e => by rw [paps_inj e hi' h3]
 ·exact fun e => by rw [Int.ofNat_inj.1 e]
theorem paps_fol {qs ws : Dt} {lo hi : Int} {i : Nat} (h : i < (paps qs ws lo hi).length) : fol qs ws lo hi ((paps qs ws lo hi).getD i []) = ((i : Int), true) := by
 have hm : (paps qs ws lo hi).getD i [] ∈ paps qs ws lo hi := by
  rw [List.getD_eq_getElem?_getD, List.getElem?_eq_getElem h];exact List.getElem_mem h
 obtain ⟨r, h1, h2, h3⟩ := gen_fol qs.length 0 0 0 0 (v0 ws) _ (by omega) (by omega) hm;have h4 : (fol qs ws lo hi ((paps qs ws lo hi).getD i [])).2 = true := by
  unfold fol; rw [h1]; simp only [h2, h3]; rfl
 have h5 := (num_ok h4).2.2 i h;rw [eqI_iff] at h5;exact Prod.ext (h5.1 rfl).symm h4
theorem paps_is {qs ws : Dt} {lo hi : Int} (bv : BankV qs ws lo hi) {i : Nat} (h : i < (paps qs ws lo hi).length) : isP qs ws lo hi ((paps qs ws lo hi).getD i []) = true := by
 rw [<- fol_is bv, paps_fol h]
end Sp
namespace Sp
structure PpsOk (qs rs : Dt) : Prop where
 ok : ∀ i, i < rs.length -> In qs (cel rs i 0).lst
def levO (qs rs : Dt) (n : Nat) : Dt := (List.range n).map fun i => [.i (lvl qs (cel rs i 0).lst)]
theorem levO_succ (qs rs : Dt) (n : Nat) : levO qs rs (n + 1) = levO qs rs n ++ [[.i (lvl qs (cel rs n 0).lst)]] := by simp [levO, List.range_succ]
theorem length_levO (qs rs : Dt) (n : Nat) : (levO qs rs n).length = n := by simp [levO]
def levD (qs ws : Dt) (lo hi : Int) : Dt := (paps qs ws lo hi).map fun p => [.i (lvl qs p)]
theorem levO_all (qs ws : Dt) (lo hi : Int) : levO qs (papD qs ws lo hi) (papD qs ws lo hi).length = levD qs ws lo hi := by
 refine List.ext_getElem (by simp [levO, levD, papD]) fun i h1 h2 => ?_;have h3 : i < (papD qs ws lo hi).length := by simpa [levO] using h1
 have h4 := cel_papD h3;have h5 : i < (paps qs ws lo hi).length := by simpa [papD] using h3
 simp only [levO, levD, List.getElem_map, List.getElem_range, h4];rw [List.getD_eq_getElem?_getD, List.getElem?_eq_getElem h5];rfl
theorem paps_in {qs ws : Dt} {lo hi : Int} (bv : BankV qs ws lo hi) : PpsOk qs (papD qs ws lo hi) := ⟨fun i h => by
 have h5 : i < (paps qs ws lo hi).length := by simpa [papD] using h
 have h6 := paps_is bv h5;rw [cel_papD h];unfold isP at h6;simp only [Bool.and_eq_true] at h6;exact isF_in bv.n2 h6.1⟩
def wiF (l : Dt) (lo hi : Int) (i : Nat) : Int := if inr (cel l i 0).int lo hi = true then 1 else 0
def win (l : Dt) (lo hi : Int) : Int := sumN (wiF l lo hi) 0 l.length
end Sp
noncomputable def T25 : Tab Try.prog := ⟨[Xhx, Xhw, Xfa], [], []⟩
def Xd0 [InW] (e : List Ed) (K : Nat -> List Ed -> Prop) : Prop := match e with
 | [.i i, .ro _ qs, .ro _ ws, .i lo, .i hi, .l rs, .l l] => Pre (Sp.BankV qs.xs ws.xs lo hi /\ 0 <= i /\ i <= rs.length /\ rs.length <= 65536 /\ Sp.PpsOk qs.xs rs /\ l = Sp.levO qs.xs rs i.toNat) (K 0 [.l (Sp.levO qs.xs rs rs.length)])
 | _ => False
noncomputable def Xe4 : LC where
 len := 24
 T := [(1, (.ptr 4 0)), (3, (.row 13)), (4, (.row 3)), (5, .int .i64)]
 H := [(4, .blk 27 [.rs Ja, .rs Jb, .int .i64, .int .i64]), (13, .nst 23 [.sl Jb]), (3, .arr 3 Jb)]
 W := (rg 8 15)
 outs := [⟨.exit 0, [(4, (.row 6))], [(6, .arr 3 Jb)], ([1, 3, 5] ++ rg 8 15)⟩]
 spec := Xd0
def Xc7 [W : InW] (i : Int) (qs : Ro Ja) (ws : Ro Jb) (lo hi : Int) (rs l : Dt) (A : List Ed -> Prop) (K : Nat -> List Ed -> Prop) : Prop :=
 Vif (decide (i < (↑(rs.length) : Int))) (Need (decide (0 <= i) && decide (i < (↑(rs.length) : Int))) (Need (decide (i.toNat < rs.length)) (Pre (Sp.BankV qs.xs ws.xs lo hi /\ Sp.In qs.xs (cel rs i.toNat Zbc).lst) (Need (decide ((l.length + [[Cl.i (Sp.lvl qs.xs (cel rs i.toNat Zbc).lst)]].length) * 8 <= 140737488355328)) (Ar .i64 (i + 1) fun z => A [.i z, .ro _ qs, .ro _ ws, .i lo, .i hi, .l rs, .l (l ++ [[Cl.i (Sp.lvl qs.xs (cel rs i.toNat Zbc).lst)]])]))))) (K 0 [.l l])
theorem Xif (W : InW) (i qs ws lo hi rs l A K) : Yff { cxT Try.prog TT T25 1000 50 with fn := 41 } 1000 (Yob Try.prog 41 5) (Yd6 24 [(1, .ptr 4 0), (3, .rw 13), (4, .rw 3), (5, .si .i64 i)] (rg 8 15)) [(4, .blk 27 [.rs _ qs, .rs _ ws, .si .i64 lo, .si .i64 hi]), (13, .nst 23 [.sl Jb] rs), (3, .arr 3 Jb l)] (Yut Xe4 A K) = Xc7 i qs ws lo hi rs l A K := by kernel_rfl
def Xen : Prop := ∀ (W : InW) (body a : Code), (Try.prog.funcs[41]?).bind (·.body) = some body -> a ∈ Yy body -> Yf0 a = 5 -> @Yms W Try.prog a (@Ytz W Xe4)
theorem Xjp (meas : [InW] -> List Ed -> Nat) (hyp_ : ∀ (W : InW) i qs ws lo hi rs l K, Xd0 [.i i, .ro _ qs, .ro _ ws, .i lo, .i hi, .l rs, .l l] K -> ∀ A : List Ed -> Prop, (∀ e, meas e < meas [.i i, .ro _ qs, .ro _ ws, .i lo, .i hi, .l rs, .l l] -> Xd0 e K -> A e) -> Xc7 i qs ws lo hi rs l A K) : Xen :=
 LE.okOf' (fun W => @TT W) (fun W => @Xc W) Xa T25 1000 50 (by kernel_rfl) Xe4 (fun W => @meas W) fun W i qs ws lo hi rs l K hs =>
  (Xif W i qs ws lo hi rs l (fun e => meas e < meas [.i i, .ro _ qs, .ro _ ws, .i lo, .i hi, .l rs, .l l] /\ Xd0 e K) K).mpr (hyp_ W i qs ws lo hi rs l K hs _ fun e h1 h2 => ⟨h1, h2⟩)
theorem Xl2 : Xen := Xjp (fun e => match e with | .i i :: _ :: _ :: _ :: _ :: .l rs :: _ => ((rs.length : Int) - i).toNat | _ => 0) fun W i qs ws lo hi rs l K hs A hA => by
 obtain ⟨⟨bv, h0, h1, h2, po, hl⟩, hk⟩ := hs;unfold Xc7;delta Zbc;have hl2 : l.length = i.toNat := by rw [hl, Sp.length_levO]
 by_cases hi' : i < rs.length
 ·refine vifd (fun _ => ?_) (fun h => absurd hi' h);refine ned (by simp; omega) (nedd (by omega) ⟨⟨bv, po.ok i.toNat (by omega)⟩, ?_⟩);refine nedd (by simp; omega) (ar64 (by omega) (hA _ (by show ((rs.length : Int) - (i + 1)).toNat < ((rs.length : Int) - i).toNat; omega) ⟨⟨bv, by omega, by omega, h2, po, ?_⟩, hk⟩));rw [show (i + 1).toNat = i.toNat + 1 by omega, Sp.levO_succ, hl]
 ·refine vifd (fun h => absurd h hi') (fun _ => ?_);rw [hl, show i.toNat = rs.length by omega];exact hk
noncomputable def Xmo : LE Try.prog := ⟨41, 5, fun W => @Ytz W Xe4, Xl2⟩
def Xgu [InW] (e : List Ed) (K : Nat -> List Ed -> Prop) : Prop := match e with
 | [.ro _ xs, .i n, .i i, .i lo, .i hi] => Pre (0 <= i /\ i <= xs.xs.length /\ n = Sp.sumN (Sp.wiF xs.xs lo hi) 0 i.toNat) (K 0 [.i (Sp.win xs.xs lo hi)])
 | _ => False
noncomputable def Xhb : LC where
 len := 25
 T := [(0, .rs Jb), (3, (.ptr 1 0)), (5, .int .i64), (6, .int .i64)]
 H := [(1, .blk 25 [.int .i64, .int .i64])]
 W := (rg 7 17)
 outs := [⟨.exit 0, [(5, .int .i64)], [], ([0, 3] ++ rg 6 18)⟩]
 spec := Xgu
def Xgh [W : InW] (xs : Ro Jb) (n i lo hi : Int) (A : List Ed -> Prop) (K : Nat -> List Ed -> Prop) : Prop :=
 Vif (decide (i < (↑(xs.xs.length) : Int))) (Need (decide (0 <= i) && decide (i < (↑(xs.xs.length) : Int))) (Need (decide (i.toNat < xs.xs.length)) (Pre True (Vif (Sp.inr (cel xs.xs i.toNat (0 : Nat)).int lo hi) (Ar .i64 (n + 1) fun z => Ar .i64 (i + 1) fun z_1 => A [.ro _ xs, .i z, .i z_1, .i lo, .i hi]) (Ar .i64 (i + 1) fun z => A [.ro _ xs, .i n, .i z, .i lo, .i hi]))))) (K 0 [.i n])
theorem Xkj (W : InW) (xs n i lo hi A K) : Yff { cxT Try.prog TT T25 1000 50 with fn := 42 } 1000 (Yob Try.prog 42 4) (Yd6 25 [(0, .rs _ xs), (3, .ptr 1 0), (5, .si .i64 n), (6, .si .i64 i)] (rg 7 17)) [(1, .blk 25 [.si .i64 lo, .si .i64 hi])] (Yut Xhb A K) = Xgh xs n i lo hi A K := by kernel_rfl
def Xfv : Prop := ∀ (W : InW) (body a : Code), (Try.prog.funcs[42]?).bind (·.body) = some body -> a ∈ Yy body -> Yf0 a = 4 -> @Yms W Try.prog a (@Ytz W Xhb)
theorem Xla (meas : [InW] -> List Ed -> Nat) (hyp_ : ∀ (W : InW) xs n i lo hi K, Xgu [.ro _ xs, .i n, .i i, .i lo, .i hi] K -> ∀ A : List Ed -> Prop, (∀ e, meas e < meas [.ro _ xs, .i n, .i i, .i lo, .i hi] -> Xgu e K -> A e) -> Xgh xs n i lo hi A K) : Xfv :=
 LE.okOf' (fun W => @TT W) (fun W => @Xc W) Xa T25 1000 50 (by kernel_rfl) Xhb (fun W => @meas W) fun W xs n i lo hi K hs =>
  (Xkj W xs n i lo hi (fun e => meas e < meas [.ro _ xs, .i n, .i i, .i lo, .i hi] /\ Xgu e K) K).mpr (hyp_ W xs n i lo hi K hs _ fun e h1 h2 => ⟨h1, h2⟩)
theorem Sp.wiF_b (l : Dt) (lo hi : Int) : ∀ n, 0 <= Sp.sumN (Sp.wiF l lo hi) 0 n /\ Sp.sumN (Sp.wiF l lo hi) 0 n <= n
 | 0 => by simp [Sp.sumN]
 | n + 1 => by
  have := Sp.wiF_b l lo hi n;rw [Sp.sumN_last];have h2 : Sp.wiF l lo hi (0 + n) = 1 \/ Sp.wiF l lo hi (0 + n) = 0 := by
   unfold Sp.wiF; split
   ·exact .inl rfl
   ·exact .inr rfl
  omega
theorem okLwi : Xfv := Xla (fun e => match e with | .ro _ xs :: _ :: .i i :: _ => ((xs.xs.length : Int) - i).toNat | _ => 0) fun W xs n i lo hi K hs A hA => by
 obtain ⟨⟨h0, h1, hn⟩, hk⟩ := hs;unfold Xgh;have hm := xs.len;simp only [maxLen] at hm;have hb := Sp.wiF_b xs.xs lo hi i.toNat
 by_cases hi' : i < xs.xs.length
 ·have e2 : Sp.sumN (Sp.wiF xs.xs lo hi) 0 (i + 1).toNat = n + Sp.wiF xs.xs lo hi i.toNat := by
   rw [show (i + 1).toNat = i.toNat + 1 by omega, Sp.sumN_last, <- hn, Nat.zero_add]
  refine vifd (fun _ => ?_) (fun h => absurd hi' h);refine ned (by simp; omega) (nedd (by omega) ⟨trivial, ?_⟩);refine vif (fun e => ?_) (fun e => ?_)
  ·rw [Sp.wiF, if_pos e] at e2;exact ar64 (by omega) (ar64 (by omega) (hA _ (by show ((xs.xs.length : Int) - (i + 1)).toNat < ((xs.xs.length : Int) - i).toNat; omega) ⟨⟨by omega, by omega, e2.symm⟩, hk⟩))
  ·rw [Sp.wiF, if_neg (by rw [e]; decide)] at e2;exact ar64 (by omega) (hA _ (by show ((xs.xs.length : Int) - (i + 1)).toNat < ((xs.xs.length : Int) - i).toNat; omega) ⟨⟨by omega, by omega, by omega⟩, hk⟩)
 ·refine vifd (fun h => absurd h hi') (fun _ => ?_);rw [hn, show i.toNat = xs.xs.length by omega];exact hk
noncomputable def le_wi : LE Try.prog := ⟨42, 4, fun W => @Ytz W Xhb, okLwi⟩
noncomputable def T26 : Tab Try.prog := ⟨[Xhw], [Xmo, le_wi], []⟩
abbrev Xbb (ds : DS) : DS := match ds with | [[.l qs, .l ws, .i lo, .i hi]] => [[.l (Sp.levD qs ws lo hi)]] | _ => []
def Xcs [W : InW] (kQ : Ro Ja) (k_Ws : Ro Jb) (k_Lo k_Hi : Int) (Q : DS -> Prop) : Prop :=
 Pre (Sp.BankV kQ.xs k_Ws.xs k_Lo k_Hi) (Pre (Sp.BankV kQ.xs k_Ws.xs k_Lo k_Hi /\ Zk <= 0 /\ Zk <= (↑(List.length (Sp.papD kQ.xs k_Ws.xs k_Lo k_Hi)) : Int) /\ List.length (Sp.papD kQ.xs k_Ws.xs k_Lo k_Hi) <= 65536 /\ Sp.PpsOk kQ.xs (Sp.papD kQ.xs k_Ws.xs k_Lo k_Hi) /\ [] = Sp.levO kQ.xs (Sp.papD kQ.xs k_Ws.xs k_Lo k_Hi) (Int.toNat Zk)) (Q [[Cl.l (Sp.levO kQ.xs (Sp.papD kQ.xs k_Ws.xs k_Lo k_Hi) (List.length (Sp.papD kQ.xs k_Ws.xs k_Lo k_Hi)))]]))
theorem Xiz (W : InW) (kQ k_Ws k_Lo k_Hi Q) : Yw5 (cxT Try.prog TT T26 1000 50) 1000 41 [.agg [.rs _ kQ, .rs _ k_Ws, .si .i64 k_Lo, .si .i64 k_Hi]] [] 0 (Y1i [(false, [.row 3 Jb])] Q) (fun _ _ _ _ => Stuck 421) = Xcs kQ k_Ws k_Lo k_Hi Q := by kernel_rfl
abbrev Xbp : List AT := [.agg [.sl Ja, .sl Jb, .int .i64, .int .i64]]
theorem Xj9 {pre : DS -> Prop} {res : DS -> DS} (hyp_ : ∀ (W : InW) (kQ : Ro Ja) (k_Ws : Ro Jb) (k_Lo k_Hi : Int), pre [[.l kQ.xs, .l k_Ws.xs, .i k_Lo, .i k_Hi]] -> ∀ Q : DS -> Prop, Q (res [[.l kQ.xs, .l k_Ws.xs, .i k_Lo, .i k_Hi]]) -> Xcs kQ k_Ws k_Lo k_Hi Q) : PureOk Try.prog 41 Xbp [(false, [.row 3 Jb])] pre res :=
 PureOk.of' (fun W => @TT W) (fun W => @Xc W) Xa T26 1000 50 fun W kQ k_Ws k_Lo k_Hi hp =>
  (Xiz W kQ k_Ws k_Lo k_Hi (fun o => o = res [[.l kQ.xs, .l k_Ws.xs, .i k_Lo, .i k_Hi]])).mpr (hyp_ W kQ k_Ws k_Lo k_Hi hp _ rfl)
theorem Xk9 : PureOk Try.prog 41 Xbp [(false, [.row 3 Jb])] Xq Xbb :=
 Xj9 fun W qs ws lo hi hp Q h => by
  unfold Xcs;delta Zk;simp only [Xbb] at h;have hl := Sp.length_papD qs.xs ws.xs lo hi;have b2 : 0 <= Sp.total qs.xs ws.xs lo hi /\ Sp.total qs.xs ws.xs lo hi <= 65536 := Sp.cnt_16 hp.n2 0 (Sp.v0 ws.xs);refine ⟨hp, ⟨hp, by omega, by omega, by omega, Sp.paps_in hp, rfl⟩, ?_⟩;rw [Sp.levO_all];exact h
noncomputable def Xi9 : PC Try.prog := ⟨41, Xbp, [(false, [.row 3 Jb])], Xq, Xbb, Xk9⟩
abbrev Xfj (ds : DS) : DS := match ds with | [[.l l], [.i lo, .i hi]] => [[.i (Sp.win l lo hi)]] | _ => []
def Xga [W : InW] (l : Ro Jb) (s_Lo s_Hi : Int) (Q : DS -> Prop) : Prop :=
 Pre ((0 : Int) <= 0 /\ (0 : Int) <= (↑(l.xs.length) : Int) /\ (0 : Int) = Sp.sumN (Sp.wiF l.xs s_Lo s_Hi) (0 : Nat) (Int.toNat (0 : Int))) (Q [[Cl.i (Sp.win l.xs s_Lo s_Hi)]])
theorem Xkq (W : InW) (l s_Lo s_Hi Q) : Yw5 (cxT Try.prog TT T26 1000 50) 1000 42 [.rs _ l, .agg [.si .i64 s_Lo, .si .i64 s_Hi]] [] 0 (Y1i [(false, [.int .i64])] Q) (fun _ _ _ _ => Stuck 421) = Xga l s_Lo s_Hi Q := by kernel_rfl
abbrev Xcf : List AT := [.one (.sl Jb), .agg [.int .i64, .int .i64]]
theorem Xli {pre : DS -> Prop} {res : DS -> DS} (hyp_ : ∀ (W : InW) (l : Ro Jb) (s_Lo s_Hi : Int), pre [[.l l.xs], [.i s_Lo, .i s_Hi]] -> ∀ Q : DS -> Prop, Q (res [[.l l.xs], [.i s_Lo, .i s_Hi]]) -> Xga l s_Lo s_Hi Q) : PureOk Try.prog 42 Xcf [(false, [.int .i64])] pre res :=
 PureOk.of' (fun W => @TT W) (fun W => @Xc W) Xa T26 1000 50 fun W l s_Lo s_Hi hp =>
  (Xkq W l s_Lo s_Hi (fun o => o = res [[.l l.xs], [.i s_Lo, .i s_Hi]])).mpr (hyp_ W l s_Lo s_Hi hp _ rfl)
theorem okwin : PureOk Try.prog 42 Xcf [(false, [.int .i64])] (fun _ => True) Xfj :=
 Xli fun W l lo hi hp Q h => by
  unfold Xga;exact ⟨⟨by omega, by omega, rfl⟩, h⟩
noncomputable def Xkx : PC Try.prog := ⟨42, Xcf, [(false, [.int .i64])], fun _ => True, Xfj, okwin⟩
open Go.RowKit Go.Shelf
set_option maxRecDepth 1000000
set_option maxHeartbeats 4000000
def Xi3 : Ren := ⟨fun i => match i with
  | 125 => 66
  | 128 => 81
  | 129 => 82
  | 189 => 54
  | 215 => 90
  | 216 => 78
  | 257 => 65
  | 294 => 72
  | 295 => 73
  | 296 => 74
  | 297 => 75
  | 298 => 76
  | 299 => 77
  | 300 => 79
  | 301 => 80
  | 328 => 85
  | 329 => 86
  | 330 => 87
  | 331 => 88
  | 332 => 89
  | 343 => 92
  | _ => 0, fun i => match i with
  | 0 => 0
  | 3 => 3
  | 4 => 4
  | 5 => 5
  | 9 => 9
  | 28 => 23
  | 46 => 108
  | 51 => 123
  | 53 => 125
  | 131 => 91
  | 182 => 115
  | 183 => 116
  | 218 => 127
  | 222 => 131
  | 228 => 134
  | 229 => 135
  | _ => 0, fun i => i⟩
theorem Xb2 : Lays.n189 Try.prog Xi3 := {
  mixed := Xa
  f125 := by kernel_rfl
  f128 := by kernel_rfl
  f129 := by kernel_rfl
  f189 := by kernel_rfl
  f215 := by kernel_rfl
  f216 := by kernel_rfl
  f257 := by kernel_rfl
  f294 := by kernel_rfl
  f295 := by kernel_rfl
  f296 := by kernel_rfl
  f297 := by kernel_rfl
  f298 := by kernel_rfl
  f299 := by kernel_rfl
  f300 := by kernel_rfl
  f301 := by kernel_rfl
  f328 := by kernel_rfl
  f329 := by kernel_rfl
  f330 := by kernel_rfl
  f331 := by kernel_rfl
  f332 := by kernel_rfl
  f343 := by kernel_rfl
  t0 := by kernel_rfl
  a0 := fun w => by kernel_rfl
  z0 := fun w => by kernel_rfl
  v0 := fun w => by kernel_rfl
  t3 := by kernel_rfl
  a3 := fun w => by kernel_rfl
  z3 := fun w => by kernel_rfl
  v3 := fun w => by kernel_rfl
  t4 := by kernel_rfl
  a4 := fun w => by kernel_rfl
  z4 := fun w => by kernel_rfl
  v4 := fun w => by kernel_rfl
  t5 := by kernel_rfl
  a5 := fun w => by kernel_rfl
  z5 := fun w => by kernel_rfl
  v5 := fun w => by kernel_rfl
  t9 := by kernel_rfl
  a9 := fun w => by kernel_rfl
  z9 := fun w => by kernel_rfl
  v9 := fun w => by kernel_rfl
  t28 := by kernel_rfl
  a28 := fun w => by kernel_rfl
  z28 := fun w => by kernel_rfl
  v28 := fun w => by kernel_rfl
  t46 := by kernel_rfl
  a46 := fun w => by kernel_rfl
  z46 := fun w => by kernel_rfl
  v46 := fun w => by kernel_rfl
  t51 := by kernel_rfl
  a51 := fun w => by kernel_rfl
  z51 := fun w => by kernel_rfl
  v51 := fun w => by kernel_rfl
  t53 := by kernel_rfl
  a53 := fun w => by kernel_rfl
  z53 := fun w => by kernel_rfl
  v53 := fun w => by kernel_rfl
  t131 := by kernel_rfl
  a131 := fun w => by kernel_rfl
  z131 := fun w => by kernel_rfl
  v131 := fun w => by kernel_rfl
  t182 := by kernel_rfl
  a182 := fun w => by kernel_rfl
  z182 := fun w => by kernel_rfl
  v182 := fun w => by kernel_rfl
  t183 := by kernel_rfl
  a183 := fun w => by kernel_rfl
  z183 := fun w => by kernel_rfl
  v183 := fun w => by kernel_rfl
  t218 := by kernel_rfl
  a218 := fun w => by kernel_rfl
  z218 := fun w => by kernel_rfl
  v218 := fun w => by kernel_rfl
  t222 := by kernel_rfl
  a222 := fun w => by kernel_rfl
  z222 := fun w => by kernel_rfl
  v222 := fun w => by kernel_rfl
  t228 := by kernel_rfl
  a228 := fun w => by kernel_rfl
  z228 := fun w => by kernel_rfl
  v228 := fun w => by kernel_rfl
  t229 := by kernel_rfl
  a229 := fun w => by kernel_rfl
  z229 := fun w => by kernel_rfl
  v229 := fun w => by kernel_rfl }
def Sp.numsOf (l : Dt) : List Int := l.map fun r => (r.getD 0 .z).int
def Sp.sortD (l : Dt) : Dt := ((Sp.numsOf l).mergeSort fun x y => decide (x <= y)).map fun n => [.i n]
theorem Xb3 (l : Dt) : Yi [.int .i64] l = (Sp.numsOf l).map (Value.int .i64) := by
 induction l with
 | nil => rfl
 | cons r l ih =>
  unfold Sp.numsOf at ih ⊢;simp only [Yi, List.map_cons, ih];cases r <;> rfl
theorem Xr (l : Dt) : Sp.numsOf (Sp.sortD l) = (Sp.numsOf l).mergeSort fun x y => decide (x <= y) := by
 unfold Sp.sortD Sp.numsOf;rw [List.map_map];exact List.map_id'' (fun _ => rfl) _
theorem Xb (l : Dt) : (Sp.numsOf l).length = l.length := by unfold Sp.numsOf; rw [List.length_map]
theorem Xd (l : Dt) : (Sp.sortD l).length = l.length := by unfold Sp.sortD; rw [List.length_map, List.length_mergeSort, Xb]
def Xi2 [InW] (e : List Ed) (K : Nat -> List Ed -> Prop) : Prop := match e with
 | [.l l] => Pre (0 < l.length /\ l.length <= 65536) (K 0 [.l (Sp.sortD l)])
 | _ => False
noncomputable def Xf3 : CC where
 g := 54
 args := [.row 4]
 H := [(4, .arr 3 Jb)]
 outs := [⟨false, .tup [], [(4, .arr 3 Jb)], false⟩]
 spec := Xi2
theorem Xkd : ∀ W : InW, @CallC W Try.prog Xf3 := fun W xs ys e1 e2 h1 h2 K hs => by
 obtain ⟨x1, xs', a1, a2, rfl, rfl, ⟨rfl, rfl⟩, rfl, rfl⟩ := h1;obtain ⟨it, h', b1, b2, rfl, rfl, ⟨l, rfl, rfl⟩, rfl, rfl⟩ := h2;obtain ⟨⟨hl0, hl1⟩, hk⟩ : Pre (0 < l.length /\ l.length <= 65536) (K 0 [.l (Sp.sortD l)]) := hs;refine ⟨0, _, _, .tup [], _, [(4, .arr 3 Jb (Sp.sortD l))], hk, rfl, rfl, rfl, ?_⟩;intro φ w0 M R w hnd hS;have hS' : St w0 M ((It.arr 3 Jb l).conc φ 4 :: R) w := hS;have hfn := Y2w (by decide) hS';have hnil := Yda (by decide) hl0 hS';have hrow : w.ownsRow 0 3 1 (.slice (some ⟨(φ 4).b, 0, none⟩) (φ 4).fn (φ 4).c) (φ 4).fn (Yi [.int .i64] l) := by
  have := hS'.row (v := .slice (if (φ 4).nil then none else some ⟨(φ 4).b, 0, none⟩) (φ 4).fn (φ 4).c) Look.head;rw [hnil] at this;exact this
 rcases hrow.2 with ⟨h0, _⟩ | ⟨g, cap, cur, hv, hb, hg, hnc, hcm, hcs, ht⟩
 ·cases h0
 injection hv with v1 v2 v3
 injection v1 with v1
 injection v1 with v1
 have hzl := Xb l;have ht' : cur.toList.take (Sp.numsOf l).length = (Sp.numsOf l).map (Value.int .i64) := by
  rw [hzl, <- hfn, <- Xb3, <- ht, Nat.mul_one]
 have hH := holds_of_blockI hg ht';have hsz : g < w.heap.size := (Array.getElem?_eq_some_iff.1 hg).1;have hc := calls_of_every_depth fun D => AnyS.slices_Sort_int_in Xb2 D g 0 cap (Sp.numsOf l) w hH hsz (by rw [hzl]; omega);have hx : (AV.concL φ [.rw 4]).toArray = #[Value.slice (some ⟨g, 0, none⟩) (Sp.numsOf l).length cap] := by
  simp [AV.concL, AV.conc, hnil, <- v1, v3, hfn, hzl]
 rw [hx];refine hc.mono ?_;rintro e w' ⟨rfl, n, os, rfl⟩;have hml : ((Sp.numsOf l).mergeSort fun x y => decide (x <= y)).length = (Sp.numsOf l).length := List.length_mergeSort _;have hown := ownsRow_sortedI (n := n) (os := os) (base := 0) hml (Nat.zero_le _) hg (by rw [hzl, <- hfn]; exact hnc) hcm hcs;have hgr := grownBy_sortedI (w := w) (g := g) (n := n) (os := os) ((Sp.numsOf l).mergeSort fun x y => decide (x <= y)).toArray;refine ⟨φ, fun _ => rfl, rfl, by simp [keys], ?_⟩;have hsl := Xd l;have hfl : Yi [.int .i64] (Sp.sortD l) = ((Sp.numsOf l).mergeSort fun x y => decide (x <= y)).map (Value.int .i64) := by rw [Xb3, Xr]
 have e1 : (It.arr 3 Jb l).conc φ 4 = .row (.slice (some ⟨g, 0, none⟩) (φ 4).fn cap) 3 1 (φ 4).fn (Yi [.int .i64] l) := by
  simp only [It.conc, hnil, <- v1, v3];rfl
 have e2 : (It.arr 3 Jb (Sp.sortD l)).conc φ 4 = .row (.slice (some ⟨g, 0, none⟩) (φ 4).fn cap) 3 1 (φ 4).fn (Yi [.int .i64] (Sp.sortD l)) := by
  simp only [It.conc, hnil, <- v1, v3];rfl
 rw [e1] at hS'
 change St w0 M ((It.arr 3 Jb (Sp.sortD l)).conc φ 4 :: R) _
 rw [e2];refine hS'.upd .head ⟨hgr.os, hgr.tape, hgr.output, hgr.size, fun k hk hm => hgr.block k hk (fun x => hm ?_)⟩ ?_ fun b hb => .inl hb
 ·injection x with x
  subst x;simp [Res.foot, Value.ownBlock]
 ·show World.ownsRow _ 0 3 1 _ _ _
  rw [hfl, hfn, <- hzl];exact hown
end Go.Proofs.Ytilnbgpogfabaaa
namespace Go.Proofs.Ytilnbgpogfabaaa
open Go.RowKit
set_option maxRecDepth 100000
namespace Sp
def lvG (qs : Dt) (lo hi : Int) : Nat -> Int -> V4 -> Dt
 | 0, s, v => if V4.nil v && inr s lo hi then [[.i s]] else []
 | m + 1, s, v => if V4.nil v then (if inr s lo hi then [[.i s]] else [])
  else (if 1 <= V4.get v (qPart qs (qs.length - (m + 1))) then lvG qs lo hi m (s + wt qs (qs.length - (m + 1))) (V4.dec v (qPart qs (qs.length - (m + 1)))) else []) ++ lvG qs lo hi m s v
theorem lvG_nil {qs : Dt} {lo hi : Int} {v : V4} (h : V4.nil v = true) : ∀ m s, lvG qs lo hi m s v = if inr s lo hi then [[.i s]] else []
 | 0, s => by rw [lvG, h]; simp
 | m + 1, s => by rw [lvG, if_pos h]
theorem lvG_zero {qs : Dt} {lo hi : Int} {v : V4} (h : V4.nil v = false) (s : Int) : lvG qs lo hi 0 s v = [] := by rw [lvG, h]; simp
theorem lvG_at {qs : Dt} {lo hi s : Int} {v : V4} (h : V4.nil v = false) {i : Int} (h0 : 0 <= i) (h1 : i < qs.length) :
  lvG qs lo hi (qs.length - i.toNat) s v = (if 1 <= V4.get v (qPart qs i.toNat) then lvG qs lo hi (qs.length - (i + 1).toNat) (s + wt qs i.toNat) (V4.dec v (qPart qs i.toNat)) else []) ++ lvG qs lo hi (qs.length - (i + 1).toNat) s v := by
 have e : qs.length - i.toNat = (qs.length - (i + 1).toNat) + 1 := by omega
 have e2 : qs.length - ((qs.length - (i + 1).toNat) + 1) = i.toNat := by omega
 rw [e, lvG, if_neg (by simp [h]), e2]
theorem sumN_shift {f g : Nat -> Int} : ∀ {n i : Nat}, (∀ k, i <= k -> k < i + n -> f (k + 1) = g k) -> sumN f (i + 1) n = sumN g i n
 | 0, _, _ => rfl
 | n + 1, i, h => by rw [sumN, sumN, h i (by omega) (by omega), sumN_shift fun k a b => h k (by omega) (by omega)]
theorem lvl_cons (qs : Dt) (i : Nat) (p : Dt) : lvl qs ([Cl.i (i : Int)] :: p) = wt qs i + lvl qs p := by
 unfold lvl;rw [List.length_cons, sumN, sumN_shift (g := lvf qs p) fun k _ _ => ?_]
 ·rfl
 ·unfold lvf cel;rw [List.getD_cons_succ]
theorem lvG_gen (qs : Dt) (lo hi : Int) : ∀ m s v, lvG qs lo hi m s v = (gen qs lo hi m s v).map fun p => [.i (s + lvl qs p)]
 | 0, s, v => by
  rw [lvG, gen]; split
  ·simp [lvl, sumN]
  ·rfl
 | m + 1, s, v => by
  cases hv : V4.nil v with
  | true =>
   rw [lvG_nil hv, gen_nil hv]; split
   ·simp [lvl, sumN]
   ·rfl
  | false =>
   have hv2 : ¬ V4.nil v = true := by simp [hv]
   rw [lvG, gen, if_neg hv2, if_neg hv2, List.map_append, lvG_gen qs lo hi m s v]
   congr 1
   split
   ·rw [lvG_gen qs lo hi m, List.map_map];refine List.map_congr_left fun p _ => ?_;simp only [Function.comp, lvl_cons, Int.add_assoc]
   ·rfl
theorem length_lvG (qs : Dt) (lo hi : Int) (m : Nat) (s : Int) (v : V4) : ((lvG qs lo hi m s v).length : Int) = cnt qs lo hi m s v := by
 rw [lvG_gen, List.length_map]; rfl
theorem lvG_all (qs ws : Dt) (lo hi : Int) : lvG qs lo hi qs.length 0 (v0 ws) = levD qs ws lo hi := by
 rw [lvG_gen];unfold levD paps;refine List.map_congr_left fun p _ => ?_;rw [Int.zero_add]
theorem length_levD (qs ws : Dt) (lo hi : Int) : ((levD qs ws lo hi).length : Int) = total qs ws lo hi := by
 rw [<- lvG_all, length_lvG]; rfl
end Sp
set_option maxHeartbeats 1600000
def Xdn (m : Nat) [InW] (e : List Ed) (K : Nat -> List Ed -> Prop) : Prop := match e with
 | [.i t, .i s, .i a, .i b, .i c, .i d, .ro _ qs, .ro _ ws, .i lo, .i hi, .l w, .l xs, .l l] => Pre (Sp.BkOk qs.xs ws.xs lo hi w /\ Sp.StOk qs.xs t s ⟨a, b, c, d⟩ /\ Sp.MemoOk qs.xs lo hi xs /\ qs.xs.length - t.toNat < m /\ l.length + Sp.cnt qs.xs lo hi (qs.xs.length - t.toNat) s ⟨a, b, c, d⟩ <= 65536)
   (Sp.FaM (Sp.MemoOk qs.xs lo hi) fun ys => K 0 [.ro _ qs, .ro _ ws, .i lo, .i hi, .l w, .l ys, .l (l ++ Sp.lvG qs.xs lo hi (qs.xs.length - t.toNat) s ⟨a, b, c, d⟩)])
 | _ => False
noncomputable def X9 (m : Nat) : CC where
 g := 52
 args := [.agg [.int .i64, .int .i64, .int .i64, .int .i64, .int .i64, .int .i64], (.ptr 16 0), (.ptr 19 0), (.ptr 22 0)]
 H := [(16, .blk 77 [(.ptr 4 0)]), (22, .blk 93 [(.fn (.func 52) [] [(.ptr 16 0), (.ptr 19 0), (.ptr 22 0)])]), (4, .blk 82 [.rs Ja, .rs Jb, .int .i64, .int .i64, (.row 7), (.mp 10)]), (7, .arr 3 Jb), (10, .mpP), (19, .blk 23 [(.row 30)]), (30, .arr 3 Jb)]
 outs := [⟨false, .tup [], [(16, .blk 77 [(.ptr 4 0)]), (22, .blk 93 [(.fn (.func 52) [] [(.ptr 16 0), (.ptr 19 0), (.ptr 22 0)])]), (4, .blk 82 [.rs Ja, .rs Jb, .int .i64, .int .i64, (.row 7), (.mp 10)]), (7, .arr 3 Jb), (10, .mpP), (19, .blk 23 [(.row 33)]), (33, .arr 3 Jb)], false⟩]
 spec := Xdn m
def Xdo (m : Nat) [InW] (e : List Ed) (K : Nat -> List Ed -> Prop) : Prop := match e with
 | [.i i, .ro _ qs, .ro _ ws, .i lo, .i hi, .l w, .l xs, .l l, .i t, .i s, .i a, .i b, .i c, .i d] => Pre (Sp.BkOk qs.xs ws.xs lo hi w /\ Sp.StOk qs.xs t s ⟨a, b, c, d⟩ /\ Sp.V4.nil ⟨a, b, c, d⟩ = false /\ Sp.MemoOk qs.xs lo hi xs /\ qs.xs.length - t.toNat < m + 1 /\ t <= i /\ i <= qs.xs.length /\ l.length + Sp.cnt qs.xs lo hi (qs.xs.length - i.toNat) s ⟨a, b, c, d⟩ <= 65536)
   (Sp.FaM (Sp.MemoOk qs.xs lo hi) fun ys => K 0 [.ro _ qs, .ro _ ws, .i lo, .i hi, .l w, .l ys, .l (l ++ Sp.lvG qs.xs lo hi (qs.xs.length - i.toNat) s ⟨a, b, c, d⟩)])
 | _ => False
noncomputable def Xbz (m : Nat) : LC where
 len := 44
 T := [(1, (.ptr 16 0)), (2, (.ptr 19 0)), (3, (.ptr 22 0)), (4, (.ptr 13 0)), (5, .int .i64)]
 H := [(16, .blk 77 [(.ptr 4 0)]), (22, .blk 93 [(.fn (.func 52) [] [(.ptr 16 0), (.ptr 19 0), (.ptr 22 0)])]), (4, .blk 82 [.rs Ja, .rs Jb, .int .i64, .int .i64, (.row 7), (.mp 10)]), (7, .arr 3 Jb), (10, .mpP), (19, .blk 23 [(.row 30)]), (30, .arr 3 Jb), (13, .blk 86 [.int .i64, .int .i64, .int .i64, .int .i64, .int .i64, .int .i64])]
 W := ([6, 7] ++ rg 23 21)
 outs := [⟨.exit 0, [(1, (.ptr 16 0)), (2, (.ptr 19 0)), (3, (.ptr 22 0))], [(16, .blk 77 [(.ptr 4 0)]), (22, .blk 93 [(.fn (.func 52) [] [(.ptr 16 0), (.ptr 19 0), (.ptr 22 0)])]), (4, .blk 82 [.rs Ja, .rs Jb, .int .i64, .int .i64, (.row 7), (.mp 10)]), (7, .arr 3 Jb), (10, .mpP), (19, .blk 23 [(.row 33)]), (33, .arr 3 Jb)], (rg 4 4 ++ rg 23 21)⟩]
 spec := Xdo m
def Zbo [W : InW] (i : Int) (qs : Ro Ja) (a b c d : Int) := Sp.V4.dec { a := a, b := b, c := c, d := d } (Sp.qPart qs.xs i.toNat)
def Xcv [W : InW] (m : Nat) (i : Int) (qs : Ro Ja) (ws : Ro Jb) (lo hi : Int) (w xs l : Dt) (t s a b c d : Int) (A : List Ed -> Prop) (K : Nat -> List Ed -> Prop) : Prop :=
 Vif (decide (i < (↑(qs.xs.length) : Int))) (Pre (Sp.BkOk qs.xs ws.xs lo hi w /\ Sp.StOk qs.xs t s { a := a, b := b, c := c, d := d } /\ t <= i /\ i < (↑(qs.xs.length) : Int)) (Vif (decide ((1 : Int) <= Sp.V4.get { a := a, b := b, c := c, d := d } (Sp.qPart qs.xs i.toNat))) (Pre (Sp.BkOk qs.xs ws.xs lo hi w /\ Sp.StOk qs.xs (i + 1) (s + Sp.wt qs.xs i.toNat) { a := (Zbo i qs a b c d).1, b := (Zbo i qs a b c d).2, c := (Zbo i qs a b c d).3, d := (Zbo i qs a b c d).4 } /\ Sp.MemoOk qs.xs lo hi xs /\ qs.xs.length - (i + 1).toNat < m /\ (↑(l.length) : Int) + Sp.cnt qs.xs lo hi (qs.xs.length - (i + 1).toNat) (s + Sp.wt qs.xs i.toNat) { a := (Zbo i qs a b c d).1, b := (Zbo i qs a b c d).2, c := (Zbo i qs a b c d).3, d := (Zbo i qs a b c d).4 } <= (65536 : Int)) (Sp.FaM (Sp.MemoOk qs.xs lo hi) fun ys => Ar .i64 (i + 1) fun z => A [.i z, .ro _ qs, .ro _ ws, .i lo, .i hi, .l w, .l ys, .l (l ++ Sp.lvG qs.xs lo hi (qs.xs.length - (i + 1).toNat) (s + Sp.wt qs.xs i.toNat) { a := (Zbo i qs a b c d).1, b := (Zbo i qs a b c d).2, c := (Zbo i qs a b c d).3, d := (Zbo i qs a b c d).4 }), .i t, .i s, .i a, .i b, .i c, .i d])) (Ar .i64 (i + 1) fun z => A [.i z, .ro _ qs, .ro _ ws, .i lo, .i hi, .l w, .l xs, .l l, .i t, .i s, .i a, .i b, .i c, .i d]))) (K 0 [.ro _ qs, .ro _ ws, .i lo, .i hi, .l w, .l xs, .l l])
theorem Xh3 (W : InW) (m h i qs ws lo hi w xs l t s a b c d A K) : Yff { cxT Try.prog TT (⟨[], [], [ceOf (X9 m) h, ceOf Xe Xm]⟩) 1000 50 with fn := 52 } 1000 (Yob Try.prog 52 6) (Yd6 44 [(1, .ptr 16 0), (2, .ptr 19 0), (3, .ptr 22 0), (4, .ptr 13 0), (5, .si .i64 i)] ([6, 7] ++ rg 23 21)) [(16, .blk 77 [.ptr 4 0]), (22, .blk 93 [.fn (.func 52) [] [.ptr 16 0, .ptr 19 0, .ptr 22 0]]), (4, .blk 82 [.rs _ qs, .rs _ ws, .si .i64 lo, .si .i64 hi, .rw 7, .mp 10]), (7, .arr 3 Jb w), (10, .obj (.mpP xs)), (19, .blk 23 [.rw 30]), (30, .arr 3 Jb l), (13, .blk 86 [.si .i64 t, .si .i64 s, .si .i64 a, .si .i64 b, .si .i64 c, .si .i64 d])] (Yut (Xbz m) A K) = Xcv m i qs ws lo hi w xs l t s a b c d A K := by kernel_rfl
def Xw (m : Nat) : Prop := ∀ (W : InW) (body a : Code), (Try.prog.funcs[52]?).bind (·.body) = some body -> a ∈ Yy body -> Yf0 a = 6 -> @Yms W Try.prog a (@Ytz W (Xbz m))
theorem Xjd (m : Nat) (h : ∀ W : InW, @CallC W Try.prog (X9 m)) (meas : [InW] -> List Ed -> Nat) (hyp_ : ∀ (W : InW) i qs ws lo hi w xs l t s a b c d K, Xdo m [.i i, .ro _ qs, .ro _ ws, .i lo, .i hi, .l w, .l xs, .l l, .i t, .i s, .i a, .i b, .i c, .i d] K -> ∀ A : List Ed -> Prop, (∀ e, meas e < meas [.i i, .ro _ qs, .ro _ ws, .i lo, .i hi, .l w, .l xs, .l l, .i t, .i s, .i a, .i b, .i c, .i d] -> Xdo m e K -> A e) -> Xcv m i qs ws lo hi w xs l t s a b c d A K) : Xw m :=
 LE.okOf' (fun W => @TT W) (fun W => @Xc W) Xa (⟨[], [], [ceOf (X9 m) h, ceOf Xe Xm]⟩) 1000 50 (by kernel_rfl) (Xbz m) (fun W => @meas W) fun W i qs ws lo hi w xs l t s a b c d K hs =>
  (Xh3 W m h i qs ws lo hi w xs l t s a b c d (fun e => meas e < meas [.i i, .ro _ qs, .ro _ ws, .i lo, .i hi, .l w, .l xs, .l l, .i t, .i s, .i a, .i b, .i c, .i d] /\ Xdo m e K) K).mpr (hyp_ W i qs ws lo hi w xs l t s a b c d K hs _ fun e h1 h2 => ⟨h1, h2⟩)
def Xhl (m : Nat) [InW] (e : List Ed) (K : Nat -> List Ed -> Prop) : Prop := Xdn (m + 1) e K
noncomputable def X2 (m : Nat) : CC where
 g := 52
 args := [.agg [.int .i64, .int .i64, .int .i64, .int .i64, .int .i64, .int .i64], (.ptr 16 0), (.ptr 19 0), (.ptr 22 0)]
 H := [(16, .blk 77 [(.ptr 4 0)]), (22, .blk 93 [(.fn (.func 52) [] [(.ptr 16 0), (.ptr 19 0), (.ptr 22 0)])]), (4, .blk 82 [.rs Ja, .rs Jb, .int .i64, .int .i64, (.row 7), (.mp 10)]), (7, .arr 3 Jb), (10, .mpP), (19, .blk 23 [(.row 30)]), (30, .arr 3 Jb)]
 outs := [⟨false, .tup [], [(16, .blk 77 [(.ptr 4 0)]), (22, .blk 93 [(.fn (.func 52) [] [(.ptr 16 0), (.ptr 19 0), (.ptr 22 0)])]), (4, .blk 82 [.rs Ja, .rs Jb, .int .i64, .int .i64, (.row 7), (.mp 10)]), (7, .arr 3 Jb), (10, .mpP), (19, .blk 23 [(.row 33)]), (33, .arr 3 Jb)], false⟩]
 spec := Xhl m
def Xde [W : InW] (m : Nat) (t s a b c d : Int) (qs : Ro Ja) (ws : Ro Jb) (lo hi : Int) (w xs l : Dt) (K : Nat -> List Ed -> Prop) : Prop :=
 Pre (Sp.BkOk qs.xs ws.xs lo hi w /\ Sp.StOk qs.xs t s { a := a, b := b, c := c, d := d } /\ Sp.MemoOk qs.xs lo hi xs /\ qs.xs.length - t.toNat < 17) (Sp.FaM (Sp.MemoOk qs.xs lo hi) fun ys => Vif (decide (Sp.cnt qs.xs lo hi (qs.xs.length - t.toNat) s { a := a, b := b, c := c, d := d } = (0 : Int))) (K 0 [.ro _ qs, .ro _ ws, .i lo, .i hi, .l w, .l ys, .l l]) (Vif (decide (a = 0) && (decide (b = 0) && (decide (c = 0) && (decide (d = 0) && true)))) (Need (decide ((l.length + [[Cl.i s]].length) * 8 <= 140737488355328)) (K 0 [.ro _ qs, .ro _ ws, .i lo, .i hi, .l w, .l ys, .l (l ++ [[Cl.i s]])])) (Pre (Sp.BkOk qs.xs ws.xs lo hi w /\ Sp.StOk qs.xs t s { a := a, b := b, c := c, d := d } /\ Sp.V4.nil { a := a, b := b, c := c, d := d } = false /\ Sp.MemoOk qs.xs lo hi ys /\ qs.xs.length - t.toNat < m + 1 /\ t <= t /\ t <= (↑(qs.xs.length) : Int) /\ (↑(l.length) : Int) + Sp.cnt qs.xs lo hi (qs.xs.length - t.toNat) s { a := a, b := b, c := c, d := d } <= (65536 : Int)) (Sp.FaM (Sp.MemoOk qs.xs lo hi) fun ys => K 0 [.ro _ qs, .ro _ ws, .i lo, .i hi, .l w, .l ys, .l (l ++ Sp.lvG qs.xs lo hi (qs.xs.length - t.toNat) s { a := a, b := b, c := c, d := d })]))))
theorem Xim (W : InW) (m h t s a b c d qs ws lo hi w xs l K) : Yw2 (cxT Try.prog TT (⟨[], [⟨52, 6, fun W => @Ytz W (Xbz m), h⟩], [ceOf (Xg 17) (Xk 17)]⟩) 1000 50) 1000 52 [.agg [.si .i64 t, .si .i64 s, .si .i64 a, .si .i64 b, .si .i64 c, .si .i64 d], .ptr 16 0, .ptr 19 0, .ptr 22 0] [(16, .blk 77 [.ptr 4 0]), (22, .blk 93 [.fn (.func 52) [] [.ptr 16 0, .ptr 19 0, .ptr 22 0]]), (4, .blk 82 [.rs _ qs, .rs _ ws, .si .i64 lo, .si .i64 hi, .rw 7, .mp 10]), (7, .arr 3 Jb w), (10, .obj (.mpP xs)), (19, .blk 23 [.rw 30]), (30, .arr 3 Jb l)] (fun v h => outC (X2 m).H [.ro _ qs, .ro _ ws, .i lo, .i hi, .l w, .l xs, .l l] (X2 m).outs 0 false v h K) (fun v h => outC (X2 m).H [.ro _ qs, .ro _ ws, .i lo, .i hi, .l w, .l xs, .l l] (X2 m).outs 0 true v h K) = Xde m t s a b c d qs ws lo hi w xs l K := by kernel_rfl
theorem Xjw (m : Nat) (h : Xw m) (hyp_ : ∀ (W : InW) t s a b c d qs ws lo hi w xs l K, Xhl m [.i t, .i s, .i a, .i b, .i c, .i d, .ro _ qs, .ro _ ws, .i lo, .i hi, .l w, .l xs, .l l] K -> Xde m t s a b c d qs ws lo hi w xs l K) : ∀ W : InW, @CallC W Try.prog (X2 m) :=
 CC.okOf (fun W => @TT W) (fun W => @Xc W) Xa (⟨[], [⟨52, 6, fun W => @Ytz W (Xbz m), h⟩], [ceOf (Xg 17) (Xk 17)]⟩) 1000 50 (X2 m) fun W t s a b c d qs ws lo hi w xs l K hs => (Xim W m h t s a b c d qs ws lo hi w xs l K).mpr (hyp_ W t s a b c d qs ws lo hi w xs l K hs)
theorem Xlq (m : Nat) (hc : ∀ W : InW, @CallC W Try.prog (X9 m)) : Xw m := Xjd m hc (fun e => match e with | .i i :: .ro _ qs :: _ => ((qs.xs.length : Int) - i).toNat | _ => 0) fun W i qs ws lo hi w xs l t s a b c d K hs A hA => by
 obtain ⟨⟨bk, st, hv, mo, fu, h0, h1, hb⟩, ⟨hk⟩⟩ := hs;unfold Xcv;delta Zbo;have hf := bk.few;have ht := st.a0
 by_cases hi' : i < qs.xs.length
 ·have hc := Sp.cnt_at (qs := qs.xs) (lo := lo) (hi := hi) (s := s) hv (by omega) hi';have hl : ((qs.xs.length : Int) - (i + 1)).toNat < ((qs.xs.length : Int) - i).toNat := by omega
  have b1 := Sp.cnt_pos (qs := qs.xs) (lo := lo) (hi := hi) (m := qs.xs.length - (i + 1).toNat) (s := s) (v := ⟨a, b, c, d⟩);rw [Sp.lvG_at hv (by omega) hi'] at hk;refine vifd (fun _ => ?_) (fun h => absurd hi' h);refine ⟨⟨bk, st, h0, hi'⟩, vifd (fun hg => ?_) (fun hg => ?_)⟩
  ·rw [if_pos hg] at hc hk;have h2 := Sp.length_lvG qs.xs lo hi (qs.xs.length - (i + 1).toNat) (s + Sp.wt qs.xs i.toNat) (Sp.V4.dec ⟨a, b, c, d⟩ (Sp.qPart qs.xs i.toNat));refine ⟨⟨bk, st.step bk h0 hi' hg, mo, by omega, by show (l.length : Int) + Sp.cnt qs.xs lo hi (qs.xs.length - (i + 1).toNat) (s + Sp.wt qs.xs i.toNat) (Sp.V4.dec ⟨a, b, c, d⟩ (Sp.qPart qs.xs i.toNat)) <= 65536; omega⟩, ⟨fun ys hy => ?_⟩⟩;refine ar64 (by omega) (hA _ hl ⟨⟨bk, st, hv, hy, fu, by omega, by omega, by rw [List.length_append]; show ((l.length + (Sp.lvG qs.xs lo hi (qs.xs.length - (i + 1).toNat) (s + Sp.wt qs.xs i.toNat) (Sp.V4.dec ⟨a, b, c, d⟩ (Sp.qPart qs.xs i.toNat))).length : Nat) : Int) + _ <= 65536; omega⟩, ⟨fun zs hz => ?_⟩⟩);have := hk zs hz;rw [<- List.append_assoc] at this;exact this
  ·rw [if_neg hg] at hc hk;exact ar64 (by omega) (hA _ hl ⟨⟨bk, st, hv, mo, fu, by omega, by omega, by omega⟩, ⟨hk⟩⟩)
 ·refine vifd (fun h => absurd h hi') (fun _ => ?_);have := hk xs mo;rw [show qs.xs.length - i.toNat = 0 by omega, Sp.lvG_zero hv, List.append_nil] at this;exact this
theorem Xl9 (m : Nat) (h : Xw m) : ∀ W : InW, @CallC W Try.prog (X2 m) := Xjw m h fun W t s a b c d qs ws lo hi w xs l K hs => by
 obtain ⟨⟨bk, st, mo, fu, hb⟩, ⟨hk⟩⟩ := hs;unfold Xde;have hf := bk.few;have h2 := Sp.length_lvG qs.xs lo hi (qs.xs.length - t.toNat) s ⟨a, b, c, d⟩;have b0 := Sp.cnt_pos (qs := qs.xs) (lo := lo) (hi := hi) (m := qs.xs.length - t.toNat) (s := s) (v := ⟨a, b, c, d⟩);refine ⟨⟨bk, st, mo, by omega⟩, ⟨fun ys hy => vifd (fun hz => ?_) (fun hz => vif (fun hv => ?_) (fun hv => ?_))⟩⟩
 ·have := hk ys hy;rw [List.length_eq_zero_iff.1 (show (Sp.lvG qs.xs lo hi (qs.xs.length - t.toNat) s ⟨a, b, c, d⟩).length = 0 by omega), List.append_nil] at this;exact this
 ·have hv : Sp.V4.nil ⟨a, b, c, d⟩ = true := by simpa [Sp.V4.nil, and_assoc] using hv
  have := hk ys hy;rw [Sp.cnt_nil hv] at hz
  by_cases hr : Sp.inr s lo hi = true
  ·rw [Sp.lvG_nil hv, if_pos hr] at this;exact nedd (by simp; omega) this
  ·rw [if_neg hr] at hz;exact absurd rfl hz
 ·have hv : Sp.V4.nil ⟨a, b, c, d⟩ = false := by
   rw [<- Bool.not_eq_true] at hv ⊢;intro h2;exact hv (by simpa [Sp.V4.nil, and_assoc] using h2)
  exact ⟨⟨bk, st, hv, hy, fu, by omega, st.a1, hb⟩, ⟨hk⟩⟩
theorem Xhy : ∀ (m : Nat) (W : InW), @CallC W Try.prog (X9 m)
 | 0, W => fun xs ys e1 e2 m1 n1 K hs => by
  have hs : Xdn 0 (e1 ++ e2) K := hs;unfold Xdn at hs
  split at hs
  ·obtain ⟨⟨_, _, _, h, _⟩, _⟩ := hs;exact absurd h (Nat.not_lt_zero _)
  ·exact hs.elim
 | m + 1, W => Xl9 m (Xlq m (Xhy m)) W
namespace Sp
theorem ins_pw {L : List Int} {k : Nat} {x : Int} (h : L.Pairwise (· <= ·)) (h1 : ∀ j, j < k -> (hj : j < L.length) -> L[j] <= x) (h2 : (hk : k < L.length) -> x < L[k]) : (L.take k ++ x :: L.drop k).Pairwise (· <= ·) := by
 have hd : ∀ b, b ∈ L.drop k -> x <= b := fun b hb => by
  obtain ⟨j, hj, rfl⟩ := List.mem_iff_getElem.1 hb;rw [List.length_drop] at hj;rw [List.getElem_drop];have h3 := h2 (by omega)
  by_cases hz : j = 0
  ·subst hz; simp only [Nat.add_zero]; omega
  ·have := List.pairwise_iff_getElem.1 h k (k + j) (by omega) (by omega) (by omega);omega
 have ht : ∀ a, a ∈ L.take k -> a <= x := fun a ha => by
  obtain ⟨j, hj, rfl⟩ := List.mem_iff_getElem.1 ha;rw [List.length_take] at hj;rw [List.getElem_take];exact h1 j (by omega) (by omega)
 rw [List.pairwise_append, List.pairwise_cons];refine ⟨h.sublist (List.take_sublist _ _), ⟨hd, h.sublist (List.drop_sublist _ _)⟩, fun a ha b hb => ?_⟩;have h3 := ht a ha;rcases List.mem_cons.1 hb with rfl | hb
 ·exact h3
 ·have := hd b hb; omega
theorem ins_perm (L : List Int) (k : Nat) (x : Int) : (L.take k ++ x :: L.drop k).Perm (x :: L) := by
 have := List.perm_middle (a := x) (l₁ := L.take k) (l₂ := L.drop k);rwa [List.take_append_drop] at this
theorem fstF_none {f : Nat -> Bool} : ∀ {n i : Nat}, anyF f i n = false -> fstF f i n = i + n
 | 0, i, _ => rfl
 | n + 1, i, h => by
  simp only [anyF, Bool.or_eq_false_iff] at h;rw [fstF, if_neg (by rw [h.1]; decide), fstF_none h.2]; omega
def insF (o : Dt) (x : Int) (j : Nat) : Bool := !decide ((cel o j 0).int <= x)
def insK (o : Dt) (x : Int) : Nat := fstF (insF o x) 0 o.length
def insD (o : Dt) (x : Int) : Dt := o.take (insK o x) ++ [[.i x]] ++ o.drop (insK o x)
def srtD (xs : Dt) : Nat -> Dt
 | 0 => []
 | n + 1 => insD (srtD xs n) (cel xs n 0).int
theorem nums_get {l : Dt} {j : Nat} (h : j < (numsOf l).length) : (numsOf l)[j] = (cel l j 0).int := by
 have h2 : j < l.length := by rwa [Xb] at h
 simp [numsOf, cel, List.getD_eq_getElem?_getD, h2]
theorem nums_insD (o : Dt) (x : Int) : numsOf (insD o x) = (numsOf o).take (insK o x) ++ x :: (numsOf o).drop (insK o x) := by
 unfold insD numsOf;rw [List.map_append, List.map_append, List.map_take, List.map_drop];simp [Cl.int]
theorem srtD_pw (xs : Dt) : ∀ n, (numsOf (srtD xs n)).Pairwise (· <= ·)
 | 0 => List.Pairwise.nil
 | n + 1 => by
  rw [srtD, nums_insD];have hl := Xb (srtD xs n);refine ins_pw (srtD_pw xs n) (fun j hj hj2 => ?_) fun hk => ?_
  ·rw [nums_get hj2];unfold insK at hj;cases h : anyF (insF (srtD xs n) (cel xs n 0).int) 0 (srtD xs n).length with
   | true =>
    have := (fstF_spec h).2.2.2 j (Nat.zero_le _) hj;simpa [insF] using this
   | false =>
    by_cases hc : (cel (srtD xs n) j 0).int <= (cel xs n 0).int
    ·exact hc
    ·rw [<- Bool.not_eq_true, anyF_iff] at h;exact absurd ⟨j, Nat.zero_le _, by omega, by simpa [insF] using hc⟩ h
  ·rw [nums_get hk];cases h : anyF (insF (srtD xs n) (cel xs n 0).int) 0 (srtD xs n).length with
   | true =>
    have := (fstF_spec h).2.2.1;simpa [insF, insK] using this
   | false =>
    unfold insK at hk;rw [fstF_none h] at hk; omega
theorem srtD_perm {xs : Dt} : ∀ n, n <= xs.length -> (numsOf (srtD xs n)).Perm ((numsOf xs).take n)
 | 0, _ => by simp [srtD, numsOf]
 | n + 1, h => by
  rw [srtD, nums_insD];have hn : n < (numsOf xs).length := by rw [Xb]; omega
  refine (ins_perm _ _ _).trans ?_;rw [List.take_succ_eq_append_getElem hn, nums_get hn];exact ((srtD_perm n (by omega)).cons _).trans (List.perm_append_singleton _ _).symm
theorem srtD_norm (xs : Dt) : ∀ n, norm (srtD xs n) = srtD xs n
 | 0 => rfl
 | n + 1 => by
  have ih := srtD_norm xs n;have h1 : ∀ k, norm ((srtD xs n).take k) = (srtD xs n).take k := fun k => by unfold norm at ih ⊢; rw [List.map_take, ih]
  have h2 : ∀ k, norm ((srtD xs n).drop k) = (srtD xs n).drop k := fun k => by unfold norm at ih ⊢; rw [List.map_drop, ih]
  have h3 : norm (insD (srtD xs n) (cel xs n 0).int) = norm ((srtD xs n).take (insK (srtD xs n) (cel xs n 0).int)) ++ [[Cl.i (cel xs n 0).int]] ++ norm ((srtD xs n).drop (insK (srtD xs n) (cel xs n 0).int)) := by
   unfold insD norm;rw [List.map_append, List.map_append];rfl
  rw [srtD, h3, h1, h2];rfl
theorem norm_nums (l : Dt) : norm l = (numsOf l).map fun n => [.i n] := by simp [norm, numsOf]
theorem srt_same (xs : Dt) : srtD xs xs.length = sortD xs := by
 have h1 : numsOf (srtD xs xs.length) = (numsOf xs).mergeSort fun x y => decide (x <= y) := by
  refine List.Perm.eq_of_pairwise (le := (· <= ·)) (fun a b _ _ h1 h2 => by omega) (srtD_pw _ _) ?_ ?_
  ·have := List.pairwise_mergeSort (le := fun x y : Int => decide (x <= y)) (fun a b c h1 h2 => by simp at *; omega) (fun a b => by simp; omega) (numsOf xs);exact this.imp fun h => of_decide_eq_true h
  ·have := srtD_perm (xs := xs) xs.length (Nat.le_refl _);rw [<- Xb xs, List.take_length, Xb] at this;exact this.trans (List.mergeSort_perm _ _).symm
 rw [<- srtD_norm, norm_nums, h1];rfl
structure Rg where
 lo : Int
 hi : Int
def narF (L : Dt) (k : Int) : Nat -> Nat -> Rg -> Rg
 | _, 0, b => b
 | i, n + 1, b => narF L k (i + 1) n (if (cel L ((i : Int) + k - 1).toNat 0).int - (cel L i 0).int < b.hi - b.lo then ⟨(cel L i 0).int, (cel L ((i : Int) + k - 1).toNat 0).int⟩ else b)
def nar (L : Dt) (k : Int) : Rg := narF L k 0 (L.length - k.toNat + 1) ⟨0, 16001⟩
structure LvOk (L : Dt) : Prop where
 ok : ∀ i, i < L.length -> 0 <= (cel L i 0).int /\ (cel L i 0).int <= 16000
theorem mem_nums {l : Dt} {x : Int} : x ∈ numsOf l ↔ ∃ i, i < l.length /\ (cel l i 0).int = x := by
 rw [List.mem_iff_getElem];constructor
 ·rintro ⟨i, hi, rfl⟩;exact ⟨i, by rwa [Xb] at hi, (nums_get hi).symm⟩
 ·rintro ⟨i, hi, rfl⟩;have hi2 : i < (numsOf l).length := by rwa [Xb]
  exact ⟨i, hi2, nums_get hi2⟩
theorem LvOk.sort {L : Dt} (h : LvOk L) : LvOk (sortD L) := ⟨fun i hi => by
 have h1 := (mem_nums (l := sortD L) (x := (cel (sortD L) i 0).int)).2 ⟨i, hi, rfl⟩;rw [Xr, List.mem_mergeSort, mem_nums] at h1;obtain ⟨j, hj, e⟩ := h1;rw [<- e];exact h.ok j hj⟩
theorem levD_ok {qs ws : Dt} {lo hi : Int} (bv : BankV qs ws lo hi) : LvOk (levD qs ws lo hi) := ⟨fun i hi' => by
 have h1 : i < (paps qs ws lo hi).length := by simpa [levD] using hi'
 have h2 := paps_is bv h1;unfold isP at h2;simp only [Bool.and_eq_true, inr_iff] at h2;have e : (cel (levD qs ws lo hi) i 0).int = lvl qs ((paps qs ws lo hi).getD i []) := by
  simp [levD, cel, List.getD_eq_getElem?_getD, h1, Cl.int]
 have := bv.l0;have := bv.hh;rw [e]; omega⟩
end Sp
namespace Sp
def fairE (qs ws : Dt) (lo hi k : Int) : Int := if chkE qs ws lo hi = 0 then (if 1 <= k then (if k <= total qs ws lo hi then 0 else 9) else 7) else chkE qs ws lo hi
def fairR (qs ws : Dt) (lo hi k : Int) : Rg := if fairE qs ws lo hi k = 0 then nar (srtD (levD qs ws lo hi) (levD qs ws lo hi).length) k else ⟨0, 0⟩
end Sp
abbrev Xv (ds : DS) : DS := match ds with | [[.l qs, .l ws, .i lo, .i hi], [.i k]] => [[.i (Sp.fairR qs ws lo hi k).lo, .i (Sp.fairR qs ws lo hi k).hi], [.i (Sp.fairE qs ws lo hi k)]] | _ => []
def Xdr [InW] (e : List Ed) (K : Nat -> List Ed -> Prop) : Prop := match e with
 | [.i k, .i u, .i n, .i z, .i i, .i a, .i b, .l L] => Pre (Sp.LvOk L /\ L.length <= 65536 /\ 1 <= k /\ k <= L.length /\ u = 0 /\ n = z /\ z = L.length - k + 1 /\ 0 <= i /\ i <= z /\ 0 <= a /\ a <= 16001 /\ 0 <= b /\ b <= 16001)
   (K 0 [.i (Sp.narF L k i.toNat (z - i).toNat (if i = 0 then ⟨0, 16001⟩ else ⟨a, b⟩)).lo, .i (Sp.narF L k i.toNat (z - i).toNat (if i = 0 then ⟨0, 16001⟩ else ⟨a, b⟩)).hi])
 | _ => False
noncomputable def Xev : LC where
 len := 78
 T := [(1, .int .i64), (4, (.ptr 16 0)), (7, (.ptr 19 0)), (44, (.rwp 31 1)), (45, .int .i64), (46, .int .i64)]
 H := [(16, .blk 25 [.int .i64, .int .i64]), (19, .blk 23 [(.row 31)]), (31, .arr 3 Jb)]
 W := ([9, 10, 11] ++ rg 47 30)
 outs := [⟨.exit 1, [(4, (.ptr 16 0))], [(16, .blk 25 [.int .i64, .int .i64])], ([1, 7, 9, 10, 11] ++ rg 44 33)⟩]
 spec := Xdr
def Xcy [W : InW] (k : Int) (u n : Nat) (z i a b : Int) (l : Dt) (A : List Ed -> Prop) (K : Nat -> List Ed -> Prop) : Prop :=
 Vif (decide (i < z)) (Need (decide (0 <= i) && decide (i < (↑n : Int)) && decide (u + n <= l.length)) (Need (decide (u + i.toNat < l.length)) (Ar .i64 (i + k) fun z_1 => Ar .i64 (z_1 - 1) fun z_2 => Need (decide (0 <= z_2) && decide (z_2 < (↑(l.length) : Int))) (Need (decide (z_2.toNat < l.length)) (Vif (decide (i = 0)) (Ar .i64 (i + 1) fun z_3 => A [.i k, .i (↑u : Int), .i (↑n : Int), .i z, .i z_3, .i (cel l (u + i.toNat) Zbc).int, .i (cel l z_2.toNat Zbc).int, .l l]) (Ar .i64 ((cel l z_2.toNat Zbc).int - (cel l (u + i.toNat) Zbc).int) fun z_3 => Ar .i64 (b - a) fun z_4 => Vif (decide (z_3 < z_4)) (Ar .i64 (i + 1) fun z_5 => A [.i k, .i (↑u : Int), .i (↑n : Int), .i z, .i z_5, .i (cel l (u + i.toNat) Zbc).int, .i (cel l z_2.toNat Zbc).int, .l l]) (Ar .i64 (i + 1) fun z_5 => A [.i k, .i (↑u : Int), .i (↑n : Int), .i z, .i z_5, .i a, .i b, .l l]))))))) (K 0 [.i a, .i b])
theorem Xh6 (W : InW) (k u n z i a b l A K) : Yff { cxT Try.prog TT T0 1000 50 with fn := 28 } 1000 (Yob Try.prog 28 15) (Yd6 78 [(1, .si .i64 k), (4, .ptr 16 0), (7, .ptr 19 0), (44, .rwp 31 1 u n), (45, .si .i64 z), (46, .si .i64 i)] ([9, 10, 11] ++ rg 47 30)) [(16, .blk 25 [.si .i64 a, .si .i64 b]), (19, .blk 23 [.rw 31]), (31, .arr 3 Jb l)] (Yut Xev A K) = Xcy k u n z i a b l A K := by kernel_rfl
def Xee : Prop := ∀ (W : InW) (body a : Code), (Try.prog.funcs[28]?).bind (·.body) = some body -> a ∈ Yy body -> Yf0 a = 15 -> @Yms W Try.prog a (@Ytz W Xev)
theorem Xjg (meas : [InW] -> List Ed -> Nat) (hyp_ : ∀ (W : InW) k (u n : Nat) z i a b l K, Xdr [.i k, .i u, .i n, .i z, .i i, .i a, .i b, .l l] K -> ∀ A : List Ed -> Prop, (∀ e, meas e < meas [.i k, .i u, .i n, .i z, .i i, .i a, .i b, .l l] -> Xdr e K -> A e) -> Xcy k u n z i a b l A K) : Xee :=
 LE.okOf' (fun W => @TT W) (fun W => @Xc W) Xa T0 1000 50 (by kernel_rfl) Xev (fun W => @meas W) fun W k u n z i a b l K hs =>
  (Xh6 W k u n z i a b l (fun e => meas e < meas [.i k, .i u, .i n, .i z, .i i, .i a, .i b, .l l] /\ Xdr e K) K).mpr (hyp_ W k u n z i a b l K hs _ fun e h1 h2 => ⟨h1, h2⟩)
theorem Xlt : Xee := Xjg (fun e => match e with | _ :: _ :: _ :: .i z :: .i i :: _ => (z - i).toNat | _ => 0) fun W k u n z i a b L K hs A hA => by
 obtain ⟨⟨lv, hL, k1, k2, hu, hn, hz, h0, h1, a0, a1, b0, b1⟩, hk⟩ := hs;unfold Xcy;delta Zbc;have hu0 : u = 0 := by omega
 subst hu0
 by_cases hi' : i < z
 ·have v0 := lv.ok i.toNat (by omega);have v1 := lv.ok (i + k - 1).toNat (by omega);have en : (z - i).toNat = (z - (i + 1)).toNat + 1 := by omega
  have lt : (z - (i + 1)).toNat < (z - i).toNat := by omega
  rw [en] at hk;simp only [Sp.narF, Int.toNat_of_nonneg h0, show i.toNat + 1 = (i + 1).toNat by omega] at hk;have hz1 : i + 1 ≠ 0 := by omega
  refine vifd (fun _ => ?_) (fun h => absurd hi' h);simp only [Nat.zero_add];refine ned (by simp; omega) (nedd (by omega) (ar64 (by omega) (ar64 (by omega) (ned (by simp; omega) (nedd (by omega) ?_)))));refine vifd (fun hi0 => ?_) (fun hi0 => ar64 (by omega) (ar64 (by omega) (vifd (fun hlt => ?_) (fun hlt => ?_))))
  ·rw [if_pos hi0, if_pos (show (cel L (i + k - 1).toNat 0).int - (cel L i.toNat 0).int < 16001 - 0 by omega)] at hk;exact ar64 (by omega) (hA _ lt ⟨⟨lv, hL, k1, k2, hu, hn, hz, by omega, by omega, by omega, by omega, by omega, by omega⟩, by rw [if_neg hz1]; exact hk⟩)
  ·rw [if_neg hi0, if_pos hlt] at hk;exact ar64 (by omega) (hA _ lt ⟨⟨lv, hL, k1, k2, hu, hn, hz, by omega, by omega, by omega, by omega, by omega, by omega⟩, by rw [if_neg hz1]; exact hk⟩)
  ·rw [if_neg hi0, if_neg hlt] at hk;exact ar64 (by omega) (hA _ lt ⟨⟨lv, hL, k1, k2, hu, hn, hz, by omega, by omega, a0, a1, b0, b1⟩, by rw [if_neg hz1]; exact hk⟩)
 ·refine vifd (fun h => absurd h hi') (fun _ => ?_);have hi0 : i ≠ 0 := by omega
  rw [show (z - i).toNat = 0 by omega, if_neg hi0] at hk;exact hk
noncomputable def Xmf : LE Try.prog := ⟨28, 15, fun W => @Ytz W Xev, Xlt⟩
noncomputable def T31 : Tab Try.prog := ⟨[], [Xmf], [ceOf Xh Xce, ceOf Xf Xu, ceOf (X9 17) (Xhy 17), ceOf Xf3 Xkd]⟩
def Zbp [W : InW] (kQ : Ro Ja) (k_Ws : Ro Jb) (k_Lo k_Hi : Int) := Sp.lvG kQ.xs k_Lo k_Hi (kQ.xs.length - Int.toNat Zk) Zk { a := (cel k_Ws.xs Zbc Zbc).int, b := (cel k_Ws.xs (1 : Nat) Zbc).int, c := (cel k_Ws.xs (2 : Nat) Zbc).int, d := (cel k_Ws.xs (3 : Nat) Zbc).int }
def Xbr [W : InW] (kQ : Ro Ja) (k_Ws : Ro Jb) (k_Lo k_Hi n : Int) (Q : DS -> Prop) : Prop :=
 Vif (decide (Sp.chkE kQ.xs k_Ws.xs k_Lo k_Hi = 0)) (Vif (decide (n < 1)) (Q [[Cl.i 0, Cl.i 0], [Cl.i 7]]) (Pre (Sp.BkOk kQ.xs k_Ws.xs k_Lo k_Hi (Sp.wts kQ.xs (kQ.xs.length)) /\ Sp.StOk kQ.xs Zk Zk { a := (cel k_Ws.xs Zbc Zbc).int, b := (cel k_Ws.xs (1 : Nat) Zbc).int, c := (cel k_Ws.xs (2 : Nat) Zbc).int, d := (cel k_Ws.xs (3 : Nat) Zbc).int } /\ Sp.MemoOk kQ.xs k_Lo k_Hi [] /\ kQ.xs.length - Int.toNat Zk < 17 /\ (↑Zbc : Int) + Sp.cnt kQ.xs k_Lo k_Hi (kQ.xs.length - Int.toNat Zk) Zk { a := (cel k_Ws.xs Zbc Zbc).int, b := (cel k_Ws.xs (1 : Nat) Zbc).int, c := (cel k_Ws.xs (2 : Nat) Zbc).int, d := (cel k_Ws.xs (3 : Nat) Zbc).int } <= (65536 : Int)) (Sp.FaM (Sp.MemoOk kQ.xs k_Lo k_Hi) fun ys => Vif (decide ((↑(List.length (Zbp kQ k_Ws k_Lo k_Hi)) : Int) < n)) (Q [[Cl.i 0, Cl.i 0], [Cl.i 9]]) (Pre (Zbc < List.length (Zbp kQ k_Ws k_Lo k_Hi) /\ List.length (Zbp kQ k_Ws k_Lo k_Hi) <= 65536) (Ar .i64 ((↑(List.length (Sp.sortD (Zbp kQ k_Ws k_Lo k_Hi))) : Int) - n) fun z => Ar .i64 (z + 1) fun z => Need (decide (0 <= z)) (Need (decide (Zbc <= z.toNat) && decide (z.toNat <= List.length (Sp.sortD (Zbp kQ k_Ws k_Lo k_Hi)))) (Pre (Sp.LvOk (Sp.sortD (Zbp kQ k_Ws k_Lo k_Hi)) /\ List.length (Sp.sortD (Zbp kQ k_Ws k_Lo k_Hi)) <= 65536 /\ 1 <= n /\ n <= (↑(List.length (Sp.sortD (Zbp kQ k_Ws k_Lo k_Hi))) : Int) /\ (↑Zbc : Int) = 0 /\ (↑(z.toNat - 0) : Int) = (↑(z.toNat - 0) : Int) /\ (↑(z.toNat - 0) : Int) = (↑(List.length (Sp.sortD (Zbp kQ k_Ws k_Lo k_Hi))) : Int) - n + 1 /\ Zk <= 0 /\ Zk <= (↑(z.toNat - 0) : Int) /\ Zk <= 0 /\ Zk <= 16001 /\ Zk <= 0 /\ Zk <= 16001) (Q [[Cl.i (Sp.narF (Sp.sortD (Zbp kQ k_Ws k_Lo k_Hi)) n Zl ((↑(z.toNat - 0) : Int) - 0).toNat { lo := Zk, hi := (16001 : Int) }).lo, Cl.i (Sp.narF (Sp.sortD (Zbp kQ k_Ws k_Lo k_Hi)) n Zl ((↑(z.toNat - 0) : Int) - 0).toNat { lo := Zk, hi := (16001 : Int) }).hi], [Cl.i 0]])))))))) (Vif (!decide (Sp.chkE kQ.xs k_Ws.xs k_Lo k_Hi = 0)) (Q [[Cl.i 0, Cl.i 0], [Cl.i (Sp.chkE kQ.xs k_Ws.xs k_Lo k_Hi)]]) (Vif (decide (n < 1)) (Q [[Cl.i 0, Cl.i 0], [Cl.i 7]]) ((16 : Nat) = 16 + 1)))
theorem Xgq (W : InW) (kQ k_Ws k_Lo k_Hi n Q) : Yw5 (cxT Try.prog TT T31 1000 50) 1000 28 [.agg [.rs _ kQ, .rs _ k_Ws, .si .i64 k_Lo, .si .i64 k_Hi], .si .i64 n] [] 0 (Y1i [(true, [.int .i64, .int .i64]), (false, [.int .i64])] Q) (fun _ _ _ _ => Stuck 421) = Xbr kQ k_Ws k_Lo k_Hi n Q := by kernel_rfl
abbrev X4 : List AT := [.agg [.sl Ja, .sl Jb, .int .i64, .int .i64], .one (.int .i64)]
theorem Xg7 {pre : DS -> Prop} {res : DS -> DS} (hyp_ : ∀ (W : InW) (kQ : Ro Ja) (k_Ws : Ro Jb) (k_Lo k_Hi n : Int), pre [[.l kQ.xs, .l k_Ws.xs, .i k_Lo, .i k_Hi], [.i n]] -> ∀ Q : DS -> Prop, Q (res [[.l kQ.xs, .l k_Ws.xs, .i k_Lo, .i k_Hi], [.i n]]) -> Xbr kQ k_Ws k_Lo k_Hi n Q) : PureOk Try.prog 28 X4 [(true, [.int .i64, .int .i64]), (false, [.int .i64])] pre res :=
 PureOk.of' (fun W => @TT W) (fun W => @Xc W) Xa T31 1000 50 fun W kQ k_Ws k_Lo k_Hi n hp =>
  (Xgq W kQ k_Ws k_Lo k_Hi n (fun o => o = res [[.l kQ.xs, .l k_Ws.xs, .i k_Lo, .i k_Hi], [.i n]])).mpr (hyp_ W kQ k_Ws k_Lo k_Hi n hp _ rfl)
theorem Xja : PureOk Try.prog 28 X4 [(true, [.int .i64, .int .i64]), (false, [.int .i64])] (fun _ => True) Xv :=
 Xg7 fun W qs ws lo hi k hp Q h => by
  unfold Xbr;delta Zl Zbp Zk Zbc;refine vifd (fun e => ?_) (fun e => vifn (fun _ => ?_) (fun e2 => absurd e2 e))
  ·have bv := Sp.chkE_iff.1 e;have hl := Sp.length_levD qs.xs ws.xs lo hi;have hs := Xd (Sp.levD qs.xs ws.xs lo hi);have hn := bv.n2;have b2 : 0 <= Sp.total qs.xs ws.xs lo hi /\ Sp.total qs.xs ws.xs lo hi <= 65536 := Sp.cnt_16 bv.n2 0 (Sp.v0 ws.xs);have eL : Sp.lvG qs.xs lo hi (qs.xs.length - Int.toNat 0) 0 ⟨(cel ws.xs 0 0).int, (cel ws.xs 1 0).int, (cel ws.xs 2 0).int, (cel ws.xs 3 0).int⟩ = Sp.levD qs.xs ws.xs lo hi := Sp.lvG_all qs.xs ws.xs lo hi;simp only [Xv, Sp.fairR, Sp.fairE, if_pos e] at h;refine vifd (fun h1 => ?_) (fun h1 => ⟨⟨bv.bk, bv.st, Sp.memo_nil, by omega, ?_⟩, ⟨fun ys hy => ?_⟩⟩)
   ·rw [if_neg (show ¬ 1 <= k by omega), if_neg (by decide)] at h; exact h
   ·show ((0 : Nat) : Int) + Sp.total qs.xs ws.xs lo hi <= 65536
    omega
   ·rw [eL];rw [if_pos (show 1 <= k by omega)] at h;refine vifd (fun h2 => ?_) (fun h2 => ?_)
    ·rw [if_neg (show ¬ k <= Sp.total qs.xs ws.xs lo hi by omega), if_neg (by decide)] at h; exact h
    ·rw [if_pos (show k <= Sp.total qs.xs ws.xs lo hi by omega), if_pos rfl] at h;rw [Sp.srt_same] at h;unfold Sp.nar at h;refine ⟨by omega, ar64 (by omega) (ar64 (by omega) (nedd (by omega) (ned (by simp; omega) ⟨⟨(Sp.levD_ok bv).sort, by omega, by omega, by omega, by omega, by omega, by omega, by omega, by omega, by omega, by omega, by omega, by omega⟩, ?_⟩)))⟩;rw [show ((((List.length (Sp.sortD (Sp.levD qs.xs ws.xs lo hi)) : Int) - k + 1).toNat - 0 : Nat) - 0 : Int).toNat = (Sp.sortD (Sp.levD qs.xs ws.xs lo hi)).length - k.toNat + 1 by omega];exact h
  ·simp only [Xv, Sp.fairR, Sp.fairE, if_neg e] at h; exact h
noncomputable def Xea : PC Try.prog := ⟨28, X4, [(true, [.int .i64, .int .i64]), (false, [.int .i64])], fun _ => True, Xv, Xja⟩
namespace Sp
def hasF (b : Dt) (x : Int) (k : Nat) : Bool := decide (x = (cel b k 0).int)
def hasK (b : Dt) (x : Int) (k : Nat) : Bool := anyF (hasF b x) 0 k
def idxOf (b : Dt) (x : Int) : Int := if hasK b x b.length = true then (fstF (hasF b x) 0 b.length : Nat) else -1
def cmF (a b : Dt) (i : Nat) : Int := if hasK b (cel a i 0).int b.length = true then 1 else 0
def cmn (a b : Dt) : Int := sumN (cmF a b) 0 a.length
structure NoD (b : Dt) : Prop where
 ok : ∀ i k, i < k -> k < b.length -> (cel b i 0).int ≠ (cel b k 0).int
theorem cmF_b (a b : Dt) : ∀ n, 0 <= sumN (cmF a b) 0 n /\ sumN (cmF a b) 0 n <= n
 | 0 => by simp [sumN]
 | n + 1 => by
  have := cmF_b a b n;rw [sumN_last];have h2 : cmF a b (0 + n) = 1 \/ cmF a b (0 + n) = 0 := by
   unfold cmF; split
   ·exact .inl rfl
   ·exact .inr rfl
  omega
def bfD (S seat : Int) : Dt := (if S <= seat then [[.i (seat - S)]] else []) ++ (if 0 < seat.tmod S then [[.i (seat - 1)]] else [])
def apF (ps p l : Dt) (c : Int) (j : Nat) : Bool := decide (cmn (cel ps (cel l j 0).int.toNat 0).lst p <= c)
def apP (ps p : Dt) (S seat c : Int) : Bool := allF (apF ps p (bfD S seat) c) 0 (bfD S seat).length
structure ApOk (S seat : Int) (ps p : Dt) : Prop where
 s1 : 1 <= S
 s6 : S <= 6
 t0 : 0 <= seat
 t1 : seat <= ps.length
 nod : NoD p
end Sp
def Xgy [InW] (e : List Ed) (K : Nat -> List Ed -> Prop) : Prop := match e with
 | [.ro _ xs, .i x, .i n, .i i] => Pre (n = xs.xs.length /\ 0 <= i /\ i <= n) (Vif (Sp.anyF (Sp.hasF xs.xs x) i.toNat (xs.xs.length - i.toNat)) (K 1 [.i ((Sp.fstF (Sp.hasF xs.xs x) i.toNat (xs.xs.length - i.toNat) : Nat) : Int)]) (K 0 []))
 | _ => False
noncomputable def Xhf : LC where
 len := 19
 T := [(0, .rs Jb), (1, .int .i64), (7, .int .i64), (8, .int .i64)]
 H := []
 W := ([4, 5] ++ rg 9 10)
 outs := [⟨.exit 0, [], [], ([0, 1, 4, 5] ++ rg 7 12)⟩, ⟨.ret, [(4, .int .i64)], [], ([0, 1, 5] ++ rg 7 12)⟩]
 spec := Xgy
def Xgl [W : InW] (xs : Ro Jb) (x n i : Int) (A : List Ed -> Prop) (K : Nat -> List Ed -> Prop) : Prop :=
 Vif (decide (i < n)) (Need (decide (0 <= i) && decide (i < (↑(xs.xs.length) : Int))) (Need (decide (i.toNat < xs.xs.length)) (Vif (decide (x = (cel xs.xs i.toNat (0 : Nat)).int)) (K (0+1) [.i i]) (Ar .i64 (i + 1) fun z => A [.ro _ xs, .i x, .i n, .i z])))) (K 0 [])
theorem Xkn (W : InW) (xs x n i A K) : Yff { cxT Try.prog TT T0 1000 50 with fn := 91 } 1000 (Yob Try.prog 91 3) (Yd6 19 [(0, .rs _ xs), (1, .si .i64 x), (7, .si .i64 n), (8, .si .i64 i)] ([4, 5] ++ rg 9 10)) [] (Yut Xhf A K) = Xgl xs x n i A K := by kernel_rfl
def Xfz : Prop := ∀ (W : InW) (body a : Code), (Try.prog.funcs[91]?).bind (·.body) = some body -> a ∈ Yy body -> Yf0 a = 3 -> @Yms W Try.prog a (@Ytz W Xhf)
theorem Xle (meas : [InW] -> List Ed -> Nat) (hyp_ : ∀ (W : InW) xs x n i K, Xgy [.ro _ xs, .i x, .i n, .i i] K -> ∀ A : List Ed -> Prop, (∀ e, meas e < meas [.ro _ xs, .i x, .i n, .i i] -> Xgy e K -> A e) -> Xgl xs x n i A K) : Xfz :=
 LE.okOf' (fun W => @TT W) (fun W => @Xc W) Xa T0 1000 50 (by kernel_rfl) Xhf (fun W => @meas W) fun W xs x n i K hs =>
  (Xkn W xs x n i (fun e => meas e < meas [.ro _ xs, .i x, .i n, .i i] /\ Xgy e K) K).mpr (hyp_ W xs x n i K hs _ fun e h1 h2 => ⟨h1, h2⟩)
theorem okLix : Xfz := Xle (fun e => match e with | [_, _, .i n, .i i] => (n - i).toNat | _ => 0) fun W xs x n i K hs A hA => by
 obtain ⟨⟨rfl, h0, h1⟩, hk⟩ := hs;unfold Xgl;have hm := xs.len;simp only [maxLen] at hm
 by_cases hi' : i < xs.xs.length
 ·rw [show xs.xs.length - i.toNat = (xs.xs.length - (i + 1).toNat) + 1 by omega] at hk;obtain ⟨g1, g2⟩ := Xfg (K1 := fun j => K 1 [.i (j : Int)]) hk;rw [show i.toNat + 1 = (i + 1).toNat by omega] at g2;refine vifd (fun _ => ?_) (fun h => absurd hi' h);refine ned (by simp; omega) (nedd (by omega) (vifd (fun e => ?_) (fun e => ?_)))
  ·have := g1 (decide_eq_true e);rw [Int.toNat_of_nonneg h0] at this;exact this
  ·exact ar64 (by omega) (hA _ (by show ((xs.xs.length : Int) - (i + 1)).toNat < ((xs.xs.length : Int) - i).toNat; omega) ⟨⟨rfl, by omega, by omega⟩, g2 (decide_eq_false e)⟩)
 ·refine vifd (fun h => absurd h hi') (fun _ => ?_);rw [show xs.xs.length - i.toNat = 0 by omega] at hk;exact hk.2 rfl
noncomputable def le_ix : LE Try.prog := ⟨91, 3, fun W => @Ytz W Xhf, okLix⟩
noncomputable def T32 : Tab Try.prog := ⟨[], [le_ix], []⟩
def Xkg [W : InW] (xs : Ro Jb) (x : Int) (Q : DS -> Prop) : Prop :=
 Pre ((↑(xs.xs.length) : Int) = (↑(xs.xs.length) : Int) /\ Zk <= 0 /\ Zk <= (↑(xs.xs.length) : Int)) (Vif (Sp.anyF (Sp.hasF xs.xs x) Zl (xs.xs.length - Int.toNat Zk)) (Q [[Cl.i (↑(Sp.fstF (Sp.hasF xs.xs x) Zl (xs.xs.length - Int.toNat Zk)) : Int)]]) (Q [[Cl.i (-1 : Int)]]))
theorem vc_ix (W : InW) (xs x Q) : Yw5 (cxT Try.prog TT T32 1000 50) 1000 91 [.rs _ xs, .si .i64 x] [] 0 (Y1i [(false, [.int .i64])] Q) (fun _ _ _ _ => Stuck 421) = Xkg xs x Q := by kernel_rfl
abbrev Xf5 : List AT := [.one (.sl Jb), .one (.int .i64)]
theorem ok_ix {pre : DS -> Prop} {res : DS -> DS} (hyp_ : ∀ (W : InW) (xs : Ro Jb) (x : Int), pre [[.l xs.xs], [.i x]] -> ∀ Q : DS -> Prop, Q (res [[.l xs.xs], [.i x]]) -> Xkg xs x Q) : PureOk Try.prog 91 Xf5 [(false, [.int .i64])] pre res :=
 PureOk.of' (fun W => @TT W) (fun W => @Xc W) Xa T32 1000 50 fun W xs x hp =>
  (vc_ix W xs x (fun o => o = res [[.l xs.xs], [.i x]])).mpr (hyp_ W xs x hp _ rfl)
abbrev Xfn (ds : DS) : DS := match ds with | [[.l xs], [.i x]] => [[.i (Sp.idxOf xs x)]] | _ => []
theorem okix : PureOk Try.prog 91 Xf5 [(false, [.int .i64])] (fun _ => True) Xfn :=
 ok_ix fun W xs x hp Q h => by
  unfold Xkg;delta Zl Zk;simp only [Xfn, Sp.idxOf] at h;simp only [show Int.toNat 0 = 0 from rfl, Nat.sub_zero];refine ⟨⟨trivial, by omega, by omega⟩, vif (fun e => ?_) fun e => ?_⟩
  ·rw [if_pos (show Sp.hasK xs.xs x xs.xs.length = true from e)] at h; exact h
  ·rw [if_neg (show ¬ Sp.hasK xs.xs x xs.xs.length = true by unfold Sp.hasK; rw [e]; decide)] at h; exact h
noncomputable def pc_ix : PC Try.prog := ⟨91, Xf5, [(false, [.int .i64])], fun _ => True, Xfn, okix⟩
noncomputable def T33 : Tab Try.prog := ⟨[pc_ix], [], []⟩
def Xg0 [InW] (e : List Ed) (K : Nat -> List Ed -> Prop) : Prop := match e with
 | [.ro _ b, .i n, .ro _ a, .i z, .i i] => Pre (z = a.xs.length /\ 0 <= i /\ i <= z /\ n = Sp.sumN (Sp.cmF a.xs b.xs) 0 i.toNat) (K 0 [.i (Sp.cmn a.xs b.xs)])
 | _ => False
noncomputable def Xhh : LC where
 len := 20
 T := [(1, .rs Jb), (4, .int .i64), (7, .rs Jb), (8, .int .i64), (9, .int .i64)]
 H := []
 W := ([6] ++ rg 10 9)
 outs := [⟨.exit 0, [(4, .int .i64)], [], ([1] ++ rg 6 13)⟩]
 spec := Xg0
def Xgn [W : InW] (b : Ro Jb) (n : Int) (a : Ro Jb) (z i : Int) (A : List Ed -> Prop) (K : Nat -> List Ed -> Prop) : Prop :=
 Vif (decide (i < z)) (Need (decide (0 <= i) && decide (i < (↑(a.xs.length) : Int))) (Need (decide (i.toNat < a.xs.length)) (Pre True (Vif (decide ((0 : Int) <= Sp.idxOf b.xs (cel a.xs i.toNat (0 : Nat)).int)) (Ar .i64 (n + 1) fun z_1 => Ar .i64 (i + 1) fun z_2 => A [.ro _ b, .i z_1, .ro _ a, .i z, .i z_2]) (Ar .i64 (i + 1) fun z_1 => A [.ro _ b, .i n, .ro _ a, .i z, .i z_1]))))) (K 0 [.i n])
theorem Xkp (W : InW) (b n a z i A K) : Yff { cxT Try.prog TT T33 1000 50 with fn := 68 } 1000 (Yob Try.prog 68 3) (Yd6 20 [(1, .rs _ b), (4, .si .i64 n), (7, .rs _ a), (8, .si .i64 z), (9, .si .i64 i)] ([6] ++ rg 10 9)) [] (Yut Xhh A K) = Xgn b n a z i A K := by kernel_rfl
def Xf1 : Prop := ∀ (W : InW) (body a : Code), (Try.prog.funcs[68]?).bind (·.body) = some body -> a ∈ Yy body -> Yf0 a = 3 -> @Yms W Try.prog a (@Ytz W Xhh)
theorem Xlg (meas : [InW] -> List Ed -> Nat) (hyp_ : ∀ (W : InW) b n a z i K, Xg0 [.ro _ b, .i n, .ro _ a, .i z, .i i] K -> ∀ A : List Ed -> Prop, (∀ e, meas e < meas [.ro _ b, .i n, .ro _ a, .i z, .i i] -> Xg0 e K -> A e) -> Xgn b n a z i A K) : Xf1 :=
 LE.okOf' (fun W => @TT W) (fun W => @Xc W) Xa T33 1000 50 (by kernel_rfl) Xhh (fun W => @meas W) fun W b n a z i K hs =>
  (Xkp W b n a z i (fun e => meas e < meas [.ro _ b, .i n, .ro _ a, .i z, .i i] /\ Xg0 e K) K).mpr (hyp_ W b n a z i K hs _ fun e h1 h2 => ⟨h1, h2⟩)
theorem Sp.idxOf_iff (b : Dt) (x : Int) : decide (0 <= Sp.idxOf b x) = Sp.hasK b x b.length := by
 unfold Sp.idxOf
 split
 ·rename_i h; rw [h]; exact decide_eq_true (by omega)
 ·rename_i h; rw [Bool.eq_false_iff.2 h]; rfl
theorem okLcm : Xf1 := Xlg (fun e => match e with | [_, _, _, .i z, .i i] => (z - i).toNat | _ => 0) fun W b n a z i K hs A hA => by
 obtain ⟨⟨hz, h0, h1, hn⟩, hk⟩ := hs;unfold Xgn;have hm := a.len;simp only [maxLen] at hm;have hb := Sp.cmF_b a.xs b.xs i.toNat
 by_cases hi' : i < z
 ·have e2 : Sp.sumN (Sp.cmF a.xs b.xs) 0 (i + 1).toNat = n + Sp.cmF a.xs b.xs i.toNat := by
   rw [show (i + 1).toNat = i.toNat + 1 by omega, Sp.sumN_last, <- hn, Nat.zero_add]
  have lt : (z - (i + 1)).toNat < (z - i).toNat := by omega
  refine vifd (fun _ => ?_) (fun h => absurd hi' h);rw [Sp.idxOf_iff];refine ned (by simp; omega) (nedd (by omega) ⟨trivial, vif (fun e => ?_) (fun e => ?_)⟩)
  ·rw [Sp.cmF, if_pos e] at e2;exact ar64 (by omega) (ar64 (by omega) (hA _ lt ⟨⟨hz, by omega, by omega, e2.symm⟩, hk⟩))
  ·rw [Sp.cmF, if_neg (by rw [e]; decide)] at e2;exact ar64 (by omega) (hA _ lt ⟨⟨hz, by omega, by omega, by omega⟩, hk⟩)
 ·refine vifd (fun h => absurd h hi') (fun _ => ?_);rw [hn, show i.toNat = a.xs.length by omega];exact hk
noncomputable def le_cm : LE Try.prog := ⟨68, 3, fun W => @Ytz W Xhh, okLcm⟩
noncomputable def T34 : Tab Try.prog := ⟨[], [le_cm], []⟩
abbrev Xhs (ds : DS) : DS := match ds with | [[.l a], [.l b]] => [[.i (Sp.cmn a b)]] | _ => []
def Xki [W : InW] (a b : Ro Jb) (Q : DS -> Prop) : Prop :=
 Pre ((↑(a.xs.length) : Int) = (↑(a.xs.length) : Int) /\ (0 : Int) <= 0 /\ (0 : Int) <= (↑(a.xs.length) : Int) /\ (0 : Int) = Sp.sumN (Sp.cmF a.xs b.xs) (0 : Nat) (Int.toNat (0 : Int))) (Q [[Cl.i (Sp.cmn a.xs b.xs)]])
theorem vc_cm (W : InW) (a b Q) : Yw5 (cxT Try.prog TT T34 1000 50) 1000 68 [.rs _ a, .rs _ b] [] 0 (Y1i [(false, [.int .i64])] Q) (fun _ _ _ _ => Stuck 421) = Xki a b Q := by kernel_rfl
abbrev Xf8 : List AT := [.one (.sl Jb), .one (.sl Jb)]
theorem ok_cm {pre : DS -> Prop} {res : DS -> DS} (hyp_ : ∀ (W : InW) (a b : Ro Jb), pre [[.l a.xs], [.l b.xs]] -> ∀ Q : DS -> Prop, Q (res [[.l a.xs], [.l b.xs]]) -> Xki a b Q) : PureOk Try.prog 68 Xf8 [(false, [.int .i64])] pre res :=
 PureOk.of' (fun W => @TT W) (fun W => @Xc W) Xa T34 1000 50 fun W a b hp =>
  (vc_cm W a b (fun o => o = res [[.l a.xs], [.l b.xs]])).mpr (hyp_ W a b hp _ rfl)
theorem okcm : PureOk Try.prog 68 Xf8 [(false, [.int .i64])] (fun _ => True) Xhs :=
 ok_cm fun W a b hp Q h => by
  unfold Xki;exact ⟨⟨rfl, by omega, by omega, rfl⟩, h⟩
noncomputable def pc_cm : PC Try.prog := ⟨68, Xf8, [(false, [.int .i64])], fun _ => True, Xhs, okcm⟩
abbrev Xhu (ds : DS) : Prop := match ds with | [[.i r, .i S, .i c], [.l ps], [.i s], [.l p]] => Sp.ApOk S s ps p /\ s <= 65536 | _ => False
abbrev Xfp (ds : DS) : DS := match ds with | [[.i r, .i S, .i c], [.l ps], [.i s], [.l p]] => [[.b (Sp.apP ps p S s c)]] | _ => []
noncomputable def T39 : Tab Try.prog := ⟨[pc_cm], [], []⟩
def Zbq [W : InW] (h_Seats h_Com : Int) (ps : Ro Jc) (s : Int) (p : Ro Jb) (Q : DS -> Prop) := Need (!decide (h_Seats = 0)) (Vif (decide (0 < s.tmod h_Seats)) (Ar .i64 (s - 1) fun z => Need (decide (0 <= z) && decide (z < (↑(ps.xs.length) : Int))) (Need (decide (z.toNat < ps.xs.length)) (Pre True (Vif (decide (h_Com < Sp.cmn (cel ps.xs z.toNat (0 : Nat)).lst p.xs)) (Q [[Cl.b false]]) (Q [[Cl.b true]]))))) (Q [[Cl.b true]]))
def Xcq [W : InW] (h_Rows h_Seats h_Com : Int) (ps : Ro Jc) (s : Int) (p : Ro Jb) (Q : DS -> Prop) : Prop :=
 Vif (decide (h_Seats <= s)) (Ar .i64 (s - h_Seats) fun z => Need (decide (0 <= z) && decide (z < (↑(ps.xs.length) : Int))) (Need (decide (z.toNat < ps.xs.length)) (Pre True (Vif (decide (h_Com < Sp.cmn (cel ps.xs z.toNat (0 : Nat)).lst p.xs)) (Q [[Cl.b false]]) (Zbq h_Seats h_Com ps s p Q))))) (Zbq h_Seats h_Com ps s p Q)
theorem Xix (W : InW) (h_Rows h_Seats h_Com ps s p Q) : Yw5 (cxT Try.prog TT T39 1000 50) 1000 57 [.agg [.si .i64 h_Rows, .si .i64 h_Seats, .si .i64 h_Com], .rs _ ps, .si .i64 s, .rs _ p] [] 0 (Y1i [(false, [.bool])] Q) (fun _ _ _ _ => Stuck 421) = Xcq h_Rows h_Seats h_Com ps s p Q := by kernel_rfl
abbrev Xbn : List AT := [.agg [.int .i64, .int .i64, .int .i64], .one (.sl Jc), .one (.int .i64), .one (.sl Jb)]
theorem Xj7 {pre : DS -> Prop} {res : DS -> DS} (hyp_ : ∀ (W : InW) (h_Rows h_Seats h_Com : Int) (ps : Ro Jc) (s : Int) (p : Ro Jb), pre [[.i h_Rows, .i h_Seats, .i h_Com], [.l ps.xs], [.i s], [.l p.xs]] -> ∀ Q : DS -> Prop, Q (res [[.i h_Rows, .i h_Seats, .i h_Com], [.l ps.xs], [.i s], [.l p.xs]]) -> Xcq h_Rows h_Seats h_Com ps s p Q) : PureOk Try.prog 57 Xbn [(false, [.bool])] pre res :=
 PureOk.of' (fun W => @TT W) (fun W => @Xc W) Xa T39 1000 50 fun W h_Rows h_Seats h_Com ps s p hp =>
  (Xix W h_Rows h_Seats h_Com ps s p (fun o => o = res [[.i h_Rows, .i h_Seats, .i h_Com], [.l ps.xs], [.i s], [.l p.xs]])).mpr (hyp_ W h_Rows h_Seats h_Com ps s p hp _ rfl)
theorem Sp.apP_eq (ps p : Dt) (S s c : Int) : Sp.apP ps p S s c = ((if S <= s then decide (Sp.cmn (cel ps (s - S).toNat 0).lst p <= c) else true) && (if 0 < s.tmod S then decide (Sp.cmn (cel ps (s - 1).toNat 0).lst p <= c) else true)) := by
 unfold Sp.apP Sp.bfD
 split
 ·split
  ·show (decide _ && (decide _ && true)) = _
   rw [Bool.and_true]; rfl
  ·rfl
 ·split
  ·show (decide _ && true) = _
   rw [Bool.and_true, Bool.true_and]; rfl
  ·rfl
theorem Xk7 : PureOk Try.prog 57 Xbn [(false, [.bool])] Xhu Xfp :=
 Xj7 fun W r S c ps s p hp Q h => by
  obtain ⟨ao, hs⟩ := hp;unfold Xcq;delta Zbq;obtain ⟨s1, s6, t0, t1, _⟩ := ao;have hm : 0 < s.tmod S -> 1 <= s := fun h => by
   by_cases hz : s = 0
   ·rw [hz, Int.zero_tmod] at h; omega
   ·omega
  simp only [Xfp, Sp.apP_eq] at h;refine vifd (fun h1 => ar64 (by omega) (ned (by simp; omega) (nedd (by omega) ⟨trivial, vifd (fun h2 => ?_) (fun h2 => ned (by simp; omega) (vifd (fun h3 => ?_) (fun h3 => ?_)))⟩))) (fun h1 => ned (by simp; omega) (vifd (fun h3 => ?_) (fun h3 => ?_)))
  ·rw [if_pos h1, decide_eq_false (by omega)] at h; exact h
  ·have := hm h3;rw [if_pos h1, decide_eq_true (by omega), if_pos h3, Bool.true_and] at h;refine ar64 (by omega) (ned (by simp; omega) (nedd (by omega) ⟨trivial, vifd (fun h4 => ?_) (fun h4 => ?_)⟩))
   ·rw [decide_eq_false (by omega)] at h; exact h
   ·rw [decide_eq_true (by omega)] at h; exact h
  ·rw [if_pos h1, decide_eq_true (by omega), if_neg h3] at h; exact h
  ·have := hm h3;rw [if_neg h1, if_pos h3, Bool.true_and] at h;refine ar64 (by omega) (ned (by simp; omega) (nedd (by omega) ⟨trivial, vifd (fun h4 => ?_) (fun h4 => ?_)⟩))
   ·rw [decide_eq_false (by omega)] at h; exact h
   ·rw [decide_eq_true (by omega)] at h; exact h
  ·rw [if_neg h1, if_neg h3] at h; exact h
noncomputable def Xfr : PC Try.prog := ⟨57, Xbn, [(false, [.bool])], Xhu, Xfp, Xk7⟩
namespace Sp
def hallE (qs ws : Dt) (lo hi r S c n : Int) : Int := if chkE qs ws lo hi = 0 then (if (inr r 1 5 && (inr S 1 6 && inr c 0 16)) = true then (if n = r * S then 0 else 3) else 7) else chkE qs ws lo hi
end Sp
noncomputable def T41 : Tab Try.prog := ⟨[Xfs], [], []⟩
namespace Sp
def eqF (a b : Dt) (i : Nat) : Bool := eqI (cel a i 0).lst (cel b i 0).lst
def eqL (a b : Dt) : Bool := decide (a.length = b.length) && allF (eqF a b) 0 a.length
end Sp
def Xgz [InW] (e : List Ed) (K : Nat -> List Ed -> Prop) : Prop := match e with
 | [.ro _ a, .ro _ b, .i i] => Pre (0 <= i /\ i <= a.xs.length /\ a.xs.length = b.xs.length) (Vif (Sp.allF (Sp.eqF a.xs b.xs) i.toNat (a.xs.length - i.toNat)) (K 0 []) (K 1 []))
 | _ => False
noncomputable def Xhg : LC where
 len := 27
 T := [(0, .rs Jc), (1, .rs Jc), (5, .int .i64)]
 H := []
 W := ([4] ++ rg 11 16)
 outs := [⟨.exit 0, [], [], ([0, 1, 4, 5] ++ rg 11 16)⟩, ⟨.ret, [(4, (.lit (.bool false)))], [], ([0, 1, 5] ++ rg 11 16)⟩]
 spec := Xgz
def Xgm [W : InW] (a b : Ro Jc) (i : Int) (A : List Ed -> Prop) (K : Nat -> List Ed -> Prop) : Prop :=
 Vif (decide (i < (↑(a.xs.length) : Int))) (Need (decide (0 <= i) && decide (i < (↑(a.xs.length) : Int))) (Need (decide (i.toNat < a.xs.length)) (Need (decide (0 <= i) && decide (i < (↑(b.xs.length) : Int))) (Need (decide (i.toNat < b.xs.length)) (Pre True (Vif (!Sp.eqI (cel a.xs i.toNat (0 : Nat)).lst (cel b.xs i.toNat (0 : Nat)).lst) (K (0+1) []) (Ar .i64 (i + 1) fun z => A [.ro [Ty.sl [Ty.int IntKind.i64]] a, .ro [Ty.sl [Ty.int IntKind.i64]] b, .i z]))))))) (K 0 [])
theorem Xko (W : InW) (a b i A K) : Yff { cxT Try.prog TT T41 1000 50 with fn := 32 } 1000 (Yob Try.prog 32 5) (Yd6 27 [(0, .rs _ a), (1, .rs _ b), (5, .si .i64 i)] ([4] ++ rg 11 16)) [] (Yut Xhg A K) = Xgm a b i A K := by kernel_rfl
def Xf0 : Prop := ∀ (W : InW) (body a : Code), (Try.prog.funcs[32]?).bind (·.body) = some body -> a ∈ Yy body -> Yf0 a = 5 -> @Yms W Try.prog a (@Ytz W Xhg)
theorem Xlf (meas : [InW] -> List Ed -> Nat) (hyp_ : ∀ (W : InW) a b i K, Xgz [.ro _ a, .ro _ b, .i i] K -> ∀ A : List Ed -> Prop, (∀ e, meas e < meas [.ro _ a, .ro _ b, .i i] -> Xgz e K -> A e) -> Xgm a b i A K) : Xf0 :=
 LE.okOf' (fun W => @TT W) (fun W => @Xc W) Xa T41 1000 50 (by kernel_rfl) Xhg (fun W => @meas W) fun W a b i K hs =>
  (Xko W a b i (fun e => meas e < meas [.ro _ a, .ro _ b, .i i] /\ Xgz e K) K).mpr (hyp_ W a b i K hs _ fun e h1 h2 => ⟨h1, h2⟩)
theorem okLeq : Xf0 := Xlf (fun e => match e with | [.ro _ a, _, .i i] => ((a.xs.length : Int) - i).toNat | _ => 0) fun W a b i K hs A hA => by
 obtain ⟨⟨h0, h1, h2⟩, hk⟩ := hs;unfold Xgm;have hm := a.len;simp only [maxLen] at hm
 by_cases hi' : i < a.xs.length
 ·have lt : ((a.xs.length : Int) - (i + 1)).toNat < ((a.xs.length : Int) - i).toNat := by omega
  rw [show a.xs.length - i.toNat = (a.xs.length - (i + 1).toNat) + 1 by omega] at hk;obtain ⟨g1, g2⟩ := Xfh hk;rw [show i.toNat + 1 = (i + 1).toNat by omega] at g1;refine vifd (fun _ => ?_) (fun h => absurd hi' h);refine ned (by simp; omega) (nedd (by omega) (ned (by simp; omega) (nedd (by omega) ⟨trivial, vif (fun e => ?_) (fun e => ?_)⟩)))
  ·exact g2 (by simpa [Sp.eqF] using e)
  ·exact ar64 (by omega) (hA _ lt ⟨⟨by omega, by omega, h2⟩, g1 (by simpa [Sp.eqF] using e)⟩)
 ·refine vifd (fun h => absurd h hi') (fun _ => ?_);rw [show a.xs.length - i.toNat = 0 by omega] at hk;exact hk.1 rfl
noncomputable def le_eq : LE Try.prog := ⟨32, 5, fun W => @Ytz W Xhg, okLeq⟩
noncomputable def T42 : Tab Try.prog := ⟨[], [le_eq], []⟩
abbrev Xca (ds : DS) : DS := match ds with | [[.l a], [.l b]] => [[.b (Sp.eqL a b)]] | _ => []
def Xgg [W : InW] (a b : Ro Jc) (Q : DS -> Prop) : Prop :=
 Vif (!decide ((↑(a.xs.length) : Int) = (↑(b.xs.length) : Int))) (Q [[Cl.b false]]) (Pre (Zk <= 0 /\ Zk <= (↑(a.xs.length) : Int) /\ a.xs.length = b.xs.length) (Vif (Sp.allF (Sp.eqF a.xs b.xs) (Int.toNat Zk) (a.xs.length - Int.toNat Zk)) (Q [[Cl.b true]]) (Q [[Cl.b false]])))
theorem Xkw (W : InW) (a b Q) : Yw5 (cxT Try.prog TT T42 1000 50) 1000 32 [.rs _ a, .rs _ b] [] 0 (Y1i [(false, [.bool])] Q) (fun _ _ _ _ => Stuck 421) = Xgg a b Q := by kernel_rfl
abbrev Xcl : List AT := [.one (.sl Jc), .one (.sl Jc)]
theorem Xlo {pre : DS -> Prop} {res : DS -> DS} (hyp_ : ∀ (W : InW) (a b : Ro Jc), pre [[.l a.xs], [.l b.xs]] -> ∀ Q : DS -> Prop, Q (res [[.l a.xs], [.l b.xs]]) -> Xgg a b Q) : PureOk Try.prog 32 Xcl [(false, [.bool])] pre res :=
 PureOk.of' (fun W => @TT W) (fun W => @Xc W) Xa T42 1000 50 fun W a b hp =>
  (Xkw W a b (fun o => o = res [[.l a.xs], [.l b.xs]])).mpr (hyp_ W a b hp _ rfl)
theorem okeql : PureOk Try.prog 32 Xcl [(false, [.bool])] (fun _ => True) Xca :=
 Xlo fun W a b hp Q h => by
  unfold Xgg;delta Zk;simp only [Xca, Sp.eqL] at h;refine vifn (fun e => ?_) (fun e => ⟨⟨by omega, by omega, by omega⟩, vif (fun f => ?_) (fun f => ?_)⟩)
  ·rw [decide_eq_false (by omega), Bool.false_and] at h; exact h
  ·rw [decide_eq_true (by omega), Bool.true_and, show Sp.allF (Sp.eqF a.xs b.xs) 0 a.xs.length = true from f] at h; exact h
  ·rw [decide_eq_true (by omega), Bool.true_and, show Sp.allF (Sp.eqF a.xs b.xs) 0 a.xs.length = false from f] at h; exact h
noncomputable def Xk1 : PC Try.prog := ⟨32, Xcl, [(false, [.bool])], fun _ => True, Xca, okeql⟩
noncomputable def T43 : Tab Try.prog := ⟨[Xi], [], [ceOf Xh Xce]⟩
def Xhp [InW] (e : List Ed) (K : Nat -> List Ed -> Prop) : Prop := match e with
 | [.ro _ qs, .ro _ ws, .i lo, .i hi, .i r, .i S, .i c, .i n] => Vif (decide (Sp.hallE qs.xs ws.xs lo hi r S c n = 0)) (K 1 [.ro _ qs, .ro _ ws, .i lo, .i hi, .l (Sp.wts qs.xs qs.xs.length), .l []]) (K 0 [.i (Sp.hallE qs.xs ws.xs lo hi r S c n)])
 | _ => False
noncomputable def Xp : CC where
 g := 56
 args := [.agg [.rs Ja, .rs Jb, .int .i64, .int .i64], .agg [.int .i64, .int .i64, .int .i64], .int .i64]
 H := []
 outs := [⟨false, .tup [(.lit (.pointer none)), .int .i64], [], false⟩, ⟨false, .tup [(.ptr 6 0), (.lit (.int .i64 0))], [(6, .blk 82 [.rs Ja, .rs Jb, .int .i64, .int .i64, (.row 12), (.mp 18)]), (12, .arr 3 Jb), (18, .mpP)], false⟩]
 spec := Xhp
def Zbr [W : InW] : List Ed := [.i (7 : Int)]
def Xdi [W : InW] (qs : Ro Ja) (ws : Ro Jb) (lo hi r s c n : Int) (K : Nat -> List Ed -> Prop) : Prop :=
 Vif (decide (Sp.chkE qs.xs ws.xs lo hi = 0)) (Pre True (Vif (Sp.out (1 : Int) (5 : Int) [[Cl.i r]]) (K 0 Zbr) (Pre True (Vif (Sp.out (1 : Int) (6 : Int) [[Cl.i s]]) (K 0 Zbr) (Pre True (Vif (Sp.out Zk (16 : Int) [[Cl.i c]]) (K 0 Zbr) (Ar .i64 (r * s) fun z => Vif (!decide (n = z)) (K 0 [.i (3 : Int)]) (K (0+1) [.ro _ qs, .ro _ ws, .i lo, .i hi, .l (Sp.wts qs.xs (qs.xs.length)), .l []])))))))) (Vif (!decide (Sp.chkE qs.xs ws.xs lo hi = 0)) (K 0 [.i (Sp.chkE qs.xs ws.xs lo hi)]) (Pre True (Vif (Sp.out (1 : Int) (5 : Int) [[Cl.i r]]) (K 0 Zbr) (Pre True (Vif (Sp.out (1 : Int) (6 : Int) [[Cl.i s]]) (K 0 Zbr) (Pre True (Vif (Sp.out Zk (16 : Int) [[Cl.i c]]) (K 0 Zbr) (Ar .i64 (r * s) fun z => Vif (!decide (n = z)) (K 0 [.i (3 : Int)]) (K 0 [.i Zk])))))))))
theorem Xiq (W : InW) (qs ws lo hi r s c n K) : Yw2 (cxT Try.prog TT T43 1000 50) 1000 56 [.agg [.rs _ qs, .rs _ ws, .si .i64 lo, .si .i64 hi], .agg [.si .i64 r, .si .i64 s, .si .i64 c], .si .i64 n] [] (fun v h => outC Xp.H [] Xp.outs 0 false v h K) (fun v h => outC Xp.H [] Xp.outs 0 true v h K) = Xdi qs ws lo hi r s c n K := by kernel_rfl
theorem Xj0 (hyp_ : ∀ (W : InW) qs ws lo hi r s c n K, Xhp [.ro _ qs, .ro _ ws, .i lo, .i hi, .i r, .i s, .i c, .i n] K -> Xdi qs ws lo hi r s c n K) : ∀ W : InW, @CallC W Try.prog Xp :=
 CC.okOf (fun W => @TT W) (fun W => @Xc W) Xa T43 1000 50 Xp fun W qs ws lo hi r s c n K hs => (Xiq W qs ws lo hi r s c n K).mpr (hyp_ W qs ws lo hi r s c n K hs)
theorem Xh1 : ∀ W : InW, @CallC W Try.prog Xp := Xj0 fun W qs ws lo hi r S c n K hs => by
 unfold Xdi;delta Zk Zbr;have hs : Vif (decide (Sp.hallE qs.xs ws.xs lo hi r S c n = 0)) (K 1 [.ro _ qs, .ro _ ws, .i lo, .i hi, .l (Sp.wts qs.xs qs.xs.length), .l []]) (K 0 [.i (Sp.hallE qs.xs ws.xs lo hi r S c n)]) := hs;simp only [out1];have hb : Sp.hallE qs.xs ws.xs lo hi r S c n ≠ 0 -> K 0 [.i (Sp.hallE qs.xs ws.xs lo hi r S c n)] := fun e => hs.2 (decide_eq_false e);have hg : Sp.hallE qs.xs ws.xs lo hi r S c n = 0 -> _ := fun e => hs.1 (decide_eq_true e);unfold Sp.hallE at hb hg;clear hs;refine vifd (fun e => ⟨trivial, vifb (fun a => ?_) (fun a => ⟨trivial, vifb (fun b => ?_) (fun b => ⟨trivial, vifb (fun d => ?_) (fun d => ?_)⟩)⟩)⟩) (fun e => vifn (fun _ => ?_) (fun e2 => absurd e2 e))
 ·rw [if_pos e, a, Bool.false_and, if_neg (by decide)] at hb; exact hb (by decide)
 ·rw [if_pos e, a, b, Bool.false_and, Bool.and_false, if_neg (by decide)] at hb; exact hb (by decide)
 ·rw [if_pos e, a, b, d, Bool.and_false, Bool.and_false, if_neg (by decide)] at hb; exact hb (by decide)
 ·rw [if_pos e, a, b, d, Bool.and_self, Bool.and_self, if_pos rfl] at hb hg;have a2 := Sp.inr_iff.1 a;have b2 := Sp.inr_iff.1 b;have m1 : 0 <= r * S := Int.mul_nonneg (by omega) (by omega);have m2 : r * S <= 5 * 6 := Int.mul_le_mul a2.2 b2.2 (by omega) (by omega);refine ar64 (by omega) (vifn (fun f => ?_) (fun f => ?_))
  ·rw [if_neg f] at hb; exact hb (by decide)
  ·rw [if_pos f] at hg; exact hg rfl
 ·rw [if_neg e] at hb; exact hb e
namespace Sp
def accF (qs ws : Dt) (lo hi S c : Int) (ps : Dt) (i : Nat) : Int := if isP qs ws lo hi (cel ps i 0).lst = true then (if apP ps (cel ps i 0).lst S i c = true then 0 else 5) else 6
def accB (qs ws : Dt) (lo hi S c : Int) (ps : Dt) : Bool := hasE (accF qs ws lo hi S c ps) 0 ps.length
def accE (qs ws : Dt) (lo hi r S c : Int) (ps : Dt) : Int := if hallE qs ws lo hi r S c ps.length = 0 then (if accB qs ws lo hi S c ps = true then accF qs ws lo hi S c ps (idxE (accF qs ws lo hi S c ps) 0 ps.length) else 0) else hallE qs ws lo hi r S c ps.length
def accI (qs ws : Dt) (lo hi r S c : Int) (ps : Dt) : Int := if hallE qs ws lo hi r S c ps.length = 0 then (if accB qs ws lo hi S c ps = true then (idxE (accF qs ws lo hi S c ps) 0 ps.length : Nat) else 0) else 0
structure HallOk (r S c n : Int) : Prop where
 r1 : 1 <= r
 r5 : r <= 5
 s1 : 1 <= S
 s6 : S <= 6
 c0 : 0 <= c
 c16 : c <= 16
 n : n = r * S
theorem hallE_iff {qs ws : Dt} {lo hi r S c n : Int} : hallE qs ws lo hi r S c n = 0 ↔ BankV qs ws lo hi /\ HallOk r S c n := by
 unfold hallE;constructor
 ·intro h
  split at h
  ·rename_i h1
   split at h
   ·rename_i h2;simp only [Bool.and_eq_true, inr_iff] at h2
    split at h
    ·rename_i h3;exact ⟨chkE_iff.1 h1, by omega, by omega, by omega, by omega, by omega, by omega, h3⟩
    ·omega
   ·omega
  ·rename_i h1; exact absurd h h1
 ·rintro ⟨h1, h2⟩;obtain ⟨a1, a2, a3, a4, a5, a6, a7⟩ := h2;rw [if_pos (chkE_iff.2 h1), if_pos (by simp only [Bool.and_eq_true, inr_iff]; omega), if_pos a7]
theorem HallOk.few {r S c n : Int} (h : HallOk r S c n) : 0 <= n /\ n <= 30 := by
 obtain ⟨a1, a2, a3, a4, a5, a6, a7⟩ := h;have m1 : 0 <= r * S := Int.mul_nonneg (by omega) (by omega);have m2 : r * S <= 5 * 6 := Int.mul_le_mul a2 a4 (by omega) (by omega);omega
theorem isF_lt {qs xs : Dt} {n : Nat} (h : ∀ k, k < n -> isF qs xs k = true) : ∀ (d i : Nat), i + d + 1 < n -> (cel xs i 0).int < (cel xs (i + d + 1) 0).int
 | 0, i, hd => by
  have := h (i + 1) (by omega);simp only [isF, Bool.and_eq_true, inr_iff, Bool.or_eq_true, decide_eq_true_eq, Nat.add_sub_cancel] at this;exact this.2.resolve_left (by omega)
 | d + 1, i, hd => by
  have h1 := isF_lt h d i (by omega);have := h (i + (d + 1) + 1) (by omega);simp only [isF, Bool.and_eq_true, inr_iff, Bool.or_eq_true, decide_eq_true_eq, Nat.add_sub_cancel] at this;have h2 := this.2.resolve_left (by omega);rw [show i + (d + 1) = i + d + 1 by omega] at h2;rw [show i + (d + 1) + 1 = i + d + 1 + 1 by omega] at *;omega
theorem isP_nod {qs ws : Dt} {lo hi : Int} {xs : Dt} (h : isP qs ws lo hi xs = true) : NoD xs := ⟨fun i k h1 h2 => by
 unfold isP at h;simp only [Bool.and_eq_true] at h;have h3 := isF_lt (fun k hk => allF_iff.1 h.1 k (Nat.zero_le _) (by omega : k < 0 + xs.length)) (k - i - 1) i (by omega);rw [show i + (k - i - 1) + 1 = k by omega] at h3;omega⟩
end Sp
noncomputable def T44 : Tab Try.prog := ⟨[Xfr], [], [ceOf Xo Xh0]⟩
def Xdu [InW] (e : List Ed) (K : Nat -> List Ed -> Prop) : Prop := match e with
 | [.ro _ ps, .ro _ p2, .i z, .i i, .i r, .i S, .i c, .ro _ qs, .ro _ ws, .i lo, .i hi, .l w, .l xs] => Pre (Sp.BankV qs.xs ws.xs lo hi /\ Sp.BkOk qs.xs ws.xs lo hi w /\ Sp.MemoOk qs.xs lo hi xs /\ Sp.HallOk r S c z /\ p2.xs = ps.xs /\ z = ps.xs.length /\ 0 <= i /\ i <= z)
   (Vif (Sp.hasE (Sp.accF qs.xs ws.xs lo hi S c ps.xs) i.toNat (ps.xs.length - i.toNat)) (K 1 [.i (Sp.idxE (Sp.accF qs.xs ws.xs lo hi S c ps.xs) i.toNat (ps.xs.length - i.toNat) : Nat), .i (Sp.accF qs.xs ws.xs lo hi S c ps.xs (Sp.idxE (Sp.accF qs.xs ws.xs lo hi S c ps.xs) i.toNat (ps.xs.length - i.toNat)))]) (K 0 []))
 | _ => False
noncomputable def Xey : LC where
 len := 48
 T := [(2, .rs Jc), (4, (.ptr 13 0)), (8, (.ptr 4 0)), (24, .rs Jc), (25, .int .i64), (26, .int .i64)]
 H := [(13, .blk 44 [.int .i64, .int .i64, .int .i64]), (4, .blk 82 [.rs Ja, .rs Jb, .int .i64, .int .i64, (.row 7), (.mp 10)]), (7, .arr 3 Jb), (10, .mpP)]
 W := ([6, 7] ++ rg 9 4 ++ rg 27 21)
 outs := [⟨.exit 0, [], [], ([2, 4] ++ rg 6 7 ++ rg 24 24)⟩, ⟨.ret, [(6, .int .i64), (7, .int .i64)], [], ([2, 4] ++ rg 8 5 ++ rg 24 24)⟩]
 spec := Xdu
def Xc1 [W : InW] (ps q2 : Ro Jc) (z i r s c : Int) (qs : Ro Ja) (ws : Ro Jb) (lo hi : Int) (w xs : Dt) (A : List Ed -> Prop) (K : Nat -> List Ed -> Prop) : Prop :=
 Vif (decide (i < z)) (Need (decide (0 <= i) && decide (i < (↑(q2.xs.length) : Int))) (Need (decide (i.toNat < q2.xs.length)) (Pre (Sp.BkOk qs.xs ws.xs lo hi w /\ Sp.StOk qs.xs (0 : Int) (0 : Int) (Sp.v0 ws.xs) /\ Sp.MemoOk qs.xs lo hi xs) (Sp.FaM (Sp.MemoOk qs.xs lo hi) fun ys => Vif (!(Sp.fol qs.xs ws.xs lo hi ((cel q2.xs i.toNat Zbc).lst)).2) (K (0+1) [.i i, .i (6 : Int)]) (Pre (Sp.ApOk s i ps.xs (cel q2.xs i.toNat Zbc).lst /\ i <= 65536) (Vif (!Sp.apP ps.xs (cel q2.xs i.toNat Zbc).lst s i c) (K (0+1) [.i i, .i (5 : Int)]) (Ar .i64 (i + 1) fun z_1 => A [.ro [Ty.sl [Ty.int IntKind.i64]] ps, .ro [Ty.sl [Ty.int IntKind.i64]] q2, .i z, .i z_1, .i r, .i s, .i c, .ro _ qs, .ro _ ws, .i lo, .i hi, .l w, .l ys]))))))) (K 0 [])
theorem Xh9 (W : InW) (ps q2 z i r s c qs ws lo hi w xs A K) : Yff { cxT Try.prog TT T44 1000 50 with fn := 33 } 1000 (Yob Try.prog 33 6) (Yd6 48 [(2, .rs _ ps), (4, .ptr 13 0), (8, .ptr 4 0), (24, .rs _ q2), (25, .si .i64 z), (26, .si .i64 i)] ([6, 7] ++ rg 9 4 ++ rg 27 21)) [(13, .blk 44 [.si .i64 r, .si .i64 s, .si .i64 c]), (4, .blk 82 [.rs _ qs, .rs _ ws, .si .i64 lo, .si .i64 hi, .rw 7, .mp 10]), (7, .arr 3 Jb w), (10, .obj (.mpP xs))] (Yut Xey A K) = Xc1 ps q2 z i r s c qs ws lo hi w xs A K := by kernel_rfl
def Xeh : Prop := ∀ (W : InW) (body a : Code), (Try.prog.funcs[33]?).bind (·.body) = some body -> a ∈ Yy body -> Yf0 a = 6 -> @Yms W Try.prog a (@Ytz W Xey)
theorem Xjj (meas : [InW] -> List Ed -> Nat) (hyp_ : ∀ (W : InW) ps q2 z i r s c qs ws lo hi w xs K, Xdu [.ro _ ps, .ro _ q2, .i z, .i i, .i r, .i s, .i c, .ro _ qs, .ro _ ws, .i lo, .i hi, .l w, .l xs] K -> ∀ A : List Ed -> Prop, (∀ e, meas e < meas [.ro _ ps, .ro _ q2, .i z, .i i, .i r, .i s, .i c, .ro _ qs, .ro _ ws, .i lo, .i hi, .l w, .l xs] -> Xdu e K -> A e) -> Xc1 ps q2 z i r s c qs ws lo hi w xs A K) : Xeh :=
 LE.okOf' (fun W => @TT W) (fun W => @Xc W) Xa T44 1000 50 (by kernel_rfl) Xey (fun W => @meas W) fun W ps q2 z i r s c qs ws lo hi w xs K hs =>
  (Xh9 W ps q2 z i r s c qs ws lo hi w xs (fun e => meas e < meas [.ro _ ps, .ro _ q2, .i z, .i i, .i r, .i s, .i c, .ro _ qs, .ro _ ws, .i lo, .i hi, .l w, .l xs] /\ Xdu e K) K).mpr (hyp_ W ps q2 z i r s c qs ws lo hi w xs K hs _ fun e h1 h2 => ⟨h1, h2⟩)
theorem Xlw : Xeh := Xjj (fun e => match e with | _ :: _ :: .i z :: .i i :: _ => (z - i).toNat | _ => 0) fun W ps p2 z i r S c qs ws lo hi w xs K hs A hA => by
 obtain ⟨⟨bv, bk, mo, ho, hp, hz, h0, h1⟩, hk⟩ := hs;unfold Xc1;delta Zbc;have hf := ho.few;have s1 := ho.s1;have s6 := ho.s6;have hq : p2.xs.length = ps.xs.length := by rw [hp]
 by_cases hi' : i < z
 ·have lt : (z - (i + 1)).toNat < (z - i).toNat := by omega
  rw [show ps.xs.length - i.toNat = (ps.xs.length - (i + 1).toNat) + 1 by omega] at hk;obtain ⟨g1, g2⟩ := Xff (K1 := fun j e => K 1 [.i (j : Nat), .i e]) hk;rw [show i.toNat + 1 = (i + 1).toNat by omega] at g2;simp only [hp, Sp.fol_is bv];refine vifd (fun _ => ?_) (fun h => absurd hi' h);refine ned (by simp; omega) (nedd (by omega) ⟨⟨bk, bv.st, mo⟩, ⟨fun ys hy => vifb (fun e => ?_) (fun e => ⟨⟨⟨s1, s6, h0, by omega, Sp.isP_nod e⟩, by omega⟩, vifb (fun f => ?_) (fun f => ?_)⟩)⟩⟩)
  ·have e1 : Sp.accF qs.xs ws.xs lo hi S c ps.xs i.toNat = 6 := by unfold Sp.accF; rw [e, if_neg (by decide)]
   have := g1 (by omega);rw [e1, Int.toNat_of_nonneg h0] at this;exact this
  ·have e1 : Sp.accF qs.xs ws.xs lo hi S c ps.xs i.toNat = 5 := by unfold Sp.accF; rw [e, if_pos rfl, Int.toNat_of_nonneg h0, f, if_neg (by decide)]
   have := g1 (by omega);rw [e1, Int.toNat_of_nonneg h0] at this;exact this
  ·have e1 : Sp.accF qs.xs ws.xs lo hi S c ps.xs i.toNat = 0 := by unfold Sp.accF; rw [e, if_pos rfl, Int.toNat_of_nonneg h0, f, if_pos rfl]
   exact ar64 (by omega) (hA _ lt ⟨⟨bv, bk, hy, ho, hp, hz, by omega, by omega⟩, g2 e1⟩)
 ·refine vifd (fun h => absurd h hi') (fun _ => ?_);rw [show ps.xs.length - i.toNat = 0 by omega] at hk;exact hk.2 rfl
noncomputable def Xmi : LE Try.prog := ⟨33, 6, fun W => @Ytz W Xey, Xlw⟩
noncomputable def T45 : Tab Try.prog := ⟨[], [Xmi], [ceOf Xp Xh1]⟩
abbrev Xcc (ds : DS) : DS := match ds with | [[.l qs, .l ws, .i lo, .i hi], [.i r, .i S, .i c], [.l ps]] => [[.i (Sp.accI qs ws lo hi r S c ps)], [.i (Sp.accE qs ws lo hi r S c ps)]] | _ => []
def Zbs [W : InW] (ps : Ro Jc) := (↑(ps.xs.length) : Int)
def Xcr [W : InW] (kQ : Ro Ja) (k_Ws : Ro Jb) (k_Lo k_Hi h_Rows h_Seats h_Com : Int) (ps : Ro Jc) (Q : DS -> Prop) : Prop :=
 Vif (decide (Sp.hallE kQ.xs k_Ws.xs k_Lo k_Hi h_Rows h_Seats h_Com (Zbs ps) = 0)) (Pre (Sp.BankV kQ.xs k_Ws.xs k_Lo k_Hi /\ Sp.BkOk kQ.xs k_Ws.xs k_Lo k_Hi (Sp.wts kQ.xs (kQ.xs.length)) /\ Sp.MemoOk kQ.xs k_Lo k_Hi [] /\ Sp.HallOk h_Rows h_Seats h_Com (Zbs ps) /\ ps.xs = ps.xs /\ (Zbs ps) = (Zbs ps) /\ Zk <= 0 /\ Zk <= (Zbs ps)) (Vif (Sp.hasE (Sp.accF kQ.xs k_Ws.xs k_Lo k_Hi h_Seats h_Com ps.xs) Zi (ps.xs.length - Int.toNat Zk)) (Q [[Cl.i (↑(Sp.idxE (Sp.accF kQ.xs k_Ws.xs k_Lo k_Hi h_Seats h_Com ps.xs) Zi (ps.xs.length - Int.toNat Zk)) : Int)], [Cl.i (Sp.accF kQ.xs k_Ws.xs k_Lo k_Hi h_Seats h_Com ps.xs (Sp.idxE (Sp.accF kQ.xs k_Ws.xs k_Lo k_Hi h_Seats h_Com ps.xs) Zi (ps.xs.length - Int.toNat Zk)))]]) (Q [[Cl.i 0], [Cl.i 0]]))) (Vif (!decide (Sp.hallE kQ.xs k_Ws.xs k_Lo k_Hi h_Rows h_Seats h_Com (Zbs ps) = 0)) (Q [[Cl.i 0], [Cl.i (Sp.hallE kQ.xs k_Ws.xs k_Lo k_Hi h_Rows h_Seats h_Com (Zbs ps))]]) ((435 : Nat) = 435 + 1))
theorem Xiy (W : InW) (kQ k_Ws k_Lo k_Hi h_Rows h_Seats h_Com ps Q) : Yw5 (cxT Try.prog TT T45 1000 50) 1000 33 [.agg [.rs _ kQ, .rs _ k_Ws, .si .i64 k_Lo, .si .i64 k_Hi], .agg [.si .i64 h_Rows, .si .i64 h_Seats, .si .i64 h_Com], .rs _ ps] [] 0 (Y1i [(false, [.int .i64]), (false, [.int .i64])] Q) (fun _ _ _ _ => Stuck 421) = Xcr kQ k_Ws k_Lo k_Hi h_Rows h_Seats h_Com ps Q := by kernel_rfl
abbrev Xbo : List AT := [.agg [.sl Ja, .sl Jb, .int .i64, .int .i64], .agg [.int .i64, .int .i64, .int .i64], .one (.sl Jc)]
theorem Xj8 {pre : DS -> Prop} {res : DS -> DS} (hyp_ : ∀ (W : InW) (kQ : Ro Ja) (k_Ws : Ro Jb) (k_Lo k_Hi h_Rows h_Seats h_Com : Int) (ps : Ro Jc), pre [[.l kQ.xs, .l k_Ws.xs, .i k_Lo, .i k_Hi], [.i h_Rows, .i h_Seats, .i h_Com], [.l ps.xs]] -> ∀ Q : DS -> Prop, Q (res [[.l kQ.xs, .l k_Ws.xs, .i k_Lo, .i k_Hi], [.i h_Rows, .i h_Seats, .i h_Com], [.l ps.xs]]) -> Xcr kQ k_Ws k_Lo k_Hi h_Rows h_Seats h_Com ps Q) : PureOk Try.prog 33 Xbo [(false, [.int .i64]), (false, [.int .i64])] pre res :=
 PureOk.of' (fun W => @TT W) (fun W => @Xc W) Xa T45 1000 50 fun W kQ k_Ws k_Lo k_Hi h_Rows h_Seats h_Com ps hp =>
  (Xiy W kQ k_Ws k_Lo k_Hi h_Rows h_Seats h_Com ps (fun o => o = res [[.l kQ.xs, .l k_Ws.xs, .i k_Lo, .i k_Hi], [.i h_Rows, .i h_Seats, .i h_Com], [.l ps.xs]])).mpr (hyp_ W kQ k_Ws k_Lo k_Hi h_Rows h_Seats h_Com ps hp _ rfl)
theorem Xk8 : PureOk Try.prog 33 Xbo [(false, [.int .i64]), (false, [.int .i64])] (fun _ => True) Xcc :=
 Xj8 fun W qs ws lo hi r S c ps hp Q h => by
  unfold Xcr;delta Zi Zbs Zk;simp only [Xcc, Sp.accI, Sp.accE] at h;refine vifd (fun e => ?_) (fun e => vifn (fun _ => ?_) (fun e2 => absurd e2 e))
  ·have e2 := Sp.hallE_iff.1 e;rw [if_pos e, if_pos e] at h;refine ⟨⟨e2.1, e2.1.bk, Sp.memo_nil, e2.2, rfl, rfl, by omega, by omega⟩, vif (fun f => ?_) (fun f => ?_)⟩
   ·rw [if_pos (show Sp.accB qs.xs ws.xs lo hi S c ps.xs = true from f), if_pos (show Sp.accB qs.xs ws.xs lo hi S c ps.xs = true from f)] at h; exact h
   ·have f2 : ¬ Sp.accB qs.xs ws.xs lo hi S c ps.xs = true := by rw [show Sp.accB qs.xs ws.xs lo hi S c ps.xs = false from f]; decide
    rw [if_neg f2, if_neg f2] at h; exact h
  ·rw [if_neg e, if_neg e] at h; exact h
noncomputable def Xi8 : PC Try.prog := ⟨33, Xbo, [(false, [.int .i64]), (false, [.int .i64])], fun _ => True, Xcc, Xk8⟩
namespace Sp
def pickP (rs : Dt) (n : Int) (k : Nat) : Dt := (cel rs ((n + k).tmod rs.length).toNat 0).lst
def fitF (rs ps : Dt) (S c seat n : Int) (k : Nat) : Bool := apP ps (pickP rs n k) S seat c
def fitB (rs ps : Dt) (S c seat n : Int) (k : Nat) : Bool := anyF (fitF rs ps S c seat n) k (rs.length - k)
def fitR (rs ps : Dt) (S c seat n : Int) (k : Nat) : Dt := ps ++ [[.l (pickP rs n (fstF (fitF rs ps S c seat n) k (rs.length - k)))]]
structure Dw where
 ok : Bool
 ps : Dt
def drw (rs nums : Dt) (S c : Int) : Nat -> Nat -> Dt -> Dw
 | _, 0, ps => ⟨true, ps⟩
 | i, m + 1, ps => if fitB rs ps S c i (cel nums i 0).int 0 = true then drw rs nums S c (i + 1) m (fitR rs ps S c i (cel nums i 0).int 0) else ⟨false, []⟩
structure RsOk (rs : Dt) : Prop where
 n1 : 1 <= rs.length
 n2 : rs.length <= 65536
 nod : ∀ i, i < rs.length -> NoD (cel rs i 0).lst
 few : ∀ i, i < rs.length -> (cel rs i 0).lst.length <= 16
structure NuOk (nums : Dt) : Prop where
 few : nums.length <= 30
 ok : ∀ i, i < nums.length -> 0 <= (cel nums i 0).int /\ (cel nums i 0).int <= 1000000000
theorem tmod_in {n : Int} {m : Nat} (h : 0 <= n) (h1 : 1 <= m) : 0 <= n.tmod m /\ n.tmod m < m := by
 rw [Int.tmod_eq_emod_of_nonneg h];exact ⟨Int.emod_nonneg _ (by omega), Int.emod_lt_of_pos _ (by omega)⟩
theorem rs_ok {qs ws : Dt} {lo hi : Int} (bv : BankV qs ws lo hi) (h : total qs ws lo hi ≠ 0) : RsOk (papD qs ws lo hi) := by
 have hl := length_papD qs ws lo hi;have b2 : 0 <= total qs ws lo hi /\ total qs ws lo hi <= 65536 := cnt_16 bv.n2 0 (v0 ws);refine ⟨by omega, by omega, fun i hi' => ?_, fun i hi' => ?_⟩
 ·rw [cel_papD hi'];exact isP_nod (paps_is bv (by simpa [papD] using hi'))
 ·have := ((paps_in bv).ok i hi').few;have := bv.n2;omega
def drawE (qs ws : Dt) (lo hi r S c : Int) (nums : Dt) : Int := if hallE qs ws lo hi r S c nums.length = 0 then (if out 0 1000000000 nums = true then 7 else (if total qs ws lo hi = 0 then 4 else (if (drw (papD qs ws lo hi) nums S c 0 nums.length []).ok = true then 0 else 9))) else hallE qs ws lo hi r S c nums.length
def drawL (qs ws : Dt) (lo hi r S c : Int) (nums : Dt) : Dt := if drawE qs ws lo hi r S c nums = 0 then (drw (papD qs ws lo hi) nums S c 0 nums.length []).ps else []
theorem drawL_no {qs ws : Dt} {lo hi r S c : Int} {nums : Dt} (h : drawE qs ws lo hi r S c nums ≠ 0) : drawL qs ws lo hi r S c nums = [] := by unfold drawL; rw [if_neg h]
theorem drawL_ok {qs ws : Dt} {lo hi r S c : Int} {nums : Dt} (h : drawE qs ws lo hi r S c nums = 0) : drawL qs ws lo hi r S c nums = (drw (papD qs ws lo hi) nums S c 0 nums.length []).ps := by unfold drawL; rw [if_pos h]
theorem outs_no {lo hi : Int} {xs : Dt} : ∀ {n i : Nat}, outs lo hi xs i n = false -> ∀ k, i <= k -> k < i + n -> inr (cel xs k 0).int lo hi = true
 | 0, i, _, k, a, b => by omega
 | n + 1, i, h, k, a, b => by
  simp only [outs, Bool.or_eq_false_iff, Bool.not_eq_false'] at h;rcases Nat.eq_or_lt_of_le a with e | e
  ·exact e ▸ h.1
  ·exact outs_no h.2 k (by omega) (by omega)
theorem nu_ok {nums : Dt} (h : out 0 1000000000 nums = false) (h30 : nums.length <= 30) : NuOk nums := ⟨h30, fun i hi => by
 have := outs_no h i (Nat.zero_le _) (by omega);rw [inr_iff] at this;exact this⟩
end Sp
abbrev Xbd (ds : DS) : DS := match ds with | [[.l qs, .l ws, .i lo, .i hi], [.i r, .i S, .i c], [.l nums]] => [[.l (Sp.drawL qs ws lo hi r S c nums)], [.i (Sp.drawE qs ws lo hi r S c nums)]] | _ => []
noncomputable def T52 : Tab Try.prog := ⟨[Xfr], [], [ceOf Xn Xhz]⟩
def Xgv [InW] (e : List Ed) (K : Nat -> List Ed -> Prop) : Prop := match e with
  | [.i many, .i seat, .i n, .ro _ nums, .i z, .i j, .i m2, .i k, .i r, .i S, .i c, .ro _ qs, .ro _ ws, .i lo, .i hi, .l w, .l xs, .l ps] => Pre (Sp.BankV qs.xs ws.xs lo hi /\ Sp.BkOk qs.xs ws.xs lo hi w /\ Sp.MemoOk qs.xs lo hi xs /\ Sp.RsOk (Sp.papD qs.xs ws.xs lo hi) /\ many = Sp.total qs.xs ws.xs lo hi /\ m2 = many /\ 1 <= S /\ S <= 6 /\ 0 <= seat /\ seat <= 30 /\ ps.length = seat /\ 0 <= n /\ n <= 1000000000 /\ 0 <= k /\ k <= many)
     (Vif (Sp.fitB (Sp.papD qs.xs ws.xs lo hi) ps S c seat n k.toNat) (Sp.FaM (Sp.MemoOk qs.xs lo hi) fun ys => K 0 [.i many, .ro _ nums, .i z, .i j, .i r, .i S, .i c, .ro _ qs, .ro _ ws, .i lo, .i hi, .l w, .l ys, .l (Sp.fitR (Sp.papD qs.xs ws.xs lo hi) ps S c seat n k.toNat)]) (K 1 []))
  | _ => False
noncomputable def Xhc : LC where
 len := 65
 T := [(4, (.ptr 13 0)), (6, (.row 15)), (8, (.ptr 4 0)), (9, .int .i64), (10, .int .i64), (11, .int .i64), (35, .rs Jb), (36, .int .i64), (37, .int .i64), (42, .int .i64), (43, .int .i64)]
 H := [(13, .blk 44 [.int .i64, .int .i64, .int .i64]), (4, .blk 82 [.rs Ja, .rs Jb, .int .i64, .int .i64, (.row 7), (.mp 10)]), (7, .arr 3 Jb), (10, .mpP), (15, .nst 23 [.sl Jb])]
 W := ([12, 13] ++ rg 44 19)
 outs := [⟨.exit 2, [(4, (.ptr 13 0)), (6, (.row 6)), (8, (.ptr 4 0)), (9, .int .i64), (35, .rs Jb), (36, .int .i64), (37, .int .i64)], [(13, .blk 44 [.int .i64, .int .i64, .int .i64]), (4, .blk 82 [.rs Ja, .rs Jb, .int .i64, .int .i64, (.row 7), (.mp 10)]), (7, .arr 3 Jb), (10, .mpP), (6, .nst 23 [.sl Jb])], (rg 10 4 ++ rg 42 21)⟩, ⟨.exit 3, [], [], ([4, 6] ++ rg 8 6 ++ [35, 36, 37] ++ rg 42 21)⟩]
 spec := Xgv
def Xgi [W : InW] (many seat n : Int) (nums : Ro Jb) (z j m2 k r s c : Int) (qs : Ro Ja) (ws : Ro Jb) (lo hi : Int) (w xs ps : Dt) (A : List Ed -> Prop) (K : Nat -> List Ed -> Prop) : Prop :=
 Vif (decide (k < m2)) (Ar .i64 (n + k) fun z_1 => Need (!decide (many = 0)) (Pre (Sp.BkOk qs.xs ws.xs lo hi w /\ Sp.StOk qs.xs Zk Zk (Sp.v0 ws.xs) /\ Sp.MemoOk qs.xs lo hi xs /\ 0 <= z_1.tmod many /\ z_1.tmod many < Sp.cnt qs.xs lo hi (qs.xs.length) Zk (Sp.v0 ws.xs)) (Sp.FaM (Sp.MemoOk qs.xs lo hi) fun ys => Pre (Sp.ApOk s seat ps (Sp.nthD qs.xs lo hi (qs.xs.length) Zk (Sp.v0 ws.xs) (z_1.tmod many)) /\ seat <= 65536) (Vif (Sp.apP ps (Sp.nthD qs.xs lo hi (qs.xs.length) Zk (Sp.v0 ws.xs) (z_1.tmod many)) s seat c) (Need (decide ((ps.length + [[Cl.l (Sp.nthD qs.xs lo hi (qs.xs.length) Zk (Sp.v0 ws.xs) (z_1.tmod many))]].length) * 24 <= 140737488355328)) (K 0 [.i many, .ro _ nums, .i z, .i j, .i r, .i s, .i c, .ro _ qs, .ro _ ws, .i lo, .i hi, .l w, .l ys, .l (ps ++ [[Cl.l (Sp.nthD qs.xs lo hi (qs.xs.length) Zk (Sp.v0 ws.xs) (z_1.tmod many))]])])) (Ar .i64 (k + 1) fun z_2 => A [.i many, .i seat, .i n, .ro _ nums, .i z, .i j, .i m2, .i z_2, .i r, .i s, .i c, .ro _ qs, .ro _ ws, .i lo, .i hi, .l w, .l ys, .l ps]))))) (K (0+1) [])
theorem Xkk (W : InW) (many seat n nums z j m2 k r s c qs ws lo hi w xs ps A K) : Yff { cxT Try.prog TT T52 1000 50 with fn := 30 } 1000 (Yob Try.prog 30 14) (Yd6 65 [(4, .ptr 13 0), (6, .rw 15), (8, .ptr 4 0), (9, .si .i64 many), (10, .si .i64 seat), (11, .si .i64 n), (35, .rs _ nums), (36, .si .i64 z), (37, .si .i64 j), (42, .si .i64 m2), (43, .si .i64 k)] ([12, 13] ++ rg 44 19)) [(13, .blk 44 [.si .i64 r, .si .i64 s, .si .i64 c]), (4, .blk 82 [.rs _ qs, .rs _ ws, .si .i64 lo, .si .i64 hi, .rw 7, .mp 10]), (7, .arr 3 Jb w), (10, .obj (.mpP xs)), (15, .nst 23 [.sl Jb] ps)] (Yut Xhc A K) = Xgi many seat n nums z j m2 k r s c qs ws lo hi w xs ps A K := by kernel_rfl
def Xfw : Prop := ∀ (W : InW) (body a : Code), (Try.prog.funcs[30]?).bind (·.body) = some body -> a ∈ Yy body -> Yf0 a = 14 -> @Yms W Try.prog a (@Ytz W Xhc)
theorem Xlb (meas : [InW] -> List Ed -> Nat) (hyp_ : ∀ (W : InW) many seat n nums z j m2 k r s c qs ws lo hi w xs ps K, Xgv [.i many, .i seat, .i n, .ro _ nums, .i z, .i j, .i m2, .i k, .i r, .i s, .i c, .ro _ qs, .ro _ ws, .i lo, .i hi, .l w, .l xs, .l ps] K -> ∀ A : List Ed -> Prop, (∀ e, meas e < meas [.i many, .i seat, .i n, .ro _ nums, .i z, .i j, .i m2, .i k, .i r, .i s, .i c, .ro _ qs, .ro _ ws, .i lo, .i hi, .l w, .l xs, .l ps] -> Xgv e K -> A e) -> Xgi many seat n nums z j m2 k r s c qs ws lo hi w xs ps A K) : Xfw :=
 LE.okOf' (fun W => @TT W) (fun W => @Xc W) Xa T52 1000 50 (by kernel_rfl) Xhc (fun W => @meas W) fun W many seat n nums z j m2 k r s c qs ws lo hi w xs ps K hs =>
  (Xkk W many seat n nums z j m2 k r s c qs ws lo hi w xs ps (fun e => meas e < meas [.i many, .i seat, .i n, .ro _ nums, .i z, .i j, .i m2, .i k, .i r, .i s, .i c, .ro _ qs, .ro _ ws, .i lo, .i hi, .l w, .l xs, .l ps] /\ Xgv e K) K).mpr (hyp_ W many seat n nums z j m2 k r s c qs ws lo hi w xs ps K hs _ fun e h1 h2 => ⟨h1, h2⟩)
theorem okLpk : Xfw := Xlb (fun e => match e with | [.i many, _, _, _, _, _, _, .i k, _, _, _, _, _, _, _, _, _, _] => (many - k).toNat | _ => 0) fun W many seat n nums z j m2 k r S c qs ws lo hi w xs ps K hs A hA => by
 obtain ⟨⟨bv, bk, mo, ro, hm, h2, s1, s6, t0, t1, hl, n0, n1, k0, k1⟩, hk⟩ := hs;unfold Xgi;delta Zk;have hlp := Sp.length_papD qs.xs ws.xs lo hi;have hn1 := ro.n1;have hn2 := ro.n2;have hlm : ((Sp.papD qs.xs ws.xs lo hi).length : Int) = many := by omega
 by_cases hi' : k < m2
 ·have lt : (many - (k + 1)).toNat < (many - k).toNat := by omega
  have ht := Sp.tmod_in (n := n + k) (m := (Sp.papD qs.xs ws.xs lo hi).length) (by omega) hn1;rw [hlm] at ht;have ep : (cel (Sp.papD qs.xs ws.xs lo hi) ((n + k).tmod many).toNat 0).lst = Sp.nthD qs.xs lo hi qs.xs.length 0 (Sp.v0 ws.xs) ((n + k).tmod many) := Sp.cel_papD (by omega);have ek : Sp.pickP (Sp.papD qs.xs ws.xs lo hi) n k.toNat = Sp.nthD qs.xs lo hi qs.xs.length 0 (Sp.v0 ws.xs) ((n + k).tmod many) := by
   unfold Sp.pickP;rw [Int.toNat_of_nonneg k0, hlm, ep]
  have hnd := ro.nod ((n + k).tmod many).toNat (by omega);rw [ep] at hnd;have hct : Sp.cnt qs.xs lo hi qs.xs.length 0 (Sp.v0 ws.xs) = many := hm.symm;unfold Sp.fitB Sp.fitR at hk;rw [show (Sp.papD qs.xs ws.xs lo hi).length - k.toNat = ((Sp.papD qs.xs ws.xs lo hi).length - (k + 1).toNat) + 1 by omega] at hk;obtain ⟨g1, g2⟩ := Xfg (K1 := fun q => Sp.FaM (Sp.MemoOk qs.xs lo hi) fun ys => K 0 [.i many, .ro _ nums, .i z, .i j, .i r, .i S, .i c, .ro _ qs, .ro _ ws, .i lo, .i hi, .l w, .l ys, .l (ps ++ [[.l (Sp.pickP (Sp.papD qs.xs ws.xs lo hi) n q)]])]) hk;rw [show k.toNat + 1 = (k + 1).toNat by omega] at g2;simp only [ek] at g1;rw [show Sp.fitF (Sp.papD qs.xs ws.xs lo hi) ps S c seat n k.toNat = Sp.apP ps (Sp.nthD qs.xs lo hi qs.xs.length 0 (Sp.v0 ws.xs) ((n + k).tmod many)) S seat c by unfold Sp.fitF; rw [ek]] at g1 g2;refine vifd (fun _ => ?_) (fun h => absurd hi' h);refine ar64 (by omega) (ned (by rw [decide_eq_false (by omega)]; rfl) ⟨⟨bk, bv.st, mo, by omega, by omega⟩, ⟨fun ys hy => ⟨⟨⟨s1, s6, t0, by omega, hnd⟩, by omega⟩, vif (fun e => ?_) (fun e => ?_)⟩⟩⟩)
  ·obtain ⟨g1⟩ := g1 e;exact nedd (by simp; omega) (g1 ys hy)
  ·exact ar64 (by omega) (hA _ lt ⟨⟨bv, bk, hy, ro, hm, h2, s1, s6, t0, t1, hl, n0, n1, by omega, by omega⟩, g2 e⟩)
 ·refine vifd (fun h => absurd h hi') (fun _ => ?_);unfold Sp.fitB at hk;rw [show (Sp.papD qs.xs ws.xs lo hi).length - k.toNat = 0 by omega] at hk;exact hk.2 rfl
noncomputable def le_pk : LE Try.prog := ⟨30, 14, fun W => @Ytz W Xhc, okLpk⟩
noncomputable def T53 : Tab Try.prog := ⟨[], [le_pk], []⟩
def Xgw [InW] (e : List Ed) (K : Nat -> List Ed -> Prop) : Prop := match e with
  | [.i many, .ro _ nums, .i z, .i j, .i r, .i S, .i c, .ro _ qs, .ro _ ws, .i lo, .i hi, .l w, .l xs, .l ps] => Pre (Sp.BankV qs.xs ws.xs lo hi /\ Sp.BkOk qs.xs ws.xs lo hi w /\ Sp.MemoOk qs.xs lo hi xs /\ Sp.RsOk (Sp.papD qs.xs ws.xs lo hi) /\ Sp.NuOk nums.xs /\ many = Sp.total qs.xs ws.xs lo hi /\ 1 <= S /\ S <= 6 /\ z = nums.xs.length /\ 0 <= j /\ j <= z /\ ps.length = j)
     (Vif (Sp.drw (Sp.papD qs.xs ws.xs lo hi) nums.xs S c j.toNat (nums.xs.length - j.toNat) ps).ok (K 0 [.l (Sp.drw (Sp.papD qs.xs ws.xs lo hi) nums.xs S c j.toNat (nums.xs.length - j.toNat) ps).ps]) (K 1 []))
  | _ => False
noncomputable def Xhd : LC where
 len := 65
 T := [(4, (.ptr 13 0)), (6, (.row 15)), (8, (.ptr 4 0)), (9, .int .i64), (35, .rs Jb), (36, .int .i64), (37, .int .i64)]
 H := [(13, .blk 44 [.int .i64, .int .i64, .int .i64]), (4, .blk 82 [.rs Ja, .rs Jb, .int .i64, .int .i64, (.row 7), (.mp 10)]), (7, .arr 3 Jb), (10, .mpP), (15, .nst 23 [.sl Jb])]
 W := ([7] ++ rg 10 4 ++ rg 38 26)
 outs := [⟨.exit 1, [(6, (.row 6))], [(6, .nst 23 [.sl Jb])], ([4] ++ rg 7 7 ++ rg 35 29)⟩, ⟨.ret, [(6, (.lit (.slice none 0 0))), (7, (.lit (.int .i64 9)))], [], ([4] ++ rg 8 6 ++ rg 35 29)⟩]
 spec := Xgw
def Xgj [W : InW] (many : Int) (nums : Ro Jb) (z j r s c : Int) (qs : Ro Ja) (ws : Ro Jb) (lo hi : Int) (w xs ps : Dt) (A : List Ed -> Prop) (K : Nat -> List Ed -> Prop) : Prop :=
 Vif (decide (j < z)) (Need (decide (0 <= j) && decide (j < (↑(nums.xs.length) : Int))) (Need (decide (j.toNat < nums.xs.length)) (Pre (Sp.BankV qs.xs ws.xs lo hi /\ Sp.BkOk qs.xs ws.xs lo hi w /\ Sp.MemoOk qs.xs lo hi xs /\ Sp.RsOk (Sp.papD qs.xs ws.xs lo hi) /\ many = Sp.total qs.xs ws.xs lo hi /\ many = many /\ 1 <= s /\ s <= 6 /\ 0 <= j /\ j <= 30 /\ (↑(ps.length) : Int) = j /\ (0 : Int) <= (cel nums.xs j.toNat Zbc).int /\ (cel nums.xs j.toNat Zbc).int <= 1000000000 /\ (0 : Int) <= 0 /\ 0 <= many) (Vif (Sp.fitB (Sp.papD qs.xs ws.xs lo hi) ps s c j (cel nums.xs j.toNat Zbc).int Zi) (Sp.FaM (Sp.MemoOk qs.xs lo hi) fun ys => Ar .i64 (j + 1) fun z_1 => A [.i many, .ro _ nums, .i z, .i z_1, .i r, .i s, .i c, .ro _ qs, .ro _ ws, .i lo, .i hi, .l w, .l ys, .l (Sp.fitR (Sp.papD qs.xs ws.xs lo hi) ps s c j (cel nums.xs j.toNat Zbc).int Zi)]) (K (0+1) []))))) (K 0 [.l ps])
theorem Xkl (W : InW) (many nums z j r s c qs ws lo hi w xs ps A K) : Yff { cxT Try.prog TT T53 1000 50 with fn := 30 } 1000 (Yob Try.prog 30 11) (Yd6 65 [(4, .ptr 13 0), (6, .rw 15), (8, .ptr 4 0), (9, .si .i64 many), (35, .rs _ nums), (36, .si .i64 z), (37, .si .i64 j)] ([7] ++ rg 10 4 ++ rg 38 26)) [(13, .blk 44 [.si .i64 r, .si .i64 s, .si .i64 c]), (4, .blk 82 [.rs _ qs, .rs _ ws, .si .i64 lo, .si .i64 hi, .rw 7, .mp 10]), (7, .arr 3 Jb w), (10, .obj (.mpP xs)), (15, .nst 23 [.sl Jb] ps)] (Yut Xhd A K) = Xgj many nums z j r s c qs ws lo hi w xs ps A K := by kernel_rfl
def Xfx : Prop := ∀ (W : InW) (body a : Code), (Try.prog.funcs[30]?).bind (·.body) = some body -> a ∈ Yy body -> Yf0 a = 11 -> @Yms W Try.prog a (@Ytz W Xhd)
theorem Xlc (meas : [InW] -> List Ed -> Nat) (hyp_ : ∀ (W : InW) many nums z j r s c qs ws lo hi w xs ps K, Xgw [.i many, .ro _ nums, .i z, .i j, .i r, .i s, .i c, .ro _ qs, .ro _ ws, .i lo, .i hi, .l w, .l xs, .l ps] K -> ∀ A : List Ed -> Prop, (∀ e, meas e < meas [.i many, .ro _ nums, .i z, .i j, .i r, .i s, .i c, .ro _ qs, .ro _ ws, .i lo, .i hi, .l w, .l xs, .l ps] -> Xgw e K -> A e) -> Xgj many nums z j r s c qs ws lo hi w xs ps A K) : Xfx :=
 LE.okOf' (fun W => @TT W) (fun W => @Xc W) Xa T53 1000 50 (by kernel_rfl) Xhd (fun W => @meas W) fun W many nums z j r s c qs ws lo hi w xs ps K hs =>
  (Xkl W many nums z j r s c qs ws lo hi w xs ps (fun e => meas e < meas [.i many, .ro _ nums, .i z, .i j, .i r, .i s, .i c, .ro _ qs, .ro _ ws, .i lo, .i hi, .l w, .l xs, .l ps] /\ Xgw e K) K).mpr (hyp_ W many nums z j r s c qs ws lo hi w xs ps K hs _ fun e h1 h2 => ⟨h1, h2⟩)
theorem okLpd : Xfx := Xlc (fun e => match e with | _ :: _ :: .i z :: .i j :: _ => (z - j).toNat | _ => 0) fun W many nums z j r S c qs ws lo hi w xs ps K hs A hA => by
 obtain ⟨⟨bv, bk, mo, ro, nu, hm, s1, s6, hz, h0, h1, hl⟩, hk⟩ := hs;unfold Xgj;delta Zi Zk Zbc;have hf := nu.few;have hn1 := ro.n1;have hlp := Sp.length_papD qs.xs ws.xs lo hi
 by_cases hi' : j < z
 ·have lt : (z - (j + 1)).toNat < (z - j).toNat := by omega
  have hn := nu.ok j.toNat (by omega);rw [show nums.xs.length - j.toNat = (nums.xs.length - (j + 1).toNat) + 1 by omega] at hk;simp only [Sp.drw, Int.toNat_of_nonneg h0, show j.toNat + 1 = (j + 1).toNat by omega] at hk;refine vifd (fun _ => ?_) (fun h => absurd hi' h);refine ned (by simp; omega) (nedd (by omega) ⟨⟨bv, bk, mo, ro, hm, rfl, s1, s6, h0, by omega, hl, hn.1, hn.2, by omega, by omega⟩, vif (fun e => ⟨fun ys hy => ?_⟩) (fun e => ?_)⟩)
  ·rw [if_pos (show Sp.fitB (Sp.papD qs.xs ws.xs lo hi) ps S c j (cel nums.xs j.toNat 0).int 0 = true from e)] at hk;refine ar64 (by omega) (hA _ lt ⟨⟨bv, bk, hy, ro, nu, hm, s1, s6, hz, by omega, by omega, ?_⟩, hk⟩);unfold Sp.fitR;rw [List.length_append]; simp; omega
  ·rw [if_neg (Bool.eq_false_iff.1 (show Sp.fitB (Sp.papD qs.xs ws.xs lo hi) ps S c j (cel nums.xs j.toNat 0).int 0 = false from e))] at hk;exact hk.2 rfl
 ·refine vifd (fun h => absurd h hi') (fun _ => ?_);rw [show nums.xs.length - j.toNat = 0 by omega] at hk;exact hk.1 rfl
noncomputable def le_pd : LE Try.prog := ⟨30, 11, fun W => @Ytz W Xhd, okLpd⟩
noncomputable def T54 : Tab Try.prog := ⟨[Xi], [le_pd], [ceOf Xp Xh1, ceOf Xf Xu, ceOf (Xg 17) (Xk 17)]⟩
def Zbt [W : InW] (nums : Ro Jb) := (↑(nums.xs.length) : Int)
def Xbs [W : InW] (kQ : Ro Ja) (k_Ws : Ro Jb) (k_Lo k_Hi h_Rows h_Seats h_Com : Int) (nums : Ro Jb) (Q : DS -> Prop) : Prop :=
 Vif (decide (Sp.hallE kQ.xs k_Ws.xs k_Lo k_Hi h_Rows h_Seats h_Com (Zbt nums) = 0)) (Pre True (Vif (Sp.out Zk (1000000000 : Int) nums.xs) (Q [[Cl.l []], [Cl.i 7]]) (Pre (Sp.BkOk kQ.xs k_Ws.xs k_Lo k_Hi (Sp.wts kQ.xs (kQ.xs.length)) /\ Sp.StOk kQ.xs Zk Zk { a := (cel k_Ws.xs Zbc Zbc).int, b := (cel k_Ws.xs (1 : Nat) Zbc).int, c := (cel k_Ws.xs (2 : Nat) Zbc).int, d := (cel k_Ws.xs (3 : Nat) Zbc).int } /\ Sp.MemoOk kQ.xs k_Lo k_Hi [] /\ kQ.xs.length - Int.toNat Zk < 17) (Sp.FaM (Sp.MemoOk kQ.xs k_Lo k_Hi) fun ys => Vif (decide (Sp.cnt kQ.xs k_Lo k_Hi (kQ.xs.length - Int.toNat Zk) Zk { a := (cel k_Ws.xs Zbc Zbc).int, b := (cel k_Ws.xs (1 : Nat) Zbc).int, c := (cel k_Ws.xs (2 : Nat) Zbc).int, d := (cel k_Ws.xs (3 : Nat) Zbc).int } = Zk)) (Q [[Cl.l []], [Cl.i 4]]) (Pre (Sp.BankV kQ.xs k_Ws.xs k_Lo k_Hi /\ Sp.BkOk kQ.xs k_Ws.xs k_Lo k_Hi (Sp.wts kQ.xs (kQ.xs.length)) /\ Sp.MemoOk kQ.xs k_Lo k_Hi ys /\ Sp.RsOk (Sp.papD kQ.xs k_Ws.xs k_Lo k_Hi) /\ Sp.NuOk nums.xs /\ Sp.cnt kQ.xs k_Lo k_Hi (kQ.xs.length - Int.toNat Zk) Zk { a := (cel k_Ws.xs Zbc Zbc).int, b := (cel k_Ws.xs (1 : Nat) Zbc).int, c := (cel k_Ws.xs (2 : Nat) Zbc).int, d := (cel k_Ws.xs (3 : Nat) Zbc).int } = Sp.total kQ.xs k_Ws.xs k_Lo k_Hi /\ 1 <= h_Seats /\ h_Seats <= 6 /\ (Zbt nums) = (Zbt nums) /\ Zk <= 0 /\ Zk <= (Zbt nums) /\ (↑Zbc : Int) = 0) (Vif (Sp.drw (Sp.papD kQ.xs k_Ws.xs k_Lo k_Hi) nums.xs h_Seats h_Com Zl (nums.xs.length - Int.toNat Zk) []).ok (Q [[Cl.l (Sp.drw (Sp.papD kQ.xs k_Ws.xs k_Lo k_Hi) nums.xs h_Seats h_Com Zl (nums.xs.length - Int.toNat Zk) []).ps], [Cl.i 0]]) (Q [[Cl.l []], [Cl.i 9]]))))))) (Vif (!decide (Sp.hallE kQ.xs k_Ws.xs k_Lo k_Hi h_Rows h_Seats h_Com (Zbt nums) = 0)) (Q [[Cl.l []], [Cl.i (Sp.hallE kQ.xs k_Ws.xs k_Lo k_Hi h_Rows h_Seats h_Com (Zbt nums))]]) (Pre True (Vif (Sp.out Zk (1000000000 : Int) nums.xs) (Q [[Cl.l []], [Cl.i 7]]) ((16 : Nat) = 16 + 1))))
theorem Xgr (W : InW) (kQ k_Ws k_Lo k_Hi h_Rows h_Seats h_Com nums Q) : Yw5 (cxT Try.prog TT T54 1000 50) 1000 30 [.agg [.rs _ kQ, .rs _ k_Ws, .si .i64 k_Lo, .si .i64 k_Hi], .agg [.si .i64 h_Rows, .si .i64 h_Seats, .si .i64 h_Com], .rs _ nums] [] 0 (Y1i [(false, [.nst 23 [.sl Jb]]), (false, [.int .i64])] Q) (fun _ _ _ _ => Stuck 421) = Xbs kQ k_Ws k_Lo k_Hi h_Rows h_Seats h_Com nums Q := by kernel_rfl
abbrev X5 : List AT := [.agg [.sl Ja, .sl Jb, .int .i64, .int .i64], .agg [.int .i64, .int .i64, .int .i64], .one (.sl Jb)]
theorem Xg8 {pre : DS -> Prop} {res : DS -> DS} (hyp_ : ∀ (W : InW) (kQ : Ro Ja) (k_Ws : Ro Jb) (k_Lo k_Hi h_Rows h_Seats h_Com : Int) (nums : Ro Jb), pre [[.l kQ.xs, .l k_Ws.xs, .i k_Lo, .i k_Hi], [.i h_Rows, .i h_Seats, .i h_Com], [.l nums.xs]] -> ∀ Q : DS -> Prop, Q (res [[.l kQ.xs, .l k_Ws.xs, .i k_Lo, .i k_Hi], [.i h_Rows, .i h_Seats, .i h_Com], [.l nums.xs]]) -> Xbs kQ k_Ws k_Lo k_Hi h_Rows h_Seats h_Com nums Q) : PureOk Try.prog 30 X5 [(false, [.nst 23 [.sl Jb]]), (false, [.int .i64])] pre res :=
 PureOk.of' (fun W => @TT W) (fun W => @Xc W) Xa T54 1000 50 fun W kQ k_Ws k_Lo k_Hi h_Rows h_Seats h_Com nums hp =>
  (Xgr W kQ k_Ws k_Lo k_Hi h_Rows h_Seats h_Com nums (fun o => o = res [[.l kQ.xs, .l k_Ws.xs, .i k_Lo, .i k_Hi], [.i h_Rows, .i h_Seats, .i h_Com], [.l nums.xs]])).mpr (hyp_ W kQ k_Ws k_Lo k_Hi h_Rows h_Seats h_Com nums hp _ rfl)
theorem Xjb : PureOk Try.prog 30 X5 [(false, [.nst 23 [.sl Jb]]), (false, [.int .i64])] (fun _ => True) Xbd :=
 Xg8 fun W qs ws lo hi r S c nums hp Q h => by
  unfold Xbs;delta Zl Zk Zbt Zbc;simp only [Xbd] at h;refine vifd (fun e => ?_) (fun e => vifn (fun _ => ?_) (fun e2 => absurd e2 e))
  ·obtain ⟨bv, ho⟩ := Sp.hallE_iff.1 e;have hl := Sp.length_papD qs.xs ws.xs lo hi;have hf := ho.few;have hn := bv.n2;refine ⟨trivial, vif (fun f => ?_) (fun f => ⟨⟨bv.bk, bv.st, Sp.memo_nil, by omega⟩, ⟨fun ys hy => ?_⟩⟩)⟩
   ·have hE : Sp.drawE qs.xs ws.xs lo hi r S c nums.xs = 7 := by unfold Sp.drawE; rw [if_pos e, if_pos f]
    rw [Sp.drawL_no (by rw [hE]; decide), hE] at h;exact h
   ·have nu := Sp.nu_ok f (by omega);have f2 := Bool.eq_false_iff.1 f
    change Vif (decide (Sp.total qs.xs ws.xs lo hi = 0)) _ _
    refine vifd (fun g => ?_) (fun g => ⟨⟨bv, bv.bk, hy, Sp.rs_ok bv g, nu, rfl, ho.s1, ho.s6, rfl, by omega, by omega, rfl⟩, vif (fun d => ?_) (fun d => ?_)⟩)
    ·have hE : Sp.drawE qs.xs ws.xs lo hi r S c nums.xs = 4 := by unfold Sp.drawE; rw [if_pos e, if_neg f2, if_pos g]
     rw [Sp.drawL_no (by rw [hE]; decide), hE] at h; exact h
    ·have hE : Sp.drawE qs.xs ws.xs lo hi r S c nums.xs = 0 := by unfold Sp.drawE; rw [if_pos e, if_neg f2, if_neg g]; exact if_pos d
     rw [Sp.drawL_ok hE, hE] at h; exact h
    ·have hE : Sp.drawE qs.xs ws.xs lo hi r S c nums.xs = 9 := by unfold Sp.drawE; rw [if_pos e, if_neg f2, if_neg g]; exact if_neg (Bool.eq_false_iff.1 d)
     rw [Sp.drawL_no (by rw [hE]; decide), hE] at h; exact h
  ·have hE : Sp.drawE qs.xs ws.xs lo hi r S c nums.xs = Sp.hallE qs.xs ws.xs lo hi r S c nums.xs.length := by unfold Sp.drawE; rw [if_neg e]
   rw [Sp.drawL_no (by rw [hE]; exact e), hE] at h;exact h
noncomputable def Xg1 : PC Try.prog := ⟨30, X5, [(false, [.nst 23 [.sl Jb]]), (false, [.int .i64])], fun _ => True, Xbd, Xjb⟩
end Go.Proofs.Ytilnbgpogfabaaa
