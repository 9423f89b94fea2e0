/-
  'PaperFair': for every input the law returns true, and what is handed in reads as before. No condition.
-/
import Derived.Test.YtilnbgpogfabaaaQfac
import Derived.Test.YtilnbgpogfabaaaRows
import Derived.WalkKit
import Derived.ProofKit
set_option linter.unusedVariables false
set_option linter.unusedSectionVars false
set_option linter.unusedSimpArgs false
namespace Go.Proofs.Ytilnbgpogfabaaa
open Go.RowKit
set_option maxRecDepth 100000
theorem vif_t [InW] {b : Bool} {A B : Prop} (hb : b = true) (ha : A) : Vif b A B := Vif_iff.2 ⟨fun _ => ha, fun h => absurd (hb.symm.trans h) (by decide)⟩
theorem Xhj [W : InW] (Q : DS -> Prop) (h : Q [[.b true]]) : Xy Q := by
 unfold Xy;delta Zbw Zbx Zbz Zby Zbv Zbu Zca Zk
 repeat first | refine vif_t (by kernel_rfl) ?_ | refine Pre_iff.2 ⟨trivial, ?_⟩ | refine Pre_iff.2 ⟨by kernel_rfl, ?_⟩
 exact (congrArg Q (by kernel_rfl)).mpr h
noncomputable def Xg2 : PC Try.prog := ⟨23, [], [(false, [.bool])], fun _ => True, fun _ => [[.b true]], Xha fun W hp Q h => Xhj Q h⟩
namespace Sp
structure Got (rs L : Dt) (S c n : Int) (j q : Nat) : Prop where
 lt : q < rs.length
 row : cel L j 0 = .l (pickP rs n q)
 fit : fitF rs L S c j n q = true
 no : ∀ k, k < q -> fitF rs L S c j n k = false
structure Drawn (qs ws : Dt) (lo hi r S c : Int) (nums : Dt) : Prop where
 bv : BankV qs ws lo hi
 ho : HallOk r S c nums.length
 nu : NuOk nums
 ro : RsOk (papD qs ws lo hi)
 len : (drawL qs ws lo hi r S c nums).length = nums.length
 got : ∀ j, j < nums.length -> ∃ q, Got (papD qs ws lo hi) (drawL qs ws lo hi r S c nums) S c (cel nums j 0).int j q
theorem pick_ix {rs : Dt} {n : Int} {q : Nat} (hn : 0 <= n) (h1 : 1 <= rs.length) : ((n + q).tmod rs.length).toNat < rs.length := by
 have := tmod_in (n := n + q) (m := rs.length) (by omega) h1;omega
theorem Drawn.is {qs ws : Dt} {lo hi r S c : Int} {nums : Dt} (h : Drawn qs ws lo hi r S c nums) {j : Nat} (hj : j < nums.length) : isP qs ws lo hi (cel (drawL qs ws lo hi r S c nums) j 0).lst = true := by
 obtain ⟨q, hq⟩ := h.got j hj;rw [hq.row];have hn := h.nu.ok j hj;have hi' := pick_ix (q := q) hn.1 h.ro.n1
 show isP qs ws lo hi (pickP _ _ _) = true
 unfold pickP;rw [cel_papD hi'];exact paps_is h.bv (by simpa [papD] using hi')
theorem length_paps (qs ws : Dt) (lo hi : Int) : ((paps qs ws lo hi).length : Int) = total qs ws lo hi := rfl
theorem nthE_in {qs ws : Dt} {lo hi k : Int} (bv : BankV qs ws lo hi) (h0 : 0 <= k) (h1 : k < total qs ws lo hi) : nthE qs ws lo hi k = 0 := by
 unfold nthE;rw [if_pos (chkE_iff.2 bv), if_pos (inr_iff.2 (by omega))]
theorem nthR_in {qs ws : Dt} {lo hi k : Int} (bv : BankV qs ws lo hi) (h0 : 0 <= k) (h1 : k < total qs ws lo hi) : nthR qs ws lo hi k = (paps qs ws lo hi).getD k.toNat [] := by
 unfold nthR;rw [if_pos (nthE_in bv h0 h1)];rfl
end Sp
theorem Xfc {n : Int} (h : WfC (.int .u16) (.i n)) : 0 <= n /\ n <= 65535 := by
 cases h with
 | int _ _ h => simp [Lit.wf, IntKind.min, IntKind.max, IntKind.signed, IntKind.bits] at h; omega
theorem WfL.head {t : Ty} {ts : List Ty} {c : Cl} {cs : List Cl} (h : WfL (t :: ts) (c :: cs)) : WfC t c /\ WfL ts cs := by
 cases h with
 | cons h hs => exact ⟨h, hs⟩
theorem WfD.head {a : AT} {ats : List AT} {d : List Cl} {ds : DS} (h : WfD (a :: ats) (d :: ds)) : WfA a d /\ WfD ats ds := by
 obtain ⟨d', ds', e, h1, h2⟩ := h;cases e;exact ⟨h1, h2⟩
namespace Sp
theorem Got.apP {rs L : Dt} {S c n : Int} {j q : Nat} (h : Got rs L S c n j q) : apP L (cel L j 0).lst S j c = true := by
 rw [h.row];exact h.fit
theorem outs_of {lo hi : Int} {xs : Dt} : ∀ {n i : Nat}, (∀ k, i <= k -> k < i + n -> inr (cel xs k 0).int lo hi = true) -> outs lo hi xs i n = false
 | 0, i, _ => rfl
 | n + 1, i, h => by
  rw [outs, h i (by omega) (by omega), outs_of fun k a b => h k (by omega) (by omega)];rfl
theorem NuOk.out {nums : Dt} (h : NuOk nums) : Sp.out 0 1000000000 nums = false := outs_of fun k _ hk => inr_iff.2 (h.ok k (by omega))
end Sp
namespace Sp
theorem pick_num {qs ws : Dt} {lo hi n : Int} (bv : BankV qs ws lo hi) (ro : RsOk (papD qs ws lo hi)) (hn : 0 <= n) (q : Nat) :
  0 <= (n + q).tmod (total qs ws lo hi) /\ (n + q).tmod (total qs ws lo hi) < total qs ws lo hi /\
  nthE qs ws lo hi ((n + q).tmod (total qs ws lo hi)) = 0 /\ nthR qs ws lo hi ((n + q).tmod (total qs ws lo hi)) = pickP (papD qs ws lo hi) n q /\
  numE qs ws lo hi (pickP (papD qs ws lo hi) n q) = 0 /\ numR qs ws lo hi (pickP (papD qs ws lo hi) n q) = (n + q).tmod (total qs ws lo hi) := by
 have hlp := length_papD qs ws lo hi;have hl := length_paps qs ws lo hi;have ht := tmod_in (n := n + q) (m := (papD qs ws lo hi).length) (by omega) ro.n1;rw [hlp] at ht;have e : pickP (papD qs ws lo hi) n q = (paps qs ws lo hi).getD ((n + q).tmod (total qs ws lo hi)).toNat [] := by
  unfold pickP;rw [hlp, cel_papD (by omega)]
 have hf := paps_fol (qs := qs) (ws := ws) (lo := lo) (hi := hi) (i := ((n + q).tmod (total qs ws lo hi)).toNat) (by omega);rw [<- e] at hf;have hE : numE qs ws lo hi (pickP (papD qs ws lo hi) n q) = 0 := by
  unfold numE;rw [if_pos (chkE_iff.2 bv), hf, if_pos rfl]
 refine ⟨ht.1, ht.2, nthE_in bv ht.1 ht.2, by rw [nthR_in bv ht.1 ht.2, e], hE, ?_⟩;unfold numR;rw [if_pos hE, hf]
 show (((n + (q : Int)).tmod (total qs ws lo hi)).toNat : Int) = _
 omega
end Sp
namespace Sp
theorem ap_16 {ps p : Dt} {S seat : Int} (h : ∀ j, (cel ps j 0).lst.length <= 16) : apP ps p S seat 16 = true := by
 unfold apP;refine allF_iff.2 fun k _ _ => decide_eq_true ?_;have h1 := (cmF_b (cel ps (cel (bfD S seat) k 0).int.toNat 0).lst p (cel ps (cel (bfD S seat) k 0).int.toNat 0).lst.length).2;have h2 := h (cel (bfD S seat) k 0).int.toNat;unfold cmn;omega
theorem cel_far {ps : Dt} {j : Nat} (h : ps.length <= j) : cel ps j 0 = .z := by
 simp [cel, List.getD_eq_getElem?_getD, List.getElem?_eq_none h]
theorem Drawn.all16 {qs ws : Dt} {lo hi r S c : Int} {nums : Dt} (d : Drawn qs ws lo hi r S c nums) (j : Nat) : (cel (drawL qs ws lo hi r S c nums) j 0).lst.length <= 16 := by
 by_cases hj : j < nums.length
 ·obtain ⟨q, g⟩ := d.got j hj;rw [g.row];exact d.ro.few _ (pick_ix (d.nu.ok j hj).1 d.ro.n1)
 ·rw [cel_far (by rw [d.len]; omega)];simp [Cl.lst]
theorem Drawn.own {qs ws : Dt} {lo hi r S : Int} {nums : Dt} (d : Drawn qs ws lo hi r S 16 nums) {j : Nat} (hj : j < nums.length) :
  nthE qs ws lo hi ((cel nums j 0).int.tmod (total qs ws lo hi)) = 0 /\ (cel (drawL qs ws lo hi r S 16 nums) j 0).lst = nthR qs ws lo hi ((cel nums j 0).int.tmod (total qs ws lo hi)) := by
 obtain ⟨q, g⟩ := d.got j hj;have hn := (d.nu.ok j hj).1;have hq : q = 0 := by
  by_cases hz : q = 0
  ·exact hz
  ·have := g.no 0 (by omega);unfold fitF at this;rw [ap_16 d.all16] at this;cases this
 subst hq;obtain ⟨_, _, b2, b3, _⟩ := pick_num d.bv d.ro hn 0;rw [show (cel nums j 0).int + ((0 : Nat) : Int) = (cel nums j 0).int by omega] at b2 b3;rw [g.row, b3];exact ⟨b2, rfl⟩
end Sp
namespace Sp
def cw (X : List Int) (lo hi : Int) : Nat := X.countP fun x => inr x lo hi
theorem cw_ge {X : List Int} {lo hi : Int} {i k : Nat} (h : i + k <= X.length) (hin : ∀ j, i <= j -> j < i + k -> (hj : j < X.length) -> inr X[j] lo hi = true) : k <= cw X lo hi := by
 have hs : ((X.drop i).take k).Sublist X := (List.take_sublist _ _).trans (List.drop_sublist _ _);have hl : ((X.drop i).take k).length = k := by rw [List.length_take, List.length_drop]; omega
 have h1 : ((X.drop i).take k).countP (fun x => inr x lo hi) = ((X.drop i).take k).length := by
  rw [List.countP_eq_length];intro a ha;obtain ⟨j, hj, rfl⟩ := List.mem_iff_getElem.1 ha;rw [hl] at hj;rw [List.getElem_take, List.getElem_drop];exact hin (i + j) (by omega) (by omega) (by omega)
 rw [hl] at h1;have := hs.countP_le (p := fun x => inr x lo hi);unfold cw; omega
theorem cw_le {X : List Int} {lo hi : Int} {i m : Nat} (h1 : ∀ j, j < i -> (hj : j < X.length) -> inr X[j] lo hi = false) (h2 : ∀ j, i + m <= j -> (hj : j < X.length) -> inr X[j] lo hi = false) : cw X lo hi <= m := by
 have e : X = X.take i ++ ((X.drop i).take m ++ (X.drop i).drop m) := by rw [List.take_append_drop, List.take_append_drop]
 have a1 : (X.take i).countP (fun x => inr x lo hi) = 0 := by
  rw [List.countP_eq_zero];intro a ha;obtain ⟨j, hj, rfl⟩ := List.mem_iff_getElem.1 ha;rw [List.length_take] at hj;rw [List.getElem_take, h1 j (by omega) (by omega)];decide
 have a3 : ((X.drop i).drop m).countP (fun x => inr x lo hi) = 0 := by
  rw [List.countP_eq_zero];intro a ha;obtain ⟨j, hj, rfl⟩ := List.mem_iff_getElem.1 ha;rw [List.length_drop, List.length_drop] at hj;rw [List.getElem_drop, List.getElem_drop, h2 _ (by omega) (by omega)];decide
 have a2 : ((X.drop i).take m).countP (fun x => inr x lo hi) <= m := Nat.le_trans List.countP_le_length (by rw [List.length_take]; omega);unfold cw;rw [e, List.countP_append, List.countP_append];omega
theorem cw_win {X : List Int} {lo hi : Int} {k : Nat} (hX : X.Pairwise (· <= ·)) (k1 : 1 <= k) (h : k <= cw X lo hi) : ∃ i, ∃ h1 : i + k <= X.length, lo <= X[i] /\ X[i + k - 1] <= hi := by
 have hle : ∀ i j, (hij : i <= j) -> (hj : j < X.length) -> X[i]'(by omega) <= X[j] := fun i j hij hj => by
  rcases Nat.eq_or_lt_of_le hij with rfl | hlt
  ·exact Int.le_refl _
  ·exact List.pairwise_iff_getElem.1 hX i j (by omega) hj hlt
 obtain ⟨i, hi'⟩ : ∃ i, X.findIdx (fun x => decide (lo <= x)) = i := ⟨_, rfl⟩;have hb : ∀ j, j < i -> (hj : j < X.length) -> inr X[j] lo hi = false := fun j hj hj2 => by
  have := List.not_of_lt_findIdx (p := fun x => decide (lo <= x)) (xs := X) (i := j) (by omega);rw [inr_ff];simp at this;omega
 by_cases hk : i + k <= X.length
 ·have hg : lo <= X[i] := by
   have hw : X.findIdx (fun x => decide (lo <= x)) < X.length := by rw [hi']; omega
   have := List.findIdx_getElem (p := fun x => decide (lo <= x)) (xs := X) (w := hw);subst hi';exact of_decide_eq_true this
  by_cases hh : X[i + k - 1] <= hi
  ·exact ⟨i, hk, hg, hh⟩
  ·have hx : ∀ j, i + (k - 1) <= j -> (hj : j < X.length) -> inr X[j] lo hi = false := fun j hj hj2 => by
    have := hle (i + k - 1) j (by omega) hj2;rw [inr_ff]; omega
   have := cw_le hb hx;omega
 ·have hx : ∀ j, i + (k - 1) <= j -> (hj : j < X.length) -> inr X[j] lo hi = false := fun j hj hj2 => absurd hj2 (by omega);have := cw_le hb hx;omega
theorem win_cw (l : Dt) (lo hi : Int) : win l lo hi = cw (numsOf l) lo hi := by
 have key : ∀ n, n <= l.length -> sumN (wiF l lo hi) 0 n = (((numsOf l).take n).countP fun x => inr x lo hi : Nat) := fun n => by
  induction n with
  | zero => intro _; simp [sumN]
  | succ n ih =>
   intro hn;have h2 : n < (numsOf l).length := by rw [Xb]; omega
   rw [sumN_last, ih (by omega), List.take_succ_eq_append_getElem h2, List.countP_append, nums_get h2, Nat.zero_add];unfold wiF
   by_cases h : inr (cel l n 0).int lo hi = true
   ·rw [if_pos h]; simp [List.countP_cons, h]
   ·rw [if_neg h]; simp [List.countP_cons, h]
 unfold win cw;rw [key _ (Nat.le_refl _), <- Xb, List.take_length]
theorem win_sort (l : Dt) (lo hi : Int) : win l lo hi = cw (numsOf (sortD l)) lo hi := by
 rw [win_cw, Xr];unfold cw;rw [(List.mergeSort_perm (numsOf l) fun x y => decide (x <= y)).countP_eq]
theorem sort_pw (l : Dt) : (numsOf (sortD l)).Pairwise (· <= ·) := by rw [<- srt_same]; exact srtD_pw _ _
def wd (L : Dt) (k : Int) (i : Nat) : Int := (cel L ((i : Int) + k - 1).toNat 0).int - (cel L i 0).int
theorem narF_spec (L : Dt) (k : Int) : ∀ (n i : Nat) (b : Rg), (narF L k i n b = b /\ ∀ j, i <= j -> j < i + n -> b.hi - b.lo <= wd L k j) \/
  ∃ j, i <= j /\ j < i + n /\ narF L k i n b = ⟨(cel L j 0).int, (cel L ((j : Int) + k - 1).toNat 0).int⟩ /\ wd L k j < b.hi - b.lo /\ (∀ t, i <= t -> t < i + n -> wd L k j <= wd L k t) /\ ∀ t, i <= t -> t < j -> wd L k j < wd L k t
 | 0, i, b => .inl ⟨rfl, fun j a c => by omega⟩
 | n + 1, i, b => by
  by_cases h : wd L k i < b.hi - b.lo
  ·have e : narF L k i (n + 1) b = narF L k (i + 1) n ⟨(cel L i 0).int, (cel L ((i : Int) + k - 1).toNat 0).int⟩ := by rw [narF]; exact congrArg _ (if_pos h)
   rw [e];rcases narF_spec L k n (i + 1) ⟨(cel L i 0).int, (cel L ((i : Int) + k - 1).toNat 0).int⟩ with ⟨h1, h2⟩ | ⟨j, j0, j1, h1, h2, h3, h4⟩
   ·refine .inr ⟨i, Nat.le_refl _, by omega, h1, h, fun t a c => ?_, fun t a c => by omega⟩;rcases Nat.eq_or_lt_of_le a with rfl | a
    ·exact Int.le_refl _
    ·exact h2 t (by omega) (by omega)
   ·have h2 : wd L k j < wd L k i := h2;refine .inr ⟨j, by omega, by omega, h1, by omega, fun t a c => ?_, fun t a c => ?_⟩
    ·rcases Nat.eq_or_lt_of_le a with rfl | a
     ·omega
     ·exact h3 t (by omega) (by omega)
    ·rcases Nat.eq_or_lt_of_le a with rfl | a
     ·exact h2
     ·exact h4 t (by omega) c
  ·have e : narF L k i (n + 1) b = narF L k (i + 1) n b := by rw [narF]; exact congrArg _ (if_neg h)
   rw [e];rcases narF_spec L k n (i + 1) b with ⟨h1, h2⟩ | ⟨j, j0, j1, h1, h2, h3, h4⟩
   ·refine .inl ⟨h1, fun t a c => ?_⟩;rcases Nat.eq_or_lt_of_le a with rfl | a
    ·omega
    ·exact h2 t (by omega) (by omega)
   ·refine .inr ⟨j, by omega, by omega, h1, h2, fun t a c => ?_, fun t a c => ?_⟩
    ·rcases Nat.eq_or_lt_of_le a with rfl | a
     ·omega
     ·exact h3 t (by omega) (by omega)
    ·rcases Nat.eq_or_lt_of_le a with rfl | a
     ·omega
     ·exact h4 t (by omega) c
structure Fnd (M : Dt) (k : Int) (R : Rg) (j : Nat) : Prop where
 k1 : 1 <= k
 j1 : j + k <= M.length
 lo : R.lo = (cel M j 0).int
 hi : R.hi = (cel M ((j : Int) + k - 1).toNat 0).int
 min : ∀ t : Nat, t + k <= M.length -> wd M k j <= wd M k t
 fst : ∀ t, t < j -> wd M k j < wd M k t
theorem fair_fnd {qs ws : Dt} {lo hi k : Int} (h : fairE qs ws lo hi k = 0) : ∃ j, Fnd (sortD (levD qs ws lo hi)) k (fairR qs ws lo hi k) j := by
 have hR : fairR qs ws lo hi k = nar (sortD (levD qs ws lo hi)) k := by unfold fairR; rw [if_pos h, srt_same]
 unfold fairE at h
 split at h
 ·rename_i hc;have bv := chkE_iff.1 hc
  split at h
  ·rename_i h1
   split at h
   ·rename_i h2;have hl := length_levD qs ws lo hi;have hs := Xd (levD qs ws lo hi);have lv := (levD_ok bv).sort;rw [hR];generalize sortD (levD qs ws lo hi) = M at *;unfold nar;rcases narF_spec M k (M.length - k.toNat + 1) 0 ⟨0, 16001⟩ with ⟨_, g⟩ | ⟨j, _, j1, e, _, g3, g4⟩
    ·have := g 0 (Nat.le_refl _) (by omega);have a := lv.ok 0 (by omega);have b := lv.ok (((0 : Nat) : Int) + k - 1).toNat (by omega);unfold wd at this;simp only at this;omega
    ·exact ⟨j, h1, by omega, by rw [e], by rw [e], fun t ht => g3 t (Nat.zero_le _) (by omega), fun t ht => g4 t (Nat.zero_le _) ht⟩
   ·omega
  ·omega
 ·rename_i hc; exact absurd h hc
theorem sort_le {l : Dt} {i j : Nat} (h : i <= j) (hj : j < l.length) : (cel (sortD l) i 0).int <= (cel (sortD l) j 0).int := by
 have hl : (numsOf (sortD l)).length = l.length := by rw [Xb, Xd]
 rcases Nat.eq_or_lt_of_le h with rfl | h
 ·exact Int.le_refl _
 ·have := List.pairwise_iff_getElem.1 (sort_pw l) i j (by omega) (by omega) h;rwa [nums_get, nums_get] at this
theorem win_ge {l : Dt} {lo hi k : Int} {j : Nat} (k1 : 1 <= k) (hj : j + k <= l.length) (h1 : lo <= (cel (sortD l) j 0).int) (h2 : (cel (sortD l) ((j : Int) + k - 1).toNat 0).int <= hi) : k <= win l lo hi := by
 have hl : (numsOf (sortD l)).length = l.length := by rw [Xb, Xd]
 rw [win_sort];have := cw_ge (X := numsOf (sortD l)) (lo := lo) (hi := hi) (i := j) (k := k.toNat) (by omega) fun t a b ht => by
  rw [nums_get, inr_iff];have := sort_le (l := l) (i := j) (j := t) a (by omega);have := sort_le (l := l) (i := t) (j := ((j : Int) + k - 1).toNat) (by omega) (by omega);omega
 omega
theorem win_lt {l : Dt} {lo hi k : Int} (k1 : 1 <= k) (h : k <= win l lo hi) : ∃ j : Nat, j + k <= l.length /\ lo <= (cel (sortD l) j 0).int /\ (cel (sortD l) ((j : Int) + k - 1).toNat 0).int <= hi := by
 have hl : (numsOf (sortD l)).length = l.length := by rw [Xb, Xd]
 rw [win_sort] at h;obtain ⟨i, h1, h2, h3⟩ := cw_win (lo := lo) (hi := hi) (k := k.toNat) (sort_pw l) (by omega) (by omega);rw [nums_get] at h2 h3;rw [show i + k.toNat - 1 = ((i : Int) + k - 1).toNat by omega] at h3;exact ⟨i, by omega, h2, h3⟩
end Sp
set_option maxHeartbeats 1600000
namespace Sp
theorem fairE_at {qs ws : Dt} {lo hi k : Int} (bv : BankV qs ws lo hi) (h : 1 <= k) : fairE qs ws lo hi k = if k <= total qs ws lo hi then 0 else 9 := by
 unfold fairE;rw [if_pos (chkE_iff.2 bv), if_pos h]
theorem fairR_no {qs ws : Dt} {lo hi k : Int} (h : fairE qs ws lo hi k ≠ 0) : fairR qs ws lo hi k = ⟨0, 0⟩ := by unfold fairR; rw [if_neg h]
structure FaOk (qs ws : Dt) (lo hi k : Int) (R : Rg) : Prop where
 l0 : 0 <= R.lo
 l1 : R.lo <= R.hi
 l2 : R.hi <= 16000
 all : k <= win (levD qs ws lo hi) R.lo R.hi
 atLo : 1 <= win (levD qs ws lo hi) R.lo R.lo
 atHi : 1 <= win (levD qs ws lo hi) R.hi R.hi
 more : ∀ k2, k <= k2 -> fairE qs ws lo hi k2 = 0 -> R.hi - R.lo <= (fairR qs ws lo hi k2).hi - (fairR qs ws lo hi k2).lo /\ 0 <= (fairR qs ws lo hi k2).lo /\ (fairR qs ws lo hi k2).lo <= 16000 /\ 0 <= (fairR qs ws lo hi k2).hi /\ (fairR qs ws lo hi k2).hi <= 16000
 no : ∀ a b, b - a <= R.hi - R.lo -> (b - a = R.hi - R.lo -> a < R.lo) -> win (levD qs ws lo hi) a b < k
theorem fair_ok {qs ws : Dt} {lo hi k : Int} (bv : BankV qs ws lo hi) (h : fairE qs ws lo hi k = 0) : FaOk qs ws lo hi k (fairR qs ws lo hi k) := by
 obtain ⟨j, f⟩ := fair_fnd h;have hs := Xd (levD qs ws lo hi);have lv := (levD_ok bv).sort;obtain ⟨k1, j1, e1, e2, mi, fs⟩ := f;have a := lv.ok j (by omega);have b := lv.ok ((j : Int) + k - 1).toNat (by omega);have ab := sort_le (l := levD qs ws lo hi) (i := j) (j := ((j : Int) + k - 1).toNat) (by omega) (by omega);refine ⟨by omega, by omega, by omega, win_ge (j := j) k1 (by omega) (by omega) (by omega), win_ge (j := j) (by omega) (by omega) (by omega) (by rw [e1, show ((j : Int) + 1 - 1).toNat = j by omega]; exact Int.le_refl _), win_ge (j := ((j : Int) + k - 1).toNat) (by omega) (by omega) (by omega) (by rw [e2, show ((((j : Int) + k - 1).toNat : Int) + 1 - 1).toNat = ((j : Int) + k - 1).toNat by omega]; exact Int.le_refl _), fun k2 hk h2 => ?_, fun x y hxy hne => ?_⟩
 ·obtain ⟨j2, f2⟩ := fair_fnd h2;have g1 := f2.j1;have g2 := f2.lo;have g3 := f2.hi;have g4 := mi j2 (by omega);have c := lv.ok j2 (by omega);have d := lv.ok ((j2 : Int) + k2 - 1).toNat (by omega);have g5 := sort_le (l := levD qs ws lo hi) (i := ((j2 : Int) + k - 1).toNat) (j := ((j2 : Int) + k2 - 1).toNat) (by omega) (by omega);unfold wd at g4;omega
 ·by_cases hw : win (levD qs ws lo hi) x y < k
  ·exact hw
  ·obtain ⟨t, t1, t2, t3⟩ := win_lt k1 (show k <= win (levD qs ws lo hi) x y by omega);have g4 := mi t (by omega)
   by_cases htj : t < j
   ·have := fs t htj;unfold wd at this;omega
   ·have g6 := sort_le (l := levD qs ws lo hi) (i := j) (j := t) (by omega) (by omega);unfold wd at g4;omega
end Sp
noncomputable def TL13 : Tab Try.prog := ⟨[Xea, Xfq, Xi9, Xkx, Xg2], [], []⟩
def Zce [W : InW] (Q : DS -> Prop) := Pre True (Q [[Cl.b true]])
def Zcg [W : InW] (kQ : Ro Ja) (k_Ws : Ro Jb) (k_Lo k_Hi n : Int) (Q : DS -> Prop) := Vif (!decide (Sp.fairE kQ.xs k_Ws.xs k_Lo k_Hi n = 0)) (Vif (decide ((Sp.fairR kQ.xs k_Ws.xs k_Lo k_Hi n).lo = 0) && (decide ((Sp.fairR kQ.xs k_Ws.xs k_Lo k_Hi n).hi = 0) && true)) (Zce Q) (Q Zbx)) (Q Zbx)
def Zcd [W : InW] (kQ : Ro Ja) (k_Ws : Ro Jb) (k_Lo k_Hi n : Int) := (Sp.fairR kQ.xs k_Ws.xs k_Lo k_Hi n).hi - (Sp.fairR kQ.xs k_Ws.xs k_Lo k_Hi n).lo
def Zcf := (16001 : Int)
def Zcb [W : InW] (kQ : Ro Ja) (k_Ws : Ro Jb) (k_Lo k_Hi n x_B x_C : Int) (Q : DS -> Prop) := Ar .i64 x_B fun z => Ar .i64 x_C fun z_2 => Ar .i64 (Zcd kQ k_Ws k_Lo k_Hi n) fun z_3 => Ar .i64 (z_3 + 1) fun z_4 => Need (!decide (z_4 = 0)) (Ar .i64 (z.tmod Zcf + z_2.tmod z_4) fun z_5 => Ar .i64 (z_5 - z.tmod Zcf) fun z_6 => Ar .i64 (Zcd kQ k_Ws k_Lo k_Hi n) fun z_7 => Vif (decide (z_6 = z_7)) (Vif (decide ((Sp.fairR kQ.xs k_Ws.xs k_Lo k_Hi n).lo <= z.tmod Zcf)) (Zce Q) (Pre True (Vif (decide (Sp.win (Sp.levD kQ.xs k_Ws.xs k_Lo k_Hi) (z.tmod Zcf) z_5 < n)) (Zce Q) (Q Zbx)))) (Pre True (Vif (decide (Sp.win (Sp.levD kQ.xs k_Ws.xs k_Lo k_Hi) (z.tmod Zcf) z_5 < n)) (Zce Q) (Q Zbx))))
def Zcc [W : InW] (kQ : Ro Ja) (k_Ws : Ro Jb) (k_Lo k_Hi n x_B x_C : Int) (Q : DS -> Prop) := Ar .i64 x_B fun z => Ar .i64 x_C fun z_1 => Ar .i64 (Zcd kQ k_Ws k_Lo k_Hi n) fun z_2 => Ar .i64 (z_2 + 1) fun z_3 => Need (!decide (z_3 = 0)) (Ar .i64 (z.tmod Zcf + z_1.tmod z_3) fun z_4 => Ar .i64 (z_4 - z.tmod Zcf) fun z_5 => Ar .i64 (Zcd kQ k_Ws k_Lo k_Hi n) fun z_6 => Vif (decide (z_5 = z_6)) (Vif (decide ((Sp.fairR kQ.xs k_Ws.xs k_Lo k_Hi n).lo <= z.tmod Zcf)) (Zce Q) (Pre True (Vif (decide (Sp.win (Sp.levD kQ.xs k_Ws.xs k_Lo k_Hi) (z.tmod Zcf) z_4 < n)) (Zce Q) (Q Zbx)))) (Pre True (Vif (decide (Sp.win (Sp.levD kQ.xs k_Ws.xs k_Lo k_Hi) (z.tmod Zcf) z_4 < n)) (Zce Q) (Q Zbx))))
def Xbt [W : InW] (kQ : Ro Ja) (k_Ws : Ro Jb) (k_Lo k_Hi n x_A x_B x_C : Int) (Q : DS -> Prop) : Prop :=
 Pre True (Pre True (Vif (!decide (Sp.chkE kQ.xs k_Ws.xs k_Lo k_Hi = 0)) (Zcg kQ k_Ws k_Lo k_Hi n Q) (Vif (decide (n < 1)) (Zcg kQ k_Ws k_Lo k_Hi n Q) (Pre (Sp.BankV kQ.xs k_Ws.xs k_Lo k_Hi) (Vif (!decide (Sp.fairE kQ.xs k_Ws.xs k_Lo k_Hi n = 0)) (Vif (decide (Sp.fairE kQ.xs k_Ws.xs k_Lo k_Hi n = 9)) (Vif (decide ((↑(List.length (Sp.levD kQ.xs k_Ws.xs k_Lo k_Hi)) : Int) < n)) (Zce Q) (Q Zbx)) (Q Zbx)) (Vif (decide ((↑(List.length (Sp.levD kQ.xs k_Ws.xs k_Lo k_Hi)) : Int) < n)) (Q Zbx) (Pre True (Vif (decide (Sp.win (Sp.levD kQ.xs k_Ws.xs k_Lo k_Hi) (Sp.fairR kQ.xs k_Ws.xs k_Lo k_Hi n).lo (Sp.fairR kQ.xs k_Ws.xs k_Lo k_Hi n).hi < n)) (Q Zbx) (Pre True (Vif (decide (Sp.win (Sp.levD kQ.xs k_Ws.xs k_Lo k_Hi) (Sp.fairR kQ.xs k_Ws.xs k_Lo k_Hi n).lo (Sp.fairR kQ.xs k_Ws.xs k_Lo k_Hi n).lo = 0)) (Q Zbx) (Pre True (Vif (decide (Sp.win (Sp.levD kQ.xs k_Ws.xs k_Lo k_Hi) (Sp.fairR kQ.xs k_Ws.xs k_Lo k_Hi n).hi (Sp.fairR kQ.xs k_Ws.xs k_Lo k_Hi n).hi = 0)) (Q Zbx) (Ar .i64 x_A fun z => Ar .i64 (n + z.tmod (20 : Int)) fun z => Pre True (Vif (!decide (Sp.fairE kQ.xs k_Ws.xs k_Lo k_Hi z = 0)) (Vif (!decide (Sp.fairE kQ.xs k_Ws.xs k_Lo k_Hi z = 9)) (Q Zbx) (Vif (decide (Sp.fairE kQ.xs k_Ws.xs k_Lo k_Hi z = 0)) (Ar .i64 ((Sp.fairR kQ.xs k_Ws.xs k_Lo k_Hi z).hi - (Sp.fairR kQ.xs k_Ws.xs k_Lo k_Hi z).lo) fun z => Ar .i64 (Zcd kQ k_Ws k_Lo k_Hi n) fun z_1 => Vif (decide (z < z_1)) (Q Zbx) (Zcb kQ k_Ws k_Lo k_Hi n x_B x_C Q)) (Zcc kQ k_Ws k_Lo k_Hi n x_B x_C Q))) (Vif (decide (Sp.fairE kQ.xs k_Ws.xs k_Lo k_Hi z = 0)) (Ar .i64 ((Sp.fairR kQ.xs k_Ws.xs k_Lo k_Hi z).hi - (Sp.fairR kQ.xs k_Ws.xs k_Lo k_Hi z).lo) fun z => Ar .i64 (Zcd kQ k_Ws k_Lo k_Hi n) fun z_1 => Vif (decide (z < z_1)) (Q Zbx) (Zcb kQ k_Ws k_Lo k_Hi n x_B x_C Q)) (Zcc kQ k_Ws k_Lo k_Hi n x_B x_C Q))))))))))))))))
theorem Xgs (W : InW) (kQ k_Ws k_Lo k_Hi n x_A x_B x_C Q) : Yw5 (cxT Try.prog TT TL13 1000 50) 1000 13 [.agg [.rs _ kQ, .rs _ k_Ws, .si .i64 k_Lo, .si .i64 k_Hi], .si .i64 n, .agg [.si .u16 x_A, .si .u16 x_B, .si .u16 x_C]] [] 0 (Y1i [(false, [.bool])] Q) (fun _ _ _ _ => Stuck 421) = Xbt kQ k_Ws k_Lo k_Hi n x_A x_B x_C Q := by kernel_rfl
abbrev X6 : List AT := [.agg [.sl Ja, .sl Jb, .int .i64, .int .i64], .one (.int .i64), .agg [.int .u16, .int .u16, .int .u16]]
theorem Xg9 {pre : DS -> Prop} {res : DS -> DS} (hyp_ : ∀ (W : InW) (kQ : Ro Ja) (k_Ws : Ro Jb) (k_Lo k_Hi n x_A x_B x_C : Int), pre [[.l kQ.xs, .l k_Ws.xs, .i k_Lo, .i k_Hi], [.i n], [.i x_A, .i x_B, .i x_C]] -> ∀ Q : DS -> Prop, Q (res [[.l kQ.xs, .l k_Ws.xs, .i k_Lo, .i k_Hi], [.i n], [.i x_A, .i x_B, .i x_C]]) -> Xbt kQ k_Ws k_Lo k_Hi n x_A x_B x_C Q) : PureOk Try.prog 13 X6 [(false, [.bool])] pre res :=
 PureOk.of' (fun W => @TT W) (fun W => @Xc W) Xa TL13 1000 50 fun W kQ k_Ws k_Lo k_Hi n x_A x_B x_C hp =>
  (Xgs W kQ k_Ws k_Lo k_Hi n x_A x_B x_C (fun o => o = res [[.l kQ.xs, .l k_Ws.xs, .i k_Lo, .i k_Hi], [.i n], [.i x_A, .i x_B, .i x_C]])).mpr (hyp_ W kQ k_Ws k_Lo k_Hi n x_A x_B x_C hp _ rfl)
theorem Xfb : PureOk Try.prog 13 X6 [(false, [.bool])] (WfD X6) fun _ => [[.b true]] :=
 Xg9 fun W qs ws lo hi k x y z hp Q h => by
  have w1 := Xfc (WfL.head (WfD.head (WfD.head (WfD.head hp).2).2).1).1;have v2 := (WfL.head (WfD.head (WfD.head (WfD.head hp).2).2).1).2;have w2 := Xfc (WfL.head v2).1;have w3 := Xfc (WfL.head (WfL.head v2).2).1;clear v2;unfold Xbt;delta Zcc Zcb Zcg Zbx Zce Zcf Zcd;have bad : Sp.fairE qs.xs ws.xs lo hi k ≠ 0 -> ∀ T T2 : Prop, Vif (!decide (Sp.fairE qs.xs ws.xs lo hi k = 0)) (Vif (decide ((Sp.fairR qs.xs ws.xs lo hi k).lo = 0) && (decide ((Sp.fairR qs.xs ws.xs lo hi k).hi = 0) && true)) (Pre True (Q [[.b true]])) T) T2 := fun hb T T2 => by
   rw [Sp.fairR_no hb];exact vifn (fun _ => vif (fun _ => ⟨trivial, h⟩) (fun g => by cases g)) (fun g => absurd g hb)
  refine ⟨trivial, trivial, vifn (fun e => bad (by unfold Sp.fairE; rw [if_neg e]; exact e) _ _) (fun e => vifd (fun hk => bad (by unfold Sp.fairE; rw [if_pos e, if_neg (by omega)]; decide) _ _) (fun hk => ⟨Sp.chkE_iff.1 e, ?_⟩))⟩;have bv := Sp.chkE_iff.1 e;have hl := Sp.length_levD qs.xs ws.xs lo hi;have b2 : 0 <= Sp.total qs.xs ws.xs lo hi /\ Sp.total qs.xs ws.xs lo hi <= 65536 := Sp.cnt_16 bv.n2 0 (Sp.v0 ws.xs);have hE := Sp.fairE_at (k := k) bv (by omega);refine vifn (fun f => vifd (fun _ => vifd (fun _ => ⟨trivial, h⟩) (fun g => absurd ?_ g)) (fun g => absurd ?_ g)) (fun f => ?_)
  ·by_cases hkt : k <= Sp.total qs.xs ws.xs lo hi
   ·rw [if_pos hkt] at hE; exact absurd hE f
   ·omega
  ·by_cases hkt : k <= Sp.total qs.xs ws.xs lo hi
   ·rw [if_pos hkt] at hE; exact absurd hE f
   ·rw [if_neg hkt] at hE; exact hE
  have hkt : k <= Sp.total qs.xs ws.xs lo hi := by
   by_cases hkt : k <= Sp.total qs.xs ws.xs lo hi
   ·exact hkt
   ·rw [if_neg hkt] at hE; omega
  have fo := Sp.fair_ok bv f;obtain ⟨l0, l1, l2, al, alo, ahi, mo, no⟩ := fo;generalize Sp.fairR qs.xs ws.xs lo hi k = R at *;have tail : ∀ T : Prop, (Ar .i64 y fun b => Ar .i64 z fun c => Ar .i64 (R.hi - R.lo) fun z3 => Ar .i64 (z3 + 1) fun z4 => Need (!decide (z4 = 0)) (Ar .i64 (b.tmod 16001 + c.tmod z4) fun z5 => Ar .i64 (z5 - b.tmod 16001) fun z6 => Ar .i64 (R.hi - R.lo) fun z7 => Vif (decide (z6 = z7)) (Vif (decide (R.lo <= b.tmod 16001)) (Pre True (Q [[.b true]])) (Pre True (Vif (decide (Sp.win (Sp.levD qs.xs ws.xs lo hi) (b.tmod 16001) z5 < k)) (Pre True (Q [[.b true]])) T))) (Pre True (Vif (decide (Sp.win (Sp.levD qs.xs ws.xs lo hi) (b.tmod 16001) z5 < k)) (Pre True (Q [[.b true]])) T)))) := fun T => by
   have hb := Sp.tmod_in (n := y) (m := 16001) w2.1 (by omega);have hc : 0 <= z.tmod (R.hi - R.lo + 1) /\ z.tmod (R.hi - R.lo + 1) < R.hi - R.lo + 1 := by
    rw [Int.tmod_eq_emod_of_nonneg w3.1];exact ⟨Int.emod_nonneg _ (by omega), Int.emod_lt_of_pos _ (by omega)⟩
   have hb2 : ((16001 : Nat) : Int) = 16001 := rfl;rw [hb2] at hb;refine ar64 (by omega) (ar64 (by omega) (ar64 (by omega) (ar64 (by omega) (ned (by rw [decide_eq_false (by omega)]; rfl) (ar64 (by omega) (ar64 (by omega) (ar64 (by omega) (vifd (fun g1 => vifd (fun _ => ⟨trivial, h⟩) (fun g2 => ⟨trivial, vifd (fun _ => ⟨trivial, h⟩) (fun g => absurd (no _ _ (by omega) (by omega)) g)⟩)) (fun g1 => ⟨trivial, vifd (fun _ => ⟨trivial, h⟩) (fun g => absurd (no _ _ (by omega) (by omega)) g)⟩)))))))))
  have hx : 0 <= x.tmod 20 := by
   rw [Int.tmod_eq_emod_of_nonneg w1.1]; omega
  have hx2 : x.tmod 20 < 20 := by
   rw [Int.tmod_eq_emod_of_nonneg w1.1]; omega
  refine vifd (fun g => absurd g (by omega)) (fun _ => ⟨trivial, vifd (fun g => absurd g (by omega)) (fun _ => ⟨trivial, vifd (fun g => absurd g (by omega)) (fun _ => ⟨trivial, vifd (fun g => absurd g (by omega)) (fun _ => ar64 (by omega) (ar64 (by omega) ⟨trivial, ?_⟩))⟩)⟩)⟩);have hE2 := Sp.fairE_at (k := k + x.tmod 20) bv (by omega);refine vifn (fun f2 => vifn (fun g => absurd ?_ g) (fun _ => vifd (fun g => absurd g f2) (fun _ => tail _))) (fun f2 => vifd (fun _ => ?_) (fun g => absurd f2 g))
  ·by_cases hkt2 : k + x.tmod 20 <= Sp.total qs.xs ws.xs lo hi
   ·rw [if_pos hkt2] at hE2; exact absurd hE2 f2
   ·rw [if_neg hkt2] at hE2; exact hE2
  ·obtain ⟨m1, m2, m3, m4, m5⟩ := mo _ (by omega) f2;exact ar64 (by omega) (ar64 (by omega) (vifd (fun g => absurd g (by omega)) (fun _ => tail _)))
end Go.Proofs.Ytilnbgpogfabaaa
namespace Go.Proofs.Ytilnbgpogfabaaa.paperFair
open Go.ChangeShapes Go.WideShapes Go.ChangeAt Go.RowKit
set_option maxRecDepth 100000
theorem own : ownKnob Try.prog.godebug = none := by kernel_rfl
theorem laid : laidOutB Try.prog = true := by kernel_rfl
theorem lifted (os : Os) (started : os.Started) (H : Type) (enc : TypeId × Value -> H) :
  ReturnsInHanded {} Try.checked os 13 .any (Rows.paperFairSpec.pre6 enc Try.prog Try.f13 Rows.paperFairRow.domain false) (Rows.paperFairSpec.post enc Try.prog Try.f13 false true false false) := by
 refine returnsInHanded_of_change (C := Try.checked) own started (by kernel_rfl) Try.func13
  (ChangeSpec.witness6 (enc := enc) (C := Try.checked) false ⟨#[], #[(.agg #[.slice none 0 0, .slice none 0 0, .int .i64 0, .int .i64 0]), (.int .i64 0), (.agg #[.int .u16 0, .int .u16 0, .int .u16 0])], []⟩ 8 (by kernel_rfl) (by kernel_rfl) (by kernel_rfl) (by kernel_rfl)) ?_
 intro W base args ds gs before hval hW _ _;exact law_end (f := Try.f13) (s := Rows.paperFairSpec) (by kernel_rfl) Try.underlying4 (by kernel_rfl) rfl laid (by kernel_rfl)
  (fun ds h => by match ds, (show ds.length = 3 from h) with | [_, _, _], _ => exact ⟨rfl, rfl, rfl⟩) Xfb hval hW
theorem over : Rows.paperFairRow.holds Try.pinned (OpenSpec.ofChange Rows.paperFairSpec) :=
 OpenClaim.holds_of_wide 13 Try.f13 rfl rfl rfl rfl rfl rfl rfl ⟨rfl, rfl, rfl, rfl, rfl⟩ rfl rfl rfl rfl rfl (by kernel_rfl) Try.func13 (by kernel_rfl)
  (of_decide_eq_true (by kernel_rfl)) (by unfold Func.isWrapper; first | (rw [if_pos (by decide +kernel)]; kernel_rfl) | (rw [if_neg (by decide +kernel)]; exact ⟨rfl, rfl⟩))
  (fun os started H enc _ => lifted os started H enc)
theorem proved : Rows.PaperFairSaid := over
end Go.Proofs.Ytilnbgpogfabaaa.paperFair
