/-
  'PaperMore': for every input the law returns true, and what is handed in reads as before. No condition.
-/
import Derived.Test.YtilnbgpogfabaaaQmoc
import Derived.Test.YtilnbgpogfabaaaRows
import Derived.WalkKit
import Derived.ProofKit
set_option linter.unusedVariables false
set_option linter.unusedSectionVars false
set_option linter.unusedSimpArgs false
namespace Go.Proofs.Ytilnbgpogfabaaa
open Go.RowKit
set_option maxRecDepth 100000
theorem vif_t [InW] {b : Bool} {A B : Prop} (hb : b = true) (ha : A) : Vif b A B := Vif_iff.2 ⟨fun _ => ha, fun h => absurd (hb.symm.trans h) (by decide)⟩
theorem Xft [W : InW] (Q : DS -> Prop) (h : Q [[.b true]]) : Xw Q := by
 unfold Xw;delta Zbq Zbr Zbt Zbs Zbp Zbo Zbu Zk
 repeat first | refine vif_t (by kernel_rfl) ?_ | refine Pre_iff.2 ⟨trivial, ?_⟩ | refine Pre_iff.2 ⟨by kernel_rfl, ?_⟩
 exact (congrArg Q (by kernel_rfl)).mpr h
noncomputable def Xff : PC Try.prog := ⟨23, [], [(false, [.bool])], fun _ => True, fun _ => [[.b true]], Xfn fun W hp Q h => Xft Q h⟩
namespace Sp
theorem eqI_refl (a : Dt) : eqI a a = true := eqI_iff.2 rfl
end Sp
namespace Sp
theorem apF_ext {ps pt p l : Dt} {c : Int} {j : Nat} (h : cel ps (cel l j 0).int.toNat 0 = cel pt (cel l j 0).int.toNat 0) : apF ps p l c j = apF pt p l c j := by unfold apF; rw [h]
theorem allF_ext {f g : Nat -> Bool} : ∀ {n i : Nat}, (∀ k, i <= k -> k < i + n -> f k = g k) -> allF f i n = allF g i n
 | 0, i, _ => rfl
 | n + 1, i, h => by rw [allF, allF, h i (by omega) (by omega), allF_ext fun k a b => h k (by omega) (by omega)]
theorem apP_ext {ps pt p : Dt} {S c : Int} {seat : Nat} (hS : 1 <= S) (h : ∀ j, j < seat -> cel ps j 0 = cel pt j 0) : apP ps p S seat c = apP pt p S seat c := by
 unfold apP;refine allF_ext fun k _ hk => apF_ext (h _ ?_);have hm : 0 < (seat : Int).tmod S -> 1 <= seat := fun h => by
  by_cases hz : seat = 0
  ·rw [hz] at h; simp at h
  ·omega
 rw [Nat.zero_add] at hk;have key : (cel (bfD S seat) k 0).int < seat /\ 0 < seat := by
  unfold bfD at hk ⊢
  split at hk
  ·rename_i a
   split at hk
   ·rename_i b;have := hm b;rw [if_pos a, if_pos b];have hk : k = 0 \/ k = 1 := by simp at hk; omega
    rcases hk with rfl | rfl
    ·show (seat : Int) - S < _ /\ _; omega
    ·show (seat : Int) - 1 < _ /\ _; omega
   ·rename_i b;rw [if_pos a, if_neg b];have hk : k = 0 := by simp at hk; omega
    subst hk
    show (seat : Int) - S < _ /\ _; omega
  ·rename_i a
   split at hk
   ·rename_i b;have := hm b;rw [if_neg a, if_pos b];have hk : k = 0 := by simp at hk; omega
    subst hk
    show (seat : Int) - 1 < _ /\ _; omega
   ·simp at hk
 omega
theorem fitF_ext {rs ps pt : Dt} {S c n : Int} {seat : Nat} (hS : 1 <= S) (h : ∀ j, j < seat -> cel ps j 0 = cel pt j 0) (k : Nat) : fitF rs ps S c seat n k = fitF rs pt S c seat n k := apP_ext hS h
structure Got (rs L : Dt) (S c n : Int) (j q : Nat) : Prop where
 lt : q < rs.length
 row : cel L j 0 = .l (pickP rs n q)
 fit : fitF rs L S c j n q = true
 no : ∀ k, k < q -> fitF rs L S c j n k = false
theorem drw_got {rs nums : Dt} {S c : Int} (hS : 1 <= S) : ∀ (m i : Nat) (ps : Dt), ps.length = i -> (drw rs nums S c i m ps).ok = true ->
  (drw rs nums S c i m ps).ps.length = i + m /\ (∀ j, j < i -> cel (drw rs nums S c i m ps).ps j 0 = cel ps j 0) /\ ∀ j, i <= j -> j < i + m -> ∃ q, Got rs (drw rs nums S c i m ps).ps S c (cel nums j 0).int j q
 | 0, i, ps, hl, h => ⟨by simpa [drw] using hl, fun j _ => rfl, fun j a b => by omega⟩
 | m + 1, i, ps, hl, h => by
  by_cases hf : fitB rs ps S c i (cel nums i 0).int 0 = true
  ·have e : drw rs nums S c i (m + 1) ps = drw rs nums S c (i + 1) m (fitR rs ps S c i (cel nums i 0).int 0) := by rw [drw, if_pos hf]
   have hl2 : (fitR rs ps S c i (cel nums i 0).int 0).length = i + 1 := by unfold fitR; rw [List.length_append, hl]; rfl
   rw [e] at h ⊢;obtain ⟨h1, h2, h3⟩ := drw_got (nums := nums) hS m (i + 1) _ hl2 h;have hpre : ∀ j, j < i -> cel (drw rs nums S c (i + 1) m (fitR rs ps S c i (cel nums i 0).int 0)).ps j 0 = cel ps j 0 := fun j hj => by
    rw [h2 j (by omega)]; unfold fitR; rw [cel_snoc (by omega)]
   refine ⟨by omega, hpre, fun j a b => ?_⟩
   by_cases hj : j = i
   ·subst hj;obtain ⟨f0, f1, f2, f3⟩ := fstF_spec (show anyF (fitF rs ps S c j (cel nums j 0).int) 0 (rs.length - 0) = true from hf);refine ⟨fstF (fitF rs ps S c j (cel nums j 0).int) 0 (rs.length - 0), by omega, ?_, ?_, fun k hk => ?_⟩
    ·rw [h2 j (by omega)];unfold fitR;rw [<- hl, cel_last];rfl
    ·rw [fitF_ext hS hpre]; exact f2
    ·rw [fitF_ext hS hpre]; exact f3 k (Nat.zero_le _) hk
   ·exact h3 j (by omega) (by omega)
  ·rw [drw, if_neg hf] at h; cases h
structure Drawn (qs ws : Dt) (lo hi r S c : Int) (nums : Dt) : Prop where
 bv : BankV qs ws lo hi
 ho : HallOk r S c nums.length
 nu : NuOk nums
 ro : RsOk (papD qs ws lo hi)
 len : (drawL qs ws lo hi r S c nums).length = nums.length
 got : ∀ j, j < nums.length -> ∃ q, Got (papD qs ws lo hi) (drawL qs ws lo hi r S c nums) S c (cel nums j 0).int j q
theorem drawE_ok {qs ws : Dt} {lo hi r S c : Int} {nums : Dt} (h : drawE qs ws lo hi r S c nums = 0) : Drawn qs ws lo hi r S c nums /\ (drw (papD qs ws lo hi) nums S c 0 nums.length []).ok = true := by
 have hL := drawL_ok h;unfold drawE at h
 split at h
 ·rename_i h1;obtain ⟨bv, ho⟩ := hallE_iff.1 h1
  split at h
  ·omega
  ·rename_i h2
   split at h
   ·omega
   ·rename_i h3
    split at h
    ·rename_i h4;have hf := ho.few;obtain ⟨d1, d2, d3⟩ := drw_got (rs := papD qs ws lo hi) (nums := nums) (c := c) ho.s1 nums.length 0 [] rfl h4;refine ⟨⟨bv, ho, nu_ok (Bool.eq_false_iff.2 h2) (by omega), rs_ok bv h3, ?_, fun j hj => ?_⟩, h4⟩
     ·rw [hL, d1, Nat.zero_add]
     ·rw [hL]; exact d3 j (Nat.zero_le _) (by omega)
    ·omega
 ·omega
theorem pick_ix {rs : Dt} {n : Int} {q : Nat} (hn : 0 <= n) (h1 : 1 <= rs.length) : ((n + q).tmod rs.length).toNat < rs.length := by
 have := tmod_in (n := n + q) (m := rs.length) (by omega) h1;omega
theorem Drawn.is {qs ws : Dt} {lo hi r S c : Int} {nums : Dt} (h : Drawn qs ws lo hi r S c nums) {j : Nat} (hj : j < nums.length) : isP qs ws lo hi (cel (drawL qs ws lo hi r S c nums) j 0).lst = true := by
 obtain ⟨q, hq⟩ := h.got j hj;rw [hq.row];have hn := h.nu.ok j hj;have hi' := pick_ix (q := q) hn.1 h.ro.n1
 show isP qs ws lo hi (pickP _ _ _) = true
 unfold pickP;rw [cel_papD hi'];exact paps_is h.bv (by simpa [papD] using hi')
theorem length_paps (qs ws : Dt) (lo hi : Int) : ((paps qs ws lo hi).length : Int) = total qs ws lo hi := rfl
theorem nthE_in {qs ws : Dt} {lo hi k : Int} (bv : BankV qs ws lo hi) (h0 : 0 <= k) (h1 : k < total qs ws lo hi) : nthE qs ws lo hi k = 0 := by
 unfold nthE;rw [if_pos (chkE_iff.2 bv), if_pos (inr_iff.2 (by omega))]
theorem nthR_in {qs ws : Dt} {lo hi k : Int} (bv : BankV qs ws lo hi) (h0 : 0 <= k) (h1 : k < total qs ws lo hi) : nthR qs ws lo hi k = (paps qs ws lo hi).getD k.toNat [] := by
 unfold nthR;rw [if_pos (nthE_in bv h0 h1)];rfl
theorem nthE_out {qs ws : Dt} {lo hi k : Int} (bv : BankV qs ws lo hi) (h : ¬ (0 <= k /\ k < total qs ws lo hi)) : nthE qs ws lo hi k = 4 := by
 unfold nthE;rw [if_pos (chkE_iff.2 bv), if_neg (fun e => h (by rw [inr_iff] at e; omega))]
theorem nth_is {qs ws : Dt} {lo hi k : Int} (bv : BankV qs ws lo hi) (h : nthE qs ws lo hi k = 0) : isP qs ws lo hi (nthR qs ws lo hi k) = true := by
 by_cases hk : 0 <= k /\ k < total qs ws lo hi
 ·rw [nthR_in bv hk.1 hk.2];have := length_paps qs ws lo hi;exact paps_is bv (by omega)
 ·rw [nthE_out bv hk] at h; omega
end Sp
theorem Xcy {n : Int} (h : WfC (.int .u16) (.i n)) : 0 <= n /\ n <= 65535 := by
 cases h with
 | int _ _ h => simp [Lit.wf, IntKind.min, IntKind.max, IntKind.signed, IntKind.bits] at h; omega
theorem WfL.head {t : Ty} {ts : List Ty} {c : Cl} {cs : List Cl} (h : WfL (t :: ts) (c :: cs)) : WfC t c /\ WfL ts cs := by
 cases h with
 | cons h hs => exact ⟨h, hs⟩
theorem WfD.head {a : AT} {ats : List AT} {d : List Cl} {ds : DS} (h : WfD (a :: ats) (d :: ds)) : WfA a d /\ WfD ats ds := by
 obtain ⟨d', ds', e, h1, h2⟩ := h;cases e;exact ⟨h1, h2⟩
namespace Sp
theorem Got.apP {rs L : Dt} {S c n : Int} {j q : Nat} (h : Got rs L S c n j q) : apP L (cel L j 0).lst S j c = true := by
 rw [h.row];exact h.fit
theorem outs_of {lo hi : Int} {xs : Dt} : ∀ {n i : Nat}, (∀ k, i <= k -> k < i + n -> inr (cel xs k 0).int lo hi = true) -> outs lo hi xs i n = false
 | 0, i, _ => rfl
 | n + 1, i, h => by
  rw [outs, h i (by omega) (by omega), outs_of fun k a b => h k (by omega) (by omega)];rfl
theorem NuOk.out {nums : Dt} (h : NuOk nums) : Sp.out 0 1000000000 nums = false := outs_of fun k _ hk => inr_iff.2 (h.ok k (by omega))
end Sp
namespace Sp
theorem pick_num {qs ws : Dt} {lo hi n : Int} (bv : BankV qs ws lo hi) (ro : RsOk (papD qs ws lo hi)) (hn : 0 <= n) (q : Nat) :
  0 <= (n + q).tmod (total qs ws lo hi) /\ (n + q).tmod (total qs ws lo hi) < total qs ws lo hi /\
  nthE qs ws lo hi ((n + q).tmod (total qs ws lo hi)) = 0 /\ nthR qs ws lo hi ((n + q).tmod (total qs ws lo hi)) = pickP (papD qs ws lo hi) n q /\
  numE qs ws lo hi (pickP (papD qs ws lo hi) n q) = 0 /\ numR qs ws lo hi (pickP (papD qs ws lo hi) n q) = (n + q).tmod (total qs ws lo hi) := by
 have hlp := length_papD qs ws lo hi;have hl := length_paps qs ws lo hi;have ht := tmod_in (n := n + q) (m := (papD qs ws lo hi).length) (by omega) ro.n1;rw [hlp] at ht;have e : pickP (papD qs ws lo hi) n q = (paps qs ws lo hi).getD ((n + q).tmod (total qs ws lo hi)).toNat [] := by
  unfold pickP;rw [hlp, cel_papD (by omega)]
 have hf := paps_fol (qs := qs) (ws := ws) (lo := lo) (hi := hi) (i := ((n + q).tmod (total qs ws lo hi)).toNat) (by omega);rw [<- e] at hf;have hE : numE qs ws lo hi (pickP (papD qs ws lo hi) n q) = 0 := by
  unfold numE;rw [if_pos (chkE_iff.2 bv), hf, if_pos rfl]
 refine ⟨ht.1, ht.2, nthE_in bv ht.1 ht.2, by rw [nthR_in bv ht.1 ht.2, e], hE, ?_⟩;unfold numR;rw [if_pos hE, hf]
 show (((n + (q : Int)).tmod (total qs ws lo hi)).toNat : Int) = _
 omega
end Sp
namespace Sp
theorem cnt_wide {qs : Dt} {lo hi lo2 hi2 : Int} (h1 : lo2 <= lo) (h2 : hi <= hi2) : ∀ m s v, cnt qs lo hi m s v <= cnt qs lo2 hi2 m s v := by
 have hn : ∀ s, (if inr s lo hi = true then (1 : Int) else 0) <= if inr s lo2 hi2 = true then 1 else 0 := fun s => by
  split
  ·rename_i h;rw [inr_iff] at h;rw [if_pos (inr_iff.2 (by omega))]; omega
  ·split <;> omega
 intro m
 induction m with
 | zero =>
  intro s v;cases hv : V4.nil v with
  | true => rw [cnt_nil hv, cnt_nil hv]; exact hn s
  | false => rw [cnt_zero hv, cnt_zero hv]; omega
 | succ m ih =>
  intro s v;cases hv : V4.nil v with
  | true => rw [cnt_nil hv, cnt_nil hv]; exact hn s
  | false =>
   have hv2 : ¬ V4.nil v = true := by simp [hv]
   have a1 := ih s v;have a2 := ih (s + wt qs (qs.length - (m + 1))) (V4.dec v (qPart qs (qs.length - (m + 1))));unfold cnt at a1 a2 ⊢;rw [gen, gen, if_neg hv2, if_neg hv2]
   split
   ·simp only [List.length_append, List.length_map]; omega
   ·simp only [List.nil_append]; exact a1
theorem bank_wide {qs ws : Dt} {lo hi lo2 hi2 : Int} (bv : BankV qs ws lo hi) (h0 : 0 <= lo2) (h1 : lo2 <= lo) (h2 : hi <= hi2) (h3 : hi2 <= 16000) : BankV qs ws lo2 hi2 :=
 ⟨bv.n1, bv.n2, bv.w1, bv.w2, h0, by have := bv.lh; omega, h3, bv.part, bv.ask, bv.bad, bv.want⟩
theorem isP_wide {qs ws : Dt} {lo hi lo2 hi2 : Int} {p : Dt} (h1 : lo2 <= lo) (h2 : hi <= hi2) (h : isP qs ws lo hi p = true) : isP qs ws lo2 hi2 p = true := by
 unfold isP at h ⊢;simp only [Bool.and_eq_true, inr_iff] at h ⊢;exact ⟨h.1, h.2.1, by omega, by omega⟩
theorem numE_is {qs ws : Dt} {lo hi : Int} {p : Dt} (bv : BankV qs ws lo hi) (h : isP qs ws lo hi p = true) : numE qs ws lo hi p = 0 := by
 unfold numE;rw [if_pos (chkE_iff.2 bv), fol_is bv, if_pos h]
theorem ap_16 {ps p : Dt} {S seat : Int} (h : ∀ j, (cel ps j 0).lst.length <= 16) : apP ps p S seat 16 = true := by
 unfold apP;refine allF_iff.2 fun k _ _ => decide_eq_true ?_;have h1 := (cmF_b (cel ps (cel (bfD S seat) k 0).int.toNat 0).lst p (cel ps (cel (bfD S seat) k 0).int.toNat 0).lst.length).2;have h2 := h (cel (bfD S seat) k 0).int.toNat;unfold cmn;omega
theorem cel_far {ps : Dt} {j : Nat} (h : ps.length <= j) : cel ps j 0 = .z := by
 simp [cel, List.getD_eq_getElem?_getD, List.getElem?_eq_none h]
theorem drw_16 {rs nums : Dt} {S : Int} (ro : RsOk rs) (hn : ∀ j, 0 <= (cel nums j 0).int) : ∀ (m i : Nat) (ps : Dt), (∀ j, (cel ps j 0).lst.length <= 16) -> (drw rs nums S 16 i m ps).ok = true
 | 0, i, ps, h => rfl
 | m + 1, i, ps, h => by
  have h1 := ro.n1;have hb : fitB rs ps S 16 i (cel nums i 0).int 0 = true := anyF_iff.2 ⟨0, Nat.le_refl _, by omega, ap_16 h⟩;rw [drw, if_pos hb];refine drw_16 ro hn m (i + 1) _ fun j => ?_;unfold fitR
  by_cases hj : j < ps.length
  ·rw [cel_snoc hj]; exact h j
  ·by_cases hj2 : j = ps.length
   ·subst hj2;rw [cel_last];exact ro.few _ (pick_ix (hn i) h1)
   ·rw [cel_far (by simp; omega)];simp [Cl.lst]
theorem Drawn.all16 {qs ws : Dt} {lo hi r S c : Int} {nums : Dt} (d : Drawn qs ws lo hi r S c nums) (j : Nat) : (cel (drawL qs ws lo hi r S c nums) j 0).lst.length <= 16 := by
 by_cases hj : j < nums.length
 ·obtain ⟨q, g⟩ := d.got j hj;rw [g.row];exact d.ro.few _ (pick_ix (d.nu.ok j hj).1 d.ro.n1)
 ·rw [cel_far (by rw [d.len]; omega)];simp [Cl.lst]
theorem Drawn.own {qs ws : Dt} {lo hi r S : Int} {nums : Dt} (d : Drawn qs ws lo hi r S 16 nums) {j : Nat} (hj : j < nums.length) :
  nthE qs ws lo hi ((cel nums j 0).int.tmod (total qs ws lo hi)) = 0 /\ (cel (drawL qs ws lo hi r S 16 nums) j 0).lst = nthR qs ws lo hi ((cel nums j 0).int.tmod (total qs ws lo hi)) := by
 obtain ⟨q, g⟩ := d.got j hj;have hn := (d.nu.ok j hj).1;have hq : q = 0 := by
  by_cases hz : q = 0
  ·exact hz
  ·have := g.no 0 (by omega);unfold fitF at this;rw [ap_16 d.all16] at this;cases this
 subst hq;obtain ⟨_, _, b2, b3, _⟩ := pick_num d.bv d.ro hn 0;rw [show (cel nums j 0).int + ((0 : Nat) : Int) = (cel nums j 0).int by omega] at b2 b3;rw [g.row, b3];exact ⟨b2, rfl⟩
theorem draw_16 {qs ws : Dt} {lo hi r S : Int} {nums : Dt} (bv : BankV qs ws lo hi) (h : 0 < total qs ws lo hi) : drawE qs ws lo hi r S 16 nums ≠ 4 /\ drawE qs ws lo hi r S 16 nums ≠ 9 := by
 have hc := chkE_iff.2 bv;unfold drawE
 split
 ·rename_i h1
  split
  ·omega
  ·rename_i h2;rw [if_neg (by omega)];have ho := (hallE_iff.1 h1).2;have hf := ho.few;have nu := nu_ok (Bool.eq_false_iff.2 h2) (by omega);have hok : (drw (papD qs ws lo hi) nums S 16 0 nums.length []).ok = true := drw_16 (rs_ok bv (by omega)) (fun j => by
    by_cases hj : j < nums.length
    ·exact (nu.ok j hj).1
    ·rw [cel_far (by omega)]; exact Int.le_refl _) _ _ _ fun j => by simp [cel, Cl.lst]
   rw [if_pos hok]; omega
 ·unfold hallE;rw [if_pos hc]
  split
  ·split <;> omega
  ·omega
theorem draw_none {qs ws : Dt} {lo hi r S c : Int} {nums : Dt} (h : drawE qs ws lo hi r S c nums = 0) : 0 < total qs ws lo hi := by
 obtain ⟨d, _⟩ := drawE_ok h;have := d.ro.n1;have := length_papD qs ws lo hi;omega
end Sp
set_option maxHeartbeats 1600000
noncomputable def TL14 : Tab Try.prog := ⟨[Xee, Xeh, Xeg, Xef, Xdh, Xb2, Xff], [], []⟩
def Zbw [W : InW] (kQ : Ro Ja) (k_Ws : Ro Jb) (k_Lo k_Hi x_Rows x_Seats : Int) (x_Nums : Ro Jb) := (↑(List.length (Sp.drawL kQ.xs k_Ws.xs k_Lo k_Hi x_Rows x_Seats (16 : Int) x_Nums.xs)) : Int)
def Zbv [W : InW] (kQ : Ro Ja) (k_Ws : Ro Jb) (k_Lo k_Hi x_Rows x_Seats : Int) (x_Nums : Ro Jb) (y_D : Int) (Q : DS -> Prop) := Pre True (Vif (!decide (Sp.drawE kQ.xs k_Ws.xs k_Lo k_Hi x_Rows x_Seats (16 : Int) x_Nums.xs = 0)) (Vif (decide (Sp.cntR kQ.xs k_Ws.xs k_Lo k_Hi = 0)) (Vif (decide ((Zbw kQ k_Ws k_Lo k_Hi x_Rows x_Seats x_Nums) = 0)) (Pre True (Q [[Cl.b true]])) (Q Zbr)) (Vif (!decide (Sp.drawE kQ.xs k_Ws.xs k_Lo k_Hi x_Rows x_Seats (16 : Int) x_Nums.xs = 4)) (Vif (!decide (Sp.drawE kQ.xs k_Ws.xs k_Lo k_Hi x_Rows x_Seats (16 : Int) x_Nums.xs = 9)) (Vif (decide ((Zbw kQ k_Ws k_Lo k_Hi x_Rows x_Seats x_Nums) = 0)) (Pre True (Q [[Cl.b true]])) (Q Zbr)) (Q Zbr)) (Q Zbr))) (Vif (decide (Sp.cntR kQ.xs k_Ws.xs k_Lo k_Hi = 0)) (Q Zbr) (Vif (decide ((Zbw kQ k_Ws k_Lo k_Hi x_Rows x_Seats x_Nums) = 0)) (Q Zbr) (Vif (!decide ((Zbw kQ k_Ws k_Lo k_Hi x_Rows x_Seats x_Nums) = (↑(x_Nums.xs.length) : Int))) (Q Zbr) (Ar .i64 y_D fun z => Need (!decide ((Zbw kQ k_Ws k_Lo k_Hi x_Rows x_Seats x_Nums) = 0)) (Need (decide (0 <= z.tmod (Zbw kQ k_Ws k_Lo k_Hi x_Rows x_Seats x_Nums)) && decide (z.tmod (Zbw kQ k_Ws k_Lo k_Hi x_Rows x_Seats x_Nums) < (↑(x_Nums.xs.length) : Int))) (Need (decide ((z.tmod (Zbw kQ k_Ws k_Lo k_Hi x_Rows x_Seats x_Nums)).toNat < x_Nums.xs.length)) (Vif (decide ((cel x_Nums.xs (z.tmod (Zbw kQ k_Ws k_Lo k_Hi x_Rows x_Seats x_Nums)).toNat Zbc).int < 0)) (Q Zbr) (Need (decide (0 <= z.tmod (Zbw kQ k_Ws k_Lo k_Hi x_Rows x_Seats x_Nums)) && decide (z.tmod (Zbw kQ k_Ws k_Lo k_Hi x_Rows x_Seats x_Nums) < (↑(x_Nums.xs.length) : Int))) (Need (decide ((z.tmod (Zbw kQ k_Ws k_Lo k_Hi x_Rows x_Seats x_Nums)).toNat < x_Nums.xs.length)) (Need (!decide (Sp.cntR kQ.xs k_Ws.xs k_Lo k_Hi = 0)) (Pre True (Vif (decide (Sp.nthE kQ.xs k_Ws.xs k_Lo k_Hi ((cel x_Nums.xs (z.tmod (Zbw kQ k_Ws k_Lo k_Hi x_Rows x_Seats x_Nums)).toNat Zbc).int.tmod (Sp.cntR kQ.xs k_Ws.xs k_Lo k_Hi)) = 0)) (Need (decide (0 <= z.tmod (Zbw kQ k_Ws k_Lo k_Hi x_Rows x_Seats x_Nums)) && decide (z.tmod (Zbw kQ k_Ws k_Lo k_Hi x_Rows x_Seats x_Nums) < (Zbw kQ k_Ws k_Lo k_Hi x_Rows x_Seats x_Nums))) (Need (decide ((z.tmod (Zbw kQ k_Ws k_Lo k_Hi x_Rows x_Seats x_Nums)).toNat < List.length (Sp.drawL kQ.xs k_Ws.xs k_Lo k_Hi x_Rows x_Seats (16 : Int) x_Nums.xs))) (Pre True (Vif (Sp.eqI (Sp.nthR kQ.xs k_Ws.xs k_Lo k_Hi ((cel x_Nums.xs (z.tmod (Zbw kQ k_Ws k_Lo k_Hi x_Rows x_Seats x_Nums)).toNat Zbc).int.tmod (Sp.cntR kQ.xs k_Ws.xs k_Lo k_Hi))) (cel (Sp.drawL kQ.xs k_Ws.xs k_Lo k_Hi x_Rows x_Seats (16 : Int) x_Nums.xs) (z.tmod (Zbw kQ k_Ws k_Lo k_Hi x_Rows x_Seats x_Nums)).toNat Zbc).lst) (Pre True (Q [[Cl.b true]])) (Q Zbr))))) (Q Zbr))))))))))))))
def Xbm [W : InW] (kQ : Ro Ja) (k_Ws : Ro Jb) (k_Lo k_Hi x_Rows x_Seats x_Com : Int) (x_Nums : Ro Jb) (y_A y_B y_C y_D : Int) (Q : DS -> Prop) : Prop :=
 Pre True (Vif (!decide (Sp.chkE kQ.xs k_Ws.xs k_Lo k_Hi = 0)) (Pre True (Q [[Cl.b true]])) (Pre True (Ar .i64 y_A fun z => Ar .i64 (k_Lo - z) fun z => Ar .i64 y_B fun z_1 => Ar .i64 (k_Hi + z_1) fun z_2 => Pre True (Vif (!decide (Sp.chkE kQ.xs k_Ws.xs k_Lo k_Hi = 0)) (Q Zbr) (Vif (!decide (Sp.chkE kQ.xs k_Ws.xs (max Zk z) (min (16000 : Int) z_2) = 0)) (Q Zbr) (Vif (decide (Sp.cntR kQ.xs k_Ws.xs k_Lo k_Hi < 0)) (Q Zbr) (Vif (decide (Sp.cntR kQ.xs k_Ws.xs (max Zk z) (min (16000 : Int) z_2) < Sp.cntR kQ.xs k_Ws.xs k_Lo k_Hi)) (Q Zbr) (Vif (decide (Zk < Sp.cntR kQ.xs k_Ws.xs k_Lo k_Hi)) (Ar .i64 y_C fun z_3 => Need (!decide (Sp.cntR kQ.xs k_Ws.xs k_Lo k_Hi = 0)) (Pre True (Pre True (Vif (!decide (Sp.nthE kQ.xs k_Ws.xs k_Lo k_Hi (z_3.tmod (Sp.cntR kQ.xs k_Ws.xs k_Lo k_Hi)) = 0)) (Q Zbr) (Vif (!decide (Sp.numE kQ.xs k_Ws.xs (max Zk z) (min (16000 : Int) z_2) (Sp.nthR kQ.xs k_Ws.xs k_Lo k_Hi (z_3.tmod (Sp.cntR kQ.xs k_Ws.xs k_Lo k_Hi))) = 0)) (Q Zbr) (Zbv kQ k_Ws k_Lo k_Hi x_Rows x_Seats x_Nums y_D Q)))))) (Zbv kQ k_Ws k_Lo k_Hi x_Rows x_Seats x_Nums y_D Q)))))))))
theorem Xe7 (W : InW) (kQ k_Ws k_Lo k_Hi x_Rows x_Seats x_Com x_Nums y_A y_B y_C y_D Q) : Yw5 (cxT Try.prog TT TL14 1000 50) 1000 14 [.agg [.rs _ kQ, .rs _ k_Ws, .si .i64 k_Lo, .si .i64 k_Hi], .agg [.si .i64 x_Rows, .si .i64 x_Seats, .si .i64 x_Com, .rs _ x_Nums], .agg [.si .u16 y_A, .si .u16 y_B, .si .u16 y_C, .si .u16 y_D]] [] 0 (Y1i [(false, [.bool])] Q) (fun _ _ _ _ => Stuck 421) = Xbm kQ k_Ws k_Lo k_Hi x_Rows x_Seats x_Com x_Nums y_A y_B y_C y_D Q := by kernel_rfl
abbrev X1 : List AT := [.agg [.sl Ja, .sl Jb, .int .i64, .int .i64], .agg [.int .i64, .int .i64, .int .i64, .sl Jb], .agg [.int .u16, .int .u16, .int .u16, .int .u16]]
theorem Xfm {pre : DS -> Prop} {res : DS -> DS} (hyp_ : ∀ (W : InW) (kQ : Ro Ja) (k_Ws : Ro Jb) (k_Lo k_Hi x_Rows x_Seats x_Com : Int) (x_Nums : Ro Jb) (y_A y_B y_C y_D : Int), pre [[.l kQ.xs, .l k_Ws.xs, .i k_Lo, .i k_Hi], [.i x_Rows, .i x_Seats, .i x_Com, .l x_Nums.xs], [.i y_A, .i y_B, .i y_C, .i y_D]] -> ∀ Q : DS -> Prop, Q (res [[.l kQ.xs, .l k_Ws.xs, .i k_Lo, .i k_Hi], [.i x_Rows, .i x_Seats, .i x_Com, .l x_Nums.xs], [.i y_A, .i y_B, .i y_C, .i y_D]]) -> Xbm kQ k_Ws k_Lo k_Hi x_Rows x_Seats x_Com x_Nums y_A y_B y_C y_D Q) : PureOk Try.prog 14 X1 [(false, [.bool])] pre res :=
 PureOk.of' (fun W => @TT W) (fun W => @Xc W) Xa TL14 1000 50 fun W kQ k_Ws k_Lo k_Hi x_Rows x_Seats x_Com x_Nums y_A y_B y_C y_D hp =>
  (Xe7 W kQ k_Ws k_Lo k_Hi x_Rows x_Seats x_Com x_Nums y_A y_B y_C y_D (fun o => o = res [[.l kQ.xs, .l k_Ws.xs, .i k_Lo, .i k_Hi], [.i x_Rows, .i x_Seats, .i x_Com, .l x_Nums.xs], [.i y_A, .i y_B, .i y_C, .i y_D]])).mpr (hyp_ W kQ k_Ws k_Lo k_Hi x_Rows x_Seats x_Com x_Nums y_A y_B y_C y_D hp _ rfl)
theorem Xd6 : PureOk Try.prog 14 X1 [(false, [.bool])] (WfD X1) fun _ => [[.b true]] :=
 Xfm fun W qs ws lo hi r S c nums y1 y2 y3 y4 hp Q h => by
  have w1 := Xcy (WfL.head (WfD.head (WfD.head (WfD.head hp).2).2).1).1;have v2 := (WfL.head (WfD.head (WfD.head (WfD.head hp).2).2).1).2;have w2 := Xcy (WfL.head v2).1;have w3 := Xcy (WfL.head (WfL.head v2).2).1;have w4 := Xcy (WfL.head (WfL.head (WfL.head v2).2).2).1;clear v2;unfold Xbm;delta Zbv Zbr Zbc Zbw Zk;refine ⟨trivial, vifn (fun _ => ⟨trivial, h⟩) (fun ec => ?_)⟩;have bv := Sp.chkE_iff.1 ec;have hl0 := bv.l0;have hlh := bv.lh;have hhh := bv.hh;have en : Sp.cntR qs.xs ws.xs lo hi = Sp.total qs.xs ws.xs lo hi := by unfold Sp.cntR; rw [if_pos ec]
  have b2 : 0 <= Sp.total qs.xs ws.xs lo hi /\ Sp.total qs.xs ws.xs lo hi <= 65536 := Sp.cnt_16 bv.n2 0 (Sp.v0 ws.xs);have bw := Sp.bank_wide (lo2 := max 0 (lo - y1)) (hi2 := min 16000 (hi + y2)) bv (by omega) (by omega) (by omega) (by omega);have ecw := Sp.chkE_iff.2 bw;have enw : Sp.cntR qs.xs ws.xs (max 0 (lo - y1)) (min 16000 (hi + y2)) = Sp.total qs.xs ws.xs (max 0 (lo - y1)) (min 16000 (hi + y2)) := by unfold Sp.cntR; rw [if_pos ecw]
  have hw : Sp.total qs.xs ws.xs lo hi <= Sp.total qs.xs ws.xs (max 0 (lo - y1)) (min 16000 (hi + y2)) := Sp.cnt_wide (by omega) (by omega) _ _ _;refine ⟨trivial, ar64 (by omega) (ar64 (by omega) (ar64 (by omega) (ar64 (by omega) ⟨trivial, ?_⟩)))⟩;rw [en, enw];refine vifn (fun g => absurd ec g) (fun _ => vifn (fun g => absurd ecw g) (fun _ => vifd (fun g => absurd g (by omega)) (fun _ => vifd (fun g => absurd g (by omega)) (fun _ => vifd (fun hz => ?_) (fun hz => ⟨trivial, vifn (fun e => vifd (fun _ => vifd (fun _ => ⟨trivial, h⟩) (fun g => absurd (by rw [Sp.drawL_no e]; rfl) g)) (fun g => absurd (by omega) g)) (fun e => absurd (Sp.draw_none e) hz)⟩)))));have hy : 0 <= y3.tmod (Sp.total qs.xs ws.xs lo hi) /\ y3.tmod (Sp.total qs.xs ws.xs lo hi) < Sp.total qs.xs ws.xs lo hi := by
   rw [Int.tmod_eq_emod_of_nonneg w3.1];exact ⟨Int.emod_nonneg _ (by omega), Int.emod_lt_of_pos _ (by omega)⟩
  have n1 := Sp.nthE_in bv hy.1 hy.2;have n2 := Sp.numE_is bw (Sp.isP_wide (by omega) (by omega) (Sp.nth_is bv n1));obtain ⟨d4, d9⟩ := Sp.draw_16 (r := r) (S := S) (nums := nums.xs) bv hz;refine ar64 (by omega) (ned (by rw [decide_eq_false (by omega)]; rfl) ⟨trivial, trivial, vifn (fun g => absurd n1 g) (fun _ => vifn (fun g => absurd n2 g) (fun _ => ⟨trivial, ?_⟩))⟩);refine vifn (fun e => vifd (fun g => absurd g (by omega)) (fun _ => vifn (fun _ => vifn (fun _ => vifd (fun _ => ⟨trivial, h⟩) (fun g => absurd (by rw [Sp.drawL_no e]; rfl) g)) (fun g => absurd g d9)) (fun g => absurd g d4))) (fun e => ?_);obtain ⟨d, _⟩ := Sp.drawE_ok e;have hl := d.len;have hf := d.nu.few;have h1 : 1 <= (nums.xs.length : Int) := by
   obtain ⟨a1, a2, a3, a4, a5, a6, a7⟩ := d.ho;rw [a7];exact Int.mul_le_mul a1 a3 (by omega) (by omega)
  have ht := Sp.tmod_in (n := y4) (m := nums.xs.length) w4.1 (by omega);have hkl : (y4.tmod nums.xs.length).toNat < nums.xs.length := by omega
  have hk0 := d.nu.ok _ hkl;obtain ⟨o1, o2⟩ := d.own hkl;rw [hl];refine vifd (fun g => absurd g (by omega)) (fun _ => vifd (fun g => absurd g (by omega)) (fun _ => vifn (fun g => absurd rfl g) (fun _ => ar64 (by omega) (ned (by rw [decide_eq_false (by omega)]; rfl) (ned (by simp; omega) (nedd hkl (vifd (fun g => absurd g (by omega)) (fun _ => ned (by simp; omega) (nedd hkl (ned (by rw [decide_eq_false (by omega)]; rfl) ⟨trivial, vifd (fun _ => ?_) (fun g => absurd o1 g)⟩))))))))));refine ned (by simp; omega) (nedd hkl ⟨trivial, ?_⟩);rw [o2, Sp.eqI_refl];exact vif (fun _ => ⟨trivial, h⟩) (fun g => by cases g)
end Go.Proofs.Ytilnbgpogfabaaa
namespace Go.Proofs.Ytilnbgpogfabaaa.paperMore
open Go.ChangeShapes Go.WideShapes Go.ChangeAt Go.RowKit
set_option maxRecDepth 100000
theorem own : ownKnob Try.prog.godebug = none := by kernel_rfl
theorem laid : laidOutB Try.prog = true := by kernel_rfl
theorem lifted (os : Os) (started : os.Started) (H : Type) (enc : TypeId × Value -> H) :
  ReturnsInHanded {} Try.checked os 14 .any (Rows.paperMoreSpec.pre6 enc Try.prog Try.f14 Rows.paperMoreRow.domain false) (Rows.paperMoreSpec.post enc Try.prog Try.f14 false true false false) := by
 refine returnsInHanded_of_change (C := Try.checked) own started (by kernel_rfl) Try.func14
  (ChangeSpec.witness6 (enc := enc) (C := Try.checked) false ⟨#[], #[(.agg #[.slice none 0 0, .slice none 0 0, .int .i64 0, .int .i64 0]), (.agg #[.int .i64 0, .int .i64 0, .int .i64 0, .slice none 0 0]), (.agg #[.int .u16 0, .int .u16 0, .int .u16 0, .int .u16 0])], []⟩ 8 (by kernel_rfl) (by kernel_rfl) (by kernel_rfl) (by kernel_rfl)) ?_
 intro W base args ds gs before hval hW _ _;exact law_end (f := Try.f14) (s := Rows.paperMoreSpec) (by kernel_rfl) Try.underlying4 (by kernel_rfl) rfl laid (by kernel_rfl)
  (fun ds h => by match ds, (show ds.length = 3 from h) with | [_, _, _], _ => exact ⟨rfl, rfl, rfl⟩) Xd6 hval hW
theorem over : Rows.paperMoreRow.holds Try.pinned (OpenSpec.ofChange Rows.paperMoreSpec) :=
 OpenClaim.holds_of_wide 14 Try.f14 rfl rfl rfl rfl rfl rfl rfl ⟨rfl, rfl, rfl, rfl, rfl⟩ rfl rfl rfl rfl rfl (by kernel_rfl) Try.func14 (by kernel_rfl)
  (of_decide_eq_true (by kernel_rfl)) (by unfold Func.isWrapper; first | (rw [if_pos (by decide +kernel)]; kernel_rfl) | (rw [if_neg (by decide +kernel)]; exact ⟨rfl, rfl⟩))
  (fun os started H enc _ => lifted os started H enc)
theorem proved : Rows.PaperMoreSaid := over
end Go.Proofs.Ytilnbgpogfabaaa.paperMore
