/-
  'PaperRepeated': for every input the law returns true, and what is handed in reads as before. No condition.
-/
import Derived.Test.YtilnbgpogfabaaaQrpc
import Derived.Test.YtilnbgpogfabaaaRows
import Derived.WalkKit
import Derived.ProofKit
set_option linter.unusedVariables false
set_option linter.unusedSectionVars false
set_option linter.unusedSimpArgs false
namespace Go.Proofs.Ytilnbgpogfabaaa
open Go.RowKit
set_option maxRecDepth 100000
theorem vif_t [InW] {b : Bool} {A B : Prop} (hb : b = true) (ha : A) : Vif b A B := Vif_iff.2 ⟨fun _ => ha, fun h => absurd (hb.symm.trans h) (by decide)⟩
theorem Xgc [W : InW] (Q : DS -> Prop) (h : Q [[.b true]]) : Xw Q := by
 unfold Xw;delta Zbq Zbr Zbt Zbs Zbp Zbo Zbu Zk
 repeat first | refine vif_t (by kernel_rfl) ?_ | refine Pre_iff.2 ⟨trivial, ?_⟩ | refine Pre_iff.2 ⟨by kernel_rfl, ?_⟩
 exact (congrArg Q (by kernel_rfl)).mpr h
noncomputable def Xfv : PC Try.prog := ⟨23, [], [(false, [.bool])], fun _ => True, fun _ => [[.b true]], Xf3 fun W hp Q h => Xgc Q h⟩
namespace Sp
theorem apF_ext {ps pt p l : Dt} {c : Int} {j : Nat} (h : cel ps (cel l j 0).int.toNat 0 = cel pt (cel l j 0).int.toNat 0) : apF ps p l c j = apF pt p l c j := by unfold apF; rw [h]
theorem allF_ext {f g : Nat -> Bool} : ∀ {n i : Nat}, (∀ k, i <= k -> k < i + n -> f k = g k) -> allF f i n = allF g i n
 | 0, i, _ => rfl
 | n + 1, i, h => by rw [allF, allF, h i (by omega) (by omega), allF_ext fun k a b => h k (by omega) (by omega)]
theorem apP_ext {ps pt p : Dt} {S c : Int} {seat : Nat} (hS : 1 <= S) (h : ∀ j, j < seat -> cel ps j 0 = cel pt j 0) : apP ps p S seat c = apP pt p S seat c := by
 unfold apP;refine allF_ext fun k _ hk => apF_ext (h _ ?_);have hm : 0 < (seat : Int).tmod S -> 1 <= seat := fun h => by
  by_cases hz : seat = 0
  ·rw [hz] at h; simp at h
  ·omega
 rw [Nat.zero_add] at hk;have key : (cel (bfD S seat) k 0).int < seat /\ 0 < seat := by
  unfold bfD at hk ⊢
  split at hk
  ·rename_i a
   split at hk
   ·rename_i b;have := hm b;rw [if_pos a, if_pos b];have hk : k = 0 \/ k = 1 := by simp at hk; omega
    rcases hk with rfl | rfl
    ·show (seat : Int) - S < _ /\ _; omega
    ·show (seat : Int) - 1 < _ /\ _; omega
   ·rename_i b;rw [if_pos a, if_neg b];have hk : k = 0 := by simp at hk; omega
    subst hk
    show (seat : Int) - S < _ /\ _; omega
  ·rename_i a
   split at hk
   ·rename_i b;have := hm b;rw [if_neg a, if_pos b];have hk : k = 0 := by simp at hk; omega
    subst hk
    show (seat : Int) - 1 < _ /\ _; omega
   ·simp at hk
 omega
theorem fitF_ext {rs ps pt : Dt} {S c n : Int} {seat : Nat} (hS : 1 <= S) (h : ∀ j, j < seat -> cel ps j 0 = cel pt j 0) (k : Nat) : fitF rs ps S c seat n k = fitF rs pt S c seat n k := apP_ext hS h
structure Got (rs L : Dt) (S c n : Int) (j q : Nat) : Prop where
 lt : q < rs.length
 row : cel L j 0 = .l (pickP rs n q)
 fit : fitF rs L S c j n q = true
 no : ∀ k, k < q -> fitF rs L S c j n k = false
theorem drw_got {rs nums : Dt} {S c : Int} (hS : 1 <= S) : ∀ (m i : Nat) (ps : Dt), ps.length = i -> (drw rs nums S c i m ps).ok = true ->
  (drw rs nums S c i m ps).ps.length = i + m /\ (∀ j, j < i -> cel (drw rs nums S c i m ps).ps j 0 = cel ps j 0) /\ ∀ j, i <= j -> j < i + m -> ∃ q, Got rs (drw rs nums S c i m ps).ps S c (cel nums j 0).int j q
 | 0, i, ps, hl, h => ⟨by simpa [drw] using hl, fun j _ => rfl, fun j a b => by omega⟩
 | m + 1, i, ps, hl, h => by
  by_cases hf : fitB rs ps S c i (cel nums i 0).int 0 = true
  ·have e : drw rs nums S c i (m + 1) ps = drw rs nums S c (i + 1) m (fitR rs ps S c i (cel nums i 0).int 0) := by rw [drw, if_pos hf]
   have hl2 : (fitR rs ps S c i (cel nums i 0).int 0).length = i + 1 := by unfold fitR; rw [List.length_append, hl]; rfl
   rw [e] at h ⊢;obtain ⟨h1, h2, h3⟩ := drw_got (nums := nums) hS m (i + 1) _ hl2 h;have hpre : ∀ j, j < i -> cel (drw rs nums S c (i + 1) m (fitR rs ps S c i (cel nums i 0).int 0)).ps j 0 = cel ps j 0 := fun j hj => by
    rw [h2 j (by omega)]; unfold fitR; rw [cel_snoc (by omega)]
   refine ⟨by omega, hpre, fun j a b => ?_⟩
   by_cases hj : j = i
   ·subst hj;obtain ⟨f0, f1, f2, f3⟩ := fstF_spec (show anyF (fitF rs ps S c j (cel nums j 0).int) 0 (rs.length - 0) = true from hf);refine ⟨fstF (fitF rs ps S c j (cel nums j 0).int) 0 (rs.length - 0), by omega, ?_, ?_, fun k hk => ?_⟩
    ·rw [h2 j (by omega)];unfold fitR;rw [<- hl, cel_last];rfl
    ·rw [fitF_ext hS hpre]; exact f2
    ·rw [fitF_ext hS hpre]; exact f3 k (Nat.zero_le _) hk
   ·exact h3 j (by omega) (by omega)
  ·rw [drw, if_neg hf] at h; cases h
structure Drawn (qs ws : Dt) (lo hi r S c : Int) (nums : Dt) : Prop where
 bv : BankV qs ws lo hi
 ho : HallOk r S c nums.length
 nu : NuOk nums
 ro : RsOk (papD qs ws lo hi)
 len : (drawL qs ws lo hi r S c nums).length = nums.length
 got : ∀ j, j < nums.length -> ∃ q, Got (papD qs ws lo hi) (drawL qs ws lo hi r S c nums) S c (cel nums j 0).int j q
theorem drawE_ok {qs ws : Dt} {lo hi r S c : Int} {nums : Dt} (h : drawE qs ws lo hi r S c nums = 0) : Drawn qs ws lo hi r S c nums /\ (drw (papD qs ws lo hi) nums S c 0 nums.length []).ok = true := by
 have hL := drawL_ok h;unfold drawE at h
 split at h
 ·rename_i h1;obtain ⟨bv, ho⟩ := hallE_iff.1 h1
  split at h
  ·omega
  ·rename_i h2
   split at h
   ·omega
   ·rename_i h3
    split at h
    ·rename_i h4;have hf := ho.few;obtain ⟨d1, d2, d3⟩ := drw_got (rs := papD qs ws lo hi) (nums := nums) (c := c) ho.s1 nums.length 0 [] rfl h4;refine ⟨⟨bv, ho, nu_ok (Bool.eq_false_iff.2 h2) (by omega), rs_ok bv h3, ?_, fun j hj => ?_⟩, h4⟩
     ·rw [hL, d1, Nat.zero_add]
     ·rw [hL]; exact d3 j (Nat.zero_le _) (by omega)
    ·omega
 ·omega
theorem pick_ix {rs : Dt} {n : Int} {q : Nat} (hn : 0 <= n) (h1 : 1 <= rs.length) : ((n + q).tmod rs.length).toNat < rs.length := by
 have := tmod_in (n := n + q) (m := rs.length) (by omega) h1;omega
theorem Drawn.is {qs ws : Dt} {lo hi r S c : Int} {nums : Dt} (h : Drawn qs ws lo hi r S c nums) {j : Nat} (hj : j < nums.length) : isP qs ws lo hi (cel (drawL qs ws lo hi r S c nums) j 0).lst = true := by
 obtain ⟨q, hq⟩ := h.got j hj;rw [hq.row];have hn := h.nu.ok j hj;have hi' := pick_ix (q := q) hn.1 h.ro.n1
 show isP qs ws lo hi (pickP _ _ _) = true
 unfold pickP;rw [cel_papD hi'];exact paps_is h.bv (by simpa [papD] using hi')
theorem length_paps (qs ws : Dt) (lo hi : Int) : ((paps qs ws lo hi).length : Int) = total qs ws lo hi := rfl
theorem nthE_in {qs ws : Dt} {lo hi k : Int} (bv : BankV qs ws lo hi) (h0 : 0 <= k) (h1 : k < total qs ws lo hi) : nthE qs ws lo hi k = 0 := by
 unfold nthE;rw [if_pos (chkE_iff.2 bv), if_pos (inr_iff.2 (by omega))]
theorem nthR_in {qs ws : Dt} {lo hi k : Int} (bv : BankV qs ws lo hi) (h0 : 0 <= k) (h1 : k < total qs ws lo hi) : nthR qs ws lo hi k = (paps qs ws lo hi).getD k.toNat [] := by
 unfold nthR;rw [if_pos (nthE_in bv h0 h1)];rfl
end Sp
theorem Xgd {n : Int} (h : WfC (.int .u16) (.i n)) : 0 <= n /\ n <= 65535 := by
 cases h with
 | int _ _ h => simp [Lit.wf, IntKind.min, IntKind.max, IntKind.signed, IntKind.bits] at h; omega
theorem WfL.head {t : Ty} {ts : List Ty} {c : Cl} {cs : List Cl} (h : WfL (t :: ts) (c :: cs)) : WfC t c /\ WfL ts cs := by
 cases h with
 | cons h hs => exact ⟨h, hs⟩
theorem WfD.head {a : AT} {ats : List AT} {d : List Cl} {ds : DS} (h : WfD (a :: ats) (d :: ds)) : WfA a d /\ WfD ats ds := by
 obtain ⟨d', ds', e, h1, h2⟩ := h;cases e;exact ⟨h1, h2⟩
namespace Sp
theorem Got.apP {rs L : Dt} {S c n : Int} {j q : Nat} (h : Got rs L S c n j q) : apP L (cel L j 0).lst S j c = true := by
 rw [h.row];exact h.fit
theorem outs_of {lo hi : Int} {xs : Dt} : ∀ {n i : Nat}, (∀ k, i <= k -> k < i + n -> inr (cel xs k 0).int lo hi = true) -> outs lo hi xs i n = false
 | 0, i, _ => rfl
 | n + 1, i, h => by
  rw [outs, h i (by omega) (by omega), outs_of fun k a b => h k (by omega) (by omega)];rfl
theorem NuOk.out {nums : Dt} (h : NuOk nums) : Sp.out 0 1000000000 nums = false := outs_of fun k _ hk => inr_iff.2 (h.ok k (by omega))
end Sp
namespace Sp
theorem tm_add {n t : Int} {T : Nat} (hn : 0 <= n) (ht : 0 <= t) (h1 : 1 <= T) : (n.tmod T + t).tmod T = (n + t).tmod T := by
 have h := tmod_in hn h1;rw [Int.tmod_eq_emod_of_nonneg hn] at h ⊢;rw [Int.tmod_eq_emod_of_nonneg (by omega), Int.tmod_eq_emod_of_nonneg (by omega), Int.emod_add_emod]
theorem tm_back {n q : Int} {T : Nat} (hn : 0 <= n) (hq : 0 <= q) (hT : q < T) : ((n + q).tmod T - n.tmod T + T).tmod T = q := by
 have ha := tmod_in hn (show 1 <= T by omega);rw [<- tm_add hn hq (by omega)];generalize n.tmod T = a at *
 by_cases h : a + q < T
 ·have e : (a + q).tmod T = a + q := by rw [Int.tmod_eq_emod_of_nonneg (by omega), Int.emod_eq_of_lt (by omega) h]
  rw [e, show a + q - a + (T : Int) = q + T by omega, Int.tmod_eq_emod_of_nonneg (by omega), Int.add_emod_right, Int.emod_eq_of_lt hq hT]
 ·have e : (a + q).tmod T = a + q - T := by
   rw [Int.tmod_eq_emod_of_nonneg (by omega), show a + q = (a + q - T) + T by omega, Int.add_emod_right, Int.emod_eq_of_lt (by omega) (by omega)];omega
  rw [e, show a + q - (T : Int) - a + (T : Int) = q by omega, Int.tmod_eq_emod_of_nonneg hq, Int.emod_eq_of_lt hq hT]
theorem pick_num {qs ws : Dt} {lo hi n : Int} (bv : BankV qs ws lo hi) (ro : RsOk (papD qs ws lo hi)) (hn : 0 <= n) (q : Nat) :
  0 <= (n + q).tmod (total qs ws lo hi) /\ (n + q).tmod (total qs ws lo hi) < total qs ws lo hi /\
  nthE qs ws lo hi ((n + q).tmod (total qs ws lo hi)) = 0 /\ nthR qs ws lo hi ((n + q).tmod (total qs ws lo hi)) = pickP (papD qs ws lo hi) n q /\
  numE qs ws lo hi (pickP (papD qs ws lo hi) n q) = 0 /\ numR qs ws lo hi (pickP (papD qs ws lo hi) n q) = (n + q).tmod (total qs ws lo hi) := by
 have hlp := length_papD qs ws lo hi;have hl := length_paps qs ws lo hi;have ht := tmod_in (n := n + q) (m := (papD qs ws lo hi).length) (by omega) ro.n1;rw [hlp] at ht;have e : pickP (papD qs ws lo hi) n q = (paps qs ws lo hi).getD ((n + q).tmod (total qs ws lo hi)).toNat [] := by
  unfold pickP;rw [hlp, cel_papD (by omega)]
 have hf := paps_fol (qs := qs) (ws := ws) (lo := lo) (hi := hi) (i := ((n + q).tmod (total qs ws lo hi)).toNat) (by omega);rw [<- e] at hf;have hE : numE qs ws lo hi (pickP (papD qs ws lo hi) n q) = 0 := by
  unfold numE;rw [if_pos (chkE_iff.2 bv), hf, if_pos rfl]
 refine ⟨ht.1, ht.2, nthE_in bv ht.1 ht.2, by rw [nthR_in bv ht.1 ht.2, e], hE, ?_⟩;unfold numR;rw [if_pos hE, hf]
 show (((n + (q : Int)).tmod (total qs ws lo hi)).toNat : Int) = _
 omega
theorem Drawn.ap {qs ws : Dt} {lo hi r S c : Int} {nums : Dt} (d : Drawn qs ws lo hi r S c nums) {j : Nat} (hj : j < nums.length) {p : Dt} (h : NoD p) : ApOk S j (drawL qs ws lo hi r S c nums) p :=
 ⟨d.ho.s1, d.ho.s6, by omega, by have := d.len; omega, h⟩
theorem pick_nod {rs : Dt} {n : Int} (ro : RsOk rs) (hn : 0 <= n) (q : Nat) : NoD (pickP rs n q) := ro.nod _ (pick_ix hn ro.n1)
structure Rep (qs ws : Dt) (lo hi r S c : Int) (nums : Dt) (j : Nat) (q : Int) : Prop where
 q0 : 0 <= q
 q1 : q < total qs ws lo hi
 numE : numE qs ws lo hi (cel (drawL qs ws lo hi r S c nums) j 0).lst = 0
 back : (numR qs ws lo hi (cel (drawL qs ws lo hi r S c nums) j 0).lst - (cel nums j 0).int.tmod (total qs ws lo hi) + total qs ws lo hi).tmod (total qs ws lo hi) = q
 nr : 0 <= numR qs ws lo hi (cel (drawL qs ws lo hi r S c nums) j 0).lst /\ numR qs ws lo hi (cel (drawL qs ws lo hi r S c nums) j 0).lst < total qs ws lo hi
 ao : ApOk S j (drawL qs ws lo hi r S c nums) (cel (drawL qs ws lo hi r S c nums) j 0).lst
 ap : apP (drawL qs ws lo hi r S c nums) (cel (drawL qs ws lo hi r S c nums) j 0).lst S j c = true
 no : ∀ t : Int, 0 <= t -> t < q -> nthE qs ws lo hi (((cel nums j 0).int.tmod (total qs ws lo hi) + t).tmod (total qs ws lo hi)) = 0 /\
  ApOk S j (drawL qs ws lo hi r S c nums) (nthR qs ws lo hi (((cel nums j 0).int.tmod (total qs ws lo hi) + t).tmod (total qs ws lo hi))) /\
  apP (drawL qs ws lo hi r S c nums) (nthR qs ws lo hi (((cel nums j 0).int.tmod (total qs ws lo hi) + t).tmod (total qs ws lo hi))) S j c = false
theorem Drawn.rep {qs ws : Dt} {lo hi r S c : Int} {nums : Dt} (d : Drawn qs ws lo hi r S c nums) {j : Nat} (hj : j < nums.length) : ∃ q, Rep qs ws lo hi r S c nums j q := by
 obtain ⟨q, g⟩ := d.got j hj;have hn := (d.nu.ok j hj).1;have hlp := length_papD qs ws lo hi;have hT : 1 <= (papD qs ws lo hi).length := d.ro.n1;obtain ⟨b0, b1, b2, b3, b4, b5⟩ := pick_num d.bv d.ro hn q;have hrow : (cel (drawL qs ws lo hi r S c nums) j 0).lst = pickP (papD qs ws lo hi) (cel nums j 0).int q := by rw [g.row]; rfl
 have hlt := g.lt;refine ⟨q, by omega, by omega, by rw [hrow]; exact b4, ?_, by rw [hrow, b5]; exact ⟨b0, b1⟩, d.ap hj (by rw [hrow]; exact pick_nod d.ro hn q), g.apP, fun t t0 t1 => ?_⟩
 ·rw [hrow, b5, <- hlp];exact tm_back hn (by omega) (by omega)
 ·obtain ⟨c0, c1, c2, c3, _⟩ := pick_num d.bv d.ro hn t.toNat;have e : ((cel nums j 0).int.tmod (total qs ws lo hi) + t).tmod (total qs ws lo hi) = ((cel nums j 0).int + (t.toNat : Int)).tmod (total qs ws lo hi) := by
   rw [Int.toNat_of_nonneg t0, <- hlp];exact tm_add hn t0 hT
  rw [e, c3];exact ⟨c2, d.ap hj (pick_nod d.ro hn _), g.no t.toNat (by omega)⟩
end Sp
set_option maxHeartbeats 1600000
noncomputable def TL12 : Tab Try.prog := ⟨[Xdj, Xeh, Xek, Xei, Xej, Xiz, Xfv], [], []⟩
def Zbv [W : InW] (kQ : Ro Ja) (k_Ws : Ro Jb) (k_Lo k_Hi x_Rows x_Seats x_Com : Int) (x_Nums : Ro Jb) := (↑(List.length (Sp.drawL kQ.xs k_Ws.xs k_Lo k_Hi x_Rows x_Seats x_Com x_Nums.xs)) : Int)
def Zbw [W : InW] (kQ : Ro Ja) (k_Ws : Ro Jb) (k_Lo k_Hi x_Rows x_Seats x_Com : Int) (x_Nums : Ro Jb) (Q : DS -> Prop) := Vif (!decide (Sp.drawE kQ.xs k_Ws.xs k_Lo k_Hi x_Rows x_Seats x_Com x_Nums.xs = 0)) (Vif (decide ((Zbv kQ k_Ws k_Lo k_Hi x_Rows x_Seats x_Com x_Nums) = 0)) (Pre True (Q [[Cl.b true]])) (Q Zbr)) (Q Zbr)
def Xbn [W : InW] (kQ : Ro Ja) (k_Ws : Ro Jb) (k_Lo k_Hi x_Rows x_Seats x_Com : Int) (x_Nums : Ro Jb) (y_A y_B : Int) (Q : DS -> Prop) : Prop :=
 Pre True (Vif (!decide (Sp.drawE kQ.xs k_Ws.xs k_Lo k_Hi x_Rows x_Seats x_Com x_Nums.xs = 0)) (Zbw kQ k_Ws k_Lo k_Hi x_Rows x_Seats x_Com x_Nums Q) (Pre True (Vif (!decide (Sp.chkE kQ.xs k_Ws.xs k_Lo k_Hi = 0)) (Zbw kQ k_Ws k_Lo k_Hi x_Rows x_Seats x_Com x_Nums Q) (Vif (decide ((↑(x_Nums.xs.length) : Int) = 0)) (Zbw kQ k_Ws k_Lo k_Hi x_Rows x_Seats x_Com x_Nums Q) (Pre True (Vif (!decide (Sp.chkE kQ.xs k_Ws.xs k_Lo k_Hi = 0)) (Q Zbr) (Vif (decide (Sp.cntR kQ.xs k_Ws.xs k_Lo k_Hi < 1)) (Q Zbr) (Vif (!decide ((Zbv kQ k_Ws k_Lo k_Hi x_Rows x_Seats x_Com x_Nums) = (↑(x_Nums.xs.length) : Int))) (Q Zbr) (Vif (decide (x_Seats < 1)) (Q Zbr) (Ar .i64 (x_Rows * x_Seats) fun z => Vif (!decide (z = (Zbv kQ k_Ws k_Lo k_Hi x_Rows x_Seats x_Com x_Nums))) (Q Zbr) (Ar .i64 y_A fun z => Need (!decide ((Zbv kQ k_Ws k_Lo k_Hi x_Rows x_Seats x_Com x_Nums) = 0)) (Need (decide (0 <= z.tmod (Zbv kQ k_Ws k_Lo k_Hi x_Rows x_Seats x_Com x_Nums)) && decide (z.tmod (Zbv kQ k_Ws k_Lo k_Hi x_Rows x_Seats x_Com x_Nums) < (Zbv kQ k_Ws k_Lo k_Hi x_Rows x_Seats x_Com x_Nums))) (Need (decide ((z.tmod (Zbv kQ k_Ws k_Lo k_Hi x_Rows x_Seats x_Com x_Nums)).toNat < List.length (Sp.drawL kQ.xs k_Ws.xs k_Lo k_Hi x_Rows x_Seats x_Com x_Nums.xs))) (Pre True (Vif (!decide (Sp.numE kQ.xs k_Ws.xs k_Lo k_Hi (cel (Sp.drawL kQ.xs k_Ws.xs k_Lo k_Hi x_Rows x_Seats x_Com x_Nums.xs) (z.tmod (Zbv kQ k_Ws k_Lo k_Hi x_Rows x_Seats x_Com x_Nums)).toNat Zbc).lst = 0)) (Q Zbr) (Need (decide (0 <= z.tmod (Zbv kQ k_Ws k_Lo k_Hi x_Rows x_Seats x_Com x_Nums)) && decide (z.tmod (Zbv kQ k_Ws k_Lo k_Hi x_Rows x_Seats x_Com x_Nums) < (↑(x_Nums.xs.length) : Int))) (Need (decide ((z.tmod (Zbv kQ k_Ws k_Lo k_Hi x_Rows x_Seats x_Com x_Nums)).toNat < x_Nums.xs.length)) (Vif (decide ((cel x_Nums.xs (z.tmod (Zbv kQ k_Ws k_Lo k_Hi x_Rows x_Seats x_Com x_Nums)).toNat Zbc).int < 0)) (Q Zbr) (Need (decide (0 <= z.tmod (Zbv kQ k_Ws k_Lo k_Hi x_Rows x_Seats x_Com x_Nums)) && decide (z.tmod (Zbv kQ k_Ws k_Lo k_Hi x_Rows x_Seats x_Com x_Nums) < (↑(x_Nums.xs.length) : Int))) (Need (decide ((z.tmod (Zbv kQ k_Ws k_Lo k_Hi x_Rows x_Seats x_Com x_Nums)).toNat < x_Nums.xs.length)) (Need (!decide (Sp.cntR kQ.xs k_Ws.xs k_Lo k_Hi = 0)) (Ar .i64 (Sp.numR kQ.xs k_Ws.xs k_Lo k_Hi (cel (Sp.drawL kQ.xs k_Ws.xs k_Lo k_Hi x_Rows x_Seats x_Com x_Nums.xs) (z.tmod (Zbv kQ k_Ws k_Lo k_Hi x_Rows x_Seats x_Com x_Nums)).toNat Zbc).lst - (cel x_Nums.xs (z.tmod (Zbv kQ k_Ws k_Lo k_Hi x_Rows x_Seats x_Com x_Nums)).toNat Zbc).int.tmod (Sp.cntR kQ.xs k_Ws.xs k_Lo k_Hi)) fun z_1 => Ar .i64 (z_1 + Sp.cntR kQ.xs k_Ws.xs k_Lo k_Hi) fun z_2 => Need (!decide (Sp.cntR kQ.xs k_Ws.xs k_Lo k_Hi = 0)) (Vif (decide (z_2.tmod (Sp.cntR kQ.xs k_Ws.xs k_Lo k_Hi) = 0)) (Need (decide (0 <= z.tmod (Zbv kQ k_Ws k_Lo k_Hi x_Rows x_Seats x_Com x_Nums)) && decide (z.tmod (Zbv kQ k_Ws k_Lo k_Hi x_Rows x_Seats x_Com x_Nums) < (Zbv kQ k_Ws k_Lo k_Hi x_Rows x_Seats x_Com x_Nums))) (Need (decide ((z.tmod (Zbv kQ k_Ws k_Lo k_Hi x_Rows x_Seats x_Com x_Nums)).toNat < List.length (Sp.drawL kQ.xs k_Ws.xs k_Lo k_Hi x_Rows x_Seats x_Com x_Nums.xs))) (Pre (Sp.ApOk x_Seats (z.tmod (Zbv kQ k_Ws k_Lo k_Hi x_Rows x_Seats x_Com x_Nums)) (Sp.drawL kQ.xs k_Ws.xs k_Lo k_Hi x_Rows x_Seats x_Com x_Nums.xs) (cel (Sp.drawL kQ.xs k_Ws.xs k_Lo k_Hi x_Rows x_Seats x_Com x_Nums.xs) (z.tmod (Zbv kQ k_Ws k_Lo k_Hi x_Rows x_Seats x_Com x_Nums)).toNat Zbc).lst /\ z.tmod (Zbv kQ k_Ws k_Lo k_Hi x_Rows x_Seats x_Com x_Nums) <= 65536) (Vif (Sp.apP (Sp.drawL kQ.xs k_Ws.xs k_Lo k_Hi x_Rows x_Seats x_Com x_Nums.xs) (cel (Sp.drawL kQ.xs k_Ws.xs k_Lo k_Hi x_Rows x_Seats x_Com x_Nums.xs) (z.tmod (Zbv kQ k_Ws k_Lo k_Hi x_Rows x_Seats x_Com x_Nums)).toNat Zbc).lst x_Seats (z.tmod (Zbv kQ k_Ws k_Lo k_Hi x_Rows x_Seats x_Com x_Nums)) x_Com) (Pre True (Q [[Cl.b true]])) (Q Zbr))))) (Ar .i64 y_B fun z_3 => Need (!decide (z_2.tmod (Sp.cntR kQ.xs k_Ws.xs k_Lo k_Hi) = 0)) (Ar .i64 ((cel x_Nums.xs (z.tmod (Zbv kQ k_Ws k_Lo k_Hi x_Rows x_Seats x_Com x_Nums)).toNat Zbc).int.tmod (Sp.cntR kQ.xs k_Ws.xs k_Lo k_Hi) + z_3.tmod (z_2.tmod (Sp.cntR kQ.xs k_Ws.xs k_Lo k_Hi))) fun z_4 => Need (!decide (Sp.cntR kQ.xs k_Ws.xs k_Lo k_Hi = 0)) (Pre True (Vif (decide (Sp.nthE kQ.xs k_Ws.xs k_Lo k_Hi (z_4.tmod (Sp.cntR kQ.xs k_Ws.xs k_Lo k_Hi)) = 0)) (Pre (Sp.ApOk x_Seats (z.tmod (Zbv kQ k_Ws k_Lo k_Hi x_Rows x_Seats x_Com x_Nums)) (Sp.drawL kQ.xs k_Ws.xs k_Lo k_Hi x_Rows x_Seats x_Com x_Nums.xs) (Sp.nthR kQ.xs k_Ws.xs k_Lo k_Hi (z_4.tmod (Sp.cntR kQ.xs k_Ws.xs k_Lo k_Hi))) /\ z.tmod (Zbv kQ k_Ws k_Lo k_Hi x_Rows x_Seats x_Com x_Nums) <= 65536) (Vif (!Sp.apP (Sp.drawL kQ.xs k_Ws.xs k_Lo k_Hi x_Rows x_Seats x_Com x_Nums.xs) (Sp.nthR kQ.xs k_Ws.xs k_Lo k_Hi (z_4.tmod (Sp.cntR kQ.xs k_Ws.xs k_Lo k_Hi))) x_Seats (z.tmod (Zbv kQ k_Ws k_Lo k_Hi x_Rows x_Seats x_Com x_Nums)) x_Com) (Need (decide (0 <= z.tmod (Zbv kQ k_Ws k_Lo k_Hi x_Rows x_Seats x_Com x_Nums)) && decide (z.tmod (Zbv kQ k_Ws k_Lo k_Hi x_Rows x_Seats x_Com x_Nums) < (Zbv kQ k_Ws k_Lo k_Hi x_Rows x_Seats x_Com x_Nums))) (Need (decide ((z.tmod (Zbv kQ k_Ws k_Lo k_Hi x_Rows x_Seats x_Com x_Nums)).toNat < List.length (Sp.drawL kQ.xs k_Ws.xs k_Lo k_Hi x_Rows x_Seats x_Com x_Nums.xs))) (Pre (Sp.ApOk x_Seats (z.tmod (Zbv kQ k_Ws k_Lo k_Hi x_Rows x_Seats x_Com x_Nums)) (Sp.drawL kQ.xs k_Ws.xs k_Lo k_Hi x_Rows x_Seats x_Com x_Nums.xs) (cel (Sp.drawL kQ.xs k_Ws.xs k_Lo k_Hi x_Rows x_Seats x_Com x_Nums.xs) (z.tmod (Zbv kQ k_Ws k_Lo k_Hi x_Rows x_Seats x_Com x_Nums)).toNat Zbc).lst /\ z.tmod (Zbv kQ k_Ws k_Lo k_Hi x_Rows x_Seats x_Com x_Nums) <= 65536) (Vif (Sp.apP (Sp.drawL kQ.xs k_Ws.xs k_Lo k_Hi x_Rows x_Seats x_Com x_Nums.xs) (cel (Sp.drawL kQ.xs k_Ws.xs k_Lo k_Hi x_Rows x_Seats x_Com x_Nums.xs) (z.tmod (Zbv kQ k_Ws k_Lo k_Hi x_Rows x_Seats x_Com x_Nums)).toNat Zbc).lst x_Seats (z.tmod (Zbv kQ k_Ws k_Lo k_Hi x_Rows x_Seats x_Com x_Nums)) x_Com) (Pre True (Q [[Cl.b true]])) (Q Zbr))))) (Q Zbr))) (Q Zbr))))))))))))))))))))))))))))
theorem Xfk (W : InW) (kQ k_Ws k_Lo k_Hi x_Rows x_Seats x_Com x_Nums y_A y_B Q) : Yw5 (cxT Try.prog TT TL12 1000 50) 1000 12 [.agg [.rs _ kQ, .rs _ k_Ws, .si .i64 k_Lo, .si .i64 k_Hi], .agg [.si .i64 x_Rows, .si .i64 x_Seats, .si .i64 x_Com, .rs _ x_Nums], .agg [.si .u16 y_A, .si .u16 y_B]] [] 0 (Y1i [(false, [.bool])] Q) (fun _ _ _ _ => Stuck 421) = Xbn kQ k_Ws k_Lo k_Hi x_Rows x_Seats x_Com x_Nums y_A y_B Q := by kernel_rfl
abbrev X1 : List AT := [.agg [.sl Ja, .sl Jb, .int .i64, .int .i64], .agg [.int .i64, .int .i64, .int .i64, .sl Jb], .agg [.int .u16, .int .u16]]
theorem Xf2 {pre : DS -> Prop} {res : DS -> DS} (hyp_ : ∀ (W : InW) (kQ : Ro Ja) (k_Ws : Ro Jb) (k_Lo k_Hi x_Rows x_Seats x_Com : Int) (x_Nums : Ro Jb) (y_A y_B : Int), pre [[.l kQ.xs, .l k_Ws.xs, .i k_Lo, .i k_Hi], [.i x_Rows, .i x_Seats, .i x_Com, .l x_Nums.xs], [.i y_A, .i y_B]] -> ∀ Q : DS -> Prop, Q (res [[.l kQ.xs, .l k_Ws.xs, .i k_Lo, .i k_Hi], [.i x_Rows, .i x_Seats, .i x_Com, .l x_Nums.xs], [.i y_A, .i y_B]]) -> Xbn kQ k_Ws k_Lo k_Hi x_Rows x_Seats x_Com x_Nums y_A y_B Q) : PureOk Try.prog 12 X1 [(false, [.bool])] pre res :=
 PureOk.of' (fun W => @TT W) (fun W => @Xb W) Xa TL12 1000 50 fun W kQ k_Ws k_Lo k_Hi x_Rows x_Seats x_Com x_Nums y_A y_B hp =>
  (Xfk W kQ k_Ws k_Lo k_Hi x_Rows x_Seats x_Com x_Nums y_A y_B (fun o => o = res [[.l kQ.xs, .l k_Ws.xs, .i k_Lo, .i k_Hi], [.i x_Rows, .i x_Seats, .i x_Com, .l x_Nums.xs], [.i y_A, .i y_B]])).mpr (hyp_ W kQ k_Ws k_Lo k_Hi x_Rows x_Seats x_Com x_Nums y_A y_B hp _ rfl)
theorem Xd8 : PureOk Try.prog 12 X1 [(false, [.bool])] (WfD X1) fun _ => [[.b true]] :=
 Xf2 fun W qs ws lo hi r S c nums y1 y2 hp Q h => by
  have w1 := Xgd (WfL.head (WfD.head (WfD.head (WfD.head hp).2).2).1).1;have w2 := Xgd (WfL.head (WfL.head (WfD.head (WfD.head (WfD.head hp).2).2).1).2).1;unfold Xbn;delta Zbw Zbr Zbv Zbc;refine ⟨trivial, vifn (fun e => vifn (fun _ => vifd (fun _ => ⟨trivial, h⟩) (fun g => absurd (by rw [Sp.drawL_no e]; rfl) g)) (fun g => absurd g e)) (fun e => ?_)⟩;obtain ⟨d, _⟩ := Sp.drawE_ok e;have ec := Sp.chkE_iff.2 d.bv;have en : Sp.cntR qs.xs ws.xs lo hi = Sp.total qs.xs ws.xs lo hi := by unfold Sp.cntR; rw [if_pos ec]
  have hl := d.len;have hn1 := d.ro.n1;have hn2 := d.ro.n2;have hlp := Sp.length_papD qs.xs ws.xs lo hi;have hf := d.nu.few;have hs1 := d.ho.s1;have hr := d.ho.n;have h1 : 1 <= (nums.xs.length : Int) := by
   obtain ⟨a1, a2, a3, a4, a5, a6, a7⟩ := d.ho;rw [a7];exact Int.mul_le_mul a1 a3 (by omega) (by omega)
  have ht := Sp.tmod_in (n := y1) (m := nums.xs.length) w1.1 (by omega);have hkl : (y1.tmod nums.xs.length).toNat < nums.xs.length := by omega
  have hk0 := d.nu.ok _ hkl;have htm := Sp.tmod_in (n := (cel nums.xs (y1.tmod nums.xs.length).toNat 0).int) (m := (Sp.papD qs.xs ws.xs lo hi).length) hk0.1 hn1;obtain ⟨q, rp⟩ := d.rep hkl;obtain ⟨q0, q1, r1, r2, r3, r4, r5, r6⟩ := rp;rw [hlp] at htm;rw [Int.toNat_of_nonneg ht.1] at r4 r5 r6;rw [en, hl];have hrs : r * S = nums.xs.length := hr.symm;refine ⟨trivial, vifn (fun g => absurd ec g) (fun _ => vifd (fun g => absurd g (by omega)) (fun _ => ⟨trivial, vifn (fun g => absurd ec g) (fun _ => vifd (fun g => absurd g (by omega)) (fun _ => vifn (fun g => absurd rfl g) (fun _ => vifd (fun g => absurd g (by omega)) (fun _ => ?_))))⟩))⟩;refine ar64 (by omega) (vifn (fun g => absurd hrs g) (fun _ => ar64 (by omega) (ned (by rw [decide_eq_false (by omega)]; rfl) (ned (by simp; omega) (nedd hkl ⟨trivial, vifn (fun g => absurd r1 g) (fun _ => ?_)⟩)))));refine ned (by simp; omega) (nedd hkl (vifd (fun g => absurd g (by omega)) (fun _ => ned (by simp; omega) (nedd hkl (ned (by rw [decide_eq_false (by omega)]; rfl) (ar64 (by omega) (ar64 (by omega) (ned (by rw [decide_eq_false (by omega)]; rfl) ?_))))))));rw [r2];refine vifd (fun hq => ?_) (fun hq => ?_)
  ·exact ned (by simp; omega) (nedd hkl ⟨⟨r4, by omega⟩, by rw [r5]; exact vif (fun _ => ⟨trivial, h⟩) (fun g => by cases g)⟩)
  ·have hz : 0 <= y2.tmod q /\ y2.tmod q < q := by
    rw [Int.tmod_eq_emod_of_nonneg w2.1];exact ⟨Int.emod_nonneg _ (by omega), Int.emod_lt_of_pos _ (by omega)⟩
   obtain ⟨n1, n2, n3⟩ := r6 _ hz.1 hz.2;refine ar64 (by omega) (ned (by rw [decide_eq_false (by omega)]; rfl) (ar64 (by omega) (ned (by rw [decide_eq_false (by omega)]; rfl) ⟨trivial, vifd (fun _ => ⟨⟨n2, by omega⟩, ?_⟩) (fun g => absurd n1 g)⟩)));rw [n3];exact vif (fun _ => ned (by simp; omega) (nedd hkl ⟨⟨r4, by omega⟩, by rw [r5]; exact vif (fun _ => ⟨trivial, h⟩) (fun g => by cases g)⟩)) (fun g => by cases g)
end Go.Proofs.Ytilnbgpogfabaaa
namespace Go.Proofs.Ytilnbgpogfabaaa.paperRepeated
open Go.ChangeShapes Go.WideShapes Go.ChangeAt Go.RowKit
set_option maxRecDepth 100000
theorem own : ownKnob Try.prog.godebug = none := by kernel_rfl
theorem laid : laidOutB Try.prog = true := by kernel_rfl
theorem lifted (os : Os) (started : os.Started) (H : Type) (enc : TypeId × Value -> H) :
  ReturnsInHanded {} Try.checked os 12 .any (Rows.paperRepeatedSpec.pre6 enc Try.prog Try.f12 Rows.paperRepeatedRow.domain false) (Rows.paperRepeatedSpec.post enc Try.prog Try.f12 false true false false) := by
 refine returnsInHanded_of_change (C := Try.checked) own started (by kernel_rfl) Try.func12
  (ChangeSpec.witness6 (enc := enc) (C := Try.checked) false ⟨#[], #[(.agg #[.slice none 0 0, .slice none 0 0, .int .i64 0, .int .i64 0]), (.agg #[.int .i64 0, .int .i64 0, .int .i64 0, .slice none 0 0]), (.agg #[.int .u16 0, .int .u16 0])], []⟩ 8 (by kernel_rfl) (by kernel_rfl) (by kernel_rfl) (by kernel_rfl)) ?_
 intro W base args ds gs before hval hW _ _;exact law_end (f := Try.f12) (s := Rows.paperRepeatedSpec) (by kernel_rfl) Try.underlying4 (by kernel_rfl) rfl laid (by kernel_rfl)
  (fun ds h => by match ds, (show ds.length = 3 from h) with | [_, _, _], _ => exact ⟨rfl, rfl, rfl⟩) Xd8 hval hW
theorem over : Rows.paperRepeatedRow.holds Try.pinned (OpenSpec.ofChange Rows.paperRepeatedSpec) :=
 OpenClaim.holds_of_wide 12 Try.f12 rfl rfl rfl rfl rfl rfl rfl ⟨rfl, rfl, rfl, rfl, rfl⟩ rfl rfl rfl rfl rfl (by kernel_rfl) Try.func12 (by kernel_rfl)
  (of_decide_eq_true (by kernel_rfl)) (by unfold Func.isWrapper; first | (rw [if_pos (by decide +kernel)]; kernel_rfl) | (rw [if_neg (by decide +kernel)]; exact ⟨rfl, rfl⟩))
  (fun os started H enc _ => lifted os started H enc)
theorem proved : Rows.PaperRepeatedSaid := over
end Go.Proofs.Ytilnbgpogfabaaa.paperRepeated
