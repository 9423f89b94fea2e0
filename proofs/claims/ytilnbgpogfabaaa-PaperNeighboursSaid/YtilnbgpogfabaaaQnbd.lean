/-
  'PaperNeighbours': for every input the law returns true, and what is handed in reads as before. No condition.
-/
import Derived.Test.YtilnbgpogfabaaaQnbc
import Derived.Test.YtilnbgpogfabaaaRows
import Derived.WalkKit
import Derived.ProofKit
set_option linter.unusedVariables false
set_option linter.unusedSectionVars false
set_option linter.unusedSimpArgs false
namespace Go.Proofs.Ytilnbgpogfabaaa
open Go.RowKit
set_option maxRecDepth 100000
theorem vif_t [InW] {b : Bool} {A B : Prop} (hb : b = true) (ha : A) : Vif b A B := Vif_iff.2 ⟨fun _ => ha, fun h => absurd (hb.symm.trans h) (by decide)⟩
theorem Xfb [W : InW] (Q : DS -> Prop) (h : Q [[.b true]]) : Xt Q := by
 unfold Xt;delta Zbn Zbo Zbq Zbp Zbm Zbl Zbr Zi
 repeat first | refine vif_t (by kernel_rfl) ?_ | refine Pre_iff.2 ⟨trivial, ?_⟩ | refine Pre_iff.2 ⟨by kernel_rfl, ?_⟩
 exact (congrArg Q (by kernel_rfl)).mpr h
noncomputable def Xey : PC Try.prog := ⟨23, [], [(false, [.bool])], fun _ => True, fun _ => [[.b true]], Xe5 fun W hp Q h => Xfb Q h⟩
namespace Sp
theorem eqI_refl (a : Dt) : eqI a a = true := eqI_iff.2 rfl
theorem eqL_refl (a : Dt) : eqL a a = true := by
 unfold eqL;rw [decide_eq_true rfl, Bool.true_and];exact allF_iff.2 fun k _ _ => eqI_refl _
end Sp
namespace Sp
theorem apF_ext {ps pt p l : Dt} {c : Int} {j : Nat} (h : cel ps (cel l j 0).int.toNat 0 = cel pt (cel l j 0).int.toNat 0) : apF ps p l c j = apF pt p l c j := by unfold apF; rw [h]
theorem allF_ext {f g : Nat -> Bool} : ∀ {n i : Nat}, (∀ k, i <= k -> k < i + n -> f k = g k) -> allF f i n = allF g i n
 | 0, i, _ => rfl
 | n + 1, i, h => by rw [allF, allF, h i (by omega) (by omega), allF_ext fun k a b => h k (by omega) (by omega)]
theorem apP_ext {ps pt p : Dt} {S c : Int} {seat : Nat} (hS : 1 <= S) (h : ∀ j, j < seat -> cel ps j 0 = cel pt j 0) : apP ps p S seat c = apP pt p S seat c := by
 unfold apP;refine allF_ext fun k _ hk => apF_ext (h _ ?_);have hm : 0 < (seat : Int).tmod S -> 1 <= seat := fun h => by
  by_cases hz : seat = 0
  ·rw [hz] at h; simp at h
  ·omega
 rw [Nat.zero_add] at hk;have key : (cel (bfD S seat) k 0).int < seat /\ 0 < seat := by
  unfold bfD at hk ⊢
  split at hk
  ·rename_i a
   split at hk
   ·rename_i b;have := hm b;rw [if_pos a, if_pos b];have hk : k = 0 \/ k = 1 := by simp at hk; omega
    rcases hk with rfl | rfl
    ·show (seat : Int) - S < _ /\ _; omega
    ·show (seat : Int) - 1 < _ /\ _; omega
   ·rename_i b;rw [if_pos a, if_neg b];have hk : k = 0 := by simp at hk; omega
    subst hk
    show (seat : Int) - S < _ /\ _; omega
  ·rename_i a
   split at hk
   ·rename_i b;have := hm b;rw [if_neg a, if_pos b];have hk : k = 0 := by simp at hk; omega
    subst hk
    show (seat : Int) - 1 < _ /\ _; omega
   ·simp at hk
 omega
theorem fitF_ext {rs ps pt : Dt} {S c n : Int} {seat : Nat} (hS : 1 <= S) (h : ∀ j, j < seat -> cel ps j 0 = cel pt j 0) (k : Nat) : fitF rs ps S c seat n k = fitF rs pt S c seat n k := apP_ext hS h
structure Got (rs L : Dt) (S c n : Int) (j q : Nat) : Prop where
 lt : q < rs.length
 row : cel L j 0 = .l (pickP rs n q)
 fit : fitF rs L S c j n q = true
 no : ∀ k, k < q -> fitF rs L S c j n k = false
theorem drw_got {rs nums : Dt} {S c : Int} (hS : 1 <= S) : ∀ (m i : Nat) (ps : Dt), ps.length = i -> (drw rs nums S c i m ps).ok = true ->
  (drw rs nums S c i m ps).ps.length = i + m /\ (∀ j, j < i -> cel (drw rs nums S c i m ps).ps j 0 = cel ps j 0) /\ ∀ j, i <= j -> j < i + m -> ∃ q, Got rs (drw rs nums S c i m ps).ps S c (cel nums j 0).int j q
 | 0, i, ps, hl, h => ⟨by simpa [drw] using hl, fun j _ => rfl, fun j a b => by omega⟩
 | m + 1, i, ps, hl, h => by
  by_cases hf : fitB rs ps S c i (cel nums i 0).int 0 = true
  ·have e : drw rs nums S c i (m + 1) ps = drw rs nums S c (i + 1) m (fitR rs ps S c i (cel nums i 0).int 0) := by rw [drw, if_pos hf]
   have hl2 : (fitR rs ps S c i (cel nums i 0).int 0).length = i + 1 := by unfold fitR; rw [List.length_append, hl]; rfl
   rw [e] at h ⊢;obtain ⟨h1, h2, h3⟩ := drw_got (nums := nums) hS m (i + 1) _ hl2 h;have hpre : ∀ j, j < i -> cel (drw rs nums S c (i + 1) m (fitR rs ps S c i (cel nums i 0).int 0)).ps j 0 = cel ps j 0 := fun j hj => by
    rw [h2 j (by omega)]; unfold fitR; rw [cel_snoc (by omega)]
   refine ⟨by omega, hpre, fun j a b => ?_⟩
   by_cases hj : j = i
   ·subst hj;obtain ⟨f0, f1, f2, f3⟩ := fstF_spec (show anyF (fitF rs ps S c j (cel nums j 0).int) 0 (rs.length - 0) = true from hf);refine ⟨fstF (fitF rs ps S c j (cel nums j 0).int) 0 (rs.length - 0), by omega, ?_, ?_, fun k hk => ?_⟩
    ·rw [h2 j (by omega)];unfold fitR;rw [<- hl, cel_last];rfl
    ·rw [fitF_ext hS hpre]; exact f2
    ·rw [fitF_ext hS hpre]; exact f3 k (Nat.zero_le _) hk
   ·exact h3 j (by omega) (by omega)
  ·rw [drw, if_neg hf] at h; cases h
theorem drw_same {rs nums nu2 : Dt} {S c : Int} (h : ∀ j, pickP rs (cel nums j 0).int = pickP rs (cel nu2 j 0).int) : ∀ (m i : Nat) (ps : Dt), drw rs nums S c i m ps = drw rs nu2 S c i m ps
 | 0, i, ps => rfl
 | m + 1, i, ps => by
  have hf : ∀ ps, fitF rs ps S c i (cel nums i 0).int = fitF rs ps S c i (cel nu2 i 0).int := fun ps => by funext k; unfold fitF; rw [h i]
  have hb : fitB rs ps S c i (cel nums i 0).int 0 = fitB rs ps S c i (cel nu2 i 0).int 0 := by unfold fitB; rw [hf]
  have hr : fitR rs ps S c i (cel nums i 0).int 0 = fitR rs ps S c i (cel nu2 i 0).int 0 := by unfold fitR; rw [hf, h i]
  rw [drw, drw, hb, hr, drw_same h m]
structure Drawn (qs ws : Dt) (lo hi r S c : Int) (nums : Dt) : Prop where
 bv : BankV qs ws lo hi
 ho : HallOk r S c nums.length
 nu : NuOk nums
 ro : RsOk (papD qs ws lo hi)
 len : (drawL qs ws lo hi r S c nums).length = nums.length
 got : ∀ j, j < nums.length -> ∃ q, Got (papD qs ws lo hi) (drawL qs ws lo hi r S c nums) S c (cel nums j 0).int j q
theorem drawE_ok {qs ws : Dt} {lo hi r S c : Int} {nums : Dt} (h : drawE qs ws lo hi r S c nums = 0) : Drawn qs ws lo hi r S c nums /\ (drw (papD qs ws lo hi) nums S c 0 nums.length []).ok = true := by
 have hL := drawL_ok h;unfold drawE at h
 split at h
 ·rename_i h1;obtain ⟨bv, ho⟩ := hallE_iff.1 h1
  split at h
  ·omega
  ·rename_i h2
   split at h
   ·omega
   ·rename_i h3
    split at h
    ·rename_i h4;have hf := ho.few;obtain ⟨d1, d2, d3⟩ := drw_got (rs := papD qs ws lo hi) (nums := nums) (c := c) ho.s1 nums.length 0 [] rfl h4;refine ⟨⟨bv, ho, nu_ok (Bool.eq_false_iff.2 h2) (by omega), rs_ok bv h3, ?_, fun j hj => ?_⟩, h4⟩
     ·rw [hL, d1, Nat.zero_add]
     ·rw [hL]; exact d3 j (Nat.zero_le _) (by omega)
    ·omega
 ·omega
theorem pick_ix {rs : Dt} {n : Int} {q : Nat} (hn : 0 <= n) (h1 : 1 <= rs.length) : ((n + q).tmod rs.length).toNat < rs.length := by
 have := tmod_in (n := n + q) (m := rs.length) (by omega) h1;omega
theorem Drawn.is {qs ws : Dt} {lo hi r S c : Int} {nums : Dt} (h : Drawn qs ws lo hi r S c nums) {j : Nat} (hj : j < nums.length) : isP qs ws lo hi (cel (drawL qs ws lo hi r S c nums) j 0).lst = true := by
 obtain ⟨q, hq⟩ := h.got j hj;rw [hq.row];have hn := h.nu.ok j hj;have hi' := pick_ix (q := q) hn.1 h.ro.n1
 show isP qs ws lo hi (pickP _ _ _) = true
 unfold pickP;rw [cel_papD hi'];exact paps_is h.bv (by simpa [papD] using hi')
end Sp
theorem wf_u8 {n : Int} (h : WfC (.int .u8) (.i n)) : 0 <= n /\ n <= 255 := by
 cases h with
 | int _ _ h => simp [Lit.wf, IntKind.min, IntKind.max, IntKind.signed, IntKind.bits] at h; omega
theorem WfL.head {t : Ty} {ts : List Ty} {c : Cl} {cs : List Cl} (h : WfL (t :: ts) (c :: cs)) : WfC t c /\ WfL ts cs := by
 cases h with
 | cons h hs => exact ⟨h, hs⟩
theorem WfD.head {a : AT} {ats : List AT} {d : List Cl} {ds : DS} (h : WfD (a :: ats) (d :: ds)) : WfA a d /\ WfD ats ds := by
 obtain ⟨d', ds', e, h1, h2⟩ := h;cases e;exact ⟨h1, h2⟩
namespace Sp
theorem Got.apP {rs L : Dt} {S c n : Int} {j q : Nat} (h : Got rs L S c n j q) : apP L (cel L j 0).lst S j c = true := by
 rw [h.row];exact h.fit
theorem drawn_acc {qs ws : Dt} {lo hi r S c : Int} {nums : Dt} (d : Drawn qs ws lo hi r S c nums) : accE qs ws lo hi r S c (drawL qs ws lo hi r S c nums) = 0 /\ accI qs ws lo hi r S c (drawL qs ws lo hi r S c nums) = 0 := by
 have hl := d.len;have hh : hallE qs ws lo hi r S c (drawL qs ws lo hi r S c nums).length = 0 := by rw [hl]; exact hallE_iff.2 ⟨d.bv, d.ho⟩
 have hb : accB qs ws lo hi S c (drawL qs ws lo hi r S c nums) = false := by
  unfold accB;refine hasE_of fun j _ hj => ?_;rw [hl] at hj;obtain ⟨q, hq⟩ := d.got j (by omega);unfold accF;rw [if_pos (d.is (by omega)), if_pos hq.apP]
 unfold accE accI;rw [if_pos hh, if_pos hh, if_neg (by rw [hb]; decide), if_neg (by rw [hb]; decide)];exact ⟨rfl, rfl⟩
theorem outs_of {lo hi : Int} {xs : Dt} : ∀ {n i : Nat}, (∀ k, i <= k -> k < i + n -> inr (cel xs k 0).int lo hi = true) -> outs lo hi xs i n = false
 | 0, i, _ => rfl
 | n + 1, i, h => by
  rw [outs, h i (by omega) (by omega), outs_of fun k a b => h k (by omega) (by omega)];rfl
theorem NuOk.out {nums : Dt} (h : NuOk nums) : Sp.out 0 1000000000 nums = false := outs_of fun k _ hk => inr_iff.2 (h.ok k (by omega))
theorem pick_shift {rs : Dt} {n : Int} (hn : 0 <= n) (h1 : 1 <= rs.length) (q : Nat) : pickP rs (n + rs.length) q = pickP rs n q := by
 unfold pickP;rw [Int.tmod_eq_emod_of_nonneg (by omega), Int.tmod_eq_emod_of_nonneg (by omega), show n + (rs.length : Int) + q = n + q + rs.length by omega, Int.add_emod_right]
theorem draw_same {qs ws : Dt} {lo hi r S c : Int} {nums nu2 : Dt} (h : drawE qs ws lo hi r S c nums = 0) (hl : nu2.length = nums.length) (h2 : NuOk nu2) (hp : ∀ j, pickP (papD qs ws lo hi) (cel nums j 0).int = pickP (papD qs ws lo hi) (cel nu2 j 0).int) : drawE qs ws lo hi r S c nu2 = 0 /\ drawL qs ws lo hi r S c nu2 = drawL qs ws lo hi r S c nums := by
 obtain ⟨d, hd⟩ := drawE_ok h;have e : ∀ m i ps, drw (papD qs ws lo hi) nums S c i m ps = drw (papD qs ws lo hi) nu2 S c i m ps := drw_same hp;have hz : total qs ws lo hi ≠ 0 := by
  have := d.ro.n1;have := length_papD qs ws lo hi;omega
 have h3 : drawE qs ws lo hi r S c nu2 = 0 := by
  unfold drawE;rw [if_pos (by rw [hl]; exact hallE_iff.2 ⟨d.bv, d.ho⟩), if_neg (by rw [h2.out]; decide), if_neg hz, if_pos (by rw [hl, <- e]; exact hd)]
 refine ⟨h3, ?_⟩;rw [drawL_ok h3, drawL_ok h, hl, e]
theorem draw_shift {qs ws : Dt} {lo hi r S c : Int} {nums : Dt} {k : Nat} {v : Int} (h : drawE qs ws lo hi r S c nums = 0) (hk : k < nums.length) (hv : v = (cel nums k 0).int + total qs ws lo hi) (hm : v <= 1000000000) : drawE qs ws lo hi r S c (nums.set k [.i v]) = 0 /\ drawL qs ws lo hi r S c (nums.set k [.i v]) = drawL qs ws lo hi r S c nums := by
 obtain ⟨d, _⟩ := drawE_ok h;have hk0 := d.nu.ok k hk;have hn1 := d.ro.n1;have hlp := length_papD qs ws lo hi;have hc : ∀ j, (cel (nums.set k [Cl.i v]) j 0).int = if j = k then v else (cel nums j 0).int := fun j => by
  by_cases hj : j = k
  ·subst hj; rw [cel_setS hk, if_pos rfl]; rfl
  ·rw [cel_setN (by omega), if_neg hj]
 refine draw_same h (by simp) ⟨by simpa using d.nu.few, fun i hi => ?_⟩ fun j => ?_
 ·rw [hc];have := d.nu.ok i (by simpa using hi)
  split
  ·omega
  ·exact this
 ·rw [hc]
  by_cases hj : j = k
  ·subst hj;rw [if_pos rfl, hv, <- hlp];exact (funext fun q => pick_shift hk0.1 hn1 q).symm
  ·rw [if_neg hj]
end Sp
set_option maxHeartbeats 1600000
noncomputable def TL11 : Tab Try.prog := ⟨[Xc5, Xd0, Xdy, Xfl, Xey], [], []⟩
def Zbs [W : InW] (x_Nums : Ro Jb) := (↑(x_Nums.xs.length) : Int)
def Xbf [W : InW] (kQ : Ro Ja) (k_Ws : Ro Jb) (k_Lo k_Hi x_Rows x_Seats x_Com : Int) (x_Nums : Ro Jb) (w : Int) (Q : DS -> Prop) : Prop :=
 Pre True (Vif (!decide (Sp.drawE kQ.xs k_Ws.xs k_Lo k_Hi x_Rows x_Seats x_Com x_Nums.xs = 0)) (Vif (decide ((↑(List.length (Sp.drawL kQ.xs k_Ws.xs k_Lo k_Hi x_Rows x_Seats x_Com x_Nums.xs)) : Int) = 0)) (Pre True (Q [[Cl.b true]])) (Q Zbo)) (Pre True (Pre True (Vif (!decide (Sp.accE kQ.xs k_Ws.xs k_Lo k_Hi x_Rows x_Seats x_Com (Sp.drawL kQ.xs k_Ws.xs k_Lo k_Hi x_Rows x_Seats x_Com x_Nums.xs) = 0)) (Q Zbo) (Vif (!decide (Sp.accI kQ.xs k_Ws.xs k_Lo k_Hi x_Rows x_Seats x_Com (Sp.drawL kQ.xs k_Ws.xs k_Lo k_Hi x_Rows x_Seats x_Com x_Nums.xs) = 0)) (Q Zbo) (Vif (!decide (Sp.chkE kQ.xs k_Ws.xs k_Lo k_Hi = 0)) (Q Zbo) (Vif (decide (Sp.cntR kQ.xs k_Ws.xs k_Lo k_Hi < 1)) (Q Zbo) (Vif (decide ((Zbs x_Nums) = 0)) (Q Zbo) (Vif (!decide ((↑(List.length (Sp.drawL kQ.xs k_Ws.xs k_Lo k_Hi x_Rows x_Seats x_Com x_Nums.xs)) : Int) = (Zbs x_Nums))) (Q Zbo) (Ar .i64 w fun z => Need (!decide ((Zbs x_Nums) = 0)) (Need (decide ((Zz + x_Nums.xs.length) * 8 <= 140737488355328)) (Need (decide (0 <= z.tmod (Zbs x_Nums)) && decide (z.tmod (Zbs x_Nums) < (Zbs x_Nums))) (Need (decide ((z.tmod (Zbs x_Nums)).toNat < x_Nums.xs.length)) (Ar .i64 ((1000000000 : Int) - Sp.cntR kQ.xs k_Ws.xs k_Lo k_Hi) fun z_1 => Vif (decide (z_1 < (cel x_Nums.xs (z.tmod (Zbs x_Nums)).toNat Zz).int)) (Pre True (Q [[Cl.b true]])) (Need (decide (0 <= z.tmod (Zbs x_Nums)) && decide (z.tmod (Zbs x_Nums) < (Zbs x_Nums))) (Need (decide ((z.tmod (Zbs x_Nums)).toNat < x_Nums.xs.length)) (Ar .i64 ((cel x_Nums.xs (z.tmod (Zbs x_Nums)).toNat Zz).int + Sp.cntR kQ.xs k_Ws.xs k_Lo k_Hi) fun z_2 => Need (decide (0 <= z.tmod (Zbs x_Nums)) && decide (z.tmod (Zbs x_Nums) < (Zbs x_Nums))) (Need (decide ((z.tmod (Zbs x_Nums)).toNat < x_Nums.xs.length)) (Pre True (Vif (decide (Sp.drawE kQ.xs k_Ws.xs k_Lo k_Hi x_Rows x_Seats x_Com (List.set x_Nums.xs (z.tmod (Zbs x_Nums)).toNat [Cl.i z_2]) = 0)) (Pre True (Vif (Sp.eqL (Sp.drawL kQ.xs k_Ws.xs k_Lo k_Hi x_Rows x_Seats x_Com x_Nums.xs) (Sp.drawL kQ.xs k_Ws.xs k_Lo k_Hi x_Rows x_Seats x_Com (List.set x_Nums.xs (z.tmod (Zbs x_Nums)).toNat [Cl.i z_2]))) (Pre True (Q [[Cl.b true]])) (Q Zbo))) (Q Zbo)))))))))))))))))))))
theorem Xep (W : InW) (kQ k_Ws k_Lo k_Hi x_Rows x_Seats x_Com x_Nums w Q) : Yw5 (cxT Try.prog TT TL11 1000 50) 1000 11 [.agg [.rs _ kQ, .rs _ k_Ws, .si .i64 k_Lo, .si .i64 k_Hi], .agg [.si .i64 x_Rows, .si .i64 x_Seats, .si .i64 x_Com, .rs _ x_Nums], .si .u8 w] [] 0 (Y1i [(false, [.bool])] Q) (fun _ _ _ _ => Stuck 421) = Xbf kQ k_Ws k_Lo k_Hi x_Rows x_Seats x_Com x_Nums w Q := by kernel_rfl
abbrev Xy : List AT := [.agg [.sl Ja, .sl Jb, .int .i64, .int .i64], .agg [.int .i64, .int .i64, .int .i64, .sl Jb], .one (.int .u8)]
theorem Xe4 {pre : DS -> Prop} {res : DS -> DS} (hyp_ : ∀ (W : InW) (kQ : Ro Ja) (k_Ws : Ro Jb) (k_Lo k_Hi x_Rows x_Seats x_Com : Int) (x_Nums : Ro Jb) (w : Int), pre [[.l kQ.xs, .l k_Ws.xs, .i k_Lo, .i k_Hi], [.i x_Rows, .i x_Seats, .i x_Com, .l x_Nums.xs], [.i w]] -> ∀ Q : DS -> Prop, Q (res [[.l kQ.xs, .l k_Ws.xs, .i k_Lo, .i k_Hi], [.i x_Rows, .i x_Seats, .i x_Com, .l x_Nums.xs], [.i w]]) -> Xbf kQ k_Ws k_Lo k_Hi x_Rows x_Seats x_Com x_Nums w Q) : PureOk Try.prog 11 Xy [(false, [.bool])] pre res :=
 PureOk.of' (fun W => @TT W) (fun W => @Xc W) Xa TL11 1000 50 fun W kQ k_Ws k_Lo k_Hi x_Rows x_Seats x_Com x_Nums w hp =>
  (Xep W kQ k_Ws k_Lo k_Hi x_Rows x_Seats x_Com x_Nums w (fun o => o = res [[.l kQ.xs, .l k_Ws.xs, .i k_Lo, .i k_Hi], [.i x_Rows, .i x_Seats, .i x_Com, .l x_Nums.xs], [.i w]])).mpr (hyp_ W kQ k_Ws k_Lo k_Hi x_Rows x_Seats x_Com x_Nums w hp _ rfl)
theorem Xdq : PureOk Try.prog 11 Xy [(false, [.bool])] (WfD Xy) fun _ => [[.b true]] :=
 Xe4 fun W qs ws lo hi r S c nums w hp Q h => by
  have w1 := wf_u8 (WfL.head (WfD.head (WfD.head (WfD.head hp).2).2).1).1;unfold Xbf;delta Zbo Zbs Zz;refine ⟨trivial, vifn (fun e => vifd (fun _ => ⟨trivial, h⟩) (fun g => absurd (by rw [Sp.drawL_no e]; rfl) g)) (fun e => ?_)⟩;obtain ⟨d, _⟩ := Sp.drawE_ok e;obtain ⟨a1, a2⟩ := Sp.drawn_acc d;have ec := Sp.chkE_iff.2 d.bv;have en : Sp.cntR qs.xs ws.xs lo hi = Sp.total qs.xs ws.xs lo hi := by unfold Sp.cntR; rw [if_pos ec]
  have hl := d.len;have hn1 := d.ro.n1;have hn2 := d.ro.n2;have hlp := Sp.length_papD qs.xs ws.xs lo hi;have hf := d.nu.few;have h1 : 1 <= (nums.xs.length : Int) := by
   obtain ⟨a1, a2, a3, a4, a5, a6, a7⟩ := d.ho;rw [a7];exact Int.mul_le_mul a1 a3 (by omega) (by omega)
  have ht := Sp.tmod_in (n := w) (m := nums.xs.length) w1.1 (by omega);have hkl : (w.tmod nums.xs.length).toNat < nums.xs.length := by omega
  have hk0 := d.nu.ok _ hkl;rw [en];refine ⟨trivial, trivial, vifn (fun g => absurd a1 g) (fun _ => vifn (fun g => absurd a2 g) (fun _ => vifn (fun g => absurd ec g) (fun _ => vifd (fun g => absurd g (by omega)) (fun _ => vifd (fun g => absurd g (by omega)) (fun _ => vifn (fun g => absurd (by omega) g) (fun _ => ?_))))))⟩;refine ar64 (by omega) (ned (by rw [decide_eq_false (by omega)]; rfl) (nedd (by omega) (ned (by simp; omega) (nedd hkl (ar64 (by omega) (vifd (fun _ => ⟨trivial, h⟩) (fun hm => ?_)))))));refine ned (by simp; omega) (nedd hkl (ar64 (by omega) (ned (by simp; omega) (nedd hkl ⟨trivial, ?_⟩))));obtain ⟨g1, g2⟩ := Sp.draw_shift (k := (w.tmod nums.xs.length).toNat) e hkl rfl (by omega);rw [g1, g2, Sp.eqL_refl];exact vifd (fun _ => ⟨trivial, vif (fun _ => ⟨trivial, h⟩) (fun g => by cases g)⟩) (fun g => absurd rfl g)
end Go.Proofs.Ytilnbgpogfabaaa
namespace Go.Proofs.Ytilnbgpogfabaaa.paperNeighbours
open Go.ChangeShapes Go.WideShapes Go.ChangeAt Go.RowKit
set_option maxRecDepth 100000
theorem own : ownKnob Try.prog.godebug = none := by kernel_rfl
theorem laid : laidOutB Try.prog = true := by kernel_rfl
theorem lifted (os : Os) (started : os.Started) (H : Type) (enc : TypeId × Value -> H) :
  ReturnsInHanded {} Try.checked os 11 .any (Rows.paperNeighboursSpec.pre6 enc Try.prog Try.f11 Rows.paperNeighboursRow.domain false) (Rows.paperNeighboursSpec.post enc Try.prog Try.f11 false true false false) := by
 refine returnsInHanded_of_change (C := Try.checked) own started (by kernel_rfl) Try.func11
  (ChangeSpec.witness6 (enc := enc) (C := Try.checked) false ⟨#[], #[(.agg #[.slice none 0 0, .slice none 0 0, .int .i64 0, .int .i64 0]), (.agg #[.int .i64 0, .int .i64 0, .int .i64 0, .slice none 0 0]), (.int .u8 0)], []⟩ 8 (by kernel_rfl) (by kernel_rfl) (by kernel_rfl) (by kernel_rfl)) ?_
 intro W base args ds gs before hval hW _ _;exact law_end (f := Try.f11) (s := Rows.paperNeighboursSpec) (by kernel_rfl) Try.underlying4 (by kernel_rfl) rfl laid (by kernel_rfl)
  (fun ds h => by match ds, (show ds.length = 3 from h) with | [_, _, _], _ => exact ⟨rfl, rfl, rfl⟩) Xdq hval hW
theorem over : Rows.paperNeighboursRow.holds Try.pinned (OpenSpec.ofChange Rows.paperNeighboursSpec) :=
 OpenClaim.holds_of_wide 11 Try.f11 rfl rfl rfl rfl rfl rfl rfl ⟨rfl, rfl, rfl, rfl, rfl⟩ rfl rfl rfl rfl rfl (by kernel_rfl) Try.func11 (by kernel_rfl)
  (of_decide_eq_true (by kernel_rfl)) (by unfold Func.isWrapper; first | (rw [if_pos (by decide +kernel)]; kernel_rfl) | (rw [if_neg (by decide +kernel)]; exact ⟨rfl, rfl⟩))
  (fun os started H enc _ => lifted os started H enc)
theorem proved : Rows.PaperNeighboursSaid := over
end Go.Proofs.Ytilnbgpogfabaaa.paperNeighbours
