/-
  'PaperNumbered': for every input the law returns true, and what is handed in reads as before. No condition.
-/
import Derived.Test.YtilnbgpogfabaaaQndc
import Derived.Test.YtilnbgpogfabaaaRows
import Derived.WalkKit
import Derived.ProofKit
set_option linter.unusedVariables false
set_option linter.unusedSectionVars false
set_option linter.unusedSimpArgs false
namespace Go.Proofs.Ytilnbgpogfabaaa
open Go.RowKit
set_option maxRecDepth 100000
theorem vif_t [InW] {b : Bool} {A B : Prop} (hb : b = true) (ha : A) : Vif b A B := Vif_iff.2 ⟨fun _ => ha, fun h => absurd (hb.symm.trans h) (by decide)⟩
theorem Xf0 [W : InW] (Q : DS -> Prop) (h : Q [[.b true]]) : Xw Q := by
 unfold Xw;delta Zbq Zbr Zbt Zbs Zbp Zbo Zbu Zk
 repeat first | refine vif_t (by kernel_rfl) ?_ | refine Pre_iff.2 ⟨trivial, ?_⟩ | refine Pre_iff.2 ⟨by kernel_rfl, ?_⟩
 exact (congrArg Q (by kernel_rfl)).mpr h
noncomputable def Xfl : PC Try.prog := ⟨23, [], [(false, [.bool])], fun _ => True, fun _ => [[.b true]], Xft fun W hp Q h => Xf0 Q h⟩
namespace Sp
theorem eqI_refl (a : Dt) : eqI a a = true := eqI_iff.2 rfl
end Sp
namespace Sp
structure Got (rs L : Dt) (S c n : Int) (j q : Nat) : Prop where
 lt : q < rs.length
 row : cel L j 0 = .l (pickP rs n q)
 fit : fitF rs L S c j n q = true
 no : ∀ k, k < q -> fitF rs L S c j n k = false
structure Drawn (qs ws : Dt) (lo hi r S c : Int) (nums : Dt) : Prop where
 bv : BankV qs ws lo hi
 ho : HallOk r S c nums.length
 nu : NuOk nums
 ro : RsOk (papD qs ws lo hi)
 len : (drawL qs ws lo hi r S c nums).length = nums.length
 got : ∀ j, j < nums.length -> ∃ q, Got (papD qs ws lo hi) (drawL qs ws lo hi r S c nums) S c (cel nums j 0).int j q
theorem pick_ix {rs : Dt} {n : Int} {q : Nat} (hn : 0 <= n) (h1 : 1 <= rs.length) : ((n + q).tmod rs.length).toNat < rs.length := by
 have := tmod_in (n := n + q) (m := rs.length) (by omega) h1;omega
theorem Drawn.is {qs ws : Dt} {lo hi r S c : Int} {nums : Dt} (h : Drawn qs ws lo hi r S c nums) {j : Nat} (hj : j < nums.length) : isP qs ws lo hi (cel (drawL qs ws lo hi r S c nums) j 0).lst = true := by
 obtain ⟨q, hq⟩ := h.got j hj;rw [hq.row];have hn := h.nu.ok j hj;have hi' := pick_ix (q := q) hn.1 h.ro.n1
 show isP qs ws lo hi (pickP _ _ _) = true
 unfold pickP;rw [cel_papD hi'];exact paps_is h.bv (by simpa [papD] using hi')
theorem nthE_bank {qs ws : Dt} {lo hi k : Int} (h : ¬ chkE qs ws lo hi = 0) : nthE qs ws lo hi k = chkE qs ws lo hi := by unfold nthE; rw [if_neg h]
theorem length_paps (qs ws : Dt) (lo hi : Int) : ((paps qs ws lo hi).length : Int) = total qs ws lo hi := rfl
theorem nthE_in {qs ws : Dt} {lo hi k : Int} (bv : BankV qs ws lo hi) (h0 : 0 <= k) (h1 : k < total qs ws lo hi) : nthE qs ws lo hi k = 0 := by
 unfold nthE;rw [if_pos (chkE_iff.2 bv), if_pos (inr_iff.2 (by omega))]
theorem nthR_in {qs ws : Dt} {lo hi k : Int} (bv : BankV qs ws lo hi) (h0 : 0 <= k) (h1 : k < total qs ws lo hi) : nthR qs ws lo hi k = (paps qs ws lo hi).getD k.toNat [] := by
 unfold nthR;rw [if_pos (nthE_in bv h0 h1)];rfl
theorem nthE_out {qs ws : Dt} {lo hi k : Int} (bv : BankV qs ws lo hi) (h : ¬ (0 <= k /\ k < total qs ws lo hi)) : nthE qs ws lo hi k = 4 := by
 unfold nthE;rw [if_pos (chkE_iff.2 bv), if_neg (fun e => h (by rw [inr_iff] at e; omega))]
end Sp
theorem Xf1 {n : Int} (h : WfC (.int .u16) (.i n)) : 0 <= n /\ n <= 65535 := by
 cases h with
 | int _ _ h => simp [Lit.wf, IntKind.min, IntKind.max, IntKind.signed, IntKind.bits] at h; omega
theorem WfL.head {t : Ty} {ts : List Ty} {c : Cl} {cs : List Cl} (h : WfL (t :: ts) (c :: cs)) : WfC t c /\ WfL ts cs := by
 cases h with
 | cons h hs => exact ⟨h, hs⟩
theorem WfD.head {a : AT} {ats : List AT} {d : List Cl} {ds : DS} (h : WfD (a :: ats) (d :: ds)) : WfA a d /\ WfD ats ds := by
 obtain ⟨d', ds', e, h1, h2⟩ := h;cases e;exact ⟨h1, h2⟩
namespace Sp
theorem Got.apP {rs L : Dt} {S c n : Int} {j q : Nat} (h : Got rs L S c n j q) : apP L (cel L j 0).lst S j c = true := by
 rw [h.row];exact h.fit
theorem outs_of {lo hi : Int} {xs : Dt} : ∀ {n i : Nat}, (∀ k, i <= k -> k < i + n -> inr (cel xs k 0).int lo hi = true) -> outs lo hi xs i n = false
 | 0, i, _ => rfl
 | n + 1, i, h => by
  rw [outs, h i (by omega) (by omega), outs_of fun k a b => h k (by omega) (by omega)];rfl
theorem NuOk.out {nums : Dt} (h : NuOk nums) : Sp.out 0 1000000000 nums = false := outs_of fun k _ hk => inr_iff.2 (h.ok k (by omega))
end Sp
namespace Sp
theorem pick_num {qs ws : Dt} {lo hi n : Int} (bv : BankV qs ws lo hi) (ro : RsOk (papD qs ws lo hi)) (hn : 0 <= n) (q : Nat) :
  0 <= (n + q).tmod (total qs ws lo hi) /\ (n + q).tmod (total qs ws lo hi) < total qs ws lo hi /\
  nthE qs ws lo hi ((n + q).tmod (total qs ws lo hi)) = 0 /\ nthR qs ws lo hi ((n + q).tmod (total qs ws lo hi)) = pickP (papD qs ws lo hi) n q /\
  numE qs ws lo hi (pickP (papD qs ws lo hi) n q) = 0 /\ numR qs ws lo hi (pickP (papD qs ws lo hi) n q) = (n + q).tmod (total qs ws lo hi) := by
 have hlp := length_papD qs ws lo hi;have hl := length_paps qs ws lo hi;have ht := tmod_in (n := n + q) (m := (papD qs ws lo hi).length) (by omega) ro.n1;rw [hlp] at ht;have e : pickP (papD qs ws lo hi) n q = (paps qs ws lo hi).getD ((n + q).tmod (total qs ws lo hi)).toNat [] := by
  unfold pickP;rw [hlp, cel_papD (by omega)]
 have hf := paps_fol (qs := qs) (ws := ws) (lo := lo) (hi := hi) (i := ((n + q).tmod (total qs ws lo hi)).toNat) (by omega);rw [<- e] at hf;have hE : numE qs ws lo hi (pickP (papD qs ws lo hi) n q) = 0 := by
  unfold numE;rw [if_pos (chkE_iff.2 bv), hf, if_pos rfl]
 refine ⟨ht.1, ht.2, nthE_in bv ht.1 ht.2, by rw [nthR_in bv ht.1 ht.2, e], hE, ?_⟩;unfold numR;rw [if_pos hE, hf]
 show (((n + (q : Int)).tmod (total qs ws lo hi)).toNat : Int) = _
 omega
end Sp
namespace Sp
theorem ap_16 {ps p : Dt} {S seat : Int} (h : ∀ j, (cel ps j 0).lst.length <= 16) : apP ps p S seat 16 = true := by
 unfold apP;refine allF_iff.2 fun k _ _ => decide_eq_true ?_;have h1 := (cmF_b (cel ps (cel (bfD S seat) k 0).int.toNat 0).lst p (cel ps (cel (bfD S seat) k 0).int.toNat 0).lst.length).2;have h2 := h (cel (bfD S seat) k 0).int.toNat;unfold cmn;omega
theorem cel_far {ps : Dt} {j : Nat} (h : ps.length <= j) : cel ps j 0 = .z := by
 simp [cel, List.getD_eq_getElem?_getD, List.getElem?_eq_none h]
theorem Drawn.all16 {qs ws : Dt} {lo hi r S c : Int} {nums : Dt} (d : Drawn qs ws lo hi r S c nums) (j : Nat) : (cel (drawL qs ws lo hi r S c nums) j 0).lst.length <= 16 := by
 by_cases hj : j < nums.length
 ·obtain ⟨q, g⟩ := d.got j hj;rw [g.row];exact d.ro.few _ (pick_ix (d.nu.ok j hj).1 d.ro.n1)
 ·rw [cel_far (by rw [d.len]; omega)];simp [Cl.lst]
theorem Drawn.own {qs ws : Dt} {lo hi r S : Int} {nums : Dt} (d : Drawn qs ws lo hi r S 16 nums) {j : Nat} (hj : j < nums.length) :
  nthE qs ws lo hi ((cel nums j 0).int.tmod (total qs ws lo hi)) = 0 /\ (cel (drawL qs ws lo hi r S 16 nums) j 0).lst = nthR qs ws lo hi ((cel nums j 0).int.tmod (total qs ws lo hi)) := by
 obtain ⟨q, g⟩ := d.got j hj;have hn := (d.nu.ok j hj).1;have hq : q = 0 := by
  by_cases hz : q = 0
  ·exact hz
  ·have := g.no 0 (by omega);unfold fitF at this;rw [ap_16 d.all16] at this;cases this
 subst hq;obtain ⟨_, _, b2, b3, _⟩ := pick_num d.bv d.ro hn 0;rw [show (cel nums j 0).int + ((0 : Nat) : Int) = (cel nums j 0).int by omega] at b2 b3;rw [g.row, b3];exact ⟨b2, rfl⟩
end Sp
set_option maxHeartbeats 1600000
namespace Sp
def dfF (a b : Dt) (i : Nat) : Bool := !decide ((cel a i 0).int = (cel b i 0).int)
def latB (a b : Dt) (i : Nat) : Bool := anyF (dfF a b) i (min a.length b.length - i)
def latR (a b : Dt) (i : Nat) : Bool := decide ((cel a (fstF (dfF a b) i (min a.length b.length - i)) 0).int < (cel b (fstF (dfF a b) i (min a.length b.length - i)) 0).int)
end Sp
def Xfe [InW] (e : List Ed) (K : Nat -> List Ed -> Prop) : Prop := match e with
 | [.ro _ a, .ro _ b, .i i] => Pre (0 <= i /\ i <= a.xs.length /\ i <= b.xs.length) (Vif (Sp.latB a.xs b.xs i.toNat) (K 1 [.b (Sp.latR a.xs b.xs i.toNat)]) (K 0 []))
 | _ => False
noncomputable def Xfw : LC where
 len := 36
 T := [(0, .rs Jb), (1, .rs Jb), (5, .int .i64)]
 H := []
 W := ([4] ++ rg 6 30)
 outs := [⟨.exit 0, [], [], ([0, 1] ++ rg 4 32)⟩, ⟨.ret, [(4, .bool)], [], ([0, 1] ++ rg 5 31)⟩]
 spec := Xfe
def Xe2 [W : InW] (a b : Ro Jb) (i : Int) (A : List Ed -> Prop) (K : Nat -> List Ed -> Prop) : Prop :=
 Vif (decide (i < (↑(a.xs.length) : Int))) (Vif (decide (i < (↑(b.xs.length) : Int))) (Need (decide (0 <= i) && decide (i < (↑(a.xs.length) : Int))) (Need (decide (i.toNat < a.xs.length)) (Need (decide (0 <= i) && decide (i < (↑(b.xs.length) : Int))) (Need (decide (i.toNat < b.xs.length)) (Vif (!decide ((cel a.xs i.toNat Zbc).int = (cel b.xs i.toNat Zbc).int)) (Need (decide (0 <= i) && decide (i < (↑(a.xs.length) : Int))) (Need (decide (i.toNat < a.xs.length)) (Need (decide (0 <= i) && decide (i < (↑(b.xs.length) : Int))) (Need (decide (i.toNat < b.xs.length)) (K (0+1) [.b (decide ((cel a.xs i.toNat Zbc).int < (cel b.xs i.toNat Zbc).int))]))))) (Ar .i64 (i + 1) fun z => A [.ro _ a, .ro _ b, .i z])))))) (K 0 [])) (K 0 [])
theorem Xig (W : InW) (a b i A K) : Yff { cxT Try.prog TT T0 1000 50 with fn := 38 } 1000 (Yob Try.prog 38 3) (Yd6 36 [(0, .rs _ a), (1, .rs _ b), (5, .si .i64 i)] ([4] ++ rg 6 30)) [] (Yut Xfw A K) = Xe2 a b i A K := by kernel_rfl
def Xen : Prop := ∀ (W : InW) (body a : Code), (Try.prog.funcs[38]?).bind (·.body) = some body -> a ∈ Yy body -> Yf0 a = 3 -> @Yms W Try.prog a (@Ytz W Xfw)
theorem Xiw (meas : [InW] -> List Ed -> Nat) (hyp_ : ∀ (W : InW) a b i K, Xfe [.ro _ a, .ro _ b, .i i] K -> ∀ A : List Ed -> Prop, (∀ e, meas e < meas [.ro _ a, .ro _ b, .i i] -> Xfe e K -> A e) -> Xe2 a b i A K) : Xen :=
 LE.okOf' (fun W => @TT W) (fun W => @Xc W) Xa T0 1000 50 (by kernel_rfl) Xfw (fun W => @meas W) fun W a b i K hs =>
  (Xig W a b i (fun e => meas e < meas [.ro _ a, .ro _ b, .i i] /\ Xfe e K) K).mpr (hyp_ W a b i K hs _ fun e h1 h2 => ⟨h1, h2⟩)
theorem okLla : Xen := Xiw (fun e => match e with | [.ro _ a, _, .i i] => ((a.xs.length : Int) - i).toNat | _ => 0) fun W a b i K hs A hA => by
 obtain ⟨⟨h0, h1, h2⟩, hk⟩ := hs;unfold Xe2;delta Zbc;have hm := a.len;simp only [maxLen] at hm
 by_cases hi' : i < a.xs.length
 ·by_cases hj : i < b.xs.length
  ·unfold Sp.latB Sp.latR at hk;rw [show min a.xs.length b.xs.length - i.toNat = (min a.xs.length b.xs.length - (i + 1).toNat) + 1 by omega] at hk;obtain ⟨g1, g2⟩ := Xbx (K1 := fun j => K 1 [.b (decide ((cel a.xs j 0).int < (cel b.xs j 0).int))]) hk;rw [show i.toNat + 1 = (i + 1).toNat by omega] at g2;refine vifd (fun _ => vifd (fun _ => ?_) (fun h => absurd hj h)) (fun h => absurd hi' h);refine ned (by simp; omega) (nedd (by omega) (ned (by simp; omega) (nedd (by omega) (vifn (fun e => ?_) (fun e => ?_)))))
   ·exact ned (by simp; omega) (nedd (by omega) (ned (by simp; omega) (nedd (by omega) (g1 (by simp [Sp.dfF, e])))))
   ·exact ar64 (by omega) (hA _ (by show ((a.xs.length : Int) - (i + 1)).toNat < ((a.xs.length : Int) - i).toNat; omega) ⟨⟨by omega, by omega, by omega⟩, g2 (by simp [Sp.dfF, e])⟩)
  ·refine vifd (fun _ => vifd (fun h => absurd h hj) (fun _ => ?_)) (fun h => absurd hi' h);unfold Sp.latB at hk;rw [show min a.xs.length b.xs.length - i.toNat = 0 by omega] at hk;exact hk.2 rfl
 ·refine vifd (fun h => absurd h hi') (fun _ => ?_);unfold Sp.latB at hk;rw [show min a.xs.length b.xs.length - i.toNat = 0 by omega] at hk;exact hk.2 rfl
noncomputable def le_la : LE Try.prog := ⟨38, 3, fun W => @Ytz W Xfw, okLla⟩
noncomputable def TK9 : Tab Try.prog := ⟨[], [le_la], []⟩
abbrev Xx (ds : DS) : DS := match ds with | [[.l a], [.l b]] => [[.b (Sp.lat a b)]] | _ => []
def Xbo [W : InW] (a b : Ro Jb) (Q : DS -> Prop) : Prop :=
 Pre ((0 : Int) <= 0 /\ (0 : Int) <= (↑(a.xs.length) : Int) /\ (0 : Int) <= (↑(b.xs.length) : Int)) (Vif (Sp.latB a.xs b.xs (Int.toNat (0 : Int))) (Q [[Cl.b (Sp.latR a.xs b.xs (Int.toNat (0 : Int)))]]) (Q [[Cl.b false]]))
theorem Xfa (W : InW) (a b Q) : Yw5 (cxT Try.prog TT TK9 1000 50) 1000 38 [.rs _ a, .rs _ b] [] 0 (Y1i [(false, [.bool])] Q) (fun _ _ _ _ => Stuck 421) = Xbo a b Q := by kernel_rfl
abbrev X2 : List AT := [.one (.sl Jb), .one (.sl Jb)]
theorem Xfs {pre : DS -> Prop} {res : DS -> DS} (hyp_ : ∀ (W : InW) (a b : Ro Jb), pre [[.l a.xs], [.l b.xs]] -> ∀ Q : DS -> Prop, Q (res [[.l a.xs], [.l b.xs]]) -> Xbo a b Q) : PureOk Try.prog 38 X2 [(false, [.bool])] pre res :=
 PureOk.of' (fun W => @TT W) (fun W => @Xc W) Xa TK9 1000 50 fun W a b hp =>
  (Xfa W a b (fun o => o = res [[.l a.xs], [.l b.xs]])).mpr (hyp_ W a b hp _ rfl)
theorem Sp.lat_ix (a b : Dt) : ∀ (n i : Nat), min a.length b.length - i = n -> Sp.lat (a.drop i) (b.drop i) = (Sp.latB a b i && Sp.latR a b i)
 | 0, i, hn => by
  unfold Sp.latB;rw [hn]
  by_cases h : a.length <= i
  ·rw [List.drop_eq_nil_of_le h]; simp [Sp.lat, Sp.anyF]
  ·rw [List.drop_eq_nil_of_le (show b.length <= i by omega)];cases a.drop i <;> simp [Sp.lat, Sp.anyF]
 | n + 1, i, hn => by
  have ih := Sp.lat_ix a b n (i + 1) (by omega);have ha : i < a.length := by omega
  have hb : i < b.length := by omega
  rw [List.drop_eq_getElem_cons ha, List.drop_eq_getElem_cons hb, Sp.lat, ih];have ea : (a[i].getD 0 .z).int = (cel a i 0).int := by simp [cel, List.getD_eq_getElem?_getD, ha]
  have eb : (b[i].getD 0 .z).int = (cel b i 0).int := by simp [cel, List.getD_eq_getElem?_getD, hb]
  rw [ea, eb];unfold Sp.latB Sp.latR;rw [hn, show min a.length b.length - (i + 1) = n by omega, Sp.anyF, Sp.fstF]
  split
  ·rename_i h;have hd : Sp.dfF a b i = false := by simp [Sp.dfF, h]
   rw [hd, if_neg (by decide), Bool.false_or]
  ·rename_i h;have hd : Sp.dfF a b i = true := by simp [Sp.dfF, h]
   rw [hd, if_pos rfl, Bool.true_or, Bool.true_and]
theorem Sp.nth_num {qs ws : Dt} {lo hi k : Int} (bv : Sp.BankV qs ws lo hi) (h0 : 0 <= k) (h1 : k < Sp.total qs ws lo hi) : Sp.numE qs ws lo hi (Sp.nthR qs ws lo hi k) = 0 /\ Sp.numR qs ws lo hi (Sp.nthR qs ws lo hi k) = k := by
 have hl := Sp.length_paps qs ws lo hi;have hf := Sp.paps_fol (qs := qs) (ws := ws) (lo := lo) (hi := hi) (i := k.toNat) (by omega);rw [Sp.nthR_in bv h0 h1];have hE : Sp.numE qs ws lo hi ((Sp.paps qs ws lo hi).getD k.toNat []) = 0 := by
  unfold Sp.numE;rw [if_pos (Sp.chkE_iff.2 bv), hf, if_pos rfl]
 refine ⟨hE, ?_⟩;unfold Sp.numR;rw [if_pos hE, hf];exact Int.toNat_of_nonneg h0
theorem Sp.nth_lat {qs ws : Dt} {lo hi i k : Int} (bv : Sp.BankV qs ws lo hi) (h0 : 0 <= i) (h1 : i < k) (h2 : k < Sp.total qs ws lo hi) : Sp.lat (Sp.nthR qs ws lo hi i) (Sp.nthR qs ws lo hi k) = true := by
 have hl := Sp.length_paps qs ws lo hi;rw [Sp.nthR_in bv h0 (by omega), Sp.nthR_in bv (by omega) h2];exact Sp.paps_lat (by omega) (by omega)
theorem Xhf : PureOk Try.prog 38 X2 [(false, [.bool])] (fun _ => True) Xx :=
 Xfs fun W a b hp Q h => by
  unfold Xbo;have e := Sp.lat_ix a.xs b.xs _ 0 rfl;simp only [Xx] at h;rw [List.drop_zero, List.drop_zero] at e;rw [e] at h;refine ⟨⟨by omega, by omega, by omega⟩, vif (fun g => ?_) (fun g => ?_)⟩
  ·rw [show Sp.latB a.xs b.xs 0 = true from g, Bool.true_and] at h; exact h
  ·rw [show Sp.latB a.xs b.xs 0 = false from g, Bool.false_and] at h; exact h
noncomputable def Xfk : PC Try.prog := ⟨38, X2, [(false, [.bool])], fun _ => True, Xx, Xhf⟩
noncomputable def TL9 : Tab Try.prog := ⟨[Xee, Xeh, Xeg, Xef, Xb5, Xfk, Xfl], [], []⟩
def Zbx [W : InW] (Q : DS -> Prop) := Pre True (Q [[Cl.b true]])
def Zbv [W : InW] (kQ : Ro Ja) (k_Ws : Ro Jb) (k_Lo k_Hi : Int) (Q : DS -> Prop) := Pre True (Vif (!decide (Sp.chkE kQ.xs k_Ws.xs k_Lo k_Hi = 0)) (Vif (decide (Sp.nthE kQ.xs k_Ws.xs k_Lo k_Hi Zk = Sp.chkE kQ.xs k_Ws.xs k_Lo k_Hi)) (Zbx Q) (Vif (decide (Sp.chkE kQ.xs k_Ws.xs k_Lo k_Hi = 0)) (Vif (decide (Sp.cntR kQ.xs k_Ws.xs k_Lo k_Hi = 0)) (Vif (decide (Sp.nthE kQ.xs k_Ws.xs k_Lo k_Hi Zk = 4)) (Zbx Q) (Q Zbr)) (Q Zbr)) (Q Zbr))) (Vif (decide (Sp.chkE kQ.xs k_Ws.xs k_Lo k_Hi = 0)) (Vif (decide (Sp.cntR kQ.xs k_Ws.xs k_Lo k_Hi = 0)) (Vif (decide (Sp.nthE kQ.xs k_Ws.xs k_Lo k_Hi Zk = 4)) (Zbx Q) (Q Zbr)) (Q Zbr)) (Q Zbr)))
def Zbw [W : InW] (kQ : Ro Ja) (k_Ws : Ro Jb) (k_Lo k_Hi : Int) := Sp.cntR kQ.xs k_Ws.xs k_Lo k_Hi
def Xcf [W : InW] (kQ : Ro Ja) (k_Ws : Ro Jb) (k_Lo k_Hi x_A x_B : Int) (Q : DS -> Prop) : Prop :=
 Pre True (Vif (!decide (Sp.chkE kQ.xs k_Ws.xs k_Lo k_Hi = 0)) (Zbv kQ k_Ws k_Lo k_Hi Q) (Pre True (Vif (!decide (Sp.chkE kQ.xs k_Ws.xs k_Lo k_Hi = 0)) (Zbv kQ k_Ws k_Lo k_Hi Q) (Vif (decide (Sp.cntR kQ.xs k_Ws.xs k_Lo k_Hi <= 0)) (Zbv kQ k_Ws k_Lo k_Hi Q) (Ar .i64 x_A fun z => Need (!decide (Sp.cntR kQ.xs k_Ws.xs k_Lo k_Hi = 0)) (Ar .i64 x_B fun z_1 => Need (!decide (Sp.cntR kQ.xs k_Ws.xs k_Lo k_Hi = 0)) (Pre True (Pre True (Pre True (Pre True (Vif (decide (Sp.nthE kQ.xs k_Ws.xs k_Lo k_Hi (z.tmod (Zbw kQ k_Ws k_Lo k_Hi)) = 0)) (Vif (decide (Sp.nthE kQ.xs k_Ws.xs k_Lo k_Hi (z_1.tmod (Zbw kQ k_Ws k_Lo k_Hi)) = 0)) (Vif (decide (Sp.numE kQ.xs k_Ws.xs k_Lo k_Hi (Sp.nthR kQ.xs k_Ws.xs k_Lo k_Hi (z.tmod (Zbw kQ k_Ws k_Lo k_Hi))) = 0)) (Vif (decide (Sp.nthE kQ.xs k_Ws.xs k_Lo k_Hi (Zbw kQ k_Ws k_Lo k_Hi) = 4)) (Vif (decide (Sp.numR kQ.xs k_Ws.xs k_Lo k_Hi (Sp.nthR kQ.xs k_Ws.xs k_Lo k_Hi (z.tmod (Zbw kQ k_Ws k_Lo k_Hi))) = z.tmod (Zbw kQ k_Ws k_Lo k_Hi))) (Vif (decide (z_1.tmod (Zbw kQ k_Ws k_Lo k_Hi) <= z.tmod (Zbw kQ k_Ws k_Lo k_Hi))) (Vif (decide (z.tmod (Zbw kQ k_Ws k_Lo k_Hi) <= z_1.tmod (Zbw kQ k_Ws k_Lo k_Hi))) (Vif (!decide (z.tmod (Zbw kQ k_Ws k_Lo k_Hi) = z_1.tmod (Zbw kQ k_Ws k_Lo k_Hi))) (Zbx Q) (Pre True (Vif (Sp.eqI (Sp.nthR kQ.xs k_Ws.xs k_Lo k_Hi (z.tmod (Zbw kQ k_Ws k_Lo k_Hi))) (Sp.nthR kQ.xs k_Ws.xs k_Lo k_Hi (z_1.tmod (Zbw kQ k_Ws k_Lo k_Hi)))) (Zbx Q) (Q Zbr)))) (Pre True (Vif (Sp.lat (Sp.nthR kQ.xs k_Ws.xs k_Lo k_Hi (z_1.tmod (Zbw kQ k_Ws k_Lo k_Hi))) (Sp.nthR kQ.xs k_Ws.xs k_Lo k_Hi (z.tmod (Zbw kQ k_Ws k_Lo k_Hi)))) (Vif (!decide (z.tmod (Zbw kQ k_Ws k_Lo k_Hi) = z_1.tmod (Zbw kQ k_Ws k_Lo k_Hi))) (Zbx Q) (Pre True (Vif (Sp.eqI (Sp.nthR kQ.xs k_Ws.xs k_Lo k_Hi (z.tmod (Zbw kQ k_Ws k_Lo k_Hi))) (Sp.nthR kQ.xs k_Ws.xs k_Lo k_Hi (z_1.tmod (Zbw kQ k_Ws k_Lo k_Hi)))) (Zbx Q) (Q Zbr)))) (Q Zbr)))) (Pre True (Vif (Sp.lat (Sp.nthR kQ.xs k_Ws.xs k_Lo k_Hi (z.tmod (Zbw kQ k_Ws k_Lo k_Hi))) (Sp.nthR kQ.xs k_Ws.xs k_Lo k_Hi (z_1.tmod (Zbw kQ k_Ws k_Lo k_Hi)))) (Vif (decide (z.tmod (Zbw kQ k_Ws k_Lo k_Hi) <= z_1.tmod (Zbw kQ k_Ws k_Lo k_Hi))) (Vif (!decide (z.tmod (Zbw kQ k_Ws k_Lo k_Hi) = z_1.tmod (Zbw kQ k_Ws k_Lo k_Hi))) (Zbx Q) (Pre True (Vif (Sp.eqI (Sp.nthR kQ.xs k_Ws.xs k_Lo k_Hi (z.tmod (Zbw kQ k_Ws k_Lo k_Hi))) (Sp.nthR kQ.xs k_Ws.xs k_Lo k_Hi (z_1.tmod (Zbw kQ k_Ws k_Lo k_Hi)))) (Zbx Q) (Q Zbr)))) (Pre True (Vif (Sp.lat (Sp.nthR kQ.xs k_Ws.xs k_Lo k_Hi (z_1.tmod (Zbw kQ k_Ws k_Lo k_Hi))) (Sp.nthR kQ.xs k_Ws.xs k_Lo k_Hi (z.tmod (Zbw kQ k_Ws k_Lo k_Hi)))) (Vif (!decide (z.tmod (Zbw kQ k_Ws k_Lo k_Hi) = z_1.tmod (Zbw kQ k_Ws k_Lo k_Hi))) (Zbx Q) (Pre True (Vif (Sp.eqI (Sp.nthR kQ.xs k_Ws.xs k_Lo k_Hi (z.tmod (Zbw kQ k_Ws k_Lo k_Hi))) (Sp.nthR kQ.xs k_Ws.xs k_Lo k_Hi (z_1.tmod (Zbw kQ k_Ws k_Lo k_Hi)))) (Zbx Q) (Q Zbr)))) (Q Zbr)))) (Q Zbr)))) (Q Zbr)) (Q Zbr)) (Q Zbr)) (Q Zbr)) (Q Zbr))))))))))))
theorem Xg6 (W : InW) (kQ k_Ws k_Lo k_Hi x_A x_B Q) : Yw5 (cxT Try.prog TT TL9 1000 50) 1000 9 [.agg [.rs _ kQ, .rs _ k_Ws, .si .i64 k_Lo, .si .i64 k_Hi], .agg [.si .u16 x_A, .si .u16 x_B]] [] 0 (Y1i [(false, [.bool])] Q) (fun _ _ _ _ => Stuck 421) = Xcf kQ k_Ws k_Lo k_Hi x_A x_B Q := by kernel_rfl
abbrev Xbk : List AT := [.agg [.sl Ja, .sl Jb, .int .i64, .int .i64], .agg [.int .u16, .int .u16]]
theorem Xh7 {pre : DS -> Prop} {res : DS -> DS} (hyp_ : ∀ (W : InW) (kQ : Ro Ja) (k_Ws : Ro Jb) (k_Lo k_Hi x_A x_B : Int), pre [[.l kQ.xs, .l k_Ws.xs, .i k_Lo, .i k_Hi], [.i x_A, .i x_B]] -> ∀ Q : DS -> Prop, Q (res [[.l kQ.xs, .l k_Ws.xs, .i k_Lo, .i k_Hi], [.i x_A, .i x_B]]) -> Xcf kQ k_Ws k_Lo k_Hi x_A x_B Q) : PureOk Try.prog 9 Xbk [(false, [.bool])] pre res :=
 PureOk.of' (fun W => @TT W) (fun W => @Xc W) Xa TL9 1000 50 fun W kQ k_Ws k_Lo k_Hi x_A x_B hp =>
  (Xg6 W kQ k_Ws k_Lo k_Hi x_A x_B (fun o => o = res [[.l kQ.xs, .l k_Ws.xs, .i k_Lo, .i k_Hi], [.i x_A, .i x_B]])).mpr (hyp_ W kQ k_Ws k_Lo k_Hi x_A x_B hp _ rfl)
theorem Xer : PureOk Try.prog 9 Xbk [(false, [.bool])] (WfD Xbk) fun _ => [[.b true]] :=
 Xh7 fun W qs ws lo hi x y hp Q h => by
  have w1 := Xf1 (WfL.head (WfD.head (WfD.head hp).2).1).1;have w2 := Xf1 (WfL.head (WfL.head (WfD.head (WfD.head hp).2).1).2).1;unfold Xcf;delta Zbv Zbr Zbx Zbw Zk;refine ⟨trivial, vifn (fun ec => ⟨trivial, vifn (fun _ => vifd (fun _ => ⟨trivial, h⟩) (fun g => absurd (Sp.nthE_bank ec) g)) (fun g => absurd g ec)⟩) (fun ec => ⟨trivial, vifn (fun g => absurd ec g) (fun _ => ?_)⟩)⟩;have bv := Sp.chkE_iff.1 ec;have en : Sp.cntR qs.xs ws.xs lo hi = Sp.total qs.xs ws.xs lo hi := by unfold Sp.cntR; rw [if_pos ec]
  have b2 : 0 <= Sp.total qs.xs ws.xs lo hi /\ Sp.total qs.xs ws.xs lo hi <= 65536 := Sp.cnt_16 bv.n2 0 (Sp.v0 ws.xs);rw [en];refine vifd (fun hz => ⟨trivial, vifn (fun g => absurd ec g) (fun _ => vifd (fun _ => vifd (fun _ => vifd (fun _ => ⟨trivial, h⟩) (fun g => absurd (Sp.nthE_out bv (by omega)) g)) (fun g => absurd (by omega) g)) (fun g => absurd ec g))⟩) (fun hz => ?_);have hx : 0 <= x.tmod (Sp.total qs.xs ws.xs lo hi) /\ x.tmod (Sp.total qs.xs ws.xs lo hi) < Sp.total qs.xs ws.xs lo hi := by
   rw [Int.tmod_eq_emod_of_nonneg w1.1];exact ⟨Int.emod_nonneg _ (by omega), Int.emod_lt_of_pos _ (by omega)⟩
  have hy : 0 <= y.tmod (Sp.total qs.xs ws.xs lo hi) /\ y.tmod (Sp.total qs.xs ws.xs lo hi) < Sp.total qs.xs ws.xs lo hi := by
   rw [Int.tmod_eq_emod_of_nonneg w2.1];exact ⟨Int.emod_nonneg _ (by omega), Int.emod_lt_of_pos _ (by omega)⟩
  refine ar64 (by omega) (ned (by rw [decide_eq_false (by omega)]; rfl) (ar64 (by omega) (ned (by rw [decide_eq_false (by omega)]; rfl) ⟨trivial, trivial, trivial, trivial, ?_⟩)));generalize x.tmod (Sp.total qs.xs ws.xs lo hi) = i at *;generalize y.tmod (Sp.total qs.xs ws.xs lo hi) = k at *;obtain ⟨n1, n2⟩ := Sp.nth_num bv hx.1 hx.2;refine vifd (fun _ => ?_) (fun g => absurd (Sp.nthE_in bv hx.1 hx.2) g);refine vifd (fun _ => ?_) (fun g => absurd (Sp.nthE_in bv hy.1 hy.2) g);refine vifd (fun _ => ?_) (fun g => absurd n1 g);refine vifd (fun _ => ?_) (fun g => absurd (Sp.nthE_out bv (by omega)) g);refine vifd (fun _ => ?_) (fun g => absurd n2 g);refine vifd (fun g1 => vifd (fun g2 => vifn (fun g => absurd (by omega) g) (fun g => ⟨trivial, ?_⟩)) (fun g2 => ⟨trivial, ?_⟩)) (fun g1 => ⟨trivial, ?_⟩)
  ·rw [g, Sp.eqI_refl];exact vif (fun _ => ⟨trivial, h⟩) (fun g => by cases g)
  ·rw [Sp.nth_lat bv hy.1 (by omega) hx.2];exact vif (fun _ => vifn (fun _ => ⟨trivial, h⟩) (fun g => absurd g (by omega))) (fun g => by cases g)
  ·rw [Sp.nth_lat bv hx.1 (by omega) hy.2];exact vif (fun _ => vifd (fun _ => vifn (fun _ => ⟨trivial, h⟩) (fun g => absurd g (by omega))) (fun g => absurd (by omega) g)) (fun g => by cases g)
end Go.Proofs.Ytilnbgpogfabaaa
namespace Go.Proofs.Ytilnbgpogfabaaa.paperNumbered
open Go.ChangeShapes Go.WideShapes Go.ChangeAt Go.RowKit
set_option maxRecDepth 100000
theorem own : ownKnob Try.prog.godebug = none := by kernel_rfl
theorem laid : laidOutB Try.prog = true := by kernel_rfl
theorem lifted (os : Os) (started : os.Started) (H : Type) (enc : TypeId × Value -> H) :
  ReturnsInHanded {} Try.checked os 9 .any (Rows.paperNumberedSpec.pre6 enc Try.prog Try.f9 Rows.paperNumberedRow.domain false) (Rows.paperNumberedSpec.post enc Try.prog Try.f9 false true false false) := by
 refine returnsInHanded_of_change (C := Try.checked) own started (by kernel_rfl) Try.func9
  (ChangeSpec.witness6 (enc := enc) (C := Try.checked) false ⟨#[], #[(.agg #[.slice none 0 0, .slice none 0 0, .int .i64 0, .int .i64 0]), (.agg #[.int .u16 0, .int .u16 0])], []⟩ 8 (by kernel_rfl) (by kernel_rfl) (by kernel_rfl) (by kernel_rfl)) ?_
 intro W base args ds gs before hval hW _ _;exact law_end (f := Try.f9) (s := Rows.paperNumberedSpec) (by kernel_rfl) Try.underlying4 (by kernel_rfl) rfl laid (by kernel_rfl)
  (fun ds h => by match ds, (show ds.length = 2 from h) with | [_, _], _ => exact ⟨rfl, rfl, rfl⟩) Xer hval hW
theorem over : Rows.paperNumberedRow.holds Try.pinned (OpenSpec.ofChange Rows.paperNumberedSpec) :=
 OpenClaim.holds_of_wide 9 Try.f9 rfl rfl rfl rfl rfl rfl rfl ⟨rfl, rfl, rfl, rfl, rfl⟩ rfl rfl rfl rfl rfl (by kernel_rfl) Try.func9 (by kernel_rfl)
  (of_decide_eq_true (by kernel_rfl)) (by unfold Func.isWrapper; first | (rw [if_pos (by decide +kernel)]; kernel_rfl) | (rw [if_neg (by decide +kernel)]; exact ⟨rfl, rfl⟩))
  (fun os started H enc _ => lifted os started H enc)
theorem proved : Rows.PaperNumberedSaid := over
end Go.Proofs.Ytilnbgpogfabaaa.paperNumbered
