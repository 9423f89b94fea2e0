/-
  'PaperCovered': for every input the law returns true, and what is handed in reads as before. No condition.
-/
import Derived.Test.YtilnbgpogfabaaaQcoc
import Derived.Test.YtilnbgpogfabaaaRows
import Derived.WalkKit
import Derived.ProofKit
set_option linter.unusedVariables false
set_option linter.unusedSectionVars false
set_option linter.unusedSimpArgs false
namespace Go.Proofs.Ytilnbgpogfabaaa
open Go.RowKit
set_option maxRecDepth 100000
theorem vif_t [InW] {b : Bool} {A B : Prop} (hb : b = true) (ha : A) : Vif b A B := Vif_iff.2 ⟨fun _ => ha, fun h => absurd (hb.symm.trans h) (by decide)⟩
theorem Xgk [W : InW] (Q : DS -> Prop) (h : Q [[.b true]]) : Xw Q := by
 unfold Xw;delta Zbv Zbw Zby Zbx Zbu Zbt Zbz Zk
 repeat first | refine vif_t (by kernel_rfl) ?_ | refine Pre_iff.2 ⟨trivial, ?_⟩ | refine Pre_iff.2 ⟨by kernel_rfl, ?_⟩
 exact (congrArg Q (by kernel_rfl)).mpr h
noncomputable def Xf7 : PC Try.prog := ⟨23, [], [(false, [.bool])], fun _ => True, fun _ => [[.b true]], Xge fun W hp Q h => Xgk Q h⟩
namespace Sp
theorem apF_ext {ps pt p l : Dt} {c : Int} {j : Nat} (h : cel ps (cel l j 0).int.toNat 0 = cel pt (cel l j 0).int.toNat 0) : apF ps p l c j = apF pt p l c j := by unfold apF; rw [h]
theorem allF_ext {f g : Nat -> Bool} : ∀ {n i : Nat}, (∀ k, i <= k -> k < i + n -> f k = g k) -> allF f i n = allF g i n
 | 0, i, _ => rfl
 | n + 1, i, h => by rw [allF, allF, h i (by omega) (by omega), allF_ext fun k a b => h k (by omega) (by omega)]
theorem apP_ext {ps pt p : Dt} {S c : Int} {seat : Nat} (hS : 1 <= S) (h : ∀ j, j < seat -> cel ps j 0 = cel pt j 0) : apP ps p S seat c = apP pt p S seat c := by
 unfold apP;refine allF_ext fun k _ hk => apF_ext (h _ ?_);have hm : 0 < (seat : Int).tmod S -> 1 <= seat := fun h => by
  by_cases hz : seat = 0
  ·rw [hz] at h; simp at h
  ·omega
 rw [Nat.zero_add] at hk;have key : (cel (bfD S seat) k 0).int < seat /\ 0 < seat := by
  unfold bfD at hk ⊢
  split at hk
  ·rename_i a
   split at hk
   ·rename_i b;have := hm b;rw [if_pos a, if_pos b];have hk : k = 0 \/ k = 1 := by simp at hk; omega
    rcases hk with rfl | rfl
    ·show (seat : Int) - S < _ /\ _; omega
    ·show (seat : Int) - 1 < _ /\ _; omega
   ·rename_i b;rw [if_pos a, if_neg b];have hk : k = 0 := by simp at hk; omega
    subst hk
    show (seat : Int) - S < _ /\ _; omega
  ·rename_i a
   split at hk
   ·rename_i b;have := hm b;rw [if_neg a, if_pos b];have hk : k = 0 := by simp at hk; omega
    subst hk
    show (seat : Int) - 1 < _ /\ _; omega
   ·simp at hk
 omega
theorem fitF_ext {rs ps pt : Dt} {S c n : Int} {seat : Nat} (hS : 1 <= S) (h : ∀ j, j < seat -> cel ps j 0 = cel pt j 0) (k : Nat) : fitF rs ps S c seat n k = fitF rs pt S c seat n k := apP_ext hS h
structure Got (rs L : Dt) (S c n : Int) (j q : Nat) : Prop where
 lt : q < rs.length
 row : cel L j 0 = .l (pickP rs n q)
 fit : fitF rs L S c j n q = true
 no : ∀ k, k < q -> fitF rs L S c j n k = false
theorem drw_got {rs nums : Dt} {S c : Int} (hS : 1 <= S) : ∀ (m i : Nat) (ps : Dt), ps.length = i -> (drw rs nums S c i m ps).ok = true ->
  (drw rs nums S c i m ps).ps.length = i + m /\ (∀ j, j < i -> cel (drw rs nums S c i m ps).ps j 0 = cel ps j 0) /\ ∀ j, i <= j -> j < i + m -> ∃ q, Got rs (drw rs nums S c i m ps).ps S c (cel nums j 0).int j q
 | 0, i, ps, hl, h => ⟨by simpa [drw] using hl, fun j _ => rfl, fun j a b => by omega⟩
 | m + 1, i, ps, hl, h => by
  by_cases hf : fitB rs ps S c i (cel nums i 0).int 0 = true
  ·have e : drw rs nums S c i (m + 1) ps = drw rs nums S c (i + 1) m (fitR rs ps S c i (cel nums i 0).int 0) := by rw [drw, if_pos hf]
   have hl2 : (fitR rs ps S c i (cel nums i 0).int 0).length = i + 1 := by unfold fitR; rw [List.length_append, hl]; rfl
   rw [e] at h ⊢;obtain ⟨h1, h2, h3⟩ := drw_got (nums := nums) hS m (i + 1) _ hl2 h;have hpre : ∀ j, j < i -> cel (drw rs nums S c (i + 1) m (fitR rs ps S c i (cel nums i 0).int 0)).ps j 0 = cel ps j 0 := fun j hj => by
    rw [h2 j (by omega)]; unfold fitR; rw [cel_snoc (by omega)]
   refine ⟨by omega, hpre, fun j a b => ?_⟩
   by_cases hj : j = i
   ·subst hj;obtain ⟨f0, f1, f2, f3⟩ := fstF_spec (show anyF (fitF rs ps S c j (cel nums j 0).int) 0 (rs.length - 0) = true from hf);refine ⟨fstF (fitF rs ps S c j (cel nums j 0).int) 0 (rs.length - 0), by omega, ?_, ?_, fun k hk => ?_⟩
    ·rw [h2 j (by omega)];unfold fitR;rw [<- hl, cel_last];rfl
    ·rw [fitF_ext hS hpre]; exact f2
    ·rw [fitF_ext hS hpre]; exact f3 k (Nat.zero_le _) hk
   ·exact h3 j (by omega) (by omega)
  ·rw [drw, if_neg hf] at h; cases h
structure Drawn (qs ws : Dt) (lo hi r S c : Int) (nums : Dt) : Prop where
 bv : BankV qs ws lo hi
 ho : HallOk r S c nums.length
 nu : NuOk nums
 ro : RsOk (papD qs ws lo hi)
 len : (drawL qs ws lo hi r S c nums).length = nums.length
 got : ∀ j, j < nums.length -> ∃ q, Got (papD qs ws lo hi) (drawL qs ws lo hi r S c nums) S c (cel nums j 0).int j q
theorem drawE_bank {qs ws : Dt} {lo hi r S c : Int} {nums : Dt} (h : ¬ chkE qs ws lo hi = 0) : drawE qs ws lo hi r S c nums = chkE qs ws lo hi := by
 have : hallE qs ws lo hi r S c nums.length = chkE qs ws lo hi := by unfold hallE; rw [if_neg h]
 unfold drawE;rw [this, if_neg h]
theorem drawE_ok {qs ws : Dt} {lo hi r S c : Int} {nums : Dt} (h : drawE qs ws lo hi r S c nums = 0) : Drawn qs ws lo hi r S c nums /\ (drw (papD qs ws lo hi) nums S c 0 nums.length []).ok = true := by
 have hL := drawL_ok h;unfold drawE at h
 split at h
 ·rename_i h1;obtain ⟨bv, ho⟩ := hallE_iff.1 h1
  split at h
  ·omega
  ·rename_i h2
   split at h
   ·omega
   ·rename_i h3
    split at h
    ·rename_i h4;have hf := ho.few;obtain ⟨d1, d2, d3⟩ := drw_got (rs := papD qs ws lo hi) (nums := nums) (c := c) ho.s1 nums.length 0 [] rfl h4;refine ⟨⟨bv, ho, nu_ok (Bool.eq_false_iff.2 h2) (by omega), rs_ok bv h3, ?_, fun j hj => ?_⟩, h4⟩
     ·rw [hL, d1, Nat.zero_add]
     ·rw [hL]; exact d3 j (Nat.zero_le _) (by omega)
    ·omega
 ·omega
theorem pick_ix {rs : Dt} {n : Int} {q : Nat} (hn : 0 <= n) (h1 : 1 <= rs.length) : ((n + q).tmod rs.length).toNat < rs.length := by
 have := tmod_in (n := n + q) (m := rs.length) (by omega) h1;omega
theorem Drawn.is {qs ws : Dt} {lo hi r S c : Int} {nums : Dt} (h : Drawn qs ws lo hi r S c nums) {j : Nat} (hj : j < nums.length) : isP qs ws lo hi (cel (drawL qs ws lo hi r S c nums) j 0).lst = true := by
 obtain ⟨q, hq⟩ := h.got j hj;rw [hq.row];have hn := h.nu.ok j hj;have hi' := pick_ix (q := q) hn.1 h.ro.n1
 show isP qs ws lo hi (pickP _ _ _) = true
 unfold pickP;rw [cel_papD hi'];exact paps_is h.bv (by simpa [papD] using hi')
theorem nthE_bank {qs ws : Dt} {lo hi k : Int} (h : ¬ chkE qs ws lo hi = 0) : nthE qs ws lo hi k = chkE qs ws lo hi := by unfold nthE; rw [if_neg h]
theorem nthR_no {qs ws : Dt} {lo hi k : Int} (h : ¬ nthE qs ws lo hi k = 0) : nthR qs ws lo hi k = [] := by unfold nthR; rw [if_neg h]
theorem length_paps (qs ws : Dt) (lo hi : Int) : ((paps qs ws lo hi).length : Int) = total qs ws lo hi := rfl
theorem nthE_in {qs ws : Dt} {lo hi k : Int} (bv : BankV qs ws lo hi) (h0 : 0 <= k) (h1 : k < total qs ws lo hi) : nthE qs ws lo hi k = 0 := by
 unfold nthE;rw [if_pos (chkE_iff.2 bv), if_pos (inr_iff.2 (by omega))]
theorem nthR_in {qs ws : Dt} {lo hi k : Int} (bv : BankV qs ws lo hi) (h0 : 0 <= k) (h1 : k < total qs ws lo hi) : nthR qs ws lo hi k = (paps qs ws lo hi).getD k.toNat [] := by
 unfold nthR;rw [if_pos (nthE_in bv h0 h1)];rfl
theorem nthE_out {qs ws : Dt} {lo hi k : Int} (bv : BankV qs ws lo hi) (h : ¬ (0 <= k /\ k < total qs ws lo hi)) : nthE qs ws lo hi k = 4 := by
 unfold nthE;rw [if_pos (chkE_iff.2 bv), if_neg (fun e => h (by rw [inr_iff] at e; omega))]
theorem nth_is {qs ws : Dt} {lo hi k : Int} (bv : BankV qs ws lo hi) (h : nthE qs ws lo hi k = 0) : isP qs ws lo hi (nthR qs ws lo hi k) = true := by
 by_cases hk : 0 <= k /\ k < total qs ws lo hi
 ·rw [nthR_in bv hk.1 hk.2];have := length_paps qs ws lo hi;exact paps_is bv (by omega)
 ·rw [nthE_out bv hk] at h; omega
end Sp
set_option maxHeartbeats 1600000
namespace Sp
structure AllIs (qs ws : Dt) (lo hi : Int) (rs : Dt) : Prop where
 few : rs.length <= 30
 ok : ∀ i, i < rs.length -> isP qs ws lo hi (cel rs i 0).lst = true
end Sp
noncomputable def TK8 : Tab Try.prog := ⟨[Xjk], [], []⟩
def Xdp [InW] (e : List Ed) (K : Nat -> List Ed -> Prop) : Prop := match e with
 | [.i i, .ro _ qs, .ro _ ws, .i lo, .i hi, .l rs] => Pre (Sp.BankV qs.xs ws.xs lo hi /\ Sp.AllIs qs.xs ws.xs lo hi rs /\ 0 <= i /\ i <= rs.length) (K 0 [])
 | _ => False
noncomputable def Xer : LC where
 len := 88
 T := [(3, (.ptr 1 0)), (9, (.row 16)), (11, .int .i64)]
 H := [(1, .blk 27 [.rs Ja, .rs Jb, .int .i64, .int .i64]), (16, .nst 23 [.sl Jb])]
 W := ([6] ++ rg 74 13)
 outs := [⟨.exit 0, [], [], ([3, 6, 9, 11] ++ rg 74 13)⟩]
 spec := Xdp
def Xcx [W : InW] (i : Int) (qs : Ro Ja) (ws : Ro Jb) (lo hi : Int) (rs : Dt) (A : List Ed -> Prop) (K : Nat -> List Ed -> Prop) : Prop :=
 Vif (decide (i < (↑(rs.length) : Int))) (Need (decide (0 <= i) && decide (i < (↑(rs.length) : Int))) (Need (decide (i.toNat < rs.length)) (Pre (Sp.BankV qs.xs ws.xs lo hi) (Vif (!Sp.isP qs.xs ws.xs lo hi (cel rs i.toNat (0 : Nat)).lst) ((472 : Nat) = 472 + 1) (Ar .i64 (i + 1) fun z => A [.i z, .ro _ qs, .ro _ ws, .i lo, .i hi, .l rs]))))) (K 0 [])
theorem Xhg (W : InW) (i qs ws lo hi rs A K) : Yff { cxT Try.prog TT TK8 1000 50 with fn := 8 } 1000 (Yob Try.prog 8 9) (Yd6 88 [(3, .ptr 1 0), (9, .rw 16), (11, .si .i64 i)] ([6] ++ rg 74 13)) [(1, .blk 27 [.rs _ qs, .rs _ ws, .si .i64 lo, .si .i64 hi]), (16, .nst 23 [.sl Jb] rs)] (Yut Xer A K) = Xcx i qs ws lo hi rs A K := by kernel_rfl
def Xea : Prop := ∀ (W : InW) (body a : Code), (Try.prog.funcs[8]?).bind (·.body) = some body -> a ∈ Yy body -> Yf0 a = 9 -> @Yms W Try.prog a (@Ytz W Xer)
theorem Xim (meas : [InW] -> List Ed -> Nat) (hyp_ : ∀ (W : InW) i qs ws lo hi rs K, Xdp [.i i, .ro _ qs, .ro _ ws, .i lo, .i hi, .l rs] K -> ∀ A : List Ed -> Prop, (∀ e, meas e < meas [.i i, .ro _ qs, .ro _ ws, .i lo, .i hi, .l rs] -> Xdp e K -> A e) -> Xcx i qs ws lo hi rs A K) : Xea :=
 LE.okOf' (fun W => @TT W) (fun W => @Xb W) Xa TK8 1000 50 (by kernel_rfl) Xer (fun W => @meas W) fun W i qs ws lo hi rs K hs =>
  (Xhg W i qs ws lo hi rs (fun e => meas e < meas [.i i, .ro _ qs, .ro _ ws, .i lo, .i hi, .l rs] /\ Xdp e K) K).mpr (hyp_ W i qs ws lo hi rs K hs _ fun e h1 h2 => ⟨h1, h2⟩)
theorem Xkj : Xea := Xim (fun e => match e with | [.i i, _, _, _, _, .l rs] => ((rs.length : Int) - i).toNat | _ => 0) fun W i qs ws lo hi rs K hs A hA => by
 obtain ⟨⟨bv, al, h0, h1⟩, hk⟩ := hs;unfold Xcx;have hf := al.few
 by_cases hi' : i < rs.length
 ·have ha := al.ok i.toNat (by omega);refine vifd (fun _ => ?_) (fun h => absurd hi' h);refine ned (by simp; omega) (nedd (by omega) ⟨bv, vifb (fun e => ?_) (fun e => ?_)⟩)
  ·rw [ha] at e; cases e
  ·exact ar64 (by omega) (hA _ (by show ((rs.length : Int) - (i + 1)).toNat < ((rs.length : Int) - i).toNat; omega) ⟨⟨bv, al, by omega, by omega⟩, hk⟩)
 ·exact vifd (fun h => absurd h hi') (fun _ => hk)
noncomputable def Xk4 : LE Try.prog := ⟨8, 9, fun W => @Ytz W Xer, Xkj⟩
noncomputable def TL8 : Tab Try.prog := ⟨[Xe4, Xdt, Xe3, Xjk, Xf7], [Xk4], []⟩
def Zca [W : InW] (kQ : Ro Ja) (k_Ws : Ro Jb) (k_Lo k_Hi x_Rows x_Seats x_Com : Int) (x_Nums : Ro Jb) (Q : DS -> Prop) := Vif (!decide (Sp.drawE kQ.xs k_Ws.xs k_Lo k_Hi x_Rows x_Seats x_Com x_Nums.xs = 0)) (Vif (decide (Zk < (↑(List.length (Sp.drawL kQ.xs k_Ws.xs k_Lo k_Hi x_Rows x_Seats x_Com x_Nums.xs)) : Int))) (Q Zbw) (Pre (Sp.BankV kQ.xs k_Ws.xs k_Lo k_Hi /\ Sp.AllIs kQ.xs k_Ws.xs k_Lo k_Hi (Sp.drawL kQ.xs k_Ws.xs k_Lo k_Hi x_Rows x_Seats x_Com x_Nums.xs) /\ Zk <= 0 /\ Zk <= (↑(List.length (Sp.drawL kQ.xs k_Ws.xs k_Lo k_Hi x_Rows x_Seats x_Com x_Nums.xs)) : Int)) (Pre True (Q [[Cl.b true]])))) (Pre (Sp.BankV kQ.xs k_Ws.xs k_Lo k_Hi /\ Sp.AllIs kQ.xs k_Ws.xs k_Lo k_Hi (Sp.drawL kQ.xs k_Ws.xs k_Lo k_Hi x_Rows x_Seats x_Com x_Nums.xs) /\ Zk <= 0 /\ Zk <= (↑(List.length (Sp.drawL kQ.xs k_Ws.xs k_Lo k_Hi x_Rows x_Seats x_Com x_Nums.xs)) : Int)) (Pre True (Q [[Cl.b true]])))
def Xce [W : InW] (kQ : Ro Ja) (k_Ws : Ro Jb) (k_Lo k_Hi n x_Rows x_Seats x_Com : Int) (x_Nums : Ro Jb) (Q : DS -> Prop) : Prop :=
 Pre True (Pre True (Pre True (Vif (!decide (Sp.chkE kQ.xs k_Ws.xs k_Lo k_Hi = 0)) (Vif (!decide (Sp.nthE kQ.xs k_Ws.xs k_Lo k_Hi n = 0)) (Vif (decide (Sp.drawE kQ.xs k_Ws.xs k_Lo k_Hi x_Rows x_Seats x_Com x_Nums.xs = Sp.nthE kQ.xs k_Ws.xs k_Lo k_Hi n)) (Ar .i64 ((↑(List.length (Sp.nthR kQ.xs k_Ws.xs k_Lo k_Hi n)) : Int) + (↑(List.length (Sp.drawL kQ.xs k_Ws.xs k_Lo k_Hi x_Rows x_Seats x_Com x_Nums.xs)) : Int)) fun z => Vif (decide (z = 0)) (Pre True (Q [[Cl.b true]])) (Q Zbw)) (Q Zbw)) (Q Zbw)) (Vif (decide (Sp.nthE kQ.xs k_Ws.xs k_Lo k_Hi n = 0)) (Pre (Sp.BankV kQ.xs k_Ws.xs k_Lo k_Hi) (Vif (!Sp.isP kQ.xs k_Ws.xs k_Lo k_Hi (Sp.nthR kQ.xs k_Ws.xs k_Lo k_Hi n)) (Q Zbw) (Vif (!decide (Sp.nthE kQ.xs k_Ws.xs k_Lo k_Hi n = 0)) (Vif (decide (Zk < (↑(List.length (Sp.nthR kQ.xs k_Ws.xs k_Lo k_Hi n)) : Int))) (Q Zbw) (Zca kQ k_Ws k_Lo k_Hi x_Rows x_Seats x_Com x_Nums Q)) (Zca kQ k_Ws k_Lo k_Hi x_Rows x_Seats x_Com x_Nums Q)))) (Vif (!decide (Sp.nthE kQ.xs k_Ws.xs k_Lo k_Hi n = 0)) (Vif (decide (Zk < (↑(List.length (Sp.nthR kQ.xs k_Ws.xs k_Lo k_Hi n)) : Int))) (Q Zbw) (Zca kQ k_Ws k_Lo k_Hi x_Rows x_Seats x_Com x_Nums Q)) (Zca kQ k_Ws k_Lo k_Hi x_Rows x_Seats x_Com x_Nums Q))))))
theorem Xhv (W : InW) (kQ k_Ws k_Lo k_Hi n x_Rows x_Seats x_Com x_Nums Q) : Yw5 (cxT Try.prog TT TL8 1000 50) 1000 8 [.agg [.rs _ kQ, .rs _ k_Ws, .si .i64 k_Lo, .si .i64 k_Hi], .si .i64 n, .agg [.si .i64 x_Rows, .si .i64 x_Seats, .si .i64 x_Com, .rs _ x_Nums]] [] 0 (Y1i [(false, [.bool])] Q) (fun _ _ _ _ => Stuck 421) = Xce kQ k_Ws k_Lo k_Hi n x_Rows x_Seats x_Com x_Nums Q := by kernel_rfl
abbrev Xbi : List AT := [.agg [.sl Ja, .sl Jb, .int .i64, .int .i64], .one (.int .i64), .agg [.int .i64, .int .i64, .int .i64, .sl Jb]]
theorem Xi1 {pre : DS -> Prop} {res : DS -> DS} (hyp_ : ∀ (W : InW) (kQ : Ro Ja) (k_Ws : Ro Jb) (k_Lo k_Hi n x_Rows x_Seats x_Com : Int) (x_Nums : Ro Jb), pre [[.l kQ.xs, .l k_Ws.xs, .i k_Lo, .i k_Hi], [.i n], [.i x_Rows, .i x_Seats, .i x_Com, .l x_Nums.xs]] -> ∀ Q : DS -> Prop, Q (res [[.l kQ.xs, .l k_Ws.xs, .i k_Lo, .i k_Hi], [.i n], [.i x_Rows, .i x_Seats, .i x_Com, .l x_Nums.xs]]) -> Xce kQ k_Ws k_Lo k_Hi n x_Rows x_Seats x_Com x_Nums Q) : PureOk Try.prog 8 Xbi [(false, [.bool])] pre res :=
 PureOk.of' (fun W => @TT W) (fun W => @Xb W) Xa TL8 1000 50 fun W kQ k_Ws k_Lo k_Hi n x_Rows x_Seats x_Com x_Nums hp =>
  (Xhv W kQ k_Ws k_Lo k_Hi n x_Rows x_Seats x_Com x_Nums (fun o => o = res [[.l kQ.xs, .l k_Ws.xs, .i k_Lo, .i k_Hi], [.i n], [.i x_Rows, .i x_Seats, .i x_Com, .l x_Nums.xs]])).mpr (hyp_ W kQ k_Ws k_Lo k_Hi n x_Rows x_Seats x_Com x_Nums hp _ rfl)
theorem Xff : PureOk Try.prog 8 Xbi [(false, [.bool])] (WfD Xbi) fun _ => [[.b true]] :=
 Xi1 fun W qs ws lo hi n r S c nums hp Q h => by
  unfold Xce;delta Zca Zk Zbw;refine ⟨trivial, trivial, trivial, vifn (fun e => ?_) (fun e => ?_)⟩
  ·have e1 := Sp.nthE_bank (k := n) e;have e2 := Sp.drawE_bank (r := r) (S := S) (c := c) (nums := nums.xs) e;have f1 : ¬ Sp.nthE qs.xs ws.xs lo hi n = 0 := by rw [e1]; exact e
   have f2 : ¬ Sp.drawE qs.xs ws.xs lo hi r S c nums.xs = 0 := by rw [e2]; exact e
   rw [Sp.nthR_no f1, Sp.drawL_no f2];exact vifn (fun _ => vifd (fun _ => ar64 (by simp) (vifd (fun _ => ⟨trivial, h⟩) (fun g => absurd (by simp) g))) (fun g => absurd (e2.trans e1.symm) g)) (fun g => absurd g f1)
  ·have bv := Sp.chkE_iff.1 e;have al : Sp.AllIs qs.xs ws.xs lo hi (Sp.drawL qs.xs ws.xs lo hi r S c nums.xs) := by
    by_cases g : Sp.drawE qs.xs ws.xs lo hi r S c nums.xs = 0
    ·obtain ⟨d, _⟩ := Sp.drawE_ok g;have := d.nu.few;have hl := d.len;exact ⟨by omega, fun i hi' => d.is (by omega)⟩
    ·rw [Sp.drawL_no g];exact ⟨by simp, fun i hi' => by simp at hi'⟩
   have fin : Pre (Sp.BankV qs.xs ws.xs lo hi /\ Sp.AllIs qs.xs ws.xs lo hi (Sp.drawL qs.xs ws.xs lo hi r S c nums.xs) /\ (0 : Int) <= 0 /\ (0 : Int) <= ((Sp.drawL qs.xs ws.xs lo hi r S c nums.xs).length : Int)) (Pre True (Q [[.b true]])) := ⟨⟨bv, al, by omega, by omega⟩, trivial, h⟩;have tail : ∀ T : Prop, (Vif (!decide (Sp.drawE qs.xs ws.xs lo hi r S c nums.xs = 0)) (Vif (decide ((0 : Int) < ((Sp.drawL qs.xs ws.xs lo hi r S c nums.xs).length : Int))) T (Pre (Sp.BankV qs.xs ws.xs lo hi /\ Sp.AllIs qs.xs ws.xs lo hi (Sp.drawL qs.xs ws.xs lo hi r S c nums.xs) /\ (0 : Int) <= 0 /\ (0 : Int) <= ((Sp.drawL qs.xs ws.xs lo hi r S c nums.xs).length : Int)) (Pre True (Q [[.b true]])))) (Pre (Sp.BankV qs.xs ws.xs lo hi /\ Sp.AllIs qs.xs ws.xs lo hi (Sp.drawL qs.xs ws.xs lo hi r S c nums.xs) /\ (0 : Int) <= 0 /\ (0 : Int) <= ((Sp.drawL qs.xs ws.xs lo hi r S c nums.xs).length : Int)) (Pre True (Q [[.b true]])))) := fun T =>
    vifn (fun g => vifd (fun f => absurd f (by rw [Sp.drawL_no g]; simp)) (fun _ => fin)) (fun _ => fin)
   refine vifd (fun e1 => ⟨bv, vifb (fun f => ?_) (fun _ => vifn (fun e2 => absurd e1 e2) (fun _ => tail _))⟩) (fun e1 => vifn (fun _ => vifd (fun f => ?_) (fun _ => tail _)) (fun e2 => absurd e2 e1))
   ·rw [Sp.nth_is bv e1] at f; cases f
   ·exact absurd f (by rw [Sp.nthR_no e1]; simp)
end Go.Proofs.Ytilnbgpogfabaaa
namespace Go.Proofs.Ytilnbgpogfabaaa.paperCovered
open Go.ChangeShapes Go.WideShapes Go.ChangeAt Go.RowKit
set_option maxRecDepth 100000
theorem own : ownKnob Try.prog.godebug = none := by kernel_rfl
theorem laid : laidOutB Try.prog = true := by kernel_rfl
theorem lifted (os : Os) (started : os.Started) (H : Type) (enc : TypeId × Value -> H) :
  ReturnsInHanded {} Try.checked os 8 .any (Rows.paperCoveredSpec.pre6 enc Try.prog Try.f8 Rows.paperCoveredRow.domain false) (Rows.paperCoveredSpec.post enc Try.prog Try.f8 false true false false) := by
 refine returnsInHanded_of_change (C := Try.checked) own started (by kernel_rfl) Try.func8
  (ChangeSpec.witness6 (enc := enc) (C := Try.checked) false ⟨#[], #[(.agg #[.slice none 0 0, .slice none 0 0, .int .i64 0, .int .i64 0]), (.int .i64 0), (.agg #[.int .i64 0, .int .i64 0, .int .i64 0, .slice none 0 0])], []⟩ 8 (by kernel_rfl) (by kernel_rfl) (by kernel_rfl) (by kernel_rfl)) ?_
 intro W base args ds gs before hval hW _ _;exact law_end (f := Try.f8) (s := Rows.paperCoveredSpec) (by kernel_rfl) Try.underlying4 (by kernel_rfl) rfl laid (by kernel_rfl)
  (fun ds h => by match ds, (show ds.length = 3 from h) with | [_, _, _], _ => exact ⟨rfl, rfl, rfl⟩) Xff hval hW
theorem over : Rows.paperCoveredRow.holds Try.pinned (OpenSpec.ofChange Rows.paperCoveredSpec) :=
 OpenClaim.holds_of_wide 8 Try.f8 rfl rfl rfl rfl rfl rfl rfl ⟨rfl, rfl, rfl, rfl, rfl⟩ rfl rfl rfl rfl rfl (by kernel_rfl) Try.func8 (by kernel_rfl)
  (of_decide_eq_true (by kernel_rfl)) (by unfold Func.isWrapper; first | (rw [if_pos (by decide +kernel)]; kernel_rfl) | (rw [if_neg (by decide +kernel)]; exact ⟨rfl, rfl⟩))
  (fun os started H enc _ => lifted os started H enc)
theorem proved : Rows.PaperCoveredSaid := over
end Go.Proofs.Ytilnbgpogfabaaa.paperCovered
