/-
  'PaperHarder': for every input the law returns true, and what is handed in reads as before. No condition.
-/
import Derived.Test.YtilnbgpogfabaaaQhac
import Derived.Test.YtilnbgpogfabaaaRows
import Derived.WalkKit
import Derived.ProofKit
set_option linter.unusedVariables false
set_option linter.unusedSectionVars false
set_option linter.unusedSimpArgs false
namespace Go.Proofs.Ytilnbgpogfabaaa
open Go.RowKit
set_option maxRecDepth 100000
theorem vif_t [InW] {b : Bool} {A B : Prop} (hb : b = true) (ha : A) : Vif b A B := Vif_iff.2 ⟨fun _ => ha, fun h => absurd (hb.symm.trans h) (by decide)⟩
theorem Xfu [W : InW] (Q : DS -> Prop) (h : Q [[.b true]]) : Xw Q := by
 unfold Xw;delta Zbq Zbr Zbt Zbs Zbp Zbo Zbu Zk
 repeat first | refine vif_t (by kernel_rfl) ?_ | refine Pre_iff.2 ⟨trivial, ?_⟩ | refine Pre_iff.2 ⟨by kernel_rfl, ?_⟩
 exact (congrArg Q (by kernel_rfl)).mpr h
noncomputable def Xfg : PC Try.prog := ⟨23, [], [(false, [.bool])], fun _ => True, fun _ => [[.b true]], Xfo fun W hp Q h => Xfu Q h⟩
namespace Sp
structure Got (rs L : Dt) (S c n : Int) (j q : Nat) : Prop where
 lt : q < rs.length
 row : cel L j 0 = .l (pickP rs n q)
 fit : fitF rs L S c j n q = true
 no : ∀ k, k < q -> fitF rs L S c j n k = false
structure Drawn (qs ws : Dt) (lo hi r S c : Int) (nums : Dt) : Prop where
 bv : BankV qs ws lo hi
 ho : HallOk r S c nums.length
 nu : NuOk nums
 ro : RsOk (papD qs ws lo hi)
 len : (drawL qs ws lo hi r S c nums).length = nums.length
 got : ∀ j, j < nums.length -> ∃ q, Got (papD qs ws lo hi) (drawL qs ws lo hi r S c nums) S c (cel nums j 0).int j q
theorem pick_ix {rs : Dt} {n : Int} {q : Nat} (hn : 0 <= n) (h1 : 1 <= rs.length) : ((n + q).tmod rs.length).toNat < rs.length := by
 have := tmod_in (n := n + q) (m := rs.length) (by omega) h1;omega
theorem Drawn.is {qs ws : Dt} {lo hi r S c : Int} {nums : Dt} (h : Drawn qs ws lo hi r S c nums) {j : Nat} (hj : j < nums.length) : isP qs ws lo hi (cel (drawL qs ws lo hi r S c nums) j 0).lst = true := by
 obtain ⟨q, hq⟩ := h.got j hj;rw [hq.row];have hn := h.nu.ok j hj;have hi' := pick_ix (q := q) hn.1 h.ro.n1
 show isP qs ws lo hi (pickP _ _ _) = true
 unfold pickP;rw [cel_papD hi'];exact paps_is h.bv (by simpa [papD] using hi')
end Sp
theorem Xfv {n : Int} (h : WfC (.int .u16) (.i n)) : 0 <= n /\ n <= 65535 := by
 cases h with
 | int _ _ h => simp [Lit.wf, IntKind.min, IntKind.max, IntKind.signed, IntKind.bits] at h; omega
theorem WfL.head {t : Ty} {ts : List Ty} {c : Cl} {cs : List Cl} (h : WfL (t :: ts) (c :: cs)) : WfC t c /\ WfL ts cs := by
 cases h with
 | cons h hs => exact ⟨h, hs⟩
theorem WfD.head {a : AT} {ats : List AT} {d : List Cl} {ds : DS} (h : WfD (a :: ats) (d :: ds)) : WfA a d /\ WfD ats ds := by
 obtain ⟨d', ds', e, h1, h2⟩ := h;cases e;exact ⟨h1, h2⟩
namespace Sp
def upQ (qs : Dt) (k : Nat) (v : Int) : Dt := qs.set k (Ynn (qs.getD k []) 2 [.i v])
theorem set2 (l : List Cl) (v : Cl) (j : Nat) : (Ynn l 2 [v]).getD j .z = if j = 2 then v else l.getD j .z := by
 match j with
 | 0 => cases l <;> simp [Ynn]
 | 1 => match l with
  | [] => simp [Ynn]
  | [_] => simp [Ynn]
  | _ :: _ :: _ => simp [Ynn]
 | 2 => simp [Ynn]
 | j + 3 => match l with
  | [] => simp [Ynn]
  | [_] => simp [Ynn]
  | [_, _] => simp [Ynn]
  | _ :: _ :: _ :: _ => simp [Ynn]
theorem cel_upQ {qs : Dt} {k : Nat} {v : Int} (hk : k < qs.length) (i j : Nat) : cel (upQ qs k v) i j = if i = k /\ j = 2 then .i v else cel qs i j := by
 unfold upQ cel;rw [List.getD_eq_getElem?_getD (l := qs.set _ _)]
 by_cases h : i = k
 ·subst h;rw [List.getElem?_set_self hk, Option.getD_some, set2]
  by_cases h2 : j = 2
  ·rw [if_pos h2, if_pos ⟨rfl, h2⟩]
  ·rw [if_neg h2, if_neg fun h => h2 h.2]
 ·rw [List.getElem?_set_ne (by omega), if_neg fun h2 => h h2.1, <- List.getD_eq_getElem?_getD]
theorem length_upQ (qs : Dt) (k : Nat) (v : Int) : (upQ qs k v).length = qs.length := by simp [upQ]
theorem many_ext {a b : Dt} {p : Int} : ∀ {n : Nat}, (∀ i, i < n -> cel a i 0 = cel b i 0) -> many a p n = many b p n
 | 0, _ => rfl
 | n + 1, h => by rw [many_succ, many_succ, many_ext fun i hi => h i (by omega), h n (by omega)]
theorem up_bank {qs ws : Dt} {lo hi : Int} (bv : BankV qs ws lo hi) {k : Nat} (hk : k < qs.length) {v : Int} (h0 : 0 <= v) (h1 : v <= qAsk qs k) : BankV (upQ qs k v) ws lo hi := by
 have hl := length_upQ qs k v;have c0 : ∀ i, cel (upQ qs k v) i 0 = cel qs i 0 := fun i => by rw [cel_upQ hk, if_neg (by omega)]
 have c1 : ∀ i, cel (upQ qs k v) i 1 = cel qs i 1 := fun i => by rw [cel_upQ hk, if_neg (by omega)]
 refine ⟨by rw [hl]; exact bv.n1, by rw [hl]; exact bv.n2, bv.w1, bv.w2, bv.l0, bv.lh, bv.hh, fun i hi => ?_, fun i hi => ?_, fun i hi => ?_, fun p hp => ?_⟩
 ·rw [hl] at hi; unfold qPart; rw [c0]; exact bv.part i hi
 ·rw [hl] at hi; unfold qAsk; rw [c1]; exact bv.ask i hi
 ·rw [hl] at hi;unfold qAsk qBad; rw [c1, cel_upQ hk]
  by_cases h : i = k
  ·subst h; rw [if_pos ⟨rfl, rfl⟩]; exact ⟨h0, h1⟩
  ·rw [if_neg fun h2 => h h2.1]; exact bv.bad i hi
 ·rw [hl, many_ext fun i _ => c0 i]; exact bv.want p hp
theorem up_wt {qs : Dt} {k i : Nat} {v : Int} (hk : k < qs.length) (h : i ≠ k) : wt (upQ qs k v) i = wt qs i := by
 have c1 : cel (upQ qs k v) i 1 = cel qs i 1 := by rw [cel_upQ hk, if_neg (by omega)]
 have c2 : cel (upQ qs k v) i 2 = cel qs i 2 := by rw [cel_upQ hk, if_neg (by omega)]
 unfold wt qAsk qBad;rw [c1, c2]
theorem up_le {qs : Dt} {k : Nat} {v : Int} (hk : k < qs.length) (ha : 0 <= qAsk qs k) (hb : 0 <= qBad qs k) (hv : qBad qs k <= v) : wt qs k <= wt (upQ qs k v) k := by
 unfold wt;have e1 : qAsk (upQ qs k v) k = qAsk qs k := by unfold qAsk; rw [cel_upQ hk, if_neg (by omega)]
 have e2 : qBad (upQ qs k v) k = v := by unfold qBad; rw [cel_upQ hk, if_pos ⟨rfl, rfl⟩]; rfl
 rw [e1, e2]
 split
 ·omega
 ·rw [Int.tdiv_eq_ediv_of_nonneg (by omega), Int.tdiv_eq_ediv_of_nonneg (by omega)];exact Int.ediv_le_ediv (by omega) (by omega)
end Sp
set_option maxHeartbeats 1600000
namespace Sp
structure HaOk (l m : Dt) (k : Int) : Prop where
 len : m.length = l.length
 few : l.length <= 16
 same : ∀ i : Nat, i < l.length -> (i : Int) ≠ k -> (cel l i 0).int = (cel m i 0).int
 le : ∀ i, i < l.length -> (cel l i 0).int <= (cel m i 0).int
 lo : ∀ i, i < l.length -> 0 <= (cel l i 0).int
 hi : ∀ i, i < l.length -> (cel m i 0).int <= 1000
end Sp
def Xdb [InW] (e : List Ed) (K : Nat -> List Ed -> Prop) : Prop := match e with
 | [.i k, .i i, .l l, .l m] => Pre (Sp.HaOk l m k /\ 0 <= i /\ i <= l.length) (K 0 [])
 | _ => False
noncomputable def Xd4 : LC where
 len := 136
 T := [(5, (.row 13)), (7, .int .i64), (10, (.row 16)), (12, .int .i64)]
 H := [(13, .arr 3 Jb), (16, .arr 3 Jb)]
 W := ([4] ++ rg 90 45)
 outs := [⟨.exit 0, [], [], ([4, 5, 7, 10, 12] ++ rg 90 45)⟩]
 spec := Xdb
def Zbw [W : InW] (i : Int) (l : Dt) := decide (0 <= i) && decide (i < (↑(l.length) : Int))
def Zbx [W : InW] (i : Int) (m : Dt) := decide (0 <= i) && decide (i < (↑(m.length) : Int))
def Zby := (472 : Nat) = 472 + 1
def Zbv [W : InW] (k i : Int) (l m : Dt) (A : List Ed -> Prop) := Need (Zbx i m) (Need (decide (i.toNat < m.length)) (Need (Zbw i l) (Need (decide (i.toNat < l.length)) (Vif (decide ((cel m i.toNat Zbc).int < (cel l i.toNat Zbc).int)) Zby (Need (Zbw i l) (Need (decide (i.toNat < l.length)) (Vif (decide ((cel l i.toNat Zbc).int < 0)) Zby (Need (Zbx i m) (Need (decide (i.toNat < m.length)) (Vif (decide ((1000 : Int) < (cel m i.toNat Zbc).int)) Zby (Ar .i64 (i + 1) fun z => A [.i k, .i z, .l l, .l m])))))))))))
def Xcn [W : InW] (k i : Int) (l m : Dt) (A : List Ed -> Prop) (K : Nat -> List Ed -> Prop) : Prop :=
 Vif (decide (i < (↑(l.length) : Int))) (Vif (!decide (i = k)) (Need (Zbw i l) (Need (decide (i.toNat < l.length)) (Need (Zbx i m) (Need (decide (i.toNat < m.length)) (Vif (!decide ((cel l i.toNat Zbc).int = (cel m i.toNat Zbc).int)) Zby (Zbv k i l m A)))))) (Zbv k i l m A)) (K 0 [])
theorem Xgk (W : InW) (k i l m A K) : Yff { cxT Try.prog TT T0 1000 50 with fn := 15 } 1000 (Yob Try.prog 15 14) (Yd6 136 [(5, .rw 13), (7, .si .i64 k), (10, .rw 16), (12, .si .i64 i)] ([4] ++ rg 90 45)) [(13, .arr 3 Jb l), (16, .arr 3 Jb m)] (Yut Xd4 A K) = Xcn k i l m A K := by kernel_rfl
def Xdr : Prop := ∀ (W : InW) (body a : Code), (Try.prog.funcs[15]?).bind (·.body) = some body -> a ∈ Yy body -> Yf0 a = 14 -> @Yms W Try.prog a (@Ytz W Xd4)
theorem Xhm (meas : [InW] -> List Ed -> Nat) (hyp_ : ∀ (W : InW) k i l m K, Xdb [.i k, .i i, .l l, .l m] K -> ∀ A : List Ed -> Prop, (∀ e, meas e < meas [.i k, .i i, .l l, .l m] -> Xdb e K -> A e) -> Xcn k i l m A K) : Xdr :=
 LE.okOf' (fun W => @TT W) (fun W => @Xc W) Xa T0 1000 50 (by kernel_rfl) Xd4 (fun W => @meas W) fun W k i l m K hs =>
  (Xgk W k i l m (fun e => meas e < meas [.i k, .i i, .l l, .l m] /\ Xdb e K) K).mpr (hyp_ W k i l m K hs _ fun e h1 h2 => ⟨h1, h2⟩)
theorem Xi7 : Xdr := Xhm (fun e => match e with | [_, .i i, .l l, _] => ((l.length : Int) - i).toNat | _ => 0) fun W k i l m K hs A hA => by
 obtain ⟨⟨ha, h0, h1⟩, hk⟩ := hs;unfold Xcn;delta Zbv Zby Zbc Zbx Zbw;have hl := ha.len;have hf := ha.few
 by_cases hi' : i < l.length
 ·have le := ha.le i.toNat (by omega);have lo := ha.lo i.toNat (by omega);have hi := ha.hi i.toNat (by omega);have go := hA [.i k, .i (i + 1), .l l, .l m] (by show ((l.length : Int) - (i + 1)).toNat < ((l.length : Int) - i).toNat; omega) ⟨⟨ha, by omega, by omega⟩, hk⟩;have same := ha.same i.toNat (by omega);rw [Int.toNat_of_nonneg h0] at same;clear hA hk;refine vifd (fun _ => vifn (fun hne => ?_) (fun _ => ?_)) (fun h => absurd hi' h)
  ·have same := same hne;refine ned (by simp; omega) (nedd (by omega) (ned (by simp; omega) (nedd (by omega) (vifn (fun h => absurd same h) (fun _ => ?_)))));refine ned (by simp; omega) (nedd (by omega) (ned (by simp; omega) (nedd (by omega) (vifd (fun h => absurd h (by omega)) (fun _ => ?_)))));refine ned (by simp; omega) (nedd (by omega) (vifd (fun h => absurd h (by omega)) (fun _ => ?_)));exact ned (by simp; omega) (nedd (by omega) (vifd (fun h => absurd h (by omega)) (fun _ => ar64 (by omega) go)))
  ·refine ned (by simp; omega) (nedd (by omega) (ned (by simp; omega) (nedd (by omega) (vifd (fun h => absurd h (by omega)) (fun _ => ?_)))));refine ned (by simp; omega) (nedd (by omega) (vifd (fun h => absurd h (by omega)) (fun _ => ?_)));exact ned (by simp; omega) (nedd (by omega) (vifd (fun h => absurd h (by omega)) (fun _ => ar64 (by omega) go)))
 ·exact vifd (fun h => absurd h hi') (fun _ => hk)
noncomputable def Xjo : LE Try.prog := ⟨15, 14, fun W => @Ytz W Xd4, Xi7⟩
noncomputable def TL15 : Tab Try.prog := ⟨[Xeg, Xef, Xfg], [Xjo], []⟩
def Zbz [W : InW] (kQ : Ro Ja) := (↑(kQ.xs.length) : Int)
def Xbm [W : InW] (kQ : Ro Ja) (k_Ws : Ro Jb) (k_Lo k_Hi x_A x_B : Int) (Q : DS -> Prop) : Prop :=
 Pre True (Pre True (Vif (!decide (Sp.chkE kQ.xs k_Ws.xs k_Lo k_Hi = 0)) (Vif (!decide (Sp.chkE kQ.xs k_Ws.xs k_Lo k_Hi = 0)) (Vif (decide ((↑(List.length (Sp.wtsR kQ.xs k_Ws.xs k_Lo k_Hi)) : Int) = 0)) (Pre True (Q [[Cl.b true]])) (Q Zbr)) (Q Zbr)) (Ar .i64 x_A fun z => Need (!decide ((Zbz kQ) = 0)) (Need (decide (((0 : Nat) + kQ.xs.length) * 24 <= 140737488355328)) (Need (decide (0 <= z.tmod (Zbz kQ)) && decide (z.tmod (Zbz kQ) < (Zbz kQ))) (Need (decide ((z.tmod (Zbz kQ)).toNat < kQ.xs.length)) (Need (decide ((z.tmod (Zbz kQ)).toNat < kQ.xs.length)) (Ar .i64 x_B fun z_1 => Ar .i64 ((cel kQ.xs (z.tmod (Zbz kQ)).toNat (1+1)).int + z_1) fun z_2 => Need (decide ((z.tmod (Zbz kQ)).toNat < kQ.xs.length)) (Pre True (Vif (!decide (Sp.chkE kQ.xs k_Ws.xs k_Lo k_Hi = 0)) (Q Zbr) (Vif (!decide (Sp.chkE (List.set kQ.xs (z.tmod (Zbz kQ)).toNat (Ynn (List.getD kQ.xs (z.tmod (Zbz kQ)).toNat []) (1+1) [Cl.i (min (cel kQ.xs (z.tmod (Zbz kQ)).toNat (0+1)).int z_2)])) k_Ws.xs k_Lo k_Hi = 0)) (Q Zbr) (Vif (!decide ((↑(List.length (Sp.wtsR kQ.xs k_Ws.xs k_Lo k_Hi)) : Int) = (Zbz kQ))) (Q Zbr) (Vif (!decide ((↑(List.length (Sp.wtsR (List.set kQ.xs (z.tmod (Zbz kQ)).toNat (Ynn (List.getD kQ.xs (z.tmod (Zbz kQ)).toNat []) (1+1) [Cl.i (min (cel kQ.xs (z.tmod (Zbz kQ)).toNat (0+1)).int z_2)])) k_Ws.xs k_Lo k_Hi)) : Int) = (↑(List.length (Sp.wtsR kQ.xs k_Ws.xs k_Lo k_Hi)) : Int))) (Q Zbr) (Pre (Sp.HaOk (Sp.wtsR kQ.xs k_Ws.xs k_Lo k_Hi) (Sp.wtsR (List.set kQ.xs (z.tmod (Zbz kQ)).toNat (Ynn (List.getD kQ.xs (z.tmod (Zbz kQ)).toNat []) (1+1) [Cl.i (min (cel kQ.xs (z.tmod (Zbz kQ)).toNat (0+1)).int z_2)])) k_Ws.xs k_Lo k_Hi) (z.tmod (Zbz kQ)) /\ (0 : Int) <= 0 /\ (0 : Int) <= (↑(List.length (Sp.wtsR kQ.xs k_Ws.xs k_Lo k_Hi)) : Int)) (Pre True (Q [[Cl.b true]]))))))))))))))))
theorem Xe7 (W : InW) (kQ k_Ws k_Lo k_Hi x_A x_B Q) : Yw5 (cxT Try.prog TT TL15 1000 50) 1000 15 [.agg [.rs _ kQ, .rs _ k_Ws, .si .i64 k_Lo, .si .i64 k_Hi], .agg [.si .u16 x_A, .si .u16 x_B]] [] 0 (Y1i [(false, [.bool])] Q) (fun _ _ _ _ => Stuck 421) = Xbm kQ k_Ws k_Lo k_Hi x_A x_B Q := by kernel_rfl
abbrev X1 : List AT := [.agg [.sl Ja, .sl Jb, .int .i64, .int .i64], .agg [.int .u16, .int .u16]]
theorem Xfn {pre : DS -> Prop} {res : DS -> DS} (hyp_ : ∀ (W : InW) (kQ : Ro Ja) (k_Ws : Ro Jb) (k_Lo k_Hi x_A x_B : Int), pre [[.l kQ.xs, .l k_Ws.xs, .i k_Lo, .i k_Hi], [.i x_A, .i x_B]] -> ∀ Q : DS -> Prop, Q (res [[.l kQ.xs, .l k_Ws.xs, .i k_Lo, .i k_Hi], [.i x_A, .i x_B]]) -> Xbm kQ k_Ws k_Lo k_Hi x_A x_B Q) : PureOk Try.prog 15 X1 [(false, [.bool])] pre res :=
 PureOk.of' (fun W => @TT W) (fun W => @Xc W) Xa TL15 1000 50 fun W kQ k_Ws k_Lo k_Hi x_A x_B hp =>
  (Xe7 W kQ k_Ws k_Lo k_Hi x_A x_B (fun o => o = res [[.l kQ.xs, .l k_Ws.xs, .i k_Lo, .i k_Hi], [.i x_A, .i x_B]])).mpr (hyp_ W kQ k_Ws k_Lo k_Hi x_A x_B hp _ rfl)
theorem Xd7 : PureOk Try.prog 15 X1 [(false, [.bool])] (WfD X1) fun _ => [[.b true]] :=
 Xfn fun W qs ws lo hi x y hp Q h => by
  have w1 := Xfv (WfL.head (WfD.head (WfD.head hp).2).1).1;have w2 := Xfv (WfL.head (WfL.head (WfD.head (WfD.head hp).2).1).2).1;unfold Xbm;delta Zbz Zbr;refine ⟨trivial, trivial, vifn (fun e => vifn (fun _ => vifd (fun _ => ⟨trivial, h⟩) (fun g => absurd ?_ g)) (fun g => absurd g e)) (fun e => ?_)⟩
  ·unfold Sp.wtsR; rw [if_neg e]; rfl
  ·have bv := Sp.chkE_iff.1 e;have hn1 := bv.n1;have hn2 := bv.n2;have ht := Sp.tmod_in (n := x) (m := qs.xs.length) w1.1 hn1;have hkl : (x.tmod qs.xs.length).toNat < qs.xs.length := by omega
   have ha := bv.ask _ hkl;have hb := bv.bad _ hkl;have hq1 : Sp.qAsk qs.xs (x.tmod qs.xs.length).toNat = (cel qs.xs (x.tmod qs.xs.length).toNat 1).int := rfl;have hq2 : Sp.qBad qs.xs (x.tmod qs.xs.length).toNat = (cel qs.xs (x.tmod qs.xs.length).toNat 2).int := rfl;have hv0 : (cel qs.xs (x.tmod qs.xs.length).toNat 2).int <= min (cel qs.xs (x.tmod qs.xs.length).toNat 1).int ((cel qs.xs (x.tmod qs.xs.length).toNat 2).int + y) := by omega
   have hv1 : min (cel qs.xs (x.tmod qs.xs.length).toNat 1).int ((cel qs.xs (x.tmod qs.xs.length).toNat 2).int + y) <= Sp.qAsk qs.xs (x.tmod qs.xs.length).toNat := by omega
   have b2 := Sp.up_bank bv hkl (show 0 <= min (cel qs.xs (x.tmod qs.xs.length).toNat 1).int ((cel qs.xs (x.tmod qs.xs.length).toNat 2).int + y) by omega) hv1;have e2 := Sp.chkE_iff.2 b2;have g1 : Sp.wtsR qs.xs ws.xs lo hi = Sp.wts qs.xs qs.xs.length := by unfold Sp.wtsR; rw [if_pos e]
   have g2 : Sp.wtsR (Sp.upQ qs.xs (x.tmod qs.xs.length).toNat (min (cel qs.xs (x.tmod qs.xs.length).toNat 1).int ((cel qs.xs (x.tmod qs.xs.length).toNat 2).int + y))) ws.xs lo hi = Sp.wts (Sp.upQ qs.xs (x.tmod qs.xs.length).toNat (min (cel qs.xs (x.tmod qs.xs.length).toNat 1).int ((cel qs.xs (x.tmod qs.xs.length).toNat 2).int + y))) qs.xs.length := by unfold Sp.wtsR; rw [if_pos e2, Sp.length_upQ]
   have up := fun i (hi : i ≠ (x.tmod qs.xs.length).toNat) => Sp.up_wt (v := min (cel qs.xs (x.tmod qs.xs.length).toNat 1).int ((cel qs.xs (x.tmod qs.xs.length).toNat 2).int + y)) hkl hi;have ul := Sp.up_le (v := min (cel qs.xs (x.tmod qs.xs.length).toNat 1).int ((cel qs.xs (x.tmod qs.xs.length).toNat 2).int + y)) hkl ha.1 hb.1 hv0;have wb := fun i (hi' : i < qs.xs.length) => b2.wt (i := i) (by rw [Sp.length_upQ]; exact hi');refine ar64 (by omega) (ned (by rw [decide_eq_false (by omega)]; rfl) (nedd (by omega) (ned (by simp; omega) (nedd hkl (nedd hkl (ar64 (by omega) (ar64 (by rw [<- hq2]; omega) (nedd hkl ⟨trivial, ?_⟩))))))));simp only [Nat.reduceAdd]
   change Vif _ _ (Vif (!decide (Sp.chkE (Sp.upQ qs.xs (x.tmod qs.xs.length).toNat (min (cel qs.xs (x.tmod qs.xs.length).toNat 1).int ((cel qs.xs (x.tmod qs.xs.length).toNat 2).int + y))) ws.xs lo hi = 0)) _ (Vif _ _ (Vif (!decide (((Sp.wtsR (Sp.upQ qs.xs (x.tmod qs.xs.length).toNat (min (cel qs.xs (x.tmod qs.xs.length).toNat 1).int ((cel qs.xs (x.tmod qs.xs.length).toNat 2).int + y))) ws.xs lo hi).length : Int) = _)) _ (Pre (Sp.HaOk _ (Sp.wtsR (Sp.upQ qs.xs (x.tmod qs.xs.length).toNat (min (cel qs.xs (x.tmod qs.xs.length).toNat 1).int ((cel qs.xs (x.tmod qs.xs.length).toNat 2).int + y))) ws.xs lo hi) _ /\ _) _))))
   rw [g1, g2];generalize min (cel qs.xs (x.tmod qs.xs.length).toNat 1).int ((cel qs.xs (x.tmod qs.xs.length).toNat 2).int + y) = v at *;refine vifn (fun g => absurd e g) (fun _ => vifn (fun g => absurd e2 g) (fun _ => vifn (fun g => absurd (by rw [Sp.length_wts]) g) (fun _ => vifn (fun g => absurd (by rw [Sp.length_wts, Sp.length_wts]) g) (fun _ => ⟨⟨⟨by rw [Sp.length_wts, Sp.length_wts], by rw [Sp.length_wts]; exact hn2, fun i hi' hne => ?_, fun i hi' => ?_, fun i hi' => ?_, fun i hi' => ?_⟩, by omega, by omega⟩, trivial, h⟩))))
   ·rw [Sp.length_wts] at hi';rw [Sp.cel_wts hi', Sp.cel_wts hi', up i (by omega)]
   ·rw [Sp.length_wts] at hi';rw [Sp.cel_wts hi', Sp.cel_wts hi']
    by_cases hk : i = (x.tmod qs.xs.length).toNat
    ·rw [hk]; exact ul
    ·rw [up i hk]; exact Int.le_refl _
   ·rw [Sp.length_wts] at hi';rw [Sp.cel_wts hi'];exact (bv.wt hi').1
   ·rw [Sp.length_wts] at hi';rw [Sp.cel_wts hi'];exact (wb i hi').2
end Go.Proofs.Ytilnbgpogfabaaa
namespace Go.Proofs.Ytilnbgpogfabaaa.paperHarder
open Go.ChangeShapes Go.WideShapes Go.ChangeAt Go.RowKit
set_option maxRecDepth 100000
theorem own : ownKnob Try.prog.godebug = none := by kernel_rfl
theorem laid : laidOutB Try.prog = true := by kernel_rfl
theorem lifted (os : Os) (started : os.Started) (H : Type) (enc : TypeId × Value -> H) :
  ReturnsInHanded {} Try.checked os 15 .any (Rows.paperHarderSpec.pre6 enc Try.prog Try.f15 Rows.paperHarderRow.domain false) (Rows.paperHarderSpec.post enc Try.prog Try.f15 false true false false) := by
 refine returnsInHanded_of_change (C := Try.checked) own started (by kernel_rfl) Try.func15
  (ChangeSpec.witness6 (enc := enc) (C := Try.checked) false ⟨#[], #[(.agg #[.slice none 0 0, .slice none 0 0, .int .i64 0, .int .i64 0]), (.agg #[.int .u16 0, .int .u16 0])], []⟩ 8 (by kernel_rfl) (by kernel_rfl) (by kernel_rfl) (by kernel_rfl)) ?_
 intro W base args ds gs before hval hW _ _;exact law_end (f := Try.f15) (s := Rows.paperHarderSpec) (by kernel_rfl) Try.underlying4 (by kernel_rfl) rfl laid (by kernel_rfl)
  (fun ds h => by match ds, (show ds.length = 2 from h) with | [_, _], _ => exact ⟨rfl, rfl, rfl⟩) Xd7 hval hW
theorem over : Rows.paperHarderRow.holds Try.pinned (OpenSpec.ofChange Rows.paperHarderSpec) :=
 OpenClaim.holds_of_wide 15 Try.f15 rfl rfl rfl rfl rfl rfl rfl ⟨rfl, rfl, rfl, rfl, rfl⟩ rfl rfl rfl rfl rfl (by kernel_rfl) Try.func15 (by kernel_rfl)
  (of_decide_eq_true (by kernel_rfl)) (by unfold Func.isWrapper; first | (rw [if_pos (by decide +kernel)]; kernel_rfl) | (rw [if_neg (by decide +kernel)]; exact ⟨rfl, rfl⟩))
  (fun os started H enc _ => lifted os started H enc)
theorem proved : Rows.PaperHarderSaid := over
end Go.Proofs.Ytilnbgpogfabaaa.paperHarder
