/-
  'AnswerReached': for every input the law returns true, and what is handed in reads as before. No condition.
-/
import Derived.Test.YtifhdbgciehicaaQred
import Derived.Test.YtifhdbgciehicaaRows
import Derived.WalkKit
import Derived.ProofKit
set_option linter.unusedVariables false
set_option linter.unusedSectionVars false
set_option linter.unusedSimpArgs false
namespace Go.Proofs.Ytifhdbgciehicaa
open Go.RowKit
set_option maxRecDepth 100000
theorem vif_t [InW] {b : Bool} {A B : Prop} (hb : b = true) (ha : A) : Vif b A B := Vif_iff.2 ⟨fun _ => ha, fun h => absurd (hb.symm.trans h) (by decide)⟩
theorem Xkj [W : InW] (Q : DS -> Prop) (h : Q [[.b true]]) : Xbb Q := by
 unfold Xbb;delta Zfc Zey Zez Zfa Zfb Zfe Zfd Zex Zb
 repeat first | refine vif_t (by kernel_rfl) ?_ | refine Pre_iff.2 ⟨trivial, ?_⟩ | refine Pre_iff.2 ⟨by kernel_rfl, ?_⟩ | refine Pre_iff.2 ⟨⟨by kernel_rfl, by kernel_rfl, by kernel_rfl⟩, ?_⟩
 exact (congrArg Q (by kernel_rfl)).mpr h
noncomputable def Xjp : PC Try.prog := ⟨22, [], [(false, [.bool])], fun _ => True, fun _ => [[.b true]], Xj8 fun W hp Q h => Xkj Q h⟩
set_option maxHeartbeats 1600000
namespace Sp
theorem rds_shok {qs sh : Dt} (h : ShOk qs sh) : ∀ r ∈ rds sh, ShOk qs r :=
 rds_ind (P := fun r => ShOk qs r) h fun s q j v hs _ hv => hs.withD hv
theorem ask_of {qs ps sh : Dt} {all : Int} (hk : KeyOk qs ps all) (hs : ShOk qs sh) : askE qs ps all sh = 0 := by
 unfold askE;rw [if_pos (chkE_iff.2 hk), shE_iff.2 hs]
theorem rds_mark {qs ps sh : Dt} {all : Int} (hk : KeyOk qs ps all) (hs : ShOk qs sh) {r : Dt} (hr : r ∈ rds sh) : markE qs ps all r = 0 /\ markR qs ps all r = mk qs ps r /\ markB qs ps all r = psS qs ps all r := by
 have e : markE qs ps all r = 0 := by
  unfold markE;rw [if_pos (ask_of hk (rds_shok hs r hr)), if_pos (by rw [uns_len, rds_sure r hr]; rfl)]
 exact ⟨e, by unfold markR; rw [if_pos e], by unfold markB; rw [if_pos e]⟩
theorem sc_asc (qs ps sh : Dt) : Asc (scV qs ps sh) /\ ∀ y, memD (scV qs ps sh) y ↔ ∃ r ∈ rds sh, total (mk qs ps r) = y := by
 obtain ⟨h1, h2⟩ := insA_asc (f := ttl qs ps (rdD sh)) (rdD sh).length 0 [] asc_nil;refine ⟨h1, fun y => ?_⟩;unfold scV;rw [h2];constructor
 ·rintro (⟨p, hp, _⟩ | ⟨k, _, hk, e⟩)
  ·simp at hp
  ·exact ⟨_, rds_ix.2 ⟨k, by omega, rfl⟩, e⟩
 ·rintro ⟨r, hr, e⟩;obtain ⟨k, hk, rfl⟩ := rds_ix.1 hr;exact .inr ⟨k, Nat.zero_le _, by omega, e⟩
def hasV (xs : Dt) (x : Int) (i : Nat) : Bool := decide (num xs i = x)
def hasN (xs : Dt) (x : Int) : Bool := anyF (hasV xs x) 0 xs.length
end Sp
noncomputable def TN1 : Tab Try.prog := ⟨[Xhv, Xjl], [], []⟩
def Xcl [W : InW] (kQ : Ro Iv5) (kP : Ro Jc) (kA : Int) (sh : Ro Jb) (Q : DS -> Prop) : Prop :=
 Pre True (Vif (decide (Sp.chkE kQ.xs kP.xs kA = 0)) (Pre (Sp.KeyOk kQ.xs kP.xs kA) (Q [[Cl.b (decide (Sp.shE kQ.xs sh.xs = 0))]])) (Q [[Cl.b false]]))
theorem Xi5 (W : InW) (kQ kP kA sh Q) : Ywt (cxT Try.prog TT TN1 1000 50) 1000 40 [.agg [.rs _ kQ, .rs _ kP, .si .i64 kA], .rs _ sh] [] 0 (Y02 [(false, [.bool])] Q) (fun _ _ _ _ => Stuck 421) = Xcl kQ kP kA sh Q := by kernel_rfl
abbrev Xbm : List AT := [.agg [.sl Iv5, .sl Jc, .int .i64], .one (.sl Jb)]
theorem Xj2 {pre : DS -> Prop} {res : DS -> DS} (hyp_ : ∀ (W : InW) (kQ : Ro Iv5) (kP : Ro Jc) (kA : Int) (sh : Ro Jb), pre [[.l kQ.xs, .l kP.xs, .i kA], [.l sh.xs]] -> ∀ Q : DS -> Prop, Q (res [[.l kQ.xs, .l kP.xs, .i kA], [.l sh.xs]]) -> Xcl kQ kP kA sh Q) : PureOk Try.prog 40 Xbm [(false, [.bool])] pre res :=
 PureOk.of' (fun W => @TT W) (fun W => @Xe W) Xa TN1 1000 50 fun W kQ kP kA sh hp =>
  (Xi5 W kQ kP kA sh (fun o => o = res [[.l kQ.xs, .l kP.xs, .i kA], [.l sh.xs]])).mpr (hyp_ W kQ kP kA sh hp _ rfl)
abbrev Xr (ds : DS) : DS := match ds with | [[.l qs, .l ps, .i all], [.l sh]] => [[.b (decide (Sp.askE qs ps all sh = 0))]] | _ => []
theorem Xmg : PureOk Try.prog 40 Xbm [(false, [.bool])] (fun _ => True) Xr :=
 Xj2 fun W qs ps all sh hp Q h => by
  unfold Xcl;refine ⟨trivial, vifd (fun e => ⟨Sp.chkE_iff.1 e, ?_⟩) fun e => ?_⟩
  ·have e2 : Sp.askE qs.xs ps.xs all sh.xs = Sp.shE qs.xs sh.xs := by unfold Sp.askE; rw [if_pos e]
   simpa [Xr, e2] using h
  ·have e2 : Sp.askE qs.xs ps.xs all sh.xs = Sp.chkE qs.xs ps.xs all := by unfold Sp.askE; rw [if_neg e]
   simpa [Xr, e2, e] using h
noncomputable def Xjj : PC Try.prog := ⟨40, Xbm, [(false, [.bool])], fun _ => True, Xr, Xmg⟩
def Xfm [InW] (e : List Ed) (K : Nat -> List Ed -> Prop) : Prop := match e with
 | [.ro _ xs, .i x, .i i] => Pre (0 <= i /\ i <= xs.xs.length) (Vif (Sp.anyF (Sp.hasV xs.xs x) i.toNat (xs.xs.length - i.toNat)) (K 1 []) (K 0 []))
 | _ => False
noncomputable def Xha : LC where
 len := 18
 T := [(0, .rs Jc), (1, .int .i64), (5, .int .i64)]
 H := []
 W := ([4] ++ rg 6 12)
 outs := [⟨.exit 0, [], [], ([0, 1] ++ rg 4 14)⟩, ⟨.ret, [(4, (.lit (.bool true)))], [], ([0, 1] ++ rg 5 13)⟩]
 spec := Xfm
def Xeo [W : InW] (xs : Ro Jc) (x i : Int) (A : List Ed -> Prop) (K : Nat -> List Ed -> Prop) : Prop :=
 Vif (decide (i < (↑(xs.xs.length) : Int))) (Need (decide (0 <= i) && decide (i < (↑(xs.xs.length) : Int))) (Need (decide (i.toNat < xs.xs.length)) (Vif (decide ((cel xs.xs i.toNat (0 : Nat)).int = x)) (K (0+1) []) (Ar .i64 (i + 1) fun z => A [.ro _ xs, .i x, .i z])))) (K 0 [])
theorem Xll (W : InW) (xs x i A K) : Yfc { cxT Try.prog TT T0 1000 50 with fn := 42 } 1000 (Yn7 Try.prog 42 3) (Yd6 18 [(0, .rs _ xs), (1, .si .i64 x), (5, .si .i64 i)] ([4] ++ rg 6 12)) [] (Yuf Xha A K) = Xeo xs x i A K := by kernel_rfl
def Xgj : Prop := ∀ (W : InW) (body a : Code), (Try.prog.funcs[42]?).bind (·.body) = some body -> a ∈ Yy body -> Yfw a = 3 -> @Ymq W Try.prog a (@Ytn W Xha)
theorem Xm6 (meas : [InW] -> List Ed -> Nat) (hyp_ : ∀ (W : InW) xs x i K, Xfm [.ro _ xs, .i x, .i i] K -> ∀ A : List Ed -> Prop, (∀ e, meas e < meas [.ro _ xs, .i x, .i i] -> Xfm e K -> A e) -> Xeo xs x i A K) : Xgj :=
 LE.okOf' (fun W => @TT W) (fun W => @Xe W) Xa T0 1000 50 (by kernel_rfl) Xha (fun W => @meas W) fun W xs x i K hs =>
  (Xll W xs x i (fun e => meas e < meas [.ro _ xs, .i x, .i i] /\ Xfm e K) K).mpr (hyp_ W xs x i K hs _ fun e h1 h2 => ⟨h1, h2⟩)
theorem Xpr : Xgj := Xm6 (fun e => match e with | [.ro _ xs, _, .i i] => ((xs.xs.length : Int) - i).toNat | _ => 0) fun W xs x i K hs A hA => by
 obtain ⟨⟨h0, h1⟩, hk⟩ := hs;unfold Xeo;have hm := xs.len;simp only [maxLen] at hm;have ez : (i + 1).toNat = i.toNat + 1 := by omega
 by_cases hi : i < xs.xs.length
 ·rw [show xs.xs.length - i.toNat = (xs.xs.length - (i.toNat + 1)) + 1 by omega] at hk;simp only [Sp.anyF] at hk;simp only [show ∀ k, (cel xs.xs k 0).int = Sp.num xs.xs k from fun _ => rfl]
  by_cases c : Sp.num xs.xs i.toNat = x
  ·have c2 : Sp.hasV xs.xs x i.toNat = true := decide_eq_true c;rw [c2, Bool.true_or] at hk;have hk := hk.1 rfl;clear hA
   repeat' (first | omega|intro _|with_reducible first|apply vifd|apply vifn|apply vifq|apply Xd|apply Xc|apply vifb|apply vif|apply nedd|apply ned2|apply ned|apply ar64|apply Xb|exact True.intro|assumption|rfl|apply And.intro)
   all_goals first | contradiction | exact hk | skip
  ·have c2 : Sp.hasV xs.xs x i.toNat = false := decide_eq_false c;rw [c2, Bool.false_or] at hk;have hA' := hA [.ro _ xs, .i x, .i (i + 1)] (show ((xs.xs.length : Int) - (i + 1)).toNat < ((xs.xs.length : Int) - i).toNat by omega) ⟨⟨by omega, by omega⟩, by rw [ez]; exact hk⟩;clear hA hk
   repeat' (first | omega|intro _|with_reducible first|apply vifd|apply vifn|apply vifq|apply Xd|apply Xc|apply vifb|apply vif|apply nedd|apply ned2|apply ned|apply ar64|apply Xb|exact True.intro|assumption|rfl|apply And.intro)
   all_goals first | contradiction | exact hA' | skip
 ·rw [show xs.xs.length - i.toNat = 0 by omega] at hk;clear hA
  repeat' (first | omega|intro _|with_reducible first|apply vifd|apply vifn|apply vifq|apply Xd|apply Xc|apply vifb|apply vif|apply nedd|apply ned2|apply ned|apply ar64|apply Xb|exact True.intro|assumption|rfl|apply And.intro)
  all_goals exact hk.2 rfl
noncomputable def Xqm : LE Try.prog := ⟨42, 3, fun W => @Ytn W Xha, Xpr⟩
noncomputable def TN2 : Tab Try.prog := ⟨[], [Xqm], []⟩
def Xiq [W : InW] (xs : Ro Jc) (x : Int) (Q : DS -> Prop) : Prop :=
 Pre ((0 : Int) <= 0 /\ (0 : Int) <= (↑(xs.xs.length) : Int)) (Vif (Sp.anyF (Sp.hasV xs.xs x) (Int.toNat (0 : Int)) (xs.xs.length - Int.toNat (0 : Int))) (Q [[Cl.b true]]) (Q [[Cl.b false]]))
theorem Xog (W : InW) (xs x Q) : Ywt (cxT Try.prog TT TN2 1000 50) 1000 42 [.rs _ xs, .si .i64 x] [] 0 (Y02 [(false, [.bool])] Q) (fun _ _ _ _ => Stuck 421) = Xiq xs x Q := by kernel_rfl
abbrev Xdq : List AT := [.one (.sl Jc), .one (.int .i64)]
theorem Xo4 {pre : DS -> Prop} {res : DS -> DS} (hyp_ : ∀ (W : InW) (xs : Ro Jc) (x : Int), pre [[.l xs.xs], [.i x]] -> ∀ Q : DS -> Prop, Q (res [[.l xs.xs], [.i x]]) -> Xiq xs x Q) : PureOk Try.prog 42 Xdq [(false, [.bool])] pre res :=
 PureOk.of' (fun W => @TT W) (fun W => @Xe W) Xa TN2 1000 50 fun W xs x hp =>
  (Xog W xs x (fun o => o = res [[.l xs.xs], [.i x]])).mpr (hyp_ W xs x hp _ rfl)
abbrev Xdl (ds : DS) : DS := match ds with | [[.l xs], [.i x]] => [[.b (Sp.hasN xs x)]] | _ => []
theorem okhas : PureOk Try.prog 42 Xdq [(false, [.bool])] (fun _ => True) Xdl :=
 Xo4 fun W xs x hp Q h => by
  unfold Xiq;simp only [Xdl, Sp.hasN] at h;simp only [show Int.toNat 0 = 0 from rfl, Nat.sub_zero];refine ⟨⟨by omega, by omega⟩, vif (fun e => ?_) fun e => ?_⟩
  ·rw [e] at h; exact h
  ·rw [e] at h; exact h
noncomputable def Xol : PC Try.prog := ⟨42, Xdq, [(false, [.bool])], fun _ => True, Xdl, okhas⟩
theorem WfL.head {t : Ty} {ts : List Ty} {c : Cl} {cs : List Cl} (h : WfL (t :: ts) (c :: cs)) : WfC t c /\ WfL ts cs := by
 cases h with
 | cons h hs => exact ⟨h, hs⟩
theorem WfD.head {a : AT} {ats : List AT} {d : List Cl} {ds : DS} (h : WfD (a :: ats) (d :: ds)) : WfA a d /\ WfD ats ds := by
 obtain ⟨d', ds', e, h1, h2⟩ := h;cases e;exact ⟨h1, h2⟩
namespace Sp
theorem ocA_ok {qs ps sh : Dt} {all : Int} (e : askE qs ps all sh = 0) : ocA qs ps all sh = ocV qs ps all sh := by unfold ocA; rw [if_pos e]
theorem scA_ok {qs ps sh : Dt} {all : Int} (e : askE qs ps all sh = 0) : scA qs ps all sh = scV qs ps sh := by unfold scA; rw [if_pos e]
theorem hasN_iff {l : Dt} {x : Int} : hasN l x = true ↔ memD l x := by
 unfold hasN memD hasV;rw [anyF_0];simp only [decide_eq_true_eq]
theorem insA_len (f : Nat -> Int) : ∀ n i l, (insA f i n l).length <= l.length + n
 | 0, _, _ => Nat.le_refl _
 | n + 1, i, l => by
  have h1 := insA_len f n (i + 1) (ins l (f i));have h2 := ins_len l (f i);simp only [insA];omega
theorem scA_len {qs ps sh : Dt} {all : Int} (hk : KeyOk qs ps all) (hs : ShOk qs sh) : (scA qs ps all sh).length <= 1000 := by
 rw [scA_ok (ask_of hk hs)];have h1 := insA_len (ttl qs ps (rdD sh)) (rdD sh).length 0 [];have h2 := hs.pps.few;unfold scV;simp only [List.length_nil] at h1;omega
end Sp
namespace Sp
structure Same (a b : Dt) : Prop where
 len : a.length = b.length
 rlen : ∀ i, (row a i).length = (row b i).length
 val : ∀ i j, i < a.length -> j < (row a i).length -> bx (row a i) j = bx (row b i) j
theorem Same.symm {a b : Dt} (h : Same a b) : Same b a := ⟨h.len.symm, fun i => (h.rlen i).symm, fun i j h1 h2 => (h.val i j (by rw [h.len]; exact h1) (by rw [h.rlen]; exact h2)).symm⟩
theorem Same.trans {a b c : Dt} (h : Same a b) (h' : Same b c) : Same a c := ⟨h.len.trans h'.len, fun i => (h.rlen i).trans (h'.rlen i), fun i j h1 h2 => (h.val i j h1 h2).trans (h'.val i j (by rw [<- h.len]; exact h1) (by rw [<- h.rlen]; exact h2))⟩
theorem ansD_same {d d' : Dt} : ∀ n i a, (∀ j, i <= j -> j < i + n -> bx d j = bx d' j) -> ansD d i n a = ansD d' i n a
 | 0, _, _, _ => rfl
 | n + 1, i, a, h => by
  unfold ansD;rw [h i (by omega) (by omega), ansD_same n (i + 1) i fun j a b => h j (by omega) (by omega), ansD_same n (i + 1) a fun j a b => h j (by omega) (by omega)]
theorem ansL_same {d d' : Dt} : ∀ n i a, (∀ j, i <= j -> j < i + n -> bx d j = bx d' j) -> ansL d i n a = ansL d' i n a
 | 0, _, _, _ => rfl
 | n + 1, i, a, h => by
  unfold ansL;rw [h i (by omega) (by omega), ansL_same n (i + 1) i fun j a b => h j (by omega) (by omega), ansL_same n (i + 1) a fun j a b => h j (by omega) (by omega)]
theorem ansOf_same {d d' : Dt} (hl : d.length = d'.length) (h : ∀ j, j < d.length -> bx d j = bx d' j) : ansOf d = ansOf d' := by
 unfold ansOf;rw [<- hl, ansD_same _ _ _ fun j _ b => h j (by omega), ansL_same _ _ _ fun j _ b => h j (by omega)]
theorem Same.ans {a b : Dt} (h : Same a b) {i : Nat} (hi : i < a.length) : ansOf (row a i) = ansOf (row b i) := ansOf_same (h.rlen i) fun j hj => h.val i j hi hj
theorem addG_same {qs a b : Dt} : ∀ n i l, (∀ k, i <= k -> k < i + n -> ansOf (row a k) = ansOf (row b k)) -> addG qs a i n l = addG qs b i n l
 | 0, _, _, _ => rfl
 | n + 1, i, l, h => by
  unfold addG;rw [show ptsQ qs a i = ptsQ qs b i by unfold ptsQ ptsV; rw [h i (by omega) (by omega)], addG_same n (i + 1) _ fun k x y => h k (by omega) (by omega)]
theorem Same.mk_eq {a b : Dt} (h : Same a b) (qs ps : Dt) : Sp.mk qs ps a = Sp.mk qs ps b := by
 unfold Sp.mk;rw [<- h.len, addG_same _ _ _ fun k _ y => h.ans (by omega)]
theorem Same.ps {a b : Dt} (h : Same a b) (qs ps : Dt) (all : Int) : psS qs ps all a = psS qs ps all b := by unfold psS; rw [h.mk_eq]
end Sp
namespace Sp
structure MkAll (qs ps : Dt) (all : Int) (rs : Dt) : Prop where
 few : rs.length <= 128
 e : ∀ k, k < rs.length -> markE qs ps all (row rs k) = 0
 low : ∀ k, k < rs.length -> Low (markR qs ps all (row rs k))
 b : ∀ k, k < rs.length -> markB qs ps all (row rs k) = psI qs ps all rs k
 t : ∀ k, k < rs.length -> total (markR qs ps all (row rs k)) = ttl qs ps rs k
def ttA (f : Nat -> Int) : Nat -> Nat -> Dt
 | _, 0 => []
 | i, n + 1 => [.i (f i)] :: ttA f (i + 1) n
def noH (fd sc : Dt) (k : Nat) : Bool := !hasN fd (num sc k)
theorem mkAll_rds {qs ps sh : Dt} {all : Int} (hk : KeyOk qs ps all) (hs : ShOk qs sh) : MkAll qs ps all (rdD sh) := by
 have key : ∀ k, k < (rdD sh).length -> row (rdD sh) k ∈ rds sh := fun k hk => rds_ix.2 ⟨k, hk, rfl⟩;have m := fun k h => rds_mark hk hs (key k h);refine ⟨hs.pps.few, fun k h => (m k h).1, fun k h => ?_, fun k h => (m k h).2.2, fun k h => by rw [(m k h).2.1]; rfl⟩;rw [(m k h).2.1];exact Xpy hk (by rw [(rds_shape _ (key k h)).1]; exact hs.n)
theorem memD_cons {y x : Int} {l : Dt} : memD ([.i y] :: l) x ↔ y = x \/ memD l x := by
 constructor
 ·rintro ⟨p, hp, e⟩;cases p with
  | zero => exact .inl e
  | succ p => exact .inr ⟨p, by simpa using hp, e⟩
 ·rintro (e | ⟨p, hp, e⟩)
  ·exact ⟨0, by simp, e⟩
  ·exact ⟨p + 1, by simpa using hp, e⟩
theorem ttA_mem {f : Nat -> Int} {x : Int} : ∀ n i, memD (ttA f i n) x ↔ ∃ k, i <= k /\ k < i + n /\ f k = x
 | 0, i => ⟨fun ⟨p, hp, _⟩ => by simp [ttA] at hp, fun ⟨k, a, b, _⟩ => by omega⟩
 | n + 1, i => by
  unfold ttA;rw [memD_cons, ttA_mem n (i + 1)];constructor
  ·rintro (e | ⟨k, a, b, e⟩)
   ·exact ⟨i, Nat.le_refl _, by omega, e⟩
   ·exact ⟨k, by omega, by omega, e⟩
  ·rintro ⟨k, a, b, e⟩;rcases Nat.eq_or_lt_of_le a with c | c
   ·subst c; exact .inl e
   ·exact .inr ⟨k, c, by omega, e⟩
theorem reach {qs ps sh : Dt} {all : Int} (hk : KeyOk qs ps all) (hs : ShOk qs sh) : anyF (noH (ttA (ttl qs ps (rdD sh)) 0 (rdD sh).length) (scA qs ps all sh)) 0 (scA qs ps all sh).length = false := by
 cases e : anyF (noH (ttA (ttl qs ps (rdD sh)) 0 (rdD sh).length) (scA qs ps all sh)) 0 (scA qs ps all sh).length with
 | false => rfl
 | true =>
  exfalso;obtain ⟨k, h1, h2⟩ := anyF_0.1 e;rw [scA_ok (ask_of hk hs)] at h1 h2;unfold noH at h2;rw [Bool.not_eq_true'] at h2;obtain ⟨r, hr, e⟩ := ((sc_asc qs ps sh).2 _).1 ⟨k, h1, rfl⟩;obtain ⟨j, hj, rfl⟩ := rds_ix.1 hr;have := hasN_iff.2 ((ttA_mem (f := ttl qs ps (rdD sh)) (x := num (scV qs ps sh) k) (rdD sh).length 0).2 ⟨j, Nat.zero_le _, by omega, e⟩);rw [h2] at this; cases this
theorem oc_by (qs ps sh : Dt) (all : Int) : (ocV qs ps all sh = 2 ↔ anyP qs ps all (rdD sh) = true /\ allP qs ps all (rdD sh) = false) /\ (ocV qs ps all sh = 1 ↔ allP qs ps all (rdD sh) = true) := by
 unfold ocV;cases allP qs ps all (rdD sh) <;> cases anyP qs ps all (rdD sh) <;> simp
end Sp
def Xfb [InW] (e : List Ed) (K : Nat -> List Ed -> Prop) : Prop := match e with
 | [.i o, .b sm, .b al, .i i, .ro _ qs, .ro _ ps, .i all, .l sc, .l fd, .l rs] => Pre (0 <= i /\ i <= rs.length /\ Sp.MkAll qs.xs ps.xs all rs /\ fd.length = i) (K 0 [.i o, .b (sm || Sp.anyF (Sp.psI qs.xs ps.xs all rs) i.toNat (rs.length - i.toNat)), .b (al && Sp.allF (Sp.psI qs.xs ps.xs all rs) i.toNat (rs.length - i.toNat)), .l sc, .l (fd ++ Sp.ttA (Sp.ttl qs.xs ps.xs rs) i.toNat (rs.length - i.toNat))])
 | _ => False
noncomputable def TL9a : Tab Try.prog := ⟨[Xhy, Xmb], [], []⟩
noncomputable def Xg1 : LC where
 len := 113
 T := [(2, (.ptr 7 0)), (5, .int .i64), (7, (.row 1)), (9, .bool), (10, .bool), (11, (.row 3)), (12, (.row 4)), (13, .int .i64)]
 H := [(7, .blk 25 [.rs Iv5, .rs Jc, .int .i64]), (1, .arr 3 Jc), (3, .arr 3 Jc), (4, .nst 26 [.sl Jb])]
 W := ([4, 14, 15, 16] ++ rg 52 31)
 outs := [⟨.exit 0, [(5, .int .i64), (7, (.row 1)), (9, .bool), (10, .bool), (11, (.row 6))], [(1, .arr 3 Jc), (6, .arr 3 Jc)], ([2, 4] ++ rg 12 5 ++ rg 52 31)⟩]
 spec := Xfb
def Zff [W : InW] (i : Int) (qs : Ro Iv5) (ps : Ro Jc) (all : Int) (rs : Dt) := Sp.markR qs.xs ps.xs all (cel rs i.toNat Zc).lst
def Zfg [W : InW] (i : Int) (qs : Ro Iv5) (ps : Ro Jc) (all : Int) (fd rs : Dt) := decide ((fd.length + [[Cl.i (Sp.total (Zff i qs ps all rs))]].length) * 8 <= 140737488355328)
def Xee [W : InW] (o : Int) (sm al : Bool) (i : Int) (qs : Ro Iv5) (ps : Ro Jc) (all : Int) (sc fd rs : Dt) (A : List Ed -> Prop) (K : Nat -> List Ed -> Prop) : Prop :=
 Vif (decide (i < (↑(rs.length) : Int))) (Need (decide (0 <= i) && decide (i < (↑(rs.length) : Int))) (Need (decide (i.toNat < rs.length)) (Pre True (Vif (!decide (Sp.markE qs.xs ps.xs all (cel rs i.toNat Zc).lst = 0)) ((472 : Nat) = 472 + 1) (Vif sm (Vif al (Pre (Sp.Low (Zff i qs ps all rs)) (Need (Zfg i qs ps all fd rs) (Ar .i64 (i + 1) fun z => A [.i o, .b true, .b (Sp.markB qs.xs ps.xs all (cel rs i.toNat Zc).lst), .i z, .ro _ qs, .ro _ ps, .i all, .l sc, .l (fd ++ [[Cl.i (Sp.total (Zff i qs ps all rs))]]), .l rs]))) (Pre (Sp.Low (Zff i qs ps all rs)) (Need (Zfg i qs ps all fd rs) (Ar .i64 (i + 1) fun z => A [.i o, .b true, .b false, .i z, .ro _ qs, .ro _ ps, .i all, .l sc, .l (fd ++ [[Cl.i (Sp.total (Zff i qs ps all rs))]]), .l rs])))) (Vif al (Pre (Sp.Low (Zff i qs ps all rs)) (Need (Zfg i qs ps all fd rs) (Ar .i64 (i + 1) fun z => A [.i o, .b (Sp.markB qs.xs ps.xs all (cel rs i.toNat Zc).lst), .b (Sp.markB qs.xs ps.xs all (cel rs i.toNat Zc).lst), .i z, .ro _ qs, .ro _ ps, .i all, .l sc, .l (fd ++ [[Cl.i (Sp.total (Zff i qs ps all rs))]]), .l rs]))) (Pre (Sp.Low (Zff i qs ps all rs)) (Need (Zfg i qs ps all fd rs) (Ar .i64 (i + 1) fun z => A [.i o, .b (Sp.markB qs.xs ps.xs all (cel rs i.toNat Zc).lst), .b false, .i z, .ro _ qs, .ro _ ps, .i all, .l sc, .l (fd ++ [[Cl.i (Sp.total (Zff i qs ps all rs))]]), .l rs]))))))))) (K 0 [.i o, .b sm, .b al, .l sc, .l fd])
theorem Xlb (W : InW) (o sm al i qs ps all sc fd rs A K) : Yfc { cxT Try.prog TT TL9a 1000 50 with fn := 9 } 1000 (Yn7 Try.prog 9 12) (Yd6 113 [(2, .ptr 7 0), (5, .si .i64 o), (7, .rw 1), (9, .sb sm), (10, .sb al), (11, .rw 3), (12, .rw 4), (13, .si .i64 i)] ([4, 14, 15, 16] ++ rg 52 31)) [(7, .blk 25 [.rs _ qs, .rs _ ps, .si .i64 all]), (1, .arr 3 Jc sc), (3, .arr 3 Jc fd), (4, .nst 26 [.sl Jb] rs)] (Yuf Xg1 A K) = Xee o sm al i qs ps all sc fd rs A K := by kernel_rfl
def Xga : Prop := ∀ (W : InW) (body a : Code), (Try.prog.funcs[9]?).bind (·.body) = some body -> a ∈ Yy body -> Yfw a = 12 -> @Ymq W Try.prog a (@Ytn W Xg1)
theorem Xmw (meas : [InW] -> List Ed -> Nat) (hyp_ : ∀ (W : InW) o sm al i qs ps all sc fd rs K, Xfb [.i o, .b sm, .b al, .i i, .ro _ qs, .ro _ ps, .i all, .l sc, .l fd, .l rs] K -> ∀ A : List Ed -> Prop, (∀ e, meas e < meas [.i o, .b sm, .b al, .i i, .ro _ qs, .ro _ ps, .i all, .l sc, .l fd, .l rs] -> Xfb e K -> A e) -> Xee o sm al i qs ps all sc fd rs A K) : Xga :=
 LE.okOf' (fun W => @TT W) (fun W => @Xe W) Xa TL9a 1000 50 (by kernel_rfl) Xg1 (fun W => @meas W) fun W o sm al i qs ps all sc fd rs K hs =>
  (Xlb W o sm al i qs ps all sc fd rs (fun e => meas e < meas [.i o, .b sm, .b al, .i i, .ro _ qs, .ro _ ps, .i all, .l sc, .l fd, .l rs] /\ Xfb e K) K).mpr (hyp_ W o sm al i qs ps all sc fd rs K hs _ fun e h1 h2 => ⟨h1, h2⟩)
theorem Xph : Xga := Xmw (fun e => match e with | [_, _, _, .i i, _, _, _, _, _, .l rs] => ((rs.length : Int) - i).toNat | _ => 0) fun W o sm al i qs ps all sc fd rs K hs A hA => by
 obtain ⟨⟨h0, h1, hm, hf⟩, hk⟩ := hs;have h2 := hm.few;unfold Xee;delta Zfg Zff Zc;simp only [show (cel rs i.toNat 0).lst = Sp.row rs i.toNat from rfl];have ez : (i + 1).toNat = i.toNat + 1 := by omega
 by_cases hi : i < rs.length
 ·have hlt : i.toNat < rs.length := by omega
  have m1 := hm.e _ hlt;have m2 := hm.low _ hlt;have m3 := hm.b _ hlt;have m4 := hm.t _ hlt;rw [show rs.length - i.toNat = (rs.length - (i.toNat + 1)) + 1 by omega] at hk;have hA' : ∀ c d, c = (sm || Sp.psI qs.xs ps.xs all rs i.toNat) -> d = (al && Sp.psI qs.xs ps.xs all rs i.toNat) -> A [.i o, .b c, .b d, .i (i + 1), .ro _ qs, .ro _ ps, .i all, .l sc, .l (fd ++ [[Cl.i (Sp.ttl qs.xs ps.xs rs i.toNat)]]), .l rs] := fun c d hc hd => hA _ (show ((rs.length : Int) - (i + 1)).toNat < ((rs.length : Int) - i).toNat by omega) ⟨⟨by omega, by omega, hm, by simp; omega⟩, by
   rw [ez, hc, hd, Bool.or_assoc, Bool.and_assoc, List.append_assoc];exact hk⟩
  clear hA hk;simp only [m1, m3, m4];have hl : (fd.length + [[Cl.i (Sp.ttl qs.xs ps.xs rs i.toNat)]].length) * 8 <= 140737488355328 := by simp; omega
  have hm2 : ∀ B : Prop, B -> Pre (Sp.Low (Sp.markR qs.xs ps.xs all (Sp.row rs i.toNat))) B := fun B h => ⟨m2, h⟩
  repeat' (first | (with_reducible refine hm2 _ ?_) | omega|intro _|with_reducible first|apply vifd|apply vifn|apply vifq|apply Xd|apply Xc|apply vifb|apply vif|apply nedd|apply ned2|apply ned|apply ar64|apply Xb|exact True.intro|assumption|rfl|apply And.intro)
  all_goals first | contradiction | (refine hA' _ _ ?_ ?_ <;> simp [*]; done) | skip
 ·rw [show rs.length - i.toNat = 0 by omega] at hk;simp only [Sp.allF, Sp.anyF, Sp.ttA, Bool.and_true, Bool.or_false, List.append_nil] at hk;refine vifd (fun e => by omega) fun _ => hk
noncomputable def Xqd : LE Try.prog := ⟨9, 12, fun W => @Ytn W Xg1, Xph⟩
def Xfa [InW] (e : List Ed) (K : Nat -> List Ed -> Prop) : Prop := match e with
 | [.i o, .b a, .b b, .i i, .l sc, .l fd] => Pre (0 <= i /\ sc.length <= 1000 /\ Sp.anyF (Sp.noH fd sc) i.toNat (sc.length - i.toNat) = false) (K 0 [.i o, .b a, .b b])
 | _ => False
noncomputable def TL9b : Tab Try.prog := ⟨[Xol], [], []⟩
noncomputable def Xg0 : LC where
 len := 113
 T := [(5, .int .i64), (7, (.row 1)), (9, .bool), (10, .bool), (11, (.row 4)), (17, .int .i64)]
 H := [(1, .arr 3 Jc), (4, .arr 3 Jc)]
 W := ([4] ++ rg 83 13)
 outs := [⟨.exit 2, [(5, .int .i64), (9, .bool), (10, .bool)], [], ([4, 7, 11, 17] ++ rg 83 13)⟩]
 spec := Xfa
def Xed [W : InW] (o : Int) (a b : Bool) (i : Int) (sc fd : Dt) (A : List Ed -> Prop) (K : Nat -> List Ed -> Prop) : Prop :=
 Vif (decide (i < (↑(sc.length) : Int))) (Need (decide (0 <= i) && decide (i < (↑(sc.length) : Int))) (Need (decide (i.toNat < sc.length)) (Pre True (Vif (!Sp.hasN fd (cel sc i.toNat (0 : Nat)).int) ((472 : Nat) = 472 + 1) (Ar .i64 (i + 1) fun z => A [.i o, .b a, .b b, .i z, .l sc, .l fd]))))) (K 0 [.i o, .b a, .b b])
theorem Xla (W : InW) (o a b i sc fd A K) : Yfc { cxT Try.prog TT TL9b 1000 50 with fn := 9 } 1000 (Yn7 Try.prog 9 19) (Yd6 113 [(5, .si .i64 o), (7, .rw 1), (9, .sb a), (10, .sb b), (11, .rw 4), (17, .si .i64 i)] ([4] ++ rg 83 13)) [(1, .arr 3 Jc sc), (4, .arr 3 Jc fd)] (Yuf Xg0 A K) = Xed o a b i sc fd A K := by kernel_rfl
def Xf9 : Prop := ∀ (W : InW) (body a : Code), (Try.prog.funcs[9]?).bind (·.body) = some body -> a ∈ Yy body -> Yfw a = 19 -> @Ymq W Try.prog a (@Ytn W Xg0)
theorem Xmv (meas : [InW] -> List Ed -> Nat) (hyp_ : ∀ (W : InW) o a b i sc fd K, Xfa [.i o, .b a, .b b, .i i, .l sc, .l fd] K -> ∀ A : List Ed -> Prop, (∀ e, meas e < meas [.i o, .b a, .b b, .i i, .l sc, .l fd] -> Xfa e K -> A e) -> Xed o a b i sc fd A K) : Xf9 :=
 LE.okOf' (fun W => @TT W) (fun W => @Xe W) Xa TL9b 1000 50 (by kernel_rfl) Xg0 (fun W => @meas W) fun W o a b i sc fd K hs =>
  (Xla W o a b i sc fd (fun e => meas e < meas [.i o, .b a, .b b, .i i, .l sc, .l fd] /\ Xfa e K) K).mpr (hyp_ W o a b i sc fd K hs _ fun e h1 h2 => ⟨h1, h2⟩)
theorem Xpg : Xf9 := Xmv (fun e => match e with | [_, _, _, .i i, .l sc, _] => ((sc.length : Int) - i).toNat | _ => 0) fun W o a b i sc fd K hs A hA => by
 obtain ⟨⟨h0, hl, h1⟩, hk⟩ := hs;unfold Xed
 by_cases hi : i < sc.length
 ·rw [show sc.length - i.toNat = (sc.length - (i.toNat + 1)) + 1 by omega] at h1;simp only [Sp.anyF, Bool.or_eq_false_iff] at h1;have ez : (i + 1).toNat = i.toNat + 1 := by omega
  have hA' := hA [.i o, .b a, .b b, .i (i + 1), .l sc, .l fd] (show ((sc.length : Int) - (i + 1)).toNat < ((sc.length : Int) - i).toNat by omega) ⟨⟨by omega, hl, by rw [ez]; exact h1.2⟩, hk⟩;have hh : Sp.hasN fd (cel sc i.toNat 0).int = true := by
   have := h1.1;unfold Sp.noH at this;rw [Bool.not_eq_false'] at this;exact this
  clear hA hk h1;rw [hh];refine vifd (fun _ => ?_) fun e => by omega
  refine ned2 (by omega) (nedd (by omega) (Xb trivial (vif (fun e => by cases e) fun _ => ar64 (by omega) hA')))
 ·refine vifd (fun e => by omega) fun _ => hk
noncomputable def Xqc : LE Try.prog := ⟨9, 19, fun W => @Ytn W Xg0, Xpg⟩
noncomputable def TL9 : Tab Try.prog := ⟨[Xhx, Xhw, Xjj, Xoj, Xjp], [Xqd, Xqc], []⟩
def Zfh [W : InW] (sh : Ro Jb) := List.length (Sp.rdD sh.xs) - Int.toNat Zb
def Xcq [W : InW] (kQ : Ro Iv5) (kP : Ro Jc) (kA : Int) (sh : Ro Jb) (Q : DS -> Prop) : Prop :=
 Pre True (Pre True (Pre True (Vif (!decide (Sp.askE kQ.xs kP.xs kA sh.xs = 0)) (Vif (!decide (Sp.askE kQ.xs kP.xs kA sh.xs = 0)) (Vif (decide (Sp.askE kQ.xs kP.xs kA sh.xs = Sp.askE kQ.xs kP.xs kA sh.xs)) (Pre True (Q [[Cl.b true]])) (Q Zfb)) (Q Zfb)) (Vif (!decide (Sp.askE kQ.xs kP.xs kA sh.xs = 0)) (Q Zfb) (Vif (!decide (Sp.askE kQ.xs kP.xs kA sh.xs = 0)) (Q Zfb) (Pre (Sp.RdgOk (8 : Nat) sh.xs) (Pre (Zb <= 0 /\ Zb <= (↑(List.length (Sp.rdD sh.xs)) : Int) /\ Sp.MkAll kQ.xs kP.xs kA (Sp.rdD sh.xs) /\ (↑(0 : Nat) : Int) = 0) (Pre (Zb <= 0 /\ List.length (Sp.scA kQ.xs kP.xs kA sh.xs) <= 1000 /\ Sp.anyF (Sp.noH (Sp.ttA (Sp.ttl kQ.xs kP.xs (Sp.rdD sh.xs)) Za (Zfh sh)) (Sp.scA kQ.xs kP.xs kA sh.xs)) Za (List.length (Sp.scA kQ.xs kP.xs kA sh.xs) - Int.toNat Zb) = false) (Vif (false || Sp.anyF (Sp.psI kQ.xs kP.xs kA (Sp.rdD sh.xs)) Za (Zfh sh)) (Vif (decide (Sp.ocA kQ.xs kP.xs kA sh.xs = 2) == !(true && Sp.allF (Sp.psI kQ.xs kP.xs kA (Sp.rdD sh.xs)) Za (Zfh sh))) (Vif (decide (Sp.ocA kQ.xs kP.xs kA sh.xs = 1) == (true && Sp.allF (Sp.psI kQ.xs kP.xs kA (Sp.rdD sh.xs)) Za (Zfh sh))) (Pre True (Q [[Cl.b true]])) (Q Zfb)) (Q Zfb)) (Vif (decide (Sp.ocA kQ.xs kP.xs kA sh.xs = 2) == false) (Vif (decide (Sp.ocA kQ.xs kP.xs kA sh.xs = 1) == (true && Sp.allF (Sp.psI kQ.xs kP.xs kA (Sp.rdD sh.xs)) Za (Zfh sh))) (Pre True (Q [[Cl.b true]])) (Q Zfb)) (Q Zfb)))))))))))
theorem Xi9 (W : InW) (kQ kP kA sh Q) : Ywt (cxT Try.prog TT TL9 1000 50) 1000 9 [.agg [.rs _ kQ, .rs _ kP, .si .i64 kA], .rs _ sh] [] 0 (Y02 [(false, [.bool])] Q) (fun _ _ _ _ => Stuck 421) = Xcq kQ kP kA sh Q := by kernel_rfl
abbrev Xbp : List AT := [.agg [.sl Iv5, .sl Jc, .int .i64], .one (.sl Jb)]
theorem Xj6 {pre : DS -> Prop} {res : DS -> DS} (hyp_ : ∀ (W : InW) (kQ : Ro Iv5) (kP : Ro Jc) (kA : Int) (sh : Ro Jb), pre [[.l kQ.xs, .l kP.xs, .i kA], [.l sh.xs]] -> ∀ Q : DS -> Prop, Q (res [[.l kQ.xs, .l kP.xs, .i kA], [.l sh.xs]]) -> Xcq kQ kP kA sh Q) : PureOk Try.prog 9 Xbp [(false, [.bool])] pre res :=
 PureOk.of' (fun W => @TT W) (fun W => @Xe W) Xa TL9 1000 50 fun W kQ kP kA sh hp =>
  (Xi9 W kQ kP kA sh (fun o => o = res [[.l kQ.xs, .l kP.xs, .i kA], [.l sh.xs]])).mpr (hyp_ W kQ kP kA sh hp _ rfl)
theorem Xc0 : PureOk Try.prog 9 Xbp [(false, [.bool])] (WfD Xbp) fun _ => [[.b true]] :=
 Xj6 fun W qs ps all sh hp Q h => by
  unfold Xcq;delta Zfh Za Zfb Zb
  by_cases e : Sp.askE qs.xs ps.xs all sh.xs = 0
  ·obtain ⟨hk, hs⟩ := Sp.askE_ok e;have f1 := Sp.mkAll_rds hk hs;have f2 := Sp.reach hk hs;have f3 : (Sp.scA qs.xs ps.xs all sh.xs).length <= 1000 := Sp.scA_len hk hs;have f4 := hs.rdg hk;obtain ⟨o2, o1⟩ := Sp.oc_by qs.xs ps.xs sh.xs all;simp only [Vif_iff, Pre_iff, e, f1, f3, f4, show Int.toNat 0 = 0 from rfl, Nat.sub_zero, List.nil_append, f2, Sp.ocA_ok e, show Sp.anyF (Sp.psI qs.xs ps.xs all (Sp.rdD sh.xs)) 0 (Sp.rdD sh.xs).length = Sp.anyP qs.xs ps.xs all (Sp.rdD sh.xs) from rfl, show Sp.allF (Sp.psI qs.xs ps.xs all (Sp.rdD sh.xs)) 0 (Sp.rdD sh.xs).length = Sp.allP qs.xs ps.xs all (Sp.rdD sh.xs) from rfl];generalize Sp.anyP qs.xs ps.xs all (Sp.rdD sh.xs) = A at *;generalize Sp.allP qs.xs ps.xs all (Sp.rdD sh.xs) = B at *;generalize Sp.ocV qs.xs ps.xs all sh.xs = O at *;cases A <;> cases B <;> simp_all
  ·simp [Vif_iff, Pre_iff, e, h, Sp.ocA, Sp.scA]
end Go.Proofs.Ytifhdbgciehicaa
namespace Go.Proofs.Ytifhdbgciehicaa.answerReached
open Go.ChangeShapes Go.WideShapes Go.ChangeAt Go.RowKit
set_option maxRecDepth 100000
theorem own : ownKnob Try.prog.godebug = none := by kernel_rfl
theorem laid : laidOutB Try.prog = true := by kernel_rfl
theorem lifted (os : Os) (started : os.Started) (H : Type) (enc : TypeId × Value -> H) :
  ReturnsInHanded {} Try.checked os 9 .any (Rows.answerReachedSpec.pre6 enc Try.prog Try.f9 Rows.answerReachedRow.domain false) (Rows.answerReachedSpec.post enc Try.prog Try.f9 false true false false) := by
 refine returnsInHanded_of_change (C := Try.checked) own started (by kernel_rfl) Try.func9
  (ChangeSpec.witness6 (enc := enc) (C := Try.checked) false ⟨#[], #[(.agg #[.slice none 0 0, .slice none 0 0, .int .i64 0]), (.slice none 0 0)], []⟩ 8 (by kernel_rfl) (by kernel_rfl) (by kernel_rfl) (by kernel_rfl)) ?_
 intro W base args ds gs before hval hW _ _;exact law_end (f := Try.f9) (s := Rows.answerReachedSpec) (by kernel_rfl) Try.underlying4 (by kernel_rfl) rfl laid (by kernel_rfl)
  (fun ds h => by match ds, (show ds.length = 2 from h) with | [_, _], _ => exact ⟨rfl, rfl, rfl⟩) Xc0 hval hW
theorem over : Rows.answerReachedRow.holds Try.pinned (OpenSpec.ofChange Rows.answerReachedSpec) :=
 OpenClaim.holds_of_wide 9 Try.f9 rfl rfl rfl rfl rfl rfl rfl ⟨rfl, rfl, rfl, rfl, rfl⟩ rfl rfl rfl rfl rfl (by kernel_rfl) Try.func9 (by kernel_rfl)
  (of_decide_eq_true (by kernel_rfl)) (by unfold Func.isWrapper; first | (rw [if_pos (by decide +kernel)]; kernel_rfl) | (rw [if_neg (by decide +kernel)]; exact ⟨rfl, rfl⟩))
  (fun os started H enc _ => lifted os started H enc)
theorem proved : Rows.AnswerReachedSaid := over
end Go.Proofs.Ytifhdbgciehicaa.answerReached
