/-
  'AnswerEvery': for every input the law returns true, and what is handed in reads as before. No condition.
-/
import Derived.Test.YtifhdbgciehicaaQevd
import Derived.Test.YtifhdbgciehicaaRows
import Derived.WalkKit
import Derived.ProofKit
set_option linter.unusedVariables false
set_option linter.unusedSectionVars false
set_option linter.unusedSimpArgs false
namespace Go.Proofs.Ytifhdbgciehicaa
open Go.RowKit
set_option maxRecDepth 100000
theorem vif_t [InW] {b : Bool} {A B : Prop} (hb : b = true) (ha : A) : Vif b A B := Vif_iff.2 ⟨fun _ => ha, fun h => absurd (hb.symm.trans h) (by decide)⟩
theorem Xkr [W : InW] (Q : DS -> Prop) (h : Q [[.b true]]) : Xbd Q := by
 unfold Xbd;delta Zez Zev Zew Zex Zey Zfb Zfa Zeu Zb
 repeat first | refine vif_t (by kernel_rfl) ?_ | refine Pre_iff.2 ⟨trivial, ?_⟩ | refine Pre_iff.2 ⟨by kernel_rfl, ?_⟩ | refine Pre_iff.2 ⟨⟨by kernel_rfl, by kernel_rfl, by kernel_rfl⟩, ?_⟩
 exact (congrArg Q (by kernel_rfl)).mpr h
noncomputable def Xjx : PC Try.prog := ⟨22, [], [(false, [.bool])], fun _ => True, fun _ => [[.b true]], Xkg fun W hp Q h => Xkr Q h⟩
set_option maxHeartbeats 1600000
namespace Sp
def bitN (x : Int) (i : Nat) : Int := x / 2 ^ i % 2
def rdgF (u : Dt) (x : Int) : Nat -> Nat -> Dt -> Dt
 | _, 0, sh => sh
 | i, n + 1, sh => rdgF u x (i + 1) n (withD sh (cA u i).toNat (cB u i).toNat (bitN x i))
def rdgV (x : Int) (sh : Dt) : Dt := rdgF (uns sh) x 0 (uns sh).length sh
theorem bitN_nat (x i : Nat) : bitN (x : Int) i = ((x / 2 ^ i % 2 : Nat) : Int) := by
 unfold bitN;rw [Int.natCast_emod, Int.natCast_ediv, Int.natCast_pow]; rfl
theorem rdgF_it (us : List (Nat × Nat)) (x : Nat) : ∀ n i s, i + n = us.length -> rdgF (us.map prC) x i n s = itW (us.drop i) (x / 2 ^ i) s
 | 0, i, s, h => by rw [List.drop_eq_nil_of_le (by omega)]; rfl
 | n + 1, i, s, h => by
  have hi : i < us.length := by omega
  rw [List.drop_eq_getElem_cons hi];unfold rdgF itW;rw [(prC_cel us i hi).1, (prC_cel us i hi).2, bitN_nat, Int.toNat_natCast, Int.toNat_natCast, rdgF_it us x n (i + 1) _ (by omega), Nat.pow_succ, Nat.div_div_eq_div_mul]
theorem rdgV_it {x : Int} (h : 0 <= x) (sh : Dt) : rdgV x sh = itW (pos sh) x.toNat sh := by
 obtain ⟨n, rfl⟩ := Int.eq_ofNat_of_zero_le h;unfold rdgV;rw [uns_pos, show (List.map prC (pos sh)).length = (pos sh).length by simp];have := rdgF_it (pos sh) n (pos sh).length 0 sh (by omega);simpa using this
theorem itW_mod : ∀ (ps : List (Nat × Nat)) (b : Nat) (s : Dt), itW ps b s = itW ps (b % 2 ^ ps.length) s
 | [], _, _ => rfl
 | p :: ps, b, s => by
  simp only [itW, List.length_cons];rw [itW_mod ps (b / 2), itW_mod ps (b % 2 ^ (ps.length + 1) / 2), Nat.pow_succ];have h1 : b % (2 ^ ps.length * 2) % 2 = b % 2 := Nat.mod_mul_left_mod b _ 2;have h2 : b % (2 ^ ps.length * 2) / 2 % 2 ^ ps.length = b / 2 % 2 ^ ps.length := by
   rw [Nat.mul_comm, Nat.mod_mul_right_div_self, Nat.mod_mod]
  rw [h1, h2]
theorem rdgV_mem {x : Int} (h : 0 <= x) (sh : Dt) : rdgV x sh ∈ rds sh := by
 rw [rdgV_it h, rds_it _ _ _ rfl, itW_mod];exact ⟨_, Nat.mod_lt _ (Nat.pow_pos (by decide)), rfl⟩
theorem rds_shok {qs sh : Dt} (h : ShOk qs sh) : ∀ r ∈ rds sh, ShOk qs r :=
 rds_ind (P := fun r => ShOk qs r) h fun s q j v hs _ hv => hs.withD hv
theorem ask_of {qs ps sh : Dt} {all : Int} (hk : KeyOk qs ps all) (hs : ShOk qs sh) : askE qs ps all sh = 0 := by
 unfold askE;rw [if_pos (chkE_iff.2 hk), shE_iff.2 hs]
theorem rds_mark {qs ps sh : Dt} {all : Int} (hk : KeyOk qs ps all) (hs : ShOk qs sh) {r : Dt} (hr : r ∈ rds sh) : markE qs ps all r = 0 /\ markR qs ps all r = mk qs ps r /\ markB qs ps all r = psS qs ps all r := by
 have e : markE qs ps all r = 0 := by
  unfold markE;rw [if_pos (ask_of hk (rds_shok hs r hr)), if_pos (by rw [uns_len, rds_sure r hr]; rfl)]
 exact ⟨e, by unfold markR; rw [if_pos e], by unfold markB; rw [if_pos e]⟩
theorem oc_any {qs ps s : Dt} {all : Int} : anyP qs ps all (rdD s) = true ↔ ∃ r ∈ rds s, psS qs ps all r = true := by
 unfold anyP;rw [anyF_0];constructor
 ·rintro ⟨k, hk, h⟩;exact ⟨_, rds_ix.2 ⟨k, hk, rfl⟩, h⟩
 ·rintro ⟨r, hr, h⟩;obtain ⟨k, hk, rfl⟩ := rds_ix.1 hr;exact ⟨k, hk, h⟩
theorem oc_all {qs ps s : Dt} {all : Int} : allP qs ps all (rdD s) = true ↔ ∀ r ∈ rds s, psS qs ps all r = true := by
 unfold allP;rw [allF_0];constructor
 ·intro h r hr;obtain ⟨k, hk, rfl⟩ := rds_ix.1 hr;exact h k hk
 ·intro h k hk;exact h _ (rds_ix.2 ⟨k, hk, rfl⟩)
theorem oc1 {qs ps s : Dt} {all : Int} : ocV qs ps all s = 1 ↔ ∀ r ∈ rds s, psS qs ps all r = true := by
 rw [<- oc_all];unfold ocV
 by_cases h : allP qs ps all (rdD s) = true
 ·rw [if_pos h]; exact ⟨fun _ => h, fun _ => rfl⟩
 ·rw [if_neg h];constructor
  ·intro e; split at e <;> simp at e
  ·intro e; exact absurd e h
theorem rds_ne (s : Dt) : ∃ r, r ∈ rds s := ⟨_, rdgV_mem (x := 0) (by decide) s⟩
theorem oc0 {qs ps s : Dt} {all : Int} : ocV qs ps all s = 0 ↔ ∀ r ∈ rds s, psS qs ps all r = false := by
 have ha : ocV qs ps all s = 0 ↔ ¬ (allP qs ps all (rdD s) = true) /\ ¬ (anyP qs ps all (rdD s) = true) := by
  unfold ocV
  by_cases h : allP qs ps all (rdD s) = true
  ·simp [h]
  ·by_cases h2 : anyP qs ps all (rdD s) = true <;> simp [h, h2]
 rw [ha, oc_any];constructor
 ·rintro ⟨_, h⟩ r hr;cases e : psS qs ps all r with
  | false => rfl
  | true => exact absurd ⟨r, hr, e⟩ h
 ·intro h;refine ⟨fun c => ?_, fun ⟨r, hr, e⟩ => by rw [h r hr] at e; cases e⟩;obtain ⟨r, hr⟩ := rds_ne s;have := oc_all.1 c r hr;rw [h r hr] at this; cases this
theorem oc_in (qs ps : Dt) (all : Int) (s : Dt) : 0 <= ocV qs ps all s /\ ocV qs ps all s <= 2 := by
 unfold ocV; repeat' split <;> omega
theorem sc_asc (qs ps sh : Dt) : Asc (scV qs ps sh) /\ ∀ y, memD (scV qs ps sh) y ↔ ∃ r ∈ rds sh, total (mk qs ps r) = y := by
 obtain ⟨h1, h2⟩ := insA_asc (f := ttl qs ps (rdD sh)) (rdD sh).length 0 [] asc_nil;refine ⟨h1, fun y => ?_⟩;unfold scV;rw [h2];constructor
 ·rintro (⟨p, hp, _⟩ | ⟨k, _, hk, e⟩)
  ·simp at hp
  ·exact ⟨_, rds_ix.2 ⟨k, by omega, rfl⟩, e⟩
 ·rintro ⟨r, hr, e⟩;obtain ⟨k, hk, rfl⟩ := rds_ix.1 hr;exact .inr ⟨k, Nat.zero_le _, by omega, e⟩
def hasV (xs : Dt) (x : Int) (i : Nat) : Bool := decide (num xs i = x)
def hasN (xs : Dt) (x : Int) : Bool := anyF (hasV xs x) 0 xs.length
end Sp
noncomputable def TN1 : Tab Try.prog := ⟨[Xh2, Xjt], [], []⟩
def Xcm [W : InW] (kQ : Ro Iv5) (kP : Ro Jc) (kA : Int) (sh : Ro Jb) (Q : DS -> Prop) : Prop :=
 Pre True (Vif (decide (Sp.chkE kQ.xs kP.xs kA = 0)) (Pre (Sp.KeyOk kQ.xs kP.xs kA) (Q [[Cl.b (decide (Sp.shE kQ.xs sh.xs = 0))]])) (Q [[Cl.b false]]))
theorem Xje (W : InW) (kQ kP kA sh Q) : Ywt (cxT Try.prog TT TN1 1000 50) 1000 40 [.agg [.rs _ kQ, .rs _ kP, .si .i64 kA], .rs _ sh] [] 0 (Y02 [(false, [.bool])] Q) (fun _ _ _ _ => Stuck 421) = Xcm kQ kP kA sh Q := by kernel_rfl
abbrev Xbo : List AT := [.agg [.sl Iv5, .sl Jc, .int .i64], .one (.sl Jb)]
theorem Xka {pre : DS -> Prop} {res : DS -> DS} (hyp_ : ∀ (W : InW) (kQ : Ro Iv5) (kP : Ro Jc) (kA : Int) (sh : Ro Jb), pre [[.l kQ.xs, .l kP.xs, .i kA], [.l sh.xs]] -> ∀ Q : DS -> Prop, Q (res [[.l kQ.xs, .l kP.xs, .i kA], [.l sh.xs]]) -> Xcm kQ kP kA sh Q) : PureOk Try.prog 40 Xbo [(false, [.bool])] pre res :=
 PureOk.of' (fun W => @TT W) (fun W => @Xc W) Xa TN1 1000 50 fun W kQ kP kA sh hp =>
  (Xje W kQ kP kA sh (fun o => o = res [[.l kQ.xs, .l kP.xs, .i kA], [.l sh.xs]])).mpr (hyp_ W kQ kP kA sh hp _ rfl)
abbrev Xs (ds : DS) : DS := match ds with | [[.l qs, .l ps, .i all], [.l sh]] => [[.b (decide (Sp.askE qs ps all sh = 0))]] | _ => []
theorem Xmn : PureOk Try.prog 40 Xbo [(false, [.bool])] (fun _ => True) Xs :=
 Xka fun W qs ps all sh hp Q h => by
  unfold Xcm;refine ⟨trivial, vifd (fun e => ⟨Sp.chkE_iff.1 e, ?_⟩) fun e => ?_⟩
  ·have e2 : Sp.askE qs.xs ps.xs all sh.xs = Sp.shE qs.xs sh.xs := by unfold Sp.askE; rw [if_pos e]
   simpa [Xs, e2] using h
  ·have e2 : Sp.askE qs.xs ps.xs all sh.xs = Sp.chkE qs.xs ps.xs all := by unfold Sp.askE; rw [if_neg e]
   simpa [Xs, e2, e] using h
noncomputable def Xjr : PC Try.prog := ⟨40, Xbo, [(false, [.bool])], fun _ => True, Xs, Xmn⟩
def Xfn [InW] (e : List Ed) (K : Nat -> List Ed -> Prop) : Prop := match e with
 | [.ro _ xs, .i x, .i i] => Pre (0 <= i /\ i <= xs.xs.length) (Vif (Sp.anyF (Sp.hasV xs.xs x) i.toNat (xs.xs.length - i.toNat)) (K 1 []) (K 0 []))
 | _ => False
noncomputable def Xhe : LC where
 len := 18
 T := [(0, .rs Jc), (1, .int .i64), (5, .int .i64)]
 H := []
 W := ([4] ++ rg 6 12)
 outs := [⟨.exit 0, [], [], ([0, 1] ++ rg 4 14)⟩, ⟨.ret, [(4, (.lit (.bool true)))], [], ([0, 1] ++ rg 5 13)⟩]
 spec := Xfn
def Xeo [W : InW] (xs : Ro Jc) (x i : Int) (A : List Ed -> Prop) (K : Nat -> List Ed -> Prop) : Prop :=
 Vif (decide (i < (↑(xs.xs.length) : Int))) (Need (decide (0 <= i) && decide (i < (↑(xs.xs.length) : Int))) (Need (decide (i.toNat < xs.xs.length)) (Vif (decide ((cel xs.xs i.toNat (0 : Nat)).int = x)) (K (0+1) []) (Ar .i64 (i + 1) fun z => A [.ro _ xs, .i x, .i z])))) (K 0 [])
theorem Xls (W : InW) (xs x i A K) : Yfc { cxT Try.prog TT T0 1000 50 with fn := 42 } 1000 (Yn7 Try.prog 42 3) (Yd6 18 [(0, .rs _ xs), (1, .si .i64 x), (5, .si .i64 i)] ([4] ++ rg 6 12)) [] (Yuf Xhe A K) = Xeo xs x i A K := by kernel_rfl
def Xgm : Prop := ∀ (W : InW) (body a : Code), (Try.prog.funcs[42]?).bind (·.body) = some body -> a ∈ Yy body -> Yfw a = 3 -> @Ymq W Try.prog a (@Ytn W Xhe)
theorem Xnd (meas : [InW] -> List Ed -> Nat) (hyp_ : ∀ (W : InW) xs x i K, Xfn [.ro _ xs, .i x, .i i] K -> ∀ A : List Ed -> Prop, (∀ e, meas e < meas [.ro _ xs, .i x, .i i] -> Xfn e K -> A e) -> Xeo xs x i A K) : Xgm :=
 LE.okOf' (fun W => @TT W) (fun W => @Xc W) Xa T0 1000 50 (by kernel_rfl) Xhe (fun W => @meas W) fun W xs x i K hs =>
  (Xls W xs x i (fun e => meas e < meas [.ro _ xs, .i x, .i i] /\ Xfn e K) K).mpr (hyp_ W xs x i K hs _ fun e h1 h2 => ⟨h1, h2⟩)
theorem Xp0 : Xgm := Xnd (fun e => match e with | [.ro _ xs, _, .i i] => ((xs.xs.length : Int) - i).toNat | _ => 0) fun W xs x i K hs A hA => by
 obtain ⟨⟨h0, h1⟩, hk⟩ := hs;unfold Xeo;have hm := xs.len;simp only [maxLen] at hm;have ez : (i + 1).toNat = i.toNat + 1 := by omega
 by_cases hi : i < xs.xs.length
 ·rw [show xs.xs.length - i.toNat = (xs.xs.length - (i.toNat + 1)) + 1 by omega] at hk;simp only [Sp.anyF] at hk;simp only [show ∀ k, (cel xs.xs k 0).int = Sp.num xs.xs k from fun _ => rfl]
  by_cases c : Sp.num xs.xs i.toNat = x
  ·have c2 : Sp.hasV xs.xs x i.toNat = true := decide_eq_true c;rw [c2, Bool.true_or] at hk;have hk := hk.1 rfl;clear hA
   repeat' (first | omega|intro _|with_reducible first|apply vifd|apply vifn|apply vifq|apply Xe|apply Xd|apply vifb|apply vif|apply nedd|apply ned2|apply ned|apply ar64|apply Xb|exact True.intro|assumption|rfl|apply And.intro)
   all_goals first | contradiction | exact hk | skip
  ·have c2 : Sp.hasV xs.xs x i.toNat = false := decide_eq_false c;rw [c2, Bool.false_or] at hk;have hA' := hA [.ro _ xs, .i x, .i (i + 1)] (show ((xs.xs.length : Int) - (i + 1)).toNat < ((xs.xs.length : Int) - i).toNat by omega) ⟨⟨by omega, by omega⟩, by rw [ez]; exact hk⟩;clear hA hk
   repeat' (first | omega|intro _|with_reducible first|apply vifd|apply vifn|apply vifq|apply Xe|apply Xd|apply vifb|apply vif|apply nedd|apply ned2|apply ned|apply ar64|apply Xb|exact True.intro|assumption|rfl|apply And.intro)
   all_goals first | contradiction | exact hA' | skip
 ·rw [show xs.xs.length - i.toNat = 0 by omega] at hk;clear hA
  repeat' (first | omega|intro _|with_reducible first|apply vifd|apply vifn|apply vifq|apply Xe|apply Xd|apply vifb|apply vif|apply nedd|apply ned2|apply ned|apply ar64|apply Xb|exact True.intro|assumption|rfl|apply And.intro)
  all_goals exact hk.2 rfl
noncomputable def Xqv : LE Try.prog := ⟨42, 3, fun W => @Ytn W Xhe, Xp0⟩
noncomputable def TN2 : Tab Try.prog := ⟨[], [Xqv], []⟩
def Xi0 [W : InW] (xs : Ro Jc) (x : Int) (Q : DS -> Prop) : Prop :=
 Pre ((0 : Int) <= 0 /\ (0 : Int) <= (↑(xs.xs.length) : Int)) (Vif (Sp.anyF (Sp.hasV xs.xs x) (Int.toNat (0 : Int)) (xs.xs.length - Int.toNat (0 : Int))) (Q [[Cl.b true]]) (Q [[Cl.b false]]))
theorem Xop (W : InW) (xs x Q) : Ywt (cxT Try.prog TT TN2 1000 50) 1000 42 [.rs _ xs, .si .i64 x] [] 0 (Y02 [(false, [.bool])] Q) (fun _ _ _ _ => Stuck 421) = Xi0 xs x Q := by kernel_rfl
abbrev Xdq : List AT := [.one (.sl Jc), .one (.int .i64)]
theorem Xpd {pre : DS -> Prop} {res : DS -> DS} (hyp_ : ∀ (W : InW) (xs : Ro Jc) (x : Int), pre [[.l xs.xs], [.i x]] -> ∀ Q : DS -> Prop, Q (res [[.l xs.xs], [.i x]]) -> Xi0 xs x Q) : PureOk Try.prog 42 Xdq [(false, [.bool])] pre res :=
 PureOk.of' (fun W => @TT W) (fun W => @Xc W) Xa TN2 1000 50 fun W xs x hp =>
  (Xop W xs x (fun o => o = res [[.l xs.xs], [.i x]])).mpr (hyp_ W xs x hp _ rfl)
abbrev Xdk (ds : DS) : DS := match ds with | [[.l xs], [.i x]] => [[.b (Sp.hasN xs x)]] | _ => []
theorem okhas : PureOk Try.prog 42 Xdq [(false, [.bool])] (fun _ => True) Xdk :=
 Xpd fun W xs x hp Q h => by
  unfold Xi0;simp only [Xdk, Sp.hasN] at h;simp only [show Int.toNat 0 = 0 from rfl, Nat.sub_zero];refine ⟨⟨by omega, by omega⟩, vif (fun e => ?_) fun e => ?_⟩
  ·rw [e] at h; exact h
  ·rw [e] at h; exact h
noncomputable def Xot : PC Try.prog := ⟨42, Xdq, [(false, [.bool])], fun _ => True, Xdk, okhas⟩
def Xfb [InW] (e : List Ed) (K : Nat -> List Ed -> Prop) : Prop := match e with
 | [.i x, .i i, .l sh, .l u] => Pre (0 <= i /\ i <= u.length /\ Sp.Few sh /\ Sp.BxOk sh u /\ 0 <= x /\ x <= 65535) (K 0 [.l (Sp.rdgF u x i.toNat (u.length - i.toNat) sh)])
 | _ => False
noncomputable def TN5 : Tab Try.prog := ⟨[Xh1, Xmh], [], []⟩
noncomputable def Xg4 : LC where
 len := 27
 T := [(0, (.opq 6)), (1, .int .u16), (5, (.row 1)), (6, .int .i64)]
 H := [(6, .fro [.sl Jc]), (1, .arr 44 Ja)]
 W := (rg 9 17)
 outs := [⟨.exit 0, [(0, (.opq 12))], [(12, .fro [.sl Jc])], ([1, 5, 6] ++ rg 9 17)⟩]
 spec := Xfb
def Xed [W : InW] (x i : Int) (sh u : Dt) (A : List Ed -> Prop) (K : Nat -> List Ed -> Prop) : Prop :=
 Vif (decide (i < (↑(u.length) : Int))) (Need (decide (0 <= i) && decide (i < (↑(u.length) : Int))) (Need (decide (i.toNat < u.length)) (Need (decide (0 <= i)) (Ar .i64 ((x.fdiv ((2 : Int) ^ min i.toNat (16 : Nat))).tmod (2 : Int)) fun z => Pre (Sp.Few sh /\ ((0 : Int) <= (cel u i.toNat Zc).int /\ (cel u i.toNat Zc).int < (↑(sh.length) : Int)) /\ (0 : Int) <= (cel u i.toNat (0+1)).int /\ (cel u i.toNat (0+1)).int < (↑(List.length (Sp.row sh (cel u i.toNat Zc).int.toNat)) : Int)) (Ar .i64 (i + 1) fun z_1 => A [.i x, .i z_1, .l (Sp.withD sh (cel u i.toNat Zc).int.toNat (cel u i.toNat (0+1)).int.toNat z), .l u]))))) (K 0 [.l sh])
theorem Xlh (W : InW) (x i sh u A K) : Yfc { cxT Try.prog TT TN5 1000 50 with fn := 41 } 1000 (Yn7 Try.prog 41 4) (Yd6 27 [(0, .opq 6), (1, .si .u16 x), (5, .rw 1), (6, .si .i64 i)] (rg 9 17)) [(6, .fro [.sl Jc] sh), (1, .arr 44 Ja u)] (Yuf Xg4 A K) = Xed x i sh u A K := by kernel_rfl
def Xgc : Prop := ∀ (W : InW) (body a : Code), (Try.prog.funcs[41]?).bind (·.body) = some body -> a ∈ Yy body -> Yfw a = 4 -> @Ymq W Try.prog a (@Ytn W Xg4)
theorem Xm2 (meas : [InW] -> List Ed -> Nat) (hyp_ : ∀ (W : InW) x i sh u K, Xfb [.i x, .i i, .l sh, .l u] K -> ∀ A : List Ed -> Prop, (∀ e, meas e < meas [.i x, .i i, .l sh, .l u] -> Xfb e K -> A e) -> Xed x i sh u A K) : Xgc :=
 LE.okOf' (fun W => @TT W) (fun W => @Xc W) Xa TN5 1000 50 (by kernel_rfl) Xg4 (fun W => @meas W) fun W x i sh u K hs =>
  (Xlh W x i sh u (fun e => meas e < meas [.i x, .i i, .l sh, .l u] /\ Xfb e K) K).mpr (hyp_ W x i sh u K hs _ fun e h1 h2 => ⟨h1, h2⟩)
theorem Xk5 {x i : Int} (hx : 0 <= x) (h0 : 0 <= i) (h1 : i < 7) : (x.fdiv (2 ^ min i.toNat 16)).tmod 2 = Sp.bitN x i.toNat := by
 rw [show min i.toNat 16 = i.toNat by omega];have hp : (0 : Int) <= 2 ^ i.toNat := Int.le_of_lt (Int.pow_pos (by decide));rw [Int.fdiv_eq_ediv_of_nonneg _ hp, Int.tmod_eq_emod_of_nonneg (Int.ediv_nonneg hx hp)];rfl
theorem Xir (x : Int) (i : Nat) : Sp.bitN x i = 0 \/ Sp.bitN x i = 1 := by unfold Sp.bitN; omega
theorem Xiq {sh u : Dt} (h : Sp.BxOk sh u) (q j : Nat) (v : Int) : Sp.BxOk (Sp.withD sh q j v) u :=
 ⟨h.few, fun i hi => by have := h.in_ i hi; rw [Sp.withD_len, Sp.withD_rlen]; exact this⟩
theorem Xq0 {sh : Dt} (h : (Sp.uns sh).length <= 7) : Sp.BxOk sh (Sp.uns sh) := by
 refine ⟨h, fun i hi => ?_⟩;obtain ⟨p, hp, e1, e2⟩ := Sp.uns_cel hi;have := Sp.mem_pos.1 hp;rw [e1, e2, Int.toNat_natCast];omega
theorem Xpp : Xgc := Xm2 (fun e => match e with | [_, .i i, _, .l u] => ((u.length : Int) - i).toNat | _ => 0) fun W x i sh u K hs A hA => by
 obtain ⟨⟨h0, h1, hf, hb, x0, x1⟩, hk⟩ := hs;have hu := hb.few;unfold Xed;delta Zc;simp only [Nat.zero_add]
 by_cases hi : i < u.length
 ·rw [show u.length - i.toNat = (u.length - (i.toNat + 1)) + 1 by omega] at hk;simp only [Sp.rdgF] at hk;have hin := hb.in_ i.toNat (by omega);have ez : (i + 1).toNat = i.toNat + 1 := by omega
  have hv := Xir x i.toNat;have go := hA [.i x, .i (i + 1), .l (Sp.withD sh (Sp.cA u i.toNat).toNat (Sp.cB u i.toNat).toNat (Sp.bitN x i.toNat)), .l u] (show ((u.length : Int) - (i + 1)).toNat < ((u.length : Int) - i).toNat by omega) ⟨⟨by omega, by omega, hf.withD _ _ _, Xiq hb _ _ _, x0, x1⟩, by rw [ez]; exact hk⟩;rw [Xk5 x0 h0 (by omega)];clear hA hk;refine vifd (fun _ => ?_) fun e => by omega
  refine ned (by simp only [Bool.and_eq_true, decide_eq_true_eq]; omega) (nedd (by omega) (nedd (by omega) (ar64 (by omega) ⟨⟨hf, ⟨hin.1, hin.2.1⟩, hin.2.2⟩, ar64 (by omega) go⟩)))
 ·rw [show u.length - i.toNat = 0 by omega] at hk;refine vifd (fun e => by omega) fun _ => hk
noncomputable def Xik : LE Try.prog := ⟨41, 4, fun W => @Ytn W Xg4, Xpp⟩
def Xfc [InW] (e : List Ed) (K : Nat -> List Ed -> Prop) : Prop := match e with
 | [.ro _ sh, .i x, .i i, .l u] => Pre (i = 0 /\ Sp.Few sh.xs /\ Sp.BxOk sh.xs u /\ 0 <= x /\ x <= 65535) (Vif (decide (u.length = 0)) (K 0 [.ro _ sh]) (K 1 [.l (Sp.rdgF u x 0 u.length sh.xs)]))
 | _ => False
noncomputable def Xg5 : LC where
 len := 27
 T := [(0, .rs Jb), (1, .int .u16), (5, (.row 1)), (6, .int .i64)]
 H := [(1, .arr 44 Ja)]
 W := (rg 9 17)
 outs := [⟨.exit 0, [(0, .rs Jb)], [], ([1, 5, 6] ++ rg 9 17)⟩, ⟨.exit 0, [(0, (.opq 12))], [(12, .fro [.sl Jc])], ([1, 5, 6] ++ rg 9 17)⟩]
 spec := Xfc
def Xee [W : InW] (sh : Ro Jb) (x i : Int) (u : Dt) (A : List Ed -> Prop) (K : Nat -> List Ed -> Prop) : Prop :=
 Vif (decide (i < (↑(u.length) : Int))) (Need (decide (0 <= i) && decide (i < (↑(u.length) : Int))) (Need (decide (i.toNat < u.length)) (Need (decide (0 <= i)) (Ar .i64 ((x.fdiv ((2 : Int) ^ min i.toNat (16 : Nat))).tmod (2 : Int)) fun z => Pre (Sp.Few sh.xs /\ ((0 : Int) <= (cel u i.toNat Zc).int /\ (cel u i.toNat Zc).int < (↑(sh.xs.length) : Int)) /\ (0 : Int) <= (cel u i.toNat (0+1)).int /\ (cel u i.toNat (0+1)).int < (↑(List.length (Sp.row sh.xs (cel u i.toNat Zc).int.toNat)) : Int)) (Ar .i64 (i + 1) fun z_1 => Pre (0 <= z_1 /\ z_1 <= (↑(u.length) : Int) /\ Sp.Few (Sp.withD sh.xs (cel u i.toNat Zc).int.toNat (cel u i.toNat (0+1)).int.toNat z) /\ Sp.BxOk (Sp.withD sh.xs (cel u i.toNat Zc).int.toNat (cel u i.toNat (0+1)).int.toNat z) u /\ 0 <= x /\ x <= 65535) (K (0+1) [.l (Sp.rdgF u x z_1.toNat (u.length - z_1.toNat) (Sp.withD sh.xs (cel u i.toNat Zc).int.toNat (cel u i.toNat (0+1)).int.toNat z))])))))) (K 0 [.ro Zdv sh])
theorem Xli (W : InW) (sh x i u A K) : Yfc { cxT Try.prog TT TN5 1000 50 with fn := 41 } 1000 (Yn7 Try.prog 41 4) (Yd6 27 [(0, .rs _ sh), (1, .si .u16 x), (5, .rw 1), (6, .si .i64 i)] (rg 9 17)) [(1, .arr 44 Ja u)] (Xft Xg5 ((Xik).f W) A K) = Xee sh x i u A K := by kernel_rfl
def Xgd : Prop := ∀ (W : InW) (body a : Code), (Try.prog.funcs[41]?).bind (·.body) = some body -> a ∈ Yy body -> Yfw a = 4 -> @Ymq W Try.prog a (@Ytn W Xg5)
theorem Xm3 (meas : [InW] -> List Ed -> Nat) (hyp_ : ∀ (W : InW) sh x i u K, Xfc [.ro _ sh, .i x, .i i, .l u] K -> ∀ A : List Ed -> Prop, (∀ e, meas e < meas [.ro _ sh, .i x, .i i, .l u] -> Xfc e K -> A e) -> Xee sh x i u A K) : Xgd :=
 LE.okOfY (fun W => @TT W) (fun W => @Xc W) Xa TN5 1000 50 (by kernel_rfl) Xg5 (Xik).f (Xik).ok (fun W => @meas W) fun W sh x i u K hs =>
  (Xli W sh x i u (fun e => meas e < meas [.ro _ sh, .i x, .i i, .l u] /\ Xfc e K) K).mpr (hyp_ W sh x i u K hs _ fun e h1 h2 => ⟨h1, h2⟩)
theorem Xpq : Xgd := Xm3 (fun _ => 0) fun W sh x i u K hs A hA => by
 obtain ⟨⟨rfl, hf, hb, x0, x1⟩, hk⟩ := hs;have hu := hb.few;unfold Xee;delta Zdv Zc;simp only [Nat.zero_add]
 by_cases hi : 0 < u.length
 ·have hin := hb.in_ 0 hi;have hk := hk.2 (decide_eq_false (by omega));rw [show u.length = (u.length - 1) + 1 by omega] at hk;simp only [Sp.rdgF] at hk;rw [Xk5 x0 (by omega) (by omega)];have hv := Xir x 0;rw [show Int.toNat 0 = 0 from rfl];refine vifd (fun _ => ?_) fun e => by omega
  refine ned (by simp only [Bool.and_eq_true, decide_eq_true_eq]; omega) (nedd (by omega) (nedd (by omega) (ar64 (by omega) ⟨⟨hf, ⟨hin.1, hin.2.1⟩, hin.2.2⟩, ar64 (by omega) ⟨⟨by omega, by omega, hf.withD _ _ _, Xiq hb _ _ _, x0, x1⟩, ?_⟩⟩)));exact hk
 ·have hk := hk.1 (decide_eq_true (by omega));refine vifd (fun e => by omega) fun _ => hk
noncomputable def Xqm : LE Try.prog := ⟨41, 4, fun W => @Ytn W Xg5, Xpq⟩
noncomputable def TN6 : Tab Try.prog := ⟨[Xh1], [Xqm], []⟩
def Xiy [W : InW] (sh : Ro Jb) (x : Int) (Q : DS -> Prop) : Prop :=
 Pre (Sp.Few sh.xs) (Pre ((0 : Int) = 0 /\ Sp.Few sh.xs /\ Sp.BxOk sh.xs (Sp.uns sh.xs) /\ 0 <= x /\ x <= 65535) (Vif (decide (List.length (Sp.uns sh.xs) = 0)) (Q [[Cl.l sh.xs]]) (Q [[Cl.l (Sp.rdgF (Sp.uns sh.xs) x (0 : Nat) (List.length (Sp.uns sh.xs)) sh.xs)]])))
theorem Xon (W : InW) (sh x Q) : Ywt (cxT Try.prog TT TN6 1000 50) 1000 41 [.rs _ sh, .si .u16 x] [] 0 (Y02 [(false, [.fro [.sl Jc]])] Q) (fun _ _ _ _ => Stuck 421) = Xiy sh x Q := by kernel_rfl
abbrev Xdo : List AT := [.one (.sl Jb), .one (.int .u16)]
theorem Xpb {pre : DS -> Prop} {res : DS -> DS} (hyp_ : ∀ (W : InW) (sh : Ro Jb) (x : Int), pre [[.l sh.xs], [.i x]] -> ∀ Q : DS -> Prop, Q (res [[.l sh.xs], [.i x]]) -> Xiy sh x Q) : PureOk Try.prog 41 Xdo [(false, [.fro [.sl Jc]])] pre res :=
 PureOk.of' (fun W => @TT W) (fun W => @Xc W) Xa TN6 1000 50 fun W sh x hp =>
  (Xon W sh x (fun o => o = res [[.l sh.xs], [.i x]])).mpr (hyp_ W sh x hp _ rfl)
abbrev Xdf (ds : DS) : DS := match ds with | [[.l sh], [.i x]] => [[.l (Sp.rdgV x sh)]] | _ => []
abbrev Xhz (ds : DS) : Prop := match ds with | [[.l sh], [.i x]] => Sp.Few sh /\ (Sp.uns sh).length <= 7 /\ 0 <= x /\ x <= 65535 | _ => False
theorem okrdV : PureOk Try.prog 41 Xdo [(false, [.fro [.sl Jc]])] Xhz Xdf :=
 Xpb fun W sh x hp Q h => by
  obtain ⟨hf, h7, x0, x1⟩ : Sp.Few sh.xs /\ (Sp.uns sh.xs).length <= 7 /\ 0 <= x /\ x <= 65535 := hp;unfold Xiy;simp only [Xdf, Sp.rdgV] at h;refine ⟨hf, ⟨rfl, hf, Xq0 h7, x0, x1⟩, vifd (fun e => ?_) fun e => h⟩;rw [e] at h; exact h
noncomputable def Xor : PC Try.prog := ⟨41, Xdo, [(false, [.fro [.sl Jc]])], Xhz, Xdf, okrdV⟩
theorem Xog {n : Int} (h : WfC (.int .u16) (.i n)) : 0 <= n /\ n <= 65535 := by
 cases h with
 | int _ _ h => simp [Lit.wf, IntKind.min, IntKind.max, IntKind.signed, IntKind.bits] at h; omega
theorem WfL.head {t : Ty} {ts : List Ty} {c : Cl} {cs : List Cl} (h : WfL (t :: ts) (c :: cs)) : WfC t c /\ WfL ts cs := by
 cases h with
 | cons h hs => exact ⟨h, hs⟩
theorem WfD.head {a : AT} {ats : List AT} {d : List Cl} {ds : DS} (h : WfD (a :: ats) (d :: ds)) : WfA a d /\ WfD ats ds := by
 obtain ⟨d', ds', e, h1, h2⟩ := h;cases e;exact ⟨h1, h2⟩
namespace Sp
def dnI (l : Dt) (i : Nat) : Bool := decide (num l i <= num l (i - 1))
theorem ocA_ok {qs ps sh : Dt} {all : Int} (e : askE qs ps all sh = 0) : ocA qs ps all sh = ocV qs ps all sh := by unfold ocA; rw [if_pos e]
theorem scA_ok {qs ps sh : Dt} {all : Int} (e : askE qs ps all sh = 0) : scA qs ps all sh = scV qs ps sh := by unfold scA; rw [if_pos e]
theorem asc_dn {l : Dt} (h : Asc l) (i n : Nat) (h1 : 1 <= i) (h2 : i + n <= l.length) : anyF (dnI l) i n = false := by
 cases e : anyF (dnI l) i n with
 | false => rfl
 | true =>
  obtain ⟨k, a, b, c⟩ := anyF_iff.1 e;have := h.up (k - 1) k (by omega) (by omega);have c := of_decide_eq_true c;omega
theorem hasN_iff {l : Dt} {x : Int} : hasN l x = true ↔ memD l x := by
 unfold hasN memD hasV;rw [anyF_0];simp only [decide_eq_true_eq]
theorem insA_len (f : Nat -> Int) : ∀ n i l, (insA f i n l).length <= l.length + n
 | 0, _, _ => Nat.le_refl _
 | n + 1, i, l => by
  have h1 := insA_len f n (i + 1) (ins l (f i));have h2 := ins_len l (f i);simp only [insA];omega
theorem scA_len {qs ps sh : Dt} {all : Int} (hk : KeyOk qs ps all) (hs : ShOk qs sh) : (scA qs ps all sh).length <= 1000 := by
 rw [scA_ok (ask_of hk hs)];have h1 := insA_len (ttl qs ps (rdD sh)) (rdD sh).length 0 [];have h2 := hs.pps.few;unfold scV;simp only [List.length_nil] at h1;omega
structure RdFacts (qs ps : Dt) (all : Int) (sh r : Dt) : Prop where
 e : markE qs ps all r = 0
 low : Low (markR qs ps all r)
 b1 : ocA qs ps all sh = 1 -> markB qs ps all r = true
 b0 : ocA qs ps all sh = 0 -> markB qs ps all r = false
 in0 : 0 <= ocA qs ps all sh
 in2 : ocA qs ps all sh <= 2
 asc : anyF (dnI (scA qs ps all sh)) 1 ((scA qs ps all sh).length - 1) = false
 has_ : hasN (scA qs ps all sh) (total (markR qs ps all r)) = true
theorem rd_facts {qs ps sh r : Dt} {all : Int} (hk : KeyOk qs ps all) (hs : ShOk qs sh) (hr : r ∈ rds sh) : RdFacts qs ps all sh r := by
 obtain ⟨m1, m2, m3⟩ := rds_mark hk hs hr;have e := ask_of hk hs;have ho := ocA_ok (qs := qs) (ps := ps) (all := all) e;have hc := scA_ok (qs := qs) (ps := ps) (all := all) e;obtain ⟨a1, a2⟩ := sc_asc qs ps sh;refine ⟨m1, ?_, fun h => ?_, fun h => ?_, ?_, ?_, ?_, ?_⟩
 ·rw [m2]; exact Xp8 hk (by rw [(rds_shape r hr).1]; exact hs.n)
 ·rw [m3]; rw [ho] at h; exact oc1.1 h r hr
 ·rw [m3]; rw [ho] at h; exact oc0.1 h r hr
 ·rw [ho]; exact (oc_in qs ps all sh).1
 ·rw [ho]; exact (oc_in qs ps all sh).2
 ·rw [hc];rcases Nat.eq_zero_or_pos (scV qs ps sh).length with h0 | h0
  ·rw [h0]; rfl
  ·exact asc_dn a1 _ _ (Nat.le_refl _) (by omega)
 ·rw [hc, m2, hasN_iff, a2];exact ⟨r, hr, rfl⟩
end Sp
def Xfp [InW] (e : List Ed) (K : Nat -> List Ed -> Prop) : Prop := match e with
 | [.i i, .l l, .l p] => Pre (1 <= i /\ l.length <= 1000 /\ Sp.anyF (Sp.dnI l) i.toNat (l.length - i.toNat) = false) (K 0 [.l l, .l p])
 | _ => False
noncomputable def TL8a : Tab Try.prog := ⟨[], [], []⟩
noncomputable def Xhg : LC where
 len := 115
 T := [(9, (.row 1)), (11, (.row 4)), (14, .int .i64)]
 H := [(1, .arr 3 Jc), (4, .arr 3 Jc)]
 W := ([6] ++ rg 92 16)
 outs := [⟨.exit 0, [(9, (.row 1)), (11, (.row 4))], [(1, .arr 3 Jc), (4, .arr 3 Jc)], ([6, 14] ++ rg 92 16)⟩]
 spec := Xfp
def Xeq [W : InW] (i : Int) (l p : Dt) (A : List Ed -> Prop) (K : Nat -> List Ed -> Prop) : Prop :=
 Vif (decide (i < (↑(l.length) : Int))) (Need (decide (0 <= i) && decide (i < (↑(l.length) : Int))) (Need (decide (i.toNat < l.length)) (Ar .i64 (i - 1) fun z => Need (decide (0 <= z) && decide (z < (↑(l.length) : Int))) (Need (decide (z.toNat < l.length)) (Vif (decide ((cel l i.toNat (0 : Nat)).int <= (cel l z.toNat (0 : Nat)).int)) ((472 : Nat) = 472 + 1) (Ar .i64 (i + 1) fun z => A [.i z, .l l, .l p])))))) (K 0 [.l l, .l p])
theorem Xlu (W : InW) (i l p A K) : Yfc { cxT Try.prog TT TL8a 1000 50 with fn := 8 } 1000 (Yn7 Try.prog 8 10) (Yd6 115 [(9, .rw 1), (11, .rw 4), (14, .si .i64 i)] ([6] ++ rg 92 16)) [(1, .arr 3 Jc l), (4, .arr 3 Jc p)] (Yuf Xhg A K) = Xeq i l p A K := by kernel_rfl
def Xgo : Prop := ∀ (W : InW) (body a : Code), (Try.prog.funcs[8]?).bind (·.body) = some body -> a ∈ Yy body -> Yfw a = 10 -> @Ymq W Try.prog a (@Ytn W Xhg)
theorem Xnf (meas : [InW] -> List Ed -> Nat) (hyp_ : ∀ (W : InW) i l p K, Xfp [.i i, .l l, .l p] K -> ∀ A : List Ed -> Prop, (∀ e, meas e < meas [.i i, .l l, .l p] -> Xfp e K -> A e) -> Xeq i l p A K) : Xgo :=
 LE.okOf' (fun W => @TT W) (fun W => @Xc W) Xa TL8a 1000 50 (by kernel_rfl) Xhg (fun W => @meas W) fun W i l p K hs =>
  (Xlu W i l p (fun e => meas e < meas [.i i, .l l, .l p] /\ Xfp e K) K).mpr (hyp_ W i l p K hs _ fun e h1 h2 => ⟨h1, h2⟩)
theorem Xp2 : Xgo := Xnf (fun e => match e with | [.i i, .l l, _] => ((l.length : Int) - i).toNat | _ => 0) fun W i l p K hs A hA => by
 obtain ⟨⟨h0, hl, h1⟩, hk⟩ := hs;unfold Xeq
 by_cases hi : i < l.length
 ·rw [show l.length - i.toNat = (l.length - (i.toNat + 1)) + 1 by omega] at h1;simp only [Sp.anyF, Bool.or_eq_false_iff] at h1;have hd := of_decide_eq_false h1.1;have ez : (i + 1).toNat = i.toNat + 1 := by omega
  have em : (i - 1).toNat = i.toNat - 1 := by omega
  have hA' := hA [.i (i + 1), .l l, .l p] (show ((l.length : Int) - (i + 1)).toNat < ((l.length : Int) - i).toNat by omega) ⟨⟨by omega, hl, by rw [ez]; exact h1.2⟩, hk⟩;clear hA hk h1;have hl : l.length <= 1000 := hl;simp only [show ∀ k, (cel l k 0).int = Sp.num l k from fun _ => rfl];rw [<- em] at hd;refine vifd (fun _ => ?_) fun e => by omega
  refine ned2 (by omega) (nedd (by omega) (ar64 (by omega) (ned2 (by omega) (nedd (by omega) (vifd (fun e => absurd e hd) fun _ => ar64 (by omega) hA')))))
 ·refine vifd (fun e => by omega) fun _ => hk
noncomputable def Xqx : LE Try.prog := ⟨8, 10, fun W => @Ytn W Xhg, Xp2⟩
noncomputable def TL8 : Tab Try.prog := ⟨[Xh4, Xh3, Xjr, Xor, Xh5, Xmi, Xot, Xjx], [Xqx], []⟩
def Zfc [W : InW] (kQ : Ro Iv5) (kP : Ro Jc) (kA : Int) (sh : Ro Jb) (x : Int) (Q : DS -> Prop) := Vif (decide (Sp.ocA kQ.xs kP.xs kA sh.xs < 0)) (Q Zey) (Vif (decide ((2 : Int) < Sp.ocA kQ.xs kP.xs kA sh.xs)) (Q Zey) (Pre ((1 : Int) <= 1 /\ List.length (Sp.scA kQ.xs kP.xs kA sh.xs) <= 1000 /\ Sp.anyF (Sp.dnI (Sp.scA kQ.xs kP.xs kA sh.xs)) (Int.toNat (1 : Int)) (List.length (Sp.scA kQ.xs kP.xs kA sh.xs) - Int.toNat (1 : Int)) = false) (Pre (Sp.Low (Sp.markR kQ.xs kP.xs kA (Sp.rdgV x sh.xs))) (Pre True (Vif (Sp.hasN (Sp.scA kQ.xs kP.xs kA sh.xs) (Sp.total (Sp.markR kQ.xs kP.xs kA (Sp.rdgV x sh.xs)))) (Pre True (Q [[Cl.b true]])) (Q Zey))))))
def Xcq [W : InW] (kQ : Ro Iv5) (kP : Ro Jc) (kA : Int) (sh : Ro Jb) (x : Int) (Q : DS -> Prop) : Prop :=
 Pre True (Pre True (Pre True (Vif (!decide (Sp.askE kQ.xs kP.xs kA sh.xs = 0)) (Vif (!decide (Sp.askE kQ.xs kP.xs kA sh.xs = 0)) (Vif (decide (Sp.askE kQ.xs kP.xs kA sh.xs = Sp.askE kQ.xs kP.xs kA sh.xs)) (Vif (decide (Sp.ocA kQ.xs kP.xs kA sh.xs = 0)) (Vif (decide ((↑(List.length (Sp.scA kQ.xs kP.xs kA sh.xs)) : Int) = 0)) (Pre True (Q [[Cl.b true]])) (Q Zey)) (Q Zey)) (Q Zey)) (Q Zey)) (Pre (Sp.Few sh.xs /\ List.length (Sp.uns sh.xs) <= 7 /\ 0 <= x /\ x <= 65535) (Pre True (Vif (!decide (Sp.askE kQ.xs kP.xs kA sh.xs = 0)) (Q Zey) (Vif (!decide (Sp.askE kQ.xs kP.xs kA sh.xs = 0)) (Q Zey) (Vif (!decide (Sp.markE kQ.xs kP.xs kA (Sp.rdgV x sh.xs) = 0)) (Q Zey) (Vif (decide (Sp.ocA kQ.xs kP.xs kA sh.xs = 1)) (Vif (!Sp.markB kQ.xs kP.xs kA (Sp.rdgV x sh.xs)) (Q Zey) (Vif (decide (Sp.ocA kQ.xs kP.xs kA sh.xs = 0)) (Vif (Sp.markB kQ.xs kP.xs kA (Sp.rdgV x sh.xs)) (Q Zey) (Zfc kQ kP kA sh x Q)) (Zfc kQ kP kA sh x Q))) (Vif (decide (Sp.ocA kQ.xs kP.xs kA sh.xs = 0)) (Vif (Sp.markB kQ.xs kP.xs kA (Sp.rdgV x sh.xs)) (Q Zey) (Zfc kQ kP kA sh x Q)) (Zfc kQ kP kA sh x Q)))))))))))
theorem Xji (W : InW) (kQ kP kA sh x Q) : Ywt (cxT Try.prog TT TL8 1000 50) 1000 8 [.agg [.rs _ kQ, .rs _ kP, .si .i64 kA], .rs _ sh, .si .u16 x] [] 0 (Y02 [(false, [.bool])] Q) (fun _ _ _ _ => Stuck 421) = Xcq kQ kP kA sh x Q := by kernel_rfl
abbrev Xbr : List AT := [.agg [.sl Iv5, .sl Jc, .int .i64], .one (.sl Jb), .one (.int .u16)]
theorem Xke {pre : DS -> Prop} {res : DS -> DS} (hyp_ : ∀ (W : InW) (kQ : Ro Iv5) (kP : Ro Jc) (kA : Int) (sh : Ro Jb) (x : Int), pre [[.l kQ.xs, .l kP.xs, .i kA], [.l sh.xs], [.i x]] -> ∀ Q : DS -> Prop, Q (res [[.l kQ.xs, .l kP.xs, .i kA], [.l sh.xs], [.i x]]) -> Xcq kQ kP kA sh x Q) : PureOk Try.prog 8 Xbr [(false, [.bool])] pre res :=
 PureOk.of' (fun W => @TT W) (fun W => @Xc W) Xa TL8 1000 50 fun W kQ kP kA sh x hp =>
  (Xji W kQ kP kA sh x (fun o => o = res [[.l kQ.xs, .l kP.xs, .i kA], [.l sh.xs], [.i x]])).mpr (hyp_ W kQ kP kA sh x hp _ rfl)
theorem Xhm : PureOk Try.prog 8 Xbr [(false, [.bool])] (WfD Xbr) fun _ => [[.b true]] :=
 Xke fun W qs ps all sh x hp Q h => by
  have hx := Xog (WfL.head (WfD.head (WfD.head (WfD.head hp).2).2).1).1;unfold Xcq;delta Zfc Zey
  by_cases e : Sp.askE qs.xs ps.xs all sh.xs = 0
  ·obtain ⟨hk, hs⟩ := Sp.askE_ok e;obtain ⟨f1, f2, f3, f4, f5, f6, f7, f8⟩ := Sp.rd_facts hk hs (Sp.rdgV_mem hx.1 sh.xs);have f9 : (Sp.scA qs.xs ps.xs all sh.xs).length <= 1000 := Sp.scA_len hk hs;have hf := hs.toShapeOk.few hk;have h7 := hs.seven;generalize Sp.ocA qs.xs ps.xs all sh.xs = O at *;simp only [Vif_iff, Pre_iff, e, f1, f2, f7, f8, f9, hf, h7, hx.1, hx.2, show Int.toNat 1 = 1 from rfl];have hO : O = 0 \/ O = 1 \/ O = 2 := by omega
   rcases hO with rfl | rfl | rfl
   ·simp [h, f4 rfl]
   ·simp [h, f3 rfl]
   ·simp [h]
  ·simp [Vif_iff, Pre_iff, e, h, Sp.ocA, Sp.scA]
end Go.Proofs.Ytifhdbgciehicaa
namespace Go.Proofs.Ytifhdbgciehicaa.answerEvery
open Go.ChangeShapes Go.WideShapes Go.ChangeAt Go.RowKit
set_option maxRecDepth 100000
theorem own : ownKnob Try.prog.godebug = none := by kernel_rfl
theorem laid : laidOutB Try.prog = true := by kernel_rfl
theorem lifted (os : Os) (started : os.Started) (H : Type) (enc : TypeId × Value -> H) :
  ReturnsInHanded {} Try.checked os 8 .any (Rows.answerEverySpec.pre6 enc Try.prog Try.f8 Rows.answerEveryRow.domain false) (Rows.answerEverySpec.post enc Try.prog Try.f8 false true false false) := by
 refine returnsInHanded_of_change (C := Try.checked) own started (by kernel_rfl) Try.func8
  (ChangeSpec.witness6 (enc := enc) (C := Try.checked) false ⟨#[], #[(.agg #[.slice none 0 0, .slice none 0 0, .int .i64 0]), (.slice none 0 0), (.int .u16 0)], []⟩ 8 (by kernel_rfl) (by kernel_rfl) (by kernel_rfl) (by kernel_rfl)) ?_
 intro W base args ds gs before hval hW _ _;exact law_end (f := Try.f8) (s := Rows.answerEverySpec) (by kernel_rfl) Try.underlying4 (by kernel_rfl) rfl laid (by kernel_rfl)
  (fun ds h => by match ds, (show ds.length = 3 from h) with | [_, _, _], _ => exact ⟨rfl, rfl, rfl⟩) Xhm hval hW
theorem over : Rows.answerEveryRow.holds Try.pinned (OpenSpec.ofChange Rows.answerEverySpec) :=
 OpenClaim.holds_of_wide 8 Try.f8 rfl rfl rfl rfl rfl rfl rfl ⟨rfl, rfl, rfl, rfl, rfl⟩ rfl rfl rfl rfl rfl (by kernel_rfl) Try.func8 (by kernel_rfl)
  (of_decide_eq_true (by kernel_rfl)) (by unfold Func.isWrapper; first | (rw [if_pos (by decide +kernel)]; kernel_rfl) | (rw [if_neg (by decide +kernel)]; exact ⟨rfl, rfl⟩))
  (fun os started H enc _ => lifted os started H enc)
theorem proved : Rows.AnswerEverySaid := over
end Go.Proofs.Ytifhdbgciehicaa.answerEvery
