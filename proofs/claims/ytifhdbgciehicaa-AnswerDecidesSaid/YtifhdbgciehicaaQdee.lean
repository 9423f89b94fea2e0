/-
  'AnswerDecides': for every input the law returns true, and what is handed in reads as before. No condition.
-/
import Derived.Test.YtifhdbgciehicaaQded
import Derived.Test.YtifhdbgciehicaaRows
import Derived.WalkKit
import Derived.ProofKit
set_option linter.unusedVariables false
set_option linter.unusedSectionVars false
set_option linter.unusedSimpArgs false
noncomputable section
namespace Go.Proofs.Ytifhdbgciehicaa
open Go.RowKit
set_option maxRecDepth 100000
theorem vif_t [InW] {b : Bool} {A B : Prop} (hb : b = true) (ha : A) : Vif b A B := Vif_iff.2 ⟨fun _ => ha, fun h => absurd (hb.symm.trans h) (by decide)⟩
theorem Xkz [W : InW] (Q : DS -> Prop) (h : Q [[.b true]]) : Xbd Q := by
 unfold Xbd;delta Zez Zev Zew Zex Zey Zfb Zfa Zeu Zb
 repeat first | refine vif_t (by kernel_rfl) ?_ | refine Pre_iff.2 ⟨trivial, ?_⟩ | refine Pre_iff.2 ⟨by kernel_rfl, ?_⟩ | refine Pre_iff.2 ⟨⟨by kernel_rfl, by kernel_rfl, by kernel_rfl⟩, ?_⟩
 exact (congrArg Q (by kernel_rfl)).mpr h
def Xj6 : PC Try.prog := ⟨22, [], [(false, [.bool])], fun _ => True, fun _ => [[.b true]], Xko fun W hp Q h => Xkz Q h⟩
set_option maxHeartbeats 1600000
namespace Sp
def bitN (x : Int) (i : Nat) : Int := x / 2 ^ i % 2
def rdgF (u : Dt) (x : Int) : Nat -> Nat -> Dt -> Dt
 | _, 0, sh => sh
 | i, n + 1, sh => rdgF u x (i + 1) n (withD sh (cA u i).toNat (cB u i).toNat (bitN x i))
def rdgV (x : Int) (sh : Dt) : Dt := rdgF (uns sh) x 0 (uns sh).length sh
theorem bitN_nat (x i : Nat) : bitN (x : Int) i = ((x / 2 ^ i % 2 : Nat) : Int) := by
 unfold bitN;rw [Int.natCast_emod, Int.natCast_ediv, Int.natCast_pow]; rfl
theorem rdgF_it (us : List (Nat × Nat)) (x : Nat) : ∀ n i s, i + n = us.length -> rdgF (us.map prC) x i n s = itW (us.drop i) (x / 2 ^ i) s
 | 0, i, s, h => by rw [List.drop_eq_nil_of_le (by omega)]; rfl
 | n + 1, i, s, h => by
  have hi : i < us.length := by omega
  rw [List.drop_eq_getElem_cons hi];unfold rdgF itW;rw [(prC_cel us i hi).1, (prC_cel us i hi).2, bitN_nat, Int.toNat_natCast, Int.toNat_natCast, rdgF_it us x n (i + 1) _ (by omega), Nat.pow_succ, Nat.div_div_eq_div_mul]
theorem rdgV_it {x : Int} (h : 0 <= x) (sh : Dt) : rdgV x sh = itW (pos sh) x.toNat sh := by
 obtain ⟨n, rfl⟩ := Int.eq_ofNat_of_zero_le h;unfold rdgV;rw [uns_pos, show (List.map prC (pos sh)).length = (pos sh).length by simp];have := rdgF_it (pos sh) n (pos sh).length 0 sh (by omega);simpa using this
theorem itW_mod : ∀ (ps : List (Nat × Nat)) (b : Nat) (s : Dt), itW ps b s = itW ps (b % 2 ^ ps.length) s
 | [], _, _ => rfl
 | p :: ps, b, s => by
  simp only [itW, List.length_cons];rw [itW_mod ps (b / 2), itW_mod ps (b % 2 ^ (ps.length + 1) / 2), Nat.pow_succ];have h1 : b % (2 ^ ps.length * 2) % 2 = b % 2 := Nat.mod_mul_left_mod b _ 2;have h2 : b % (2 ^ ps.length * 2) / 2 % 2 ^ ps.length = b / 2 % 2 ^ ps.length := by
   rw [Nat.mul_comm, Nat.mod_mul_right_div_self, Nat.mod_mod]
  rw [h1, h2]
theorem rdgV_mem {x : Int} (h : 0 <= x) (sh : Dt) : rdgV x sh ∈ rds sh := by
 rw [rdgV_it h, rds_it _ _ _ rfl, itW_mod];exact ⟨_, Nat.mod_lt _ (Nat.pow_pos (by decide)), rfl⟩
theorem rds_shok {qs sh : Dt} (h : ShOk qs sh) : ∀ r ∈ rds sh, ShOk qs r :=
 rds_ind (P := fun r => ShOk qs r) h fun s q j v hs _ hv => hs.withD hv
theorem ask_of {qs ps sh : Dt} {all : Int} (hk : KeyOk qs ps all) (hs : ShOk qs sh) : askE qs ps all sh = 0 := by
 unfold askE;rw [if_pos (chkE_iff.2 hk), shE_iff.2 hs]
theorem rds_mark {qs ps sh : Dt} {all : Int} (hk : KeyOk qs ps all) (hs : ShOk qs sh) {r : Dt} (hr : r ∈ rds sh) : markE qs ps all r = 0 /\ markR qs ps all r = mk qs ps r /\ markB qs ps all r = psS qs ps all r := by
 have e : markE qs ps all r = 0 := by
  unfold markE;rw [if_pos (ask_of hk (rds_shok hs r hr)), if_pos (by rw [uns_len, rds_sure r hr]; rfl)]
 exact ⟨e, by unfold markR; rw [if_pos e], by unfold markB; rw [if_pos e]⟩
theorem oc_any {qs ps s : Dt} {all : Int} : anyP qs ps all (rdD s) = true ↔ ∃ r ∈ rds s, psS qs ps all r = true := by
 unfold anyP;rw [anyF_0];constructor
 ·rintro ⟨k, hk, h⟩;exact ⟨_, rds_ix.2 ⟨k, hk, rfl⟩, h⟩
 ·rintro ⟨r, hr, h⟩;obtain ⟨k, hk, rfl⟩ := rds_ix.1 hr;exact ⟨k, hk, h⟩
theorem oc_all {qs ps s : Dt} {all : Int} : allP qs ps all (rdD s) = true ↔ ∀ r ∈ rds s, psS qs ps all r = true := by
 unfold allP;rw [allF_0];constructor
 ·intro h r hr;obtain ⟨k, hk, rfl⟩ := rds_ix.1 hr;exact h k hk
 ·intro h k hk;exact h _ (rds_ix.2 ⟨k, hk, rfl⟩)
theorem oc1 {qs ps s : Dt} {all : Int} : ocV qs ps all s = 1 ↔ ∀ r ∈ rds s, psS qs ps all r = true := by
 rw [<- oc_all];unfold ocV
 by_cases h : allP qs ps all (rdD s) = true
 ·rw [if_pos h]; exact ⟨fun _ => h, fun _ => rfl⟩
 ·rw [if_neg h];constructor
  ·intro e; split at e <;> simp at e
  ·intro e; exact absurd e h
theorem rds_ne (s : Dt) : ∃ r, r ∈ rds s := ⟨_, rdgV_mem (x := 0) (by decide) s⟩
theorem oc0 {qs ps s : Dt} {all : Int} : ocV qs ps all s = 0 ↔ ∀ r ∈ rds s, psS qs ps all r = false := by
 have ha : ocV qs ps all s = 0 ↔ ¬ (allP qs ps all (rdD s) = true) /\ ¬ (anyP qs ps all (rdD s) = true) := by
  unfold ocV
  by_cases h : allP qs ps all (rdD s) = true
  ·simp [h]
  ·by_cases h2 : anyP qs ps all (rdD s) = true <;> simp [h, h2]
 rw [ha, oc_any];constructor
 ·rintro ⟨_, h⟩ r hr;cases e : psS qs ps all r with
  | false => rfl
  | true => exact absurd ⟨r, hr, e⟩ h
 ·intro h;refine ⟨fun c => ?_, fun ⟨r, hr, e⟩ => by rw [h r hr] at e; cases e⟩;obtain ⟨r, hr⟩ := rds_ne s;have := oc_all.1 c r hr;rw [h r hr] at this; cases this
theorem oc_in (qs ps : Dt) (all : Int) (s : Dt) : 0 <= ocV qs ps all s /\ ocV qs ps all s <= 2 := by
 unfold ocV; repeat' split <;> omega
theorem sc_asc (qs ps sh : Dt) : Asc (scV qs ps sh) /\ ∀ y, memD (scV qs ps sh) y ↔ ∃ r ∈ rds sh, total (mk qs ps r) = y := by
 obtain ⟨h1, h2⟩ := insA_asc (f := ttl qs ps (rdD sh)) (rdD sh).length 0 [] asc_nil;refine ⟨h1, fun y => ?_⟩;unfold scV;rw [h2];constructor
 ·rintro (⟨p, hp, _⟩ | ⟨k, _, hk, e⟩)
  ·simp at hp
  ·exact ⟨_, rds_ix.2 ⟨k, by omega, rfl⟩, e⟩
 ·rintro ⟨r, hr, e⟩;obtain ⟨k, hk, rfl⟩ := rds_ix.1 hr;exact .inr ⟨k, Nat.zero_le _, by omega, e⟩
def hasV (xs : Dt) (x : Int) (i : Nat) : Bool := decide (num xs i = x)
def hasN (xs : Dt) (x : Int) : Bool := anyF (hasV xs x) 0 xs.length
def boxV (u : Dt) (a b : Int) (i : Nat) : Bool := decide (cA u i = a) && decide (cB u i = b)
def hasB (u : Dt) (a b : Int) : Bool := anyF (boxV u a b) 0 u.length
end Sp
def TN1 : Tab Try.prog := ⟨[Xic, Xj2], [], []⟩
def Xcj [W : InW] (kQ : Ro Iv5) (kP : Ro Jc) (kA : Int) (sh : Ro Jb) (Q : DS -> Prop) : Prop :=
 Pre True (Vif (decide (Sp.chkE kQ.xs kP.xs kA = 0)) (Pre (Sp.KeyOk kQ.xs kP.xs kA) (Q [[Cl.b (decide (Sp.shE kQ.xs sh.xs = 0))]])) (Q [[Cl.b false]]))
theorem Xjn (W : InW) (kQ kP kA sh Q) : Ywt (cxT Try.prog TT TN1 1000 50) 1000 40 [.agg [.rs _ kQ, .rs _ kP, .si .i64 kA], .rs _ sh] [] 0 (Y02 [(false, [.bool])] Q) (fun _ _ _ _ => Stuck 421) = Xcj kQ kP kA sh Q := by kernel_rfl
abbrev Xbn : List AT := [.agg [.sl Iv5, .sl Jc, .int .i64], .one (.sl Jb)]
theorem Xki {pre : DS -> Prop} {res : DS -> DS} (hyp_ : ∀ (W : InW) (kQ : Ro Iv5) (kP : Ro Jc) (kA : Int) (sh : Ro Jb), pre [[.l kQ.xs, .l kP.xs, .i kA], [.l sh.xs]] -> ∀ Q : DS -> Prop, Q (res [[.l kQ.xs, .l kP.xs, .i kA], [.l sh.xs]]) -> Xcj kQ kP kA sh Q) : PureOk Try.prog 40 Xbn [(false, [.bool])] pre res :=
 PureOk.of' (fun W => @TT W) (fun W => @Xc W) Xa TN1 1000 50 fun W kQ kP kA sh hp =>
  (Xjn W kQ kP kA sh (fun o => o = res [[.l kQ.xs, .l kP.xs, .i kA], [.l sh.xs]])).mpr (hyp_ W kQ kP kA sh hp _ rfl)
abbrev Xs (ds : DS) : DS := match ds with | [[.l qs, .l ps, .i all], [.l sh]] => [[.b (decide (Sp.askE qs ps all sh = 0))]] | _ => []
theorem Xmz : PureOk Try.prog 40 Xbn [(false, [.bool])] (fun _ => True) Xs :=
 Xki fun W qs ps all sh hp Q h => by
  unfold Xcj;refine ⟨trivial, vifd (fun e => ⟨Sp.chkE_iff.1 e, ?_⟩) fun e => ?_⟩
  ·have e2 : Sp.askE qs.xs ps.xs all sh.xs = Sp.shE qs.xs sh.xs := by unfold Sp.askE; rw [if_pos e]
   simpa [Xs, e2] using h
  ·have e2 : Sp.askE qs.xs ps.xs all sh.xs = Sp.chkE qs.xs ps.xs all := by unfold Sp.askE; rw [if_neg e]
   simpa [Xs, e2, e] using h
def Xj0 : PC Try.prog := ⟨40, Xbn, [(false, [.bool])], fun _ => True, Xs, Xmz⟩
def Xfu [InW] (e : List Ed) (K : Nat -> List Ed -> Prop) : Prop := match e with
 | [.ro _ u, .i i, .i a, .i b] => Pre (0 <= i /\ i <= u.xs.length) (Vif (Sp.anyF (Sp.boxV u.xs a b) i.toNat (u.xs.length - i.toNat)) (K 1 []) (K 0 []))
 | _ => False
def Xhq : LC where
 len := 18
 T := [(0, .rs Ja), (3, (.ptr 1 0)), (5, .int .i64)]
 H := [(1, .blk 44 [.int .i64, .int .i64])]
 W := ([4] ++ rg 6 12)
 outs := [⟨.exit 0, [], [], ([0] ++ rg 3 15)⟩, ⟨.ret, [(4, (.lit (.bool true)))], [], ([0, 3] ++ rg 5 13)⟩]
 spec := Xfu
def Xes [W : InW] (u : Ro Ja) (i a b : Int) (A : List Ed -> Prop) (K : Nat -> List Ed -> Prop) : Prop :=
 Vif (decide (i < (↑(u.xs.length) : Int))) (Need (decide (0 <= i) && decide (i < (↑(u.xs.length) : Int))) (Need (decide (i.toNat < u.xs.length)) (Vif (decide ((cel u.xs i.toNat (0 : Nat)).int = a) && (decide ((cel u.xs i.toNat (0+1)).int = b) && true)) (K (0+1) []) (Ar .i64 (i + 1) fun z => A [.ro _ u, .i z, .i a, .i b])))) (K 0 [])
theorem Xmb (W : InW) (u i a b A K) : Yfc { cxT Try.prog TT T0 1000 50 with fn := 46 } 1000 (Yn7 Try.prog 46 3) (Yd6 18 [(0, .rs _ u), (3, .ptr 1 0), (5, .si .i64 i)] ([4] ++ rg 6 12)) [(1, .blk 44 [.si .i64 a, .si .i64 b])] (Yuf Xhq A K) = Xes u i a b A K := by kernel_rfl
def Xgw : Prop := ∀ (W : InW) (body a : Code), (Try.prog.funcs[46]?).bind (·.body) = some body -> a ∈ Yy body -> Yfw a = 3 -> @Ymq W Try.prog a (@Ytn W Xhq)
theorem Xnw (meas : [InW] -> List Ed -> Nat) (hyp_ : ∀ (W : InW) u i a b K, Xfu [.ro _ u, .i i, .i a, .i b] K -> ∀ A : List Ed -> Prop, (∀ e, meas e < meas [.ro _ u, .i i, .i a, .i b] -> Xfu e K -> A e) -> Xes u i a b A K) : Xgw :=
 LE.okOf' (fun W => @TT W) (fun W => @Xc W) Xa T0 1000 50 (by kernel_rfl) Xhq (fun W => @meas W) fun W u i a b K hs =>
  (Xmb W u i a b (fun e => meas e < meas [.ro _ u, .i i, .i a, .i b] /\ Xfu e K) K).mpr (hyp_ W u i a b K hs _ fun e h1 h2 => ⟨h1, h2⟩)
theorem Xqh : Xgw := Xnw (fun e => match e with | .ro _ u :: .i i :: _ => ((u.xs.length : Int) - i).toNat | _ => 0) fun W u i a b K hs A hA => by
 obtain ⟨⟨h0, h1⟩, hk⟩ := hs;unfold Xes;have hm := u.len;simp only [maxLen] at hm;have ez : (i + 1).toNat = i.toNat + 1 := by omega
 by_cases hi : i < u.xs.length
 ·rw [show u.xs.length - i.toNat = (u.xs.length - (i.toNat + 1)) + 1 by omega] at hk;simp only [Sp.anyF] at hk;simp only [show ∀ k, (cel u.xs k 0).int = Sp.cA u.xs k from fun _ => rfl, show ∀ k, (cel u.xs k 1).int = Sp.cB u.xs k from fun _ => rfl, Bool.and_true];have go : Sp.boxV u.xs a b i.toNat = false -> A [.ro _ u, .i (i + 1), .i a, .i b] := fun c2 => by
   rw [c2, Bool.false_or] at hk;exact hA _ (show ((u.xs.length : Int) - (i + 1)).toNat < ((u.xs.length : Int) - i).toNat by omega) ⟨⟨by omega, by omega⟩, by rw [ez]; exact hk⟩
  have yes : Sp.boxV u.xs a b i.toNat = true -> K 1 [] := fun c2 => by
   rw [c2, Bool.true_or] at hk;exact hk.1 rfl
  clear hA hk;unfold Sp.boxV at go yes;refine vifd (fun _ => ?_) fun e => by omega
  repeat (first | refine nedd (by omega) ?_ | refine ned (by simp only [Bool.and_eq_true, decide_eq_true_eq]; omega) ?_)
  refine vif (fun e => yes e) fun e => ?_;exact ar64 (by omega) (go e)
 ·rw [show u.xs.length - i.toNat = 0 by omega] at hk;clear hA
  repeat' (first | omega|intro _|with_reducible first|apply vifd|apply vifn|apply vifq|apply Xe|apply Xd|apply vifb|apply vif|apply nedd|apply ned2|apply ned|apply ar64|apply Xb|exact True.intro|assumption|rfl|apply And.intro)
  all_goals exact hk.2 rfl
def Xre : LE Try.prog := ⟨46, 3, fun W => @Ytn W Xhq, Xqh⟩
def TN3 : Tab Try.prog := ⟨[], [Xre], []⟩
def Xja [W : InW] (u : Ro Ja) (b_A b_B : Int) (Q : DS -> Prop) : Prop :=
 Pre ((0 : Int) <= 0 /\ (0 : Int) <= (↑(u.xs.length) : Int)) (Vif (Sp.anyF (Sp.boxV u.xs b_A b_B) (Int.toNat (0 : Int)) (u.xs.length - Int.toNat (0 : Int))) (Q [[Cl.b true]]) (Q [[Cl.b false]]))
theorem Xo1 (W : InW) (u b_A b_B Q) : Ywt (cxT Try.prog TT TN3 1000 50) 1000 46 [.rs _ u, .agg [.si .i64 b_A, .si .i64 b_B]] [] 0 (Y02 [(false, [.bool])] Q) (fun _ _ _ _ => Stuck 421) = Xja u b_A b_B Q := by kernel_rfl
abbrev Xdo : List AT := [.one (.sl Ja), .agg [.int .i64, .int .i64]]
theorem Xpn {pre : DS -> Prop} {res : DS -> DS} (hyp_ : ∀ (W : InW) (u : Ro Ja) (b_A b_B : Int), pre [[.l u.xs], [.i b_A, .i b_B]] -> ∀ Q : DS -> Prop, Q (res [[.l u.xs], [.i b_A, .i b_B]]) -> Xja u b_A b_B Q) : PureOk Try.prog 46 Xdo [(false, [.bool])] pre res :=
 PureOk.of' (fun W => @TT W) (fun W => @Xc W) Xa TN3 1000 50 fun W u b_A b_B hp =>
  (Xo1 W u b_A b_B (fun o => o = res [[.l u.xs], [.i b_A, .i b_B]])).mpr (hyp_ W u b_A b_B hp _ rfl)
abbrev Xdi (ds : DS) : DS := match ds with | [[.l u], [.i a, .i b]] => [[.b (Sp.hasB u a b)]] | _ => []
theorem okamg : PureOk Try.prog 46 Xdo [(false, [.bool])] (fun _ => True) Xdi :=
 Xpn fun W u a b hp Q h => by
  unfold Xja;simp only [Xdi, Sp.hasB] at h;simp only [show Int.toNat 0 = 0 from rfl, Nat.sub_zero];refine ⟨⟨by omega, by omega⟩, vif (fun e => ?_) fun e => ?_⟩
  ·rw [e] at h; exact h
  ·rw [e] at h; exact h
def Xla : PC Try.prog := ⟨46, Xdo, [(false, [.bool])], fun _ => True, Xdi, okamg⟩
def Xfb [InW] (e : List Ed) (K : Nat -> List Ed -> Prop) : Prop := match e with
 | [.i x, .i i, .l sh, .l u] => Pre (0 <= i /\ i <= u.length /\ Sp.Few sh /\ Sp.BxOk sh u /\ 0 <= x /\ x <= 65535) (K 0 [.l (Sp.rdgF u x i.toNat (u.length - i.toNat) sh)])
 | _ => False
def TN5 : Tab Try.prog := ⟨[Xf2, Xib], [], []⟩
def Xha : LC where
 len := 27
 T := [(0, (.opq 6)), (1, .int .u16), (5, (.row 1)), (6, .int .i64)]
 H := [(6, .fro [.sl Jc]), (1, .arr 44 Ja)]
 W := (rg 9 17)
 outs := [⟨.exit 0, [(0, (.opq 12))], [(12, .fro [.sl Jc])], ([1, 5, 6] ++ rg 9 17)⟩]
 spec := Xfb
def Xea [W : InW] (x i : Int) (sh u : Dt) (A : List Ed -> Prop) (K : Nat -> List Ed -> Prop) : Prop :=
 Vif (decide (i < (↑(u.length) : Int))) (Need (decide (0 <= i) && decide (i < (↑(u.length) : Int))) (Need (decide (i.toNat < u.length)) (Need (decide (0 <= i)) (Ar .i64 ((x.fdiv ((2 : Int) ^ min i.toNat (16 : Nat))).tmod (2 : Int)) fun z => Pre (Sp.Few sh /\ ((0 : Int) <= (cel u i.toNat Zc).int /\ (cel u i.toNat Zc).int < (↑(sh.length) : Int)) /\ (0 : Int) <= (cel u i.toNat (0+1)).int /\ (cel u i.toNat (0+1)).int < (↑(List.length (Sp.row sh (cel u i.toNat Zc).int.toNat)) : Int)) (Ar .i64 (i + 1) fun z_1 => A [.i x, .i z_1, .l (Sp.withD sh (cel u i.toNat Zc).int.toNat (cel u i.toNat (0+1)).int.toNat z), .l u]))))) (K 0 [.l sh])
theorem Xlt (W : InW) (x i sh u A K) : Yfc { cxT Try.prog TT TN5 1000 50 with fn := 41 } 1000 (Yn7 Try.prog 41 4) (Yd6 27 [(0, .opq 6), (1, .si .u16 x), (5, .rw 1), (6, .si .i64 i)] (rg 9 17)) [(6, .fro [.sl Jc] sh), (1, .arr 44 Ja u)] (Yuf Xha A K) = Xea x i sh u A K := by kernel_rfl
def Xgf : Prop := ∀ (W : InW) (body a : Code), (Try.prog.funcs[41]?).bind (·.body) = some body -> a ∈ Yy body -> Yfw a = 4 -> @Ymq W Try.prog a (@Ytn W Xha)
theorem Xne (meas : [InW] -> List Ed -> Nat) (hyp_ : ∀ (W : InW) x i sh u K, Xfb [.i x, .i i, .l sh, .l u] K -> ∀ A : List Ed -> Prop, (∀ e, meas e < meas [.i x, .i i, .l sh, .l u] -> Xfb e K -> A e) -> Xea x i sh u A K) : Xgf :=
 LE.okOf' (fun W => @TT W) (fun W => @Xc W) Xa TN5 1000 50 (by kernel_rfl) Xha (fun W => @meas W) fun W x i sh u K hs =>
  (Xlt W x i sh u (fun e => meas e < meas [.i x, .i i, .l sh, .l u] /\ Xfb e K) K).mpr (hyp_ W x i sh u K hs _ fun e h1 h2 => ⟨h1, h2⟩)
theorem Xlh {x i : Int} (hx : 0 <= x) (h0 : 0 <= i) (h1 : i < 7) : (x.fdiv (2 ^ min i.toNat 16)).tmod 2 = Sp.bitN x i.toNat := by
 rw [show min i.toNat 16 = i.toNat by omega];have hp : (0 : Int) <= 2 ^ i.toNat := Int.le_of_lt (Int.pow_pos (by decide));rw [Int.fdiv_eq_ediv_of_nonneg _ hp, Int.tmod_eq_emod_of_nonneg (Int.ediv_nonneg hx hp)];rfl
theorem Xi1 (x : Int) (i : Nat) : Sp.bitN x i = 0 \/ Sp.bitN x i = 1 := by unfold Sp.bitN; omega
theorem Xb8 {sh u : Dt} (h : Sp.BxOk sh u) (q j : Nat) (v : Int) : Sp.BxOk (Sp.withD sh q j v) u :=
 ⟨h.few, fun i hi => by have := h.in_ i hi; rw [Sp.withD_len, Sp.withD_rlen]; exact this⟩
theorem Xlg {sh : Dt} (h : (Sp.uns sh).length <= 7) : Sp.BxOk sh (Sp.uns sh) := by
 refine ⟨h, fun i hi => ?_⟩;obtain ⟨p, hp, e1, e2⟩ := Sp.uns_cel hi;have := Sp.mem_pos.1 hp;rw [e1, e2, Int.toNat_natCast];omega
theorem Xpz : Xgf := Xne (fun e => match e with | [_, .i i, _, .l u] => ((u.length : Int) - i).toNat | _ => 0) fun W x i sh u K hs A hA => by
 obtain ⟨⟨h0, h1, hf, hb, x0, x1⟩, hk⟩ := hs;have hu := hb.few;unfold Xea;delta Zc;simp only [Nat.zero_add]
 by_cases hi : i < u.length
 ·rw [show u.length - i.toNat = (u.length - (i.toNat + 1)) + 1 by omega] at hk;simp only [Sp.rdgF] at hk;have hin := hb.in_ i.toNat (by omega);have ez : (i + 1).toNat = i.toNat + 1 := by omega
  have hv := Xi1 x i.toNat;have go := hA [.i x, .i (i + 1), .l (Sp.withD sh (Sp.cA u i.toNat).toNat (Sp.cB u i.toNat).toNat (Sp.bitN x i.toNat)), .l u] (show ((u.length : Int) - (i + 1)).toNat < ((u.length : Int) - i).toNat by omega) ⟨⟨by omega, by omega, hf.withD _ _ _, Xb8 hb _ _ _, x0, x1⟩, by rw [ez]; exact hk⟩;rw [Xlh x0 h0 (by omega)];clear hA hk;refine vifd (fun _ => ?_) fun e => by omega
  refine ned (by simp only [Bool.and_eq_true, decide_eq_true_eq]; omega) (nedd (by omega) (nedd (by omega) (ar64 (by omega) ⟨⟨hf, ⟨hin.1, hin.2.1⟩, hin.2.2⟩, ar64 (by omega) go⟩)))
 ·rw [show u.length - i.toNat = 0 by omega] at hk;refine vifd (fun e => by omega) fun _ => hk
def Xiu : LE Try.prog := ⟨41, 4, fun W => @Ytn W Xha, Xpz⟩
def Xfc [InW] (e : List Ed) (K : Nat -> List Ed -> Prop) : Prop := match e with
 | [.ro _ sh, .i x, .i i, .l u] => Pre (i = 0 /\ Sp.Few sh.xs /\ Sp.BxOk sh.xs u /\ 0 <= x /\ x <= 65535) (Vif (decide (u.length = 0)) (K 0 [.ro _ sh]) (K 1 [.l (Sp.rdgF u x 0 u.length sh.xs)]))
 | _ => False
def Xhb : LC where
 len := 27
 T := [(0, .rs Jb), (1, .int .u16), (5, (.row 1)), (6, .int .i64)]
 H := [(1, .arr 44 Ja)]
 W := (rg 9 17)
 outs := [⟨.exit 0, [(0, .rs Jb)], [], ([1, 5, 6] ++ rg 9 17)⟩, ⟨.exit 0, [(0, (.opq 12))], [(12, .fro [.sl Jc])], ([1, 5, 6] ++ rg 9 17)⟩]
 spec := Xfc
def Xeb [W : InW] (sh : Ro Jb) (x i : Int) (u : Dt) (A : List Ed -> Prop) (K : Nat -> List Ed -> Prop) : Prop :=
 Vif (decide (i < (↑(u.length) : Int))) (Need (decide (0 <= i) && decide (i < (↑(u.length) : Int))) (Need (decide (i.toNat < u.length)) (Need (decide (0 <= i)) (Ar .i64 ((x.fdiv ((2 : Int) ^ min i.toNat (16 : Nat))).tmod (2 : Int)) fun z => Pre (Sp.Few sh.xs /\ ((0 : Int) <= (cel u i.toNat Zc).int /\ (cel u i.toNat Zc).int < (↑(sh.xs.length) : Int)) /\ (0 : Int) <= (cel u i.toNat (0+1)).int /\ (cel u i.toNat (0+1)).int < (↑(List.length (Sp.row sh.xs (cel u i.toNat Zc).int.toNat)) : Int)) (Ar .i64 (i + 1) fun z_1 => Pre (0 <= z_1 /\ z_1 <= (↑(u.length) : Int) /\ Sp.Few (Sp.withD sh.xs (cel u i.toNat Zc).int.toNat (cel u i.toNat (0+1)).int.toNat z) /\ Sp.BxOk (Sp.withD sh.xs (cel u i.toNat Zc).int.toNat (cel u i.toNat (0+1)).int.toNat z) u /\ 0 <= x /\ x <= 65535) (K (0+1) [.l (Sp.rdgF u x z_1.toNat (u.length - z_1.toNat) (Sp.withD sh.xs (cel u i.toNat Zc).int.toNat (cel u i.toNat (0+1)).int.toNat z))])))))) (K 0 [.ro Zdv sh])
theorem Xlu (W : InW) (sh x i u A K) : Yfc { cxT Try.prog TT TN5 1000 50 with fn := 41 } 1000 (Yn7 Try.prog 41 4) (Yd6 27 [(0, .rs _ sh), (1, .si .u16 x), (5, .rw 1), (6, .si .i64 i)] (rg 9 17)) [(1, .arr 44 Ja u)] (Xcw Xhb ((Xiu).f W) A K) = Xeb sh x i u A K := by kernel_rfl
def Xgg : Prop := ∀ (W : InW) (body a : Code), (Try.prog.funcs[41]?).bind (·.body) = some body -> a ∈ Yy body -> Yfw a = 4 -> @Ymq W Try.prog a (@Ytn W Xhb)
theorem Xnf (meas : [InW] -> List Ed -> Nat) (hyp_ : ∀ (W : InW) sh x i u K, Xfc [.ro _ sh, .i x, .i i, .l u] K -> ∀ A : List Ed -> Prop, (∀ e, meas e < meas [.ro _ sh, .i x, .i i, .l u] -> Xfc e K -> A e) -> Xeb sh x i u A K) : Xgg :=
 LE.okOfY (fun W => @TT W) (fun W => @Xc W) Xa TN5 1000 50 (by kernel_rfl) Xhb (Xiu).f (Xiu).ok (fun W => @meas W) fun W sh x i u K hs =>
  (Xlu W sh x i u (fun e => meas e < meas [.ro _ sh, .i x, .i i, .l u] /\ Xfc e K) K).mpr (hyp_ W sh x i u K hs _ fun e h1 h2 => ⟨h1, h2⟩)
theorem Xp0 : Xgg := Xnf (fun _ => 0) fun W sh x i u K hs A hA => by
 obtain ⟨⟨rfl, hf, hb, x0, x1⟩, hk⟩ := hs;have hu := hb.few;unfold Xeb;delta Zdv Zc;simp only [Nat.zero_add]
 by_cases hi : 0 < u.length
 ·have hin := hb.in_ 0 hi;have hk := hk.2 (decide_eq_false (by omega));rw [show u.length = (u.length - 1) + 1 by omega] at hk;simp only [Sp.rdgF] at hk;rw [Xlh x0 (by omega) (by omega)];have hv := Xi1 x 0;rw [show Int.toNat 0 = 0 from rfl];refine vifd (fun _ => ?_) fun e => by omega
  refine ned (by simp only [Bool.and_eq_true, decide_eq_true_eq]; omega) (nedd (by omega) (nedd (by omega) (ar64 (by omega) ⟨⟨hf, ⟨hin.1, hin.2.1⟩, hin.2.2⟩, ar64 (by omega) ⟨⟨by omega, by omega, hf.withD _ _ _, Xb8 hb _ _ _, x0, x1⟩, ?_⟩⟩)));exact hk
 ·have hk := hk.1 (decide_eq_true (by omega));refine vifd (fun e => by omega) fun _ => hk
def Xqz : LE Try.prog := ⟨41, 4, fun W => @Ytn W Xhb, Xp0⟩
def TN6 : Tab Try.prog := ⟨[Xf2], [Xqz], []⟩
def Xi8 [W : InW] (sh : Ro Jb) (x : Int) (Q : DS -> Prop) : Prop :=
 Pre (Sp.Few sh.xs) (Pre ((0 : Int) = 0 /\ Sp.Few sh.xs /\ Sp.BxOk sh.xs (Sp.uns sh.xs) /\ 0 <= x /\ x <= 65535) (Vif (decide (List.length (Sp.uns sh.xs) = 0)) (Q [[Cl.l sh.xs]]) (Q [[Cl.l (Sp.rdgF (Sp.uns sh.xs) x (0 : Nat) (List.length (Sp.uns sh.xs)) sh.xs)]])))
theorem Xoz (W : InW) (sh x Q) : Ywt (cxT Try.prog TT TN6 1000 50) 1000 41 [.rs _ sh, .si .u16 x] [] 0 (Y02 [(false, [.fro [.sl Jc]])] Q) (fun _ _ _ _ => Stuck 421) = Xi8 sh x Q := by kernel_rfl
abbrev Xdm : List AT := [.one (.sl Jb), .one (.int .u16)]
theorem Xpl {pre : DS -> Prop} {res : DS -> DS} (hyp_ : ∀ (W : InW) (sh : Ro Jb) (x : Int), pre [[.l sh.xs], [.i x]] -> ∀ Q : DS -> Prop, Q (res [[.l sh.xs], [.i x]]) -> Xi8 sh x Q) : PureOk Try.prog 41 Xdm [(false, [.fro [.sl Jc]])] pre res :=
 PureOk.of' (fun W => @TT W) (fun W => @Xc W) Xa TN6 1000 50 fun W sh x hp =>
  (Xoz W sh x (fun o => o = res [[.l sh.xs], [.i x]])).mpr (hyp_ W sh x hp _ rfl)
abbrev Xdc (ds : DS) : DS := match ds with | [[.l sh], [.i x]] => [[.l (Sp.rdgV x sh)]] | _ => []
abbrev Xh9 (ds : DS) : Prop := match ds with | [[.l sh], [.i x]] => Sp.Few sh /\ (Sp.uns sh).length <= 7 /\ 0 <= x /\ x <= 65535 | _ => False
theorem okrdV : PureOk Try.prog 41 Xdm [(false, [.fro [.sl Jc]])] Xh9 Xdc :=
 Xpl fun W sh x hp Q h => by
  obtain ⟨hf, h7, x0, x1⟩ : Sp.Few sh.xs /\ (Sp.uns sh.xs).length <= 7 /\ 0 <= x /\ x <= 65535 := hp;unfold Xi8;simp only [Xdc, Sp.rdgV] at h;refine ⟨hf, ⟨rfl, hf, Xlg h7, x0, x1⟩, vifd (fun e => ?_) fun e => h⟩;rw [e] at h; exact h
def Xo3 : PC Try.prog := ⟨41, Xdm, [(false, [.fro [.sl Jc]])], Xh9, Xdc, okrdV⟩
theorem Xos {n : Int} (h : WfC (.int .u16) (.i n)) : 0 <= n /\ n <= 65535 := by
 cases h with
 | int _ _ h => simp [Lit.wf, IntKind.min, IntKind.max, IntKind.signed, IntKind.bits] at h; omega
theorem WfL.head {t : Ty} {ts : List Ty} {c : Cl} {cs : List Cl} (h : WfL (t :: ts) (c :: cs)) : WfC t c /\ WfL ts cs := by
 cases h with
 | cons h hs => exact ⟨h, hs⟩
theorem WfD.head {a : AT} {ats : List AT} {d : List Cl} {ds : DS} (h : WfD (a :: ats) (d :: ds)) : WfA a d /\ WfD ats ds := by
 obtain ⟨d', ds', e, h1, h2⟩ := h;cases e;exact ⟨h1, h2⟩
namespace Sp
def dnI (l : Dt) (i : Nat) : Bool := decide (num l i <= num l (i - 1))
theorem ocA_ok {qs ps sh : Dt} {all : Int} (e : askE qs ps all sh = 0) : ocA qs ps all sh = ocV qs ps all sh := by unfold ocA; rw [if_pos e]
theorem scA_ok {qs ps sh : Dt} {all : Int} (e : askE qs ps all sh = 0) : scA qs ps all sh = scV qs ps sh := by unfold scA; rw [if_pos e]
theorem asc_dn {l : Dt} (h : Asc l) (i n : Nat) (h1 : 1 <= i) (h2 : i + n <= l.length) : anyF (dnI l) i n = false := by
 cases e : anyF (dnI l) i n with
 | false => rfl
 | true =>
  obtain ⟨k, a, b, c⟩ := anyF_iff.1 e;have := h.up (k - 1) k (by omega) (by omega);have c := of_decide_eq_true c;omega
theorem hasN_iff {l : Dt} {x : Int} : hasN l x = true ↔ memD l x := by
 unfold hasN memD hasV;rw [anyF_0];simp only [decide_eq_true_eq]
structure RdFacts (qs ps : Dt) (all : Int) (sh r : Dt) : Prop where
 e : markE qs ps all r = 0
 low : Low (markR qs ps all r)
 b1 : ocA qs ps all sh = 1 -> markB qs ps all r = true
 b0 : ocA qs ps all sh = 0 -> markB qs ps all r = false
 in0 : 0 <= ocA qs ps all sh
 in2 : ocA qs ps all sh <= 2
 asc : anyF (dnI (scA qs ps all sh)) 1 ((scA qs ps all sh).length - 1) = false
 has_ : hasN (scA qs ps all sh) (total (markR qs ps all r)) = true
theorem rd_facts {qs ps sh r : Dt} {all : Int} (hk : KeyOk qs ps all) (hs : ShOk qs sh) (hr : r ∈ rds sh) : RdFacts qs ps all sh r := by
 obtain ⟨m1, m2, m3⟩ := rds_mark hk hs hr;have e := ask_of hk hs;have ho := ocA_ok (qs := qs) (ps := ps) (all := all) e;have hc := scA_ok (qs := qs) (ps := ps) (all := all) e;obtain ⟨a1, a2⟩ := sc_asc qs ps sh;refine ⟨m1, ?_, fun h => ?_, fun h => ?_, ?_, ?_, ?_, ?_⟩
 ·rw [m2]; exact Xql hk (by rw [(rds_shape r hr).1]; exact hs.n)
 ·rw [m3]; rw [ho] at h; exact oc1.1 h r hr
 ·rw [m3]; rw [ho] at h; exact oc0.1 h r hr
 ·rw [ho]; exact (oc_in qs ps all sh).1
 ·rw [ho]; exact (oc_in qs ps all sh).2
 ·rw [hc];rcases Nat.eq_zero_or_pos (scV qs ps sh).length with h0 | h0
  ·rw [h0]; rfl
  ·exact asc_dn a1 _ _ (Nat.le_refl _) (by omega)
 ·rw [hc, m2, hasN_iff, a2];exact ⟨r, hr, rfl⟩
end Sp
namespace Sp
theorem rds_with {v : Int} (hv : v = 0 \/ v = 1) (p : Nat × Nat) : ∀ n s, (pos s).length = n -> ∀ r ∈ rds s, withD r p.1 p.2 v ∈ rds (withD s p.1 p.2 v)
 | 0, s, hl, r, hr => by
  have e := List.length_eq_zero_iff.1 hl;rw [rds_nil e, List.mem_singleton] at hr;subst hr;rw [rds_nil (by rw [pos_with (by omega), e]; rfl)];exact List.mem_singleton.2 rfl
 | n + 1, s, hl, r, hr => by
  cases e : pos s with
  | nil => rw [e] at hl; simp at hl
  | cons q qs =>
   have step : ∀ w : Int, w = 0 \/ w = 1 -> r ∈ rds (withD s q.1 q.2 w) -> withD r p.1 p.2 v ∈ rds (withD s p.1 p.2 v) := by
    intro w hw hr;have ih := rds_with hv p n _ (by rw [pos_with_tl (by omega) e]; rw [e] at hl; simpa using hl) r hr
    by_cases c : q = p
    ·subst c; rw [withD_same] at ih; exact ih
    ·rw [withD_comm _ _ _ _ _ c] at ih;have hp : pos (withD s p.1 p.2 v) = q :: qs.filter (fun x => decide (x ≠ (p.1, p.2))) := by
      rw [pos_with (by omega), e, List.filter_cons_of_pos (by simpa using c)]
     rw [rds_cons hp, List.mem_append];rcases hw with rfl | rfl
     ·exact .inl ih
     ·exact .inr ih
   rw [rds_cons e, List.mem_append] at hr;exact hr.elim (step 0 (.inl rfl)) (step 1 (.inr rfl))
theorem rds_of_with {v : Int} (hv : v = 0 \/ v = 1) (p : Nat × Nat) : ∀ n s, (pos s).length = n -> p ∈ pos s -> ∀ r ∈ rds (withD s p.1 p.2 v), r ∈ rds s
 | 0, s, hl, hp, r, hr => by rw [List.length_eq_zero_iff.1 hl] at hp; cases hp
 | n + 1, s, hl, hp, r, hr => by
  cases e : pos s with
  | nil => rw [e] at hl; simp at hl
  | cons q qs =>
   rw [rds_cons e, List.mem_append]
   by_cases c : q = p
   ·subst c;rcases hv with rfl | rfl
    ·exact .inl hr
    ·exact .inr hr
   ·have hp' : pos (withD s p.1 p.2 v) = q :: qs.filter (fun x => decide (x ≠ (p.1, p.2))) := by
     rw [pos_with (by omega), e, List.filter_cons_of_pos (by simpa using c)]
    have hq : p ∈ qs := by rw [e] at hp; exact (List.mem_cons.1 hp).resolve_left fun h => c h.symm
    have step : ∀ w : Int, w = 0 \/ w = 1 -> r ∈ rds (withD (withD s p.1 p.2 v) q.1 q.2 w) -> r ∈ rds (withD s q.1 q.2 w) := by
     intro w hw hr;rw [withD_comm _ _ _ _ _ (fun h => c h.symm)] at hr;exact rds_of_with hv p n _ (by rw [pos_with_tl (by omega) e]; rw [e] at hl; simpa using hl) (by rw [pos_with_tl (by omega) e]; exact hq) r hr
    rw [rds_cons hp', List.mem_append] at hr;exact hr.elim (fun h => .inl (step 0 (.inl rfl) h)) fun h => .inr (step 1 (.inr rfl) h)
structure Same (a b : Dt) : Prop where
 len : a.length = b.length
 rlen : ∀ i, (row a i).length = (row b i).length
 val : ∀ i j, i < a.length -> j < (row a i).length -> bx (row a i) j = bx (row b i) j
theorem Same.rfl' (a : Dt) : Same a a := ⟨rfl, fun _ => rfl, fun _ _ _ _ => rfl⟩
theorem Same.symm {a b : Dt} (h : Same a b) : Same b a := ⟨h.len.symm, fun i => (h.rlen i).symm, fun i j h1 h2 => (h.val i j (by rw [h.len]; exact h1) (by rw [h.rlen]; exact h2)).symm⟩
theorem Same.trans {a b c : Dt} (h : Same a b) (h' : Same b c) : Same a c := ⟨h.len.trans h'.len, fun i => (h.rlen i).trans (h'.rlen i), fun i j h1 h2 => (h.val i j h1 h2).trans (h'.val i j (by rw [<- h.len]; exact h1) (by rw [<- h.rlen]; exact h2))⟩
theorem ansD_same {d d' : Dt} : ∀ n i a, (∀ j, i <= j -> j < i + n -> bx d j = bx d' j) -> ansD d i n a = ansD d' i n a
 | 0, _, _, _ => rfl
 | n + 1, i, a, h => by
  unfold ansD;rw [h i (by omega) (by omega), ansD_same n (i + 1) i fun j a b => h j (by omega) (by omega), ansD_same n (i + 1) a fun j a b => h j (by omega) (by omega)]
theorem ansL_same {d d' : Dt} : ∀ n i a, (∀ j, i <= j -> j < i + n -> bx d j = bx d' j) -> ansL d i n a = ansL d' i n a
 | 0, _, _, _ => rfl
 | n + 1, i, a, h => by
  unfold ansL;rw [h i (by omega) (by omega), ansL_same n (i + 1) i fun j a b => h j (by omega) (by omega), ansL_same n (i + 1) a fun j a b => h j (by omega) (by omega)]
theorem ansOf_same {d d' : Dt} (hl : d.length = d'.length) (h : ∀ j, j < d.length -> bx d j = bx d' j) : ansOf d = ansOf d' := by
 unfold ansOf;rw [<- hl, ansD_same _ _ _ fun j _ b => h j (by omega), ansL_same _ _ _ fun j _ b => h j (by omega)]
theorem Same.ans {a b : Dt} (h : Same a b) {i : Nat} (hi : i < a.length) : ansOf (row a i) = ansOf (row b i) := ansOf_same (h.rlen i) fun j hj => h.val i j hi hj
theorem addG_same {qs a b : Dt} : ∀ n i l, (∀ k, i <= k -> k < i + n -> ansOf (row a k) = ansOf (row b k)) -> addG qs a i n l = addG qs b i n l
 | 0, _, _, _ => rfl
 | n + 1, i, l, h => by
  unfold addG;rw [show ptsQ qs a i = ptsQ qs b i by unfold ptsQ ptsV; rw [h i (by omega) (by omega)], addG_same n (i + 1) _ fun k x y => h k (by omega) (by omega)]
theorem Same.mk_eq {a b : Dt} (h : Same a b) (qs ps : Dt) : Sp.mk qs ps a = Sp.mk qs ps b := by
 unfold Sp.mk;rw [<- h.len, addG_same _ _ _ fun k _ y => h.ans (by omega)]
theorem Same.ps {a b : Dt} (h : Same a b) (qs ps : Dt) (all : Int) : psS qs ps all a = psS qs ps all b := by unfold psS; rw [h.mk_eq]
theorem with_same {r : Dt} {p : Nat × Nat} {v : Int} (h1 : p.1 < r.length) (h2 : p.2 < (row r p.1).length) (h3 : bx (row r p.1) p.2 = v) : Same (withD r p.1 p.2 v) r := by
 refine ⟨withD_len _ _ _ _, fun i => withD_rlen _ _ _ _ _, fun i j hi hj => ?_⟩;rw [withD_len] at hi;rw [withD_rlen] at hj;rw [withD_bx _ _ _ _ _ _ hi hj]
 split
 ·rename_i e;cases e;exact h3.symm
 ·rfl
theorem rds_bx {s : Dt} {p : Nat × Nat} (h1 : p.1 < s.length) (h2 : p.2 < (row s p.1).length) (hp : p ∉ pos s) : ∀ r ∈ rds s, bx (row r p.1) p.2 = bx (row s p.1) p.2 := by
 have key := rds_ind (sh := s) (P := fun t => t.length = s.length /\ (∀ i, (row t i).length = (row s i).length) /\ bx (row t p.1) p.2 = bx (row s p.1) p.2 /\ p ∉ pos t) ⟨rfl, fun _ => rfl, rfl, hp⟩ fun t q j v ⟨a, b, c, d⟩ hm hv => by
  refine ⟨by rw [withD_len]; exact a, fun i => by rw [withD_rlen]; exact b i, ?_, ?_⟩
  ·rw [withD_bx _ _ _ _ _ _ (by omega) (by rw [b]; exact h2), if_neg, c];intro e;exact d (by rw [show p = (q, j) from e]; exact hm)
  ·rw [pos_with (by omega)];exact fun h => d (List.mem_filter.1 h).1
 exact fun r hr => (key r hr).2.2.1
theorem in_pos {s r : Dt} (hr : r ∈ rds s) {p : Nat × Nat} (hp : p ∈ pos s) : p.1 < r.length /\ p.2 < (row r p.1).length := by
 have h1 := mem_pos.1 hp;have h2 := rds_shape r hr;rw [h2.1, h2.2];exact ⟨h1.1, h1.2.1⟩
theorem rds_01 {qs s : Dt} (hs : ShOk qs s) {r : Dt} (hr : r ∈ rds s) {i j : Nat} (hi : i < r.length) (hj : j < (row r i).length) : bx (row r i) j = 0 \/ bx (row r i) j = 1 := by
 have h1 := rds_shok hs r hr;have h2 := h1.val i j (by rw [<- h1.n]; exact hi) hj;have h3 : bx (row r i) j ≠ 2 := fun e => by
  have : (i, j) ∈ pos r := mem_pos.2 ⟨hi, hj, e⟩;rw [rds_sure r hr] at this;cases this
 omega
theorem rds_at {s r : Dt} {p : Nat × Nat} {v : Int} (hv : v = 0 \/ v = 1) (hp : p ∈ pos s) (hr : r ∈ rds (withD s p.1 p.2 v)) : bx (row r p.1) p.2 = v := by
 have h1 := mem_pos.1 hp;rw [rds_bx (by rw [withD_len]; exact h1.1) (by rw [withD_rlen]; exact h1.2.1) (by rw [pos_with (by omega)]; exact fun h => by simpa using (List.mem_filter.1 h).2) r hr];rw [withD_bx _ _ _ _ _ _ h1.1 h1.2.1, if_pos rfl]
theorem const_of {f : Dt -> Bool} (hf : ∀ r r', Same r r' -> f r = f r') : ∀ n s, (pos s).length = n -> (∀ r ∈ rds s, ∀ p ∈ pos s, f (withD r p.1 p.2 0) = f (withD r p.1 p.2 1)) -> ∀ r ∈ rds s, ∀ r' ∈ rds s, f r = f r'
 | 0, s, hl, _, r, hr, r', hr' => by
  have e := List.length_eq_zero_iff.1 hl;rw [rds_nil e, List.mem_singleton] at hr hr';rw [hr, hr']
 | n + 1, s, hl, hI, r, hr, r', hr' => by
  cases e : pos s with
  | nil => rw [e] at hl; simp at hl
  | cons q qs =>
   have hq : q ∈ pos s := by rw [e]; exact List.mem_cons_self
   have ih : ∀ w : Int, w = 0 \/ w = 1 -> ∀ r ∈ rds (withD s q.1 q.2 w), ∀ r' ∈ rds (withD s q.1 q.2 w), f r = f r' := fun w hw =>
    const_of hf n _ (by rw [pos_with_tl (by omega) e]; rw [e] at hl; simpa using hl) fun t ht p hp => hI t (rds_of_with hw q _ _ rfl hq t ht) p (by
     rw [pos_with_tl (by omega) e] at hp;rw [e]; exact List.mem_cons_of_mem _ hp)
   have cross : ∀ r0 ∈ rds (withD s q.1 q.2 0), ∀ r1 ∈ rds (withD s q.1 q.2 1), f r0 = f r1 := fun r0 h0 r1 h1 => by
    have m0 := rds_of_with (.inl rfl) q _ _ rfl hq r0 h0;have b := in_pos m0 hq;have h2 := rds_with (v := 1) (.inr rfl) q _ _ rfl r0 h0;rw [withD_same] at h2;rw [<- ih 1 (.inr rfl) _ h2 _ h1, <- hI r0 m0 q hq];exact (hf _ _ (with_same b.1 b.2 (rds_at (.inl rfl) hq h0))).symm
   rw [rds_cons e, List.mem_append] at hr hr';rcases hr with hr | hr <;> rcases hr' with hr' | hr'
   ·exact ih 0 (.inl rfl) _ hr _ hr'
   ·exact cross _ hr _ hr'
   ·exact (cross _ hr' _ hr).symm
   ·exact ih 1 (.inr rfl) _ hr _ hr'
theorem dc_no {qs ps sh : Dt} {all : Int} {p : Nat × Nat} (h : dcV qs ps all sh p.1 p.2 = false) : ∀ r ∈ rds sh, psS qs ps all (withD r p.1 p.2 0) = psS qs ps all (withD r p.1 p.2 1) := fun r hr => by
 have h0 := rds_with (v := 0) (.inl rfl) p _ _ rfl r hr;obtain ⟨k, hk, e⟩ := rds_ix.1 h0;cases c : dcI qs ps all (rdD (withD sh p.1 p.2 0)) p.1 p.2 k with
 | true =>
  have : dcV qs ps all sh p.1 p.2 = true := anyF_0.2 ⟨k, hk, c⟩;rw [h] at this; cases this
 | false =>
  unfold dcI at c;rw [e, withD_same] at c;simpa using c
theorem dc_yes {qs ps sh : Dt} {all : Int} {p : Nat × Nat} (h : dcV qs ps all sh p.1 p.2 = true) : ∃ r ∈ rds (withD sh p.1 p.2 0), psS qs ps all r ≠ psS qs ps all (withD r p.1 p.2 1) := by
 obtain ⟨k, hk, c⟩ := anyF_0.1 h;refine ⟨_, rds_ix.2 ⟨k, hk, rfl⟩, ?_⟩;unfold dcI at c;simpa using c
theorem dec_iff {qs ps sh : Dt} {all : Int} : ocV qs ps all sh = 2 ↔ ∃ p ∈ pos sh, dcV qs ps all sh p.1 p.2 = true := by
 constructor
 ·intro h;refine Classical.byContradiction fun hn => ?_;obtain ⟨⟨r, hr, a⟩, r', hr', b⟩ := oc2.1 h;have := const_of (f := psS qs ps all) (fun r r' hs => hs.ps _ _ _) _ sh rfl (fun r hr p hp => dc_no (by
   cases c : dcV qs ps all sh p.1 p.2 with
   | false => rfl
   | true => exact absurd ⟨p, hp, c⟩ hn) r hr) r hr r' hr'
  rw [a, b] at this; cases this
 ·rintro ⟨p, hp, h⟩;obtain ⟨r, hr, hne⟩ := dc_yes h;have h1 := rds_of_with (.inl rfl) p _ _ rfl hp r hr;have h2 := rds_with (v := 1) (.inr rfl) p _ _ rfl r hr;rw [withD_same] at h2;have h2 := rds_of_with (.inr rfl) p _ _ rfl hp _ h2;refine oc2.2 ?_;cases a : psS qs ps all r <;> cases b : psS qs ps all (withD r p.1 p.2 1)
  ·rw [a, b] at hne; exact absurd rfl hne
  ·exact ⟨⟨_, h2, b⟩, _, h1, a⟩
  ·exact ⟨⟨_, h1, a⟩, _, h2, b⟩
  ·rw [a, b] at hne; exact absurd rfl hne
def bxs (l : Dt) : List (Int × Int) := l.map fun c => ((c.getD 0 .z).int, (c.getD 1 .z).int)
theorem hasB_iff {l : Dt} {a b : Int} : hasB l a b = true ↔ (a, b) ∈ bxs l := by
 unfold hasB bxs;rw [anyF_0, List.mem_map];constructor
 ·rintro ⟨k, hk, h⟩;unfold boxV cA cB cel at h;rw [Bool.and_eq_true, decide_eq_true_eq, decide_eq_true_eq] at h;exact ⟨l[k], List.getElem_mem hk, by
   rw [List.getD_eq_getElem?_getD (l := l), List.getElem?_eq_getElem hk] at h;exact Prod.ext h.1 h.2⟩
 ·rintro ⟨c, hc, e⟩;obtain ⟨k, hk, rfl⟩ := List.mem_iff_getElem.1 hc;refine ⟨k, hk, ?_⟩;unfold boxV cA cB cel;rw [Bool.and_eq_true, decide_eq_true_eq, decide_eq_true_eq, List.getD_eq_getElem?_getD (l := l), List.getElem?_eq_getElem hk];exact ⟨congrArg Prod.fst e, congrArg Prod.snd e⟩
theorem dcL_mem {qs ps sh u : Dt} {all : Int} {x : Int × Int} : ∀ n i, x ∈ bxs (dcL qs ps all sh u i n) ↔ ∃ k, i <= k /\ k < i + n /\ dcV qs ps all sh (cA u k).toNat (cB u k).toNat = true /\ x = (cA u k, cB u k)
 | 0, i => by simp [dcL, bxs]; intro k a b; omega
 | n + 1, i => by
  have ih := dcL_mem (qs := qs) (ps := ps) (sh := sh) (u := u) (all := all) (x := x) n (i + 1);have e : bxs (dcL qs ps all sh u i (n + 1)) = (if dcV qs ps all sh (cA u i).toNat (cB u i).toNat = true then [(cA u i, cB u i)] else []) ++ bxs (dcL qs ps all sh u (i + 1) n) := by
   have e0 : dcL qs ps all sh u i (n + 1) = (if dcV qs ps all sh (cA u i).toNat (cB u i).toNat = true then [[.i (cA u i), .i (cB u i)]] else []) ++ dcL qs ps all sh u (i + 1) n := rfl;rw [e0];unfold bxs;rw [List.map_append]
   split <;> rfl
  rw [e, List.mem_append, ih];constructor
  ·rintro (h | ⟨k, h1, h2, h3⟩)
   ·split at h
    ·rename_i c;exact ⟨i, Nat.le_refl _, by omega, c, List.mem_singleton.1 h⟩
    ·cases h
   ·exact ⟨k, by omega, by omega, h3⟩
  ·rintro ⟨k, h1, h2, h3, h4⟩;rcases Nat.eq_or_lt_of_le h1 with c | c
   ·subst c;left; rw [if_pos h3, h4]; exact List.mem_singleton.2 rfl
   ·exact .inr ⟨k, c, by omega, h3, h4⟩
theorem uns_at {sh : Dt} {k : Nat} (hk : k < (uns sh).length) : ∃ p ∈ pos sh, cA (uns sh) k = p.1 /\ cB (uns sh) k = p.2 := uns_cel hk
theorem uns_of {sh : Dt} {p : Nat × Nat} (hp : p ∈ pos sh) : ∃ k, k < (uns sh).length /\ cA (uns sh) k = p.1 /\ cB (uns sh) k = p.2 := by
 obtain ⟨k, hk, e⟩ := List.mem_iff_getElem.1 hp;refine ⟨k, by rw [uns_len]; exact hk, ?_⟩;rw [uns_pos, (prC_cel _ k hk).1, (prC_cel _ k hk).2, e];exact ⟨rfl, rfl⟩
def dcS (qs ps : Dt) (all : Int) (sh : Dt) : Dt := dcL qs ps all sh (uns sh) 0 (uns sh).length
theorem dcS_has {qs ps sh : Dt} {all : Int} {p : Nat × Nat} (hp : p ∈ pos sh) : hasB (dcS qs ps all sh) p.1 p.2 = dcV qs ps all sh p.1 p.2 := by
 apply bool_iff;rw [hasB_iff];unfold dcS;rw [dcL_mem];constructor
 ·rintro ⟨k, _, _, h, e⟩;have e1 : cA (uns sh) k = p.1 := (congrArg Prod.fst e).symm;have e2 : cB (uns sh) k = p.2 := (congrArg Prod.snd e).symm;rw [e1, e2, Int.toNat_natCast, Int.toNat_natCast] at h;exact h
 ·intro h;obtain ⟨k, hk, a, b⟩ := uns_of hp;exact ⟨k, Nat.zero_le _, by omega, by rw [a, b, Int.toNat_natCast, Int.toNat_natCast]; exact h, by rw [a, b]⟩
theorem uns_has {sh : Dt} {p : Nat × Nat} : hasB (uns sh) p.1 p.2 = true ↔ p ∈ pos sh := by
 rw [hasB_iff, uns_pos];unfold bxs;rw [List.map_map, List.mem_map];constructor
 ·rintro ⟨q, hq, e⟩;have e1 : (q.1 : Int) = p.1 := congrArg Prod.fst e;have e2 : (q.2 : Int) = p.2 := congrArg Prod.snd e;rw [show p = q from Prod.ext (by omega) (by omega)];exact hq
 ·exact fun h => ⟨p, h, rfl⟩
theorem dcS_at {qs ps sh : Dt} {all : Int} {k : Nat} (hk : k < (dcS qs ps all sh).length) : ∃ p ∈ pos sh, cA (dcS qs ps all sh) k = p.1 /\ cB (dcS qs ps all sh) k = p.2 /\ dcV qs ps all sh p.1 p.2 = true := by
 have h : (cA (dcS qs ps all sh) k, cB (dcS qs ps all sh) k) ∈ bxs (dcS qs ps all sh) := hasB_iff.1 (anyF_0.2 ⟨k, hk, by unfold boxV; simp⟩);unfold dcS at h;rw [dcL_mem] at h;obtain ⟨j, _, hj, h1, h2⟩ := h;obtain ⟨p, hp, a, b⟩ := uns_at (sh := sh) (k := j) (by omega);have e1 := congrArg Prod.fst h2;have e2 := congrArg Prod.snd h2;simp only [] at e1 e2;rw [a, b, Int.toNat_natCast, Int.toNat_natCast] at h1;exact ⟨p, hp, e1.trans a, e2.trans b, h1⟩
theorem dcS_pos {qs ps sh : Dt} {all : Int} : 0 < (dcS qs ps all sh).length ↔ ocV qs ps all sh = 2 := by
 rw [dec_iff];constructor
 ·intro h;obtain ⟨p, hp, _, _, hd⟩ := dcS_at h;exact ⟨p, hp, hd⟩
 ·rintro ⟨p, hp, hd⟩;rw [<- dcS_has hp, hasB_iff] at hd;unfold bxs at hd;have := List.length_pos_of_mem hd;simpa using this
end Sp
namespace Sp
def bA (u : Dt) (k : Nat) : Nat := (cA u k).toNat
def bB (u : Dt) (k : Nat) : Nat := (cB u k).toNat
def inL (l u : Dt) (k : Nat) : Bool := hasB l (cA u k) (cB u k)
def outL (u l : Dt) (k : Nat) : Bool := !hasB u (cA l k) (cB l k)
def at_ (r u : Dt) (k : Nat) : Int := bx (row r (bA u k)) (bB u k)
def seenF (l r u : Dt) : Nat -> Nat -> Dt -> Dt
 | _, 0, s => s
 | i, n + 1, s => seenF l r u (i + 1) n (if inL l u i = true then withD s (bA u i) (bB u i) (at_ r u i) else s)
def turnD (r u : Dt) (k : Nat) : Dt := withD r (bA u k) (bB u k) (1 - at_ r u k)
structure DeOk (qs ps : Dt) (all : Int) (l r u : Dt) (pass : Bool) : Prop where
 few : Few r
 bx_ : BxOk r u
 val : ∀ k, k < u.length -> at_ r u k = 0 \/ at_ r u k = 1
 e : ∀ k, k < u.length -> inL l u k = false -> markE qs ps all (turnD r u k) = 0
 b : ∀ k, k < u.length -> inL l u k = false -> markB qs ps all (turnD r u k) = pass
theorem seenF_no {l r u : Dt} : ∀ n i s, anyF (inL l u) i n = false -> seenF l r u i n s = s
 | 0, _, _, _ => rfl
 | n + 1, i, s, h => by
  simp only [anyF, Bool.or_eq_false_iff] at h;unfold seenF;rw [if_neg (by rw [h.1]; decide), seenF_no n (i + 1) s h.2]
theorem uns_ab {sh : Dt} {k : Nat} (hk : k < (uns sh).length) : (bA (uns sh) k, bB (uns sh) k) ∈ pos sh /\ cA (uns sh) k = bA (uns sh) k /\ cB (uns sh) k = bB (uns sh) k := by
 obtain ⟨p, hp, a, b⟩ := uns_at hk;have e1 : bA (uns sh) k = p.1 := by unfold bA; rw [a, Int.toNat_natCast]
 have e2 : bB (uns sh) k = p.2 := by unfold bB; rw [b, Int.toNat_natCast]
 rw [e1, e2, a, b];exact ⟨hp, rfl, rfl⟩
theorem inL_dc {qs ps sh : Dt} {all : Int} {k : Nat} (hk : k < (uns sh).length) : inL (dcS qs ps all sh) (uns sh) k = dcV qs ps all sh (bA (uns sh) k) (bB (uns sh) k) := by
 obtain ⟨h1, h2, h3⟩ := uns_ab hk;unfold inL;rw [h2, h3];exact dcS_has (p := (bA (uns sh) k, bB (uns sh) k)) h1
theorem bx_rd {sh r : Dt} (h7 : (uns sh).length <= 7) (hr : r ∈ rds sh) : BxOk r (uns sh) :=
 ⟨h7, fun i hi => by
  obtain ⟨h1, h2, h3⟩ := uns_ab hi;have hm := in_pos hr h1;unfold cA at h2;unfold cB at h3;rw [h2, h3, Int.toNat_natCast];have a := hm.1;have b := hm.2;simp only [] at a b;omega⟩
theorem deOk {qs ps sh r : Dt} {all : Int} (hk : KeyOk qs ps all) (hs : ShOk qs sh) (hr : r ∈ rds sh) : DeOk qs ps all (dcS qs ps all sh) r (uns sh) (psS qs ps all r) := by
 have hsr := rds_shok hs r hr;have h01 : ∀ k, k < (uns sh).length -> at_ r (uns sh) k = 0 \/ at_ r (uns sh) k = 1 := fun k hk2 => by
  have hm := in_pos hr (uns_ab hk2).1;exact rds_01 hs hr hm.1 hm.2
 have key : ∀ k, k < (uns sh).length -> inL (dcS qs ps all sh) (uns sh) k = false -> turnD r (uns sh) k ∈ rds sh /\ psS qs ps all (turnD r (uns sh) k) = psS qs ps all r := fun k hk2 hn => by
  rw [inL_dc hk2] at hn;have hp := (uns_ab hk2).1;have hm := in_pos hr hp;have hd := dc_no (p := (bA (uns sh) k, bB (uns sh) k)) hn r hr;have mem : ∀ v : Int, v = 0 \/ v = 1 -> withD r (bA (uns sh) k) (bB (uns sh) k) v ∈ rds sh := fun v hv =>
   rds_of_with hv (bA (uns sh) k, bB (uns sh) k) _ _ rfl hp _ (rds_with hv (bA (uns sh) k, bB (uns sh) k) _ _ rfl r hr)
  have same : ∀ v : Int, at_ r (uns sh) k = v -> psS qs ps all (withD r (bA (uns sh) k) (bB (uns sh) k) v) = psS qs ps all r := fun v hv =>
   (with_same (p := (bA (uns sh) k, bB (uns sh) k)) hm.1 hm.2 hv).ps _ _ _
  unfold turnD;rcases h01 k hk2 with e | e
  ·rw [e];refine ⟨mem _ (.inr (by decide)), ?_⟩;rw [show (1 : Int) - 0 = 1 by decide, <- hd];exact same 0 e
  ·rw [e];refine ⟨mem _ (.inl (by decide)), ?_⟩;rw [show (1 : Int) - 1 = 0 by decide];rw [show withD r (bA (uns sh) k) (bB (uns sh) k) 0 = withD r (bA (uns sh) k, bB (uns sh) k).1 (bA (uns sh) k, bB (uns sh) k).2 0 from rfl, hd];exact same 1 e
 refine ⟨hsr.toShapeOk.few hk, bx_rd hs.seven hr, h01, fun k hk2 hn => (rds_mark hk hs (key k hk2 hn).1).1, fun k hk2 hn => ?_⟩;rw [(rds_mark hk hs (key k hk2 hn).1).2.2];exact (key k hk2 hn).2
structure SeenOk (qs ps : Dt) (all : Int) (sh r s : Dt) (i : Nat) : Prop where
 ok : ShOk qs s
 sub : ∀ t ∈ rds s, t ∈ rds sh
 pos_ : ∀ p ∈ pos s, p ∈ pos sh /\ ∀ k, k < i -> inL (dcS qs ps all sh) (uns sh) k = true -> p ≠ (bA (uns sh) k, bB (uns sh) k)
 has_ : ∃ r' ∈ rds s, Same r' r
theorem SeenOk.go {qs ps sh r : Dt} {all : Int} (hs : ShOk qs sh) (hr : r ∈ rds sh) : ∀ n i s, i + n = (uns sh).length -> (∀ k, i <= k -> k < (uns sh).length -> (bA (uns sh) k, bB (uns sh) k) ∈ pos s) -> SeenOk qs ps all sh r s i -> SeenOk qs ps all sh r (seenF (dcS qs ps all sh) r (uns sh) i n s) (uns sh).length
 | 0, i, s, e, _, h => by rw [<- show i = (uns sh).length by omega]; exact h
 | n + 1, i, s, e, hp, h => by
  have hi : i < (uns sh).length := by omega
  have hnd : ∀ k, k < (uns sh).length -> k ≠ i -> (bA (uns sh) k, bB (uns sh) k) ≠ (bA (uns sh) i, bB (uns sh) i) := fun k hk hne e => by
   have hl := uns_len sh;have g : ∀ j (hj : j < (uns sh).length), (bA (uns sh) j, bB (uns sh) j) = (pos sh)[j]'(by omega) := fun j hj => by
    unfold bA bB;have := prC_cel (pos sh) j (by omega);rw [<- uns_pos] at this;rw [this.1, this.2, Int.toNat_natCast, Int.toNat_natCast]
   rw [g k hk, g i hi] at e;exact hne ((List.getElem_inj (pos_nd sh)).1 e)
  unfold seenF
  by_cases c : inL (dcS qs ps all sh) (uns sh) i = true
  ·rw [if_pos c];have hpi := hp i (Nat.le_refl _) hi;have hm := in_pos hr (uns_ab hi).1;have hv : at_ r (uns sh) i = 0 \/ at_ r (uns sh) i = 1 := rds_01 hs hr hm.1 hm.2;obtain ⟨r', hr', hsame⟩ := h.has_;have hposw : ∀ p, p ∈ pos (withD s (bA (uns sh) i) (bB (uns sh) i) (at_ r (uns sh) i)) ↔ p ∈ pos s /\ p ≠ (bA (uns sh) i, bB (uns sh) i) := fun p => by
    rw [pos_with (by omega), List.mem_filter, decide_eq_true_eq]
   refine SeenOk.go hs hr n (i + 1) _ (by omega) (fun k a b => (hposw _).2 ⟨hp k (by omega) b, hnd k b (by omega)⟩) ⟨h.ok.withD hv, fun t ht => h.sub t (rds_of_with hv (bA (uns sh) i, bB (uns sh) i) _ _ rfl hpi t ht), fun p hpp => ?_, ?_⟩
   ·obtain ⟨a, b⟩ := (hposw p).1 hpp;refine ⟨(h.pos_ p a).1, fun k hk hc => ?_⟩;rcases Nat.lt_or_ge k i with d | d
    ·exact (h.pos_ p a).2 k d hc
    ·rw [show k = i by omega]; exact b
   ·refine ⟨_, rds_with hv (bA (uns sh) i, bB (uns sh) i) _ _ rfl r' hr', ?_⟩;have hm' := in_pos hr' hpi;refine Same.trans (with_same (p := (bA (uns sh) i, bB (uns sh) i)) hm'.1 hm'.2 ?_) hsame;exact hsame.val _ _ hm'.1 hm'.2
  ·rw [if_neg c];refine SeenOk.go hs hr n (i + 1) s (by omega) (fun k a b => hp k (by omega) b) ⟨h.ok, h.sub, fun p hpp => ⟨(h.pos_ p hpp).1, fun k hk hc => ?_⟩, h.has_⟩;rcases Nat.lt_or_ge k i with d | d
   ·exact (h.pos_ p hpp).2 k d hc
   ·rw [show k = i by omega] at hc; exact absurd hc c
theorem seen_end {qs ps sh r : Dt} {all : Int} (hk : KeyOk qs ps all) (hs : ShOk qs sh) (hr : r ∈ rds sh) :
  let s := seenF (dcS qs ps all sh) r (uns sh) 0 (uns sh).length sh
  askE qs ps all s = 0 /\ ocA qs ps all s = (if psS qs ps all r = true then 1 else 0) := by
 intro s;have h : SeenOk qs ps all sh r s (uns sh).length := SeenOk.go hs hr _ 0 sh (by omega) (fun k _ hk => (uns_ab hk).1) ⟨hs, fun t h => h, fun p hp => ⟨hp, fun k hk => by omega⟩, r, hr, Same.rfl' r⟩;have e := ask_of hk h.ok;refine ⟨e, ?_⟩;rw [ocA_ok e];obtain ⟨r', hr', hsame⟩ := h.has_;have hc := const_of (f := psS qs ps all) (fun r r' hs => hs.ps _ _ _) _ s rfl fun t ht p hp => dc_no (p := p) (by
  obtain ⟨a, b⟩ := h.pos_ p hp;cases c : dcV qs ps all sh p.1 p.2 with
  | false => rfl
  | true =>
   exfalso;obtain ⟨k, hk2, x, y⟩ := uns_of a;have e1 : bA (uns sh) k = p.1 := by unfold bA; rw [x, Int.toNat_natCast]
   have e2 : bB (uns sh) k = p.2 := by unfold bB; rw [y, Int.toNat_natCast]
   exact b k hk2 (by rw [inL_dc hk2, e1, e2]; exact c) (by rw [e1, e2])) t (h.sub t ht)
 have hall : ∀ t ∈ rds s, psS qs ps all t = psS qs ps all r := fun t ht => (hc t ht r' hr').trans (hsame.ps _ _ _);cases c : psS qs ps all r with
 | true => rw [if_pos rfl]; exact oc1.2 fun t ht => by rw [hall t ht, c]
 | false => rw [if_neg (by decide)]; exact oc0.2 fun t ht => by rw [hall t ht, c]
theorem dcA_ok {qs ps sh : Dt} {all : Int} (e : askE qs ps all sh = 0) : dcA qs ps all sh = dcS qs ps all sh := by unfold dcA; rw [if_pos e]; rfl
theorem dcS_out {qs ps sh : Dt} {all : Int} : anyF (outL (uns sh) (dcS qs ps all sh)) 0 (dcS qs ps all sh).length = false := by
 cases e : anyF (outL (uns sh) (dcS qs ps all sh)) 0 (dcS qs ps all sh).length with
 | false => rfl
 | true =>
  exfalso;obtain ⟨k, hk, h⟩ := anyF_0.1 e;obtain ⟨p, hp, a, b, _⟩ := dcS_at hk;unfold outL at h;rw [a, b, uns_has.2 hp] at h;cases h
theorem dcL_len (qs ps : Dt) (all : Int) (sh u : Dt) : ∀ n i, (dcL qs ps all sh u i n).length <= n
 | 0, _ => Nat.le_refl _
 | n + 1, i => by
  have := dcL_len qs ps all sh u n (i + 1);simp only [dcL, List.length_append]
  split <;> simp <;> omega
theorem dcS_len {qs ps sh : Dt} {all : Int} (hs : ShOk qs sh) : (dcS qs ps all sh).length <= 7 := Nat.le_trans (dcL_len _ _ _ _ _ _ _) hs.seven
end Sp
def Xk1 : Tab Try.prog := ⟨[Xdj, Xla, Xib], [], []⟩
def Xfq [InW] (e : List Ed) (K : Nat -> List Ed -> Prop) : Prop := match e with
 | [.b pass, .i i, .ro _ qs, .ro _ ps, .i all, .l l, .l u, .l r, .l s] => Pre (0 <= i /\ i <= u.length /\ Sp.DeOk qs.xs ps.xs all l r u pass /\ Sp.Few s /\ Sp.BxOk s u) (K 0 [.b pass, .ro _ qs, .ro _ ps, .i all, .l l, .l u, .l (Sp.seenF l r u i.toNat (u.length - i.toNat) s)])
 | _ => False
def Xhm : LC where
 len := 173
 T := [(3, (.ptr 7 0)), (7, (.row 1)), (11, (.opq 10)), (12, (.row 4)), (13, (.opq 6)), (15, .bool), (17, .int .i64)]
 H := [(7, .blk 25 [.rs Iv5, .rs Jc, .int .i64]), (1, .arr 44 Ja), (4, .arr 44 Ja), (10, .fro [.sl Jc]), (6, .fro [.sl Jc])]
 W := ([6] ++ rg 18 4 ++ rg 83 51)
 outs := [⟨.exit 0, [(3, (.ptr 7 0)), (7, (.row 1)), (12, (.row 4)), (13, (.opq 15)), (15, .bool)], [(7, .blk 25 [.rs Iv5, .rs Jc, .int .i64]), (1, .arr 44 Ja), (4, .arr 44 Ja), (15, .fro [.sl Jc])], ([6, 11] ++ rg 17 5 ++ rg 83 51)⟩]
 spec := Xfq
def Zfc [W : InW] (i : Int) (u : Dt) := cel u i.toNat Zc
def Zfd [W : InW] (i : Int) (u : Dt) := cel u i.toNat (0+1)
def Zfe [W : InW] (i : Int) (u r : Dt) := cel r (Zfc i u).int.toNat Zc
def Zff [W : InW] (i : Int) (u r : Dt) := decide (Zb <= (Zfd i u).int) && decide ((Zfd i u).int < (↑(List.length (Zfe i u r).lst) : Int))
def Xeo [W : InW] (pass : Bool) (i : Int) (qs : Ro Iv5) (ps : Ro Jc) (all : Int) (l u r s : Dt) (A : List Ed -> Prop) (K : Nat -> List Ed -> Prop) : Prop :=
 Vif (decide (i < (↑(u.length) : Int))) (Need (decide (0 <= i) && decide (i < (↑(u.length) : Int))) (Need (decide (i.toNat < u.length)) (Pre True (Vif (Sp.hasB l (Zfc i u).int (Zfd i u).int) (Need (decide (Zb <= (Zfc i u).int) && decide ((Zfc i u).int < (↑(r.length) : Int))) (Need (decide ((Zfc i u).int.toNat < r.length)) (Need (Zff i u r) (Need (decide ((Zfd i u).int.toNat < List.length (Zfe i u r).lst)) (Pre (Sp.Few s /\ (Zb <= (Zfc i u).int /\ (Zfc i u).int < (↑(s.length) : Int)) /\ Zb <= (Zfd i u).int /\ (Zfd i u).int < (↑(List.length (Sp.row s (Zfc i u).int.toNat)) : Int)) (Ar .i64 (i + 1) fun z => A [.b pass, .i z, .ro _ qs, .ro _ ps, .i all, .l l, .l u, .l r, .l (Sp.withD s (Zfc i u).int.toNat (Zfd i u).int.toNat (cel (Zfe i u r).lst (Zfd i u).int.toNat Zc).int)])))))) (Need (decide (Zb <= (Zfc i u).int) && decide ((Zfc i u).int < (↑(r.length) : Int))) (Need (decide ((Zfc i u).int.toNat < r.length)) (Need (Zff i u r) (Need (decide ((Zfd i u).int.toNat < List.length (Zfe i u r).lst)) (Ar .i64 ((1 : Int) - (cel (Zfe i u r).lst (Zfd i u).int.toNat Zc).int) fun z => Pre (Sp.Few r /\ (Zb <= (Zfc i u).int /\ (Zfc i u).int < (↑(r.length) : Int)) /\ Zb <= (Zfd i u).int /\ (Zfd i u).int < (↑(List.length (Sp.row r (Zfc i u).int.toNat)) : Int)) (Pre True (Vif (!decide (Sp.markE qs.xs ps.xs all (Sp.withD r (Zfc i u).int.toNat (Zfd i u).int.toNat z) = 0)) ((472 : Nat) = 472 + 1) (Vif (!Sp.markB qs.xs ps.xs all (Sp.withD r (Zfc i u).int.toNat (Zfd i u).int.toNat z) == pass) ((472 : Nat) = 472 + 1) (Ar .i64 (i + 1) fun z => A [.b pass, .i z, .ro _ qs, .ro _ ps, .i all, .l l, .l u, .l r, .l s]))))))))))))) (K 0 [.b pass, .ro _ qs, .ro _ ps, .i all, .l l, .l u, .l s])
theorem Xl7 (W : InW) (pass i qs ps all l u r s A K) : Yfc { cxT Try.prog TT Xk1 1000 50 with fn := 10 } 1000 (Yn7 Try.prog 10 15) (Yd6 173 [(3, .ptr 7 0), (7, .rw 1), (11, .opq 10), (12, .rw 4), (13, .opq 6), (15, .sb pass), (17, .si .i64 i)] ([6] ++ rg 18 4 ++ rg 83 51)) [(7, .blk 25 [.rs _ qs, .rs _ ps, .si .i64 all]), (1, .arr 44 Ja l), (4, .arr 44 Ja u), (10, .fro [.sl Jc] r), (6, .fro [.sl Jc] s)] (Yuf Xhm A K) = Xeo pass i qs ps all l u r s A K := by kernel_rfl
def Xgs : Prop := ∀ (W : InW) (body a : Code), (Try.prog.funcs[10]?).bind (·.body) = some body -> a ∈ Yy body -> Yfw a = 15 -> @Ymq W Try.prog a (@Ytn W Xhm)
theorem Xns (meas : [InW] -> List Ed -> Nat) (hyp_ : ∀ (W : InW) pass i qs ps all l u r s K, Xfq [.b pass, .i i, .ro _ qs, .ro _ ps, .i all, .l l, .l u, .l r, .l s] K -> ∀ A : List Ed -> Prop, (∀ e, meas e < meas [.b pass, .i i, .ro _ qs, .ro _ ps, .i all, .l l, .l u, .l r, .l s] -> Xfq e K -> A e) -> Xeo pass i qs ps all l u r s A K) : Xgs :=
 LE.okOf' (fun W => @TT W) (fun W => @Xc W) Xa Xk1 1000 50 (by kernel_rfl) Xhm (fun W => @meas W) fun W pass i qs ps all l u r s K hs =>
  (Xl7 W pass i qs ps all l u r s (fun e => meas e < meas [.b pass, .i i, .ro _ qs, .ro _ ps, .i all, .l l, .l u, .l r, .l s] /\ Xfq e K) K).mpr (hyp_ W pass i qs ps all l u r s K hs _ fun e h1 h2 => ⟨h1, h2⟩)
theorem Xht {sh u : Dt} (h : Sp.BxOk sh u) {i : Nat} (hi : i < u.length) : (0 <= (cel u i 0).int /\ (cel u i 0).int < sh.length) /\ 0 <= (cel u i 1).int /\ (cel u i 1).int < (Sp.row sh (cel u i 0).int.toNat).length := by
 have := h.in_ i hi;omega
theorem Xqd : Xgs := Xns (fun e => match e with | [_, .i i, _, _, _, _, .l u, _, _] => ((u.length : Int) - i).toNat | _ => 0) fun W pass i qs ps all l u r s K hs A hA => by
 obtain ⟨⟨h0, h1, hd, hf, hb⟩, hk⟩ := hs;have hu := hb.few;unfold Xeo;delta Zff Zfe Zfc Zfd Zc Zb;simp only [Nat.zero_add]
 by_cases hi : i < u.length
 ·have hlt : i.toNat < u.length := by omega
  have ez : (i + 1).toNat = i.toNat + 1 := by omega
  obtain ⟨r1, r2⟩ := Xht hd.bx_ hlt;obtain ⟨s1, s2⟩ := Xht hb hlt;have r2n : (cel u i.toNat 1).int.toNat < (Sp.row r (cel u i.toNat 0).int.toNat).length := by omega
  have hv := hd.val _ hlt;rw [show u.length - i.toNat = (u.length - (i.toNat + 1)) + 1 by omega] at hk;simp only [Sp.seenF] at hk;refine vifd (fun _ => ?_) fun e => by omega
  refine ned2 ⟨h0, hi⟩ (nedd (by omega) (Xb trivial ?_))
  by_cases c : Sp.inL l u i.toNat = true
  ·rw [if_pos c] at hk;have go := hA [.b pass, .i (i + 1), .ro _ qs, .ro _ ps, .i all, .l l, .l u, .l r, .l (Sp.withD s (Sp.bA u i.toNat) (Sp.bB u i.toNat) (Sp.at_ r u i.toNat))] (show ((u.length : Int) - (i + 1)).toNat < ((u.length : Int) - i).toNat by omega) ⟨⟨by omega, by omega, hd, hf.withD _ _ _, Xb8 hb _ _ _⟩, by rw [ez]; exact hk⟩;refine vif (fun _ => ?_) fun e => absurd (c.symm.trans e) (by decide);exact ned2 r1 (nedd (by omega) (ned2 r2 (nedd r2n (Xb ⟨hf, s1, s2⟩ (ar64 (by omega) go)))))
  ·have c : Sp.inL l u i.toNat = false := by simpa using c
   rw [if_neg (by rw [c]; decide)] at hk;have go := hA [.b pass, .i (i + 1), .ro _ qs, .ro _ ps, .i all, .l l, .l u, .l r, .l s] (show ((u.length : Int) - (i + 1)).toNat < ((u.length : Int) - i).toNat by omega) ⟨⟨by omega, by omega, hd, hf, hb⟩, by rw [ez]; exact hk⟩;refine vif (fun e => absurd (c.symm.trans e) (by decide)) fun _ => ?_;refine ned2 r1 (nedd (by omega) (ned2 r2 (nedd r2n (ar64 (show -9223372036854775808 <= 1 - Sp.at_ r u i.toNat /\ 1 - Sp.at_ r u i.toNat <= 9223372036854775807 by omega) (Xb ⟨hd.few, r1, r2⟩ (Xb trivial ?_))))));refine vifn (fun e => absurd (hd.e _ hlt c) e) fun _ => ?_;have hb2 : Sp.markB qs.xs ps.xs all (Sp.withD r (cel u i.toNat 0).int.toNat (cel u i.toNat 1).int.toNat (1 - Sp.at_ r u i.toNat)) = pass := hd.b _ hlt c;refine vif (fun e => ?_) fun _ => ?_
   ·exfalso;have e : (!Sp.markB qs.xs ps.xs all (Sp.withD r (cel u i.toNat 0).int.toNat (cel u i.toNat 1).int.toNat (1 - Sp.at_ r u i.toNat)) == pass) = true := e;rw [hb2] at e;cases pass <;> simp at e
   ·exact ar64 (by omega) go
 ·rw [show u.length - i.toNat = 0 by omega] at hk;refine vifd (fun e => by omega) fun _ => hk
def Xiv : LE Try.prog := ⟨10, 15, fun W => @Ytn W Xhm, Xqd⟩
def Xfr [InW] (e : List Ed) (K : Nat -> List Ed -> Prop) : Prop := match e with
 | [.ro _ s, .b pass, .i i, .ro _ qs, .ro _ ps, .i all, .l l, .l u, .l r] => Pre (0 <= i /\ i <= u.length /\ Sp.DeOk qs.xs ps.xs all l r u pass /\ Sp.Few s.xs /\ Sp.BxOk s.xs u) (Vif (Sp.anyF (Sp.inL l u) i.toNat (u.length - i.toNat)) (K 1 [.b pass, .ro _ qs, .ro _ ps, .i all, .l l, .l u, .l (Sp.seenF l r u i.toNat (u.length - i.toNat) s.xs)]) (K 0 [.ro _ s, .b pass, .ro _ qs, .ro _ ps, .i all, .l l, .l u]))
 | _ => False
def Xhn : LC where
 len := 173
 T := [(3, (.ptr 7 0)), (7, (.row 1)), (11, (.opq 10)), (12, (.row 4)), (13, .rs Jb), (15, .bool), (17, .int .i64)]
 H := [(7, .blk 25 [.rs Iv5, .rs Jc, .int .i64]), (1, .arr 44 Ja), (4, .arr 44 Ja), (10, .fro [.sl Jc])]
 W := ([6] ++ rg 18 4 ++ rg 83 51)
 outs := [⟨.exit 0, [(3, (.ptr 7 0)), (7, (.row 1)), (12, (.row 4)), (13, .rs Jb), (15, .bool)], [(7, .blk 25 [.rs Iv5, .rs Jc, .int .i64]), (1, .arr 44 Ja), (4, .arr 44 Ja)], ([6, 11] ++ rg 17 5 ++ rg 83 51)⟩, ⟨.exit 0, [(3, (.ptr 7 0)), (7, (.row 1)), (12, (.row 4)), (13, (.opq 15)), (15, .bool)], [(7, .blk 25 [.rs Iv5, .rs Jc, .int .i64]), (1, .arr 44 Ja), (4, .arr 44 Ja), (15, .fro [.sl Jc])], ([6, 11] ++ rg 17 5 ++ rg 83 51)⟩]
 spec := Xfr
def Zfg [W : InW] (i : Int) (u : Dt) := cel u i.toNat Zc
def Zfi [W : InW] (i : Int) (u : Dt) := cel u i.toNat (0+1)
def Zfj [W : InW] (i : Int) (u r : Dt) := cel r (Zfg i u).int.toNat Zc
def Zfk [W : InW] (i : Int) (u r : Dt) := decide (Zb <= (Zfi i u).int) && decide ((Zfi i u).int < (↑(List.length (Zfj i u r).lst) : Int))
def Zfh [W : InW] (s : Ro Jb) (i : Int) (u r : Dt) := Sp.withD s.xs (Zfg i u).int.toNat (Zfi i u).int.toNat (cel (Zfj i u r).lst (Zfi i u).int.toNat Zc).int
def Xep [W : InW] (s : Ro Jb) (pass : Bool) (i : Int) (qs : Ro Iv5) (ps : Ro Jc) (all : Int) (l u r : Dt) (A : List Ed -> Prop) (K : Nat -> List Ed -> Prop) : Prop :=
 Vif (decide (i < (↑(u.length) : Int))) (Need (decide (0 <= i) && decide (i < (↑(u.length) : Int))) (Need (decide (i.toNat < u.length)) (Pre True (Vif (Sp.hasB l (Zfg i u).int (Zfi i u).int) (Need (decide (Zb <= (Zfg i u).int) && decide ((Zfg i u).int < (↑(r.length) : Int))) (Need (decide ((Zfg i u).int.toNat < r.length)) (Need (Zfk i u r) (Need (decide ((Zfi i u).int.toNat < List.length (Zfj i u r).lst)) (Pre (Sp.Few s.xs /\ (Zb <= (Zfg i u).int /\ (Zfg i u).int < (↑(s.xs.length) : Int)) /\ Zb <= (Zfi i u).int /\ (Zfi i u).int < (↑(List.length (Sp.row s.xs (Zfg i u).int.toNat)) : Int)) (Ar .i64 (i + 1) fun z => Pre (0 <= z /\ z <= (↑(u.length) : Int) /\ Sp.DeOk qs.xs ps.xs all l r u pass /\ Sp.Few (Zfh s i u r) /\ Sp.BxOk (Zfh s i u r) u) (K (0+1) [.b pass, .ro _ qs, .ro _ ps, .i all, .l l, .l u, .l (Sp.seenF l r u z.toNat (u.length - z.toNat) (Zfh s i u r))]))))))) (Need (decide (Zb <= (Zfg i u).int) && decide ((Zfg i u).int < (↑(r.length) : Int))) (Need (decide ((Zfg i u).int.toNat < r.length)) (Need (Zfk i u r) (Need (decide ((Zfi i u).int.toNat < List.length (Zfj i u r).lst)) (Ar .i64 ((1 : Int) - (cel (Zfj i u r).lst (Zfi i u).int.toNat Zc).int) fun z => Pre (Sp.Few r /\ (Zb <= (Zfg i u).int /\ (Zfg i u).int < (↑(r.length) : Int)) /\ Zb <= (Zfi i u).int /\ (Zfi i u).int < (↑(List.length (Sp.row r (Zfg i u).int.toNat)) : Int)) (Pre True (Vif (!decide (Sp.markE qs.xs ps.xs all (Sp.withD r (Zfg i u).int.toNat (Zfi i u).int.toNat z) = 0)) ((473 : Nat) = 473 + 1) (Vif (!Sp.markB qs.xs ps.xs all (Sp.withD r (Zfg i u).int.toNat (Zfi i u).int.toNat z) == pass) ((473 : Nat) = 473 + 1) (Ar .i64 (i + 1) fun z => A [.ro Zdv s, .b pass, .i z, .ro _ qs, .ro _ ps, .i all, .l l, .l u, .l r]))))))))))))) (K 0 [.ro Zdv s, .b pass, .ro _ qs, .ro _ ps, .i all, .l l, .l u])
theorem Xl8 (W : InW) (s pass i qs ps all l u r A K) : Yfc { cxT Try.prog TT Xk1 1000 50 with fn := 10 } 1000 (Yn7 Try.prog 10 15) (Yd6 173 [(3, .ptr 7 0), (7, .rw 1), (11, .opq 10), (12, .rw 4), (13, .rs _ s), (15, .sb pass), (17, .si .i64 i)] ([6] ++ rg 18 4 ++ rg 83 51)) [(7, .blk 25 [.rs _ qs, .rs _ ps, .si .i64 all]), (1, .arr 44 Ja l), (4, .arr 44 Ja u), (10, .fro [.sl Jc] r)] (Xcw Xhn ((Xiv).f W) A K) = Xep s pass i qs ps all l u r A K := by kernel_rfl
def Xgt : Prop := ∀ (W : InW) (body a : Code), (Try.prog.funcs[10]?).bind (·.body) = some body -> a ∈ Yy body -> Yfw a = 15 -> @Ymq W Try.prog a (@Ytn W Xhn)
theorem Xnt (meas : [InW] -> List Ed -> Nat) (hyp_ : ∀ (W : InW) s pass i qs ps all l u r K, Xfr [.ro _ s, .b pass, .i i, .ro _ qs, .ro _ ps, .i all, .l l, .l u, .l r] K -> ∀ A : List Ed -> Prop, (∀ e, meas e < meas [.ro _ s, .b pass, .i i, .ro _ qs, .ro _ ps, .i all, .l l, .l u, .l r] -> Xfr e K -> A e) -> Xep s pass i qs ps all l u r A K) : Xgt :=
 LE.okOfY (fun W => @TT W) (fun W => @Xc W) Xa Xk1 1000 50 (by kernel_rfl) Xhn (Xiv).f (Xiv).ok (fun W => @meas W) fun W s pass i qs ps all l u r K hs =>
  (Xl8 W s pass i qs ps all l u r (fun e => meas e < meas [.ro _ s, .b pass, .i i, .ro _ qs, .ro _ ps, .i all, .l l, .l u, .l r] /\ Xfr e K) K).mpr (hyp_ W s pass i qs ps all l u r K hs _ fun e h1 h2 => ⟨h1, h2⟩)
theorem Xqe : Xgt := Xnt (fun e => match e with | [_, _, .i i, _, _, _, _, .l u, _] => ((u.length : Int) - i).toNat | _ => 0) fun W s pass i qs ps all l u r K hs A hA => by
 obtain ⟨⟨h0, h1, hd, hf, hb⟩, hk⟩ := hs;have hu := hb.few;unfold Xep;delta Zfk Zfh Zfj Zfg Zdv Zfi Zc Zb;simp only [Nat.zero_add]
 by_cases hi : i < u.length
 ·have hlt : i.toNat < u.length := by omega
  have ez : (i + 1).toNat = i.toNat + 1 := by omega
  obtain ⟨r1, r2⟩ := Xht hd.bx_ hlt;obtain ⟨s1, s2⟩ := Xht hb hlt;have r2n : (cel u i.toNat 1).int.toNat < (Sp.row r (cel u i.toNat 0).int.toNat).length := by omega
  have hv := hd.val _ hlt;rw [show u.length - i.toNat = (u.length - (i.toNat + 1)) + 1 by omega] at hk;refine vifd (fun _ => ?_) fun e => by omega
  refine ned2 ⟨h0, hi⟩ (nedd (by omega) (Xb trivial ?_))
  by_cases c : Sp.inL l u i.toNat = true
  ·have hk := hk.1 (by simp only [Sp.anyF, c, Bool.true_or]);simp only [Sp.seenF] at hk;rw [if_pos c] at hk;refine vif (fun _ => ?_) fun e => absurd (c.symm.trans e) (by decide);exact ned2 r1 (nedd (by omega) (ned2 r2 (nedd r2n (Xb ⟨hf, s1, s2⟩ (ar64 (by omega) ⟨⟨by omega, by omega, hd, hf.withD _ _ _, Xb8 hb _ _ _⟩, by rw [ez]; exact hk⟩)))))
  ·have c : Sp.inL l u i.toNat = false := by simpa using c
   simp only [Sp.seenF, Sp.anyF, c, Bool.false_or] at hk;rw [if_neg (by decide)] at hk;have go := hA [.ro _ s, .b pass, .i (i + 1), .ro _ qs, .ro _ ps, .i all, .l l, .l u, .l r] (show ((u.length : Int) - (i + 1)).toNat < ((u.length : Int) - i).toNat by omega) ⟨⟨by omega, by omega, hd, hf, hb⟩, by rw [ez]; exact hk⟩;refine vif (fun e => absurd (c.symm.trans e) (by decide)) fun _ => ?_;refine ned2 r1 (nedd (by omega) (ned2 r2 (nedd r2n (ar64 (show -9223372036854775808 <= 1 - Sp.at_ r u i.toNat /\ 1 - Sp.at_ r u i.toNat <= 9223372036854775807 by omega) (Xb ⟨hd.few, r1, r2⟩ (Xb trivial ?_))))));refine vifn (fun e => absurd (hd.e _ hlt c) e) fun _ => ?_;have hb2 : Sp.markB qs.xs ps.xs all (Sp.withD r (cel u i.toNat 0).int.toNat (cel u i.toNat 1).int.toNat (1 - Sp.at_ r u i.toNat)) = pass := hd.b _ hlt c;refine vif (fun e => ?_) fun _ => ?_
   ·exfalso;have e : (!Sp.markB qs.xs ps.xs all (Sp.withD r (cel u i.toNat 0).int.toNat (cel u i.toNat 1).int.toNat (1 - Sp.at_ r u i.toNat)) == pass) = true := e;rw [hb2] at e;cases pass <;> simp at e
   ·exact ar64 (by omega) go
 ·rw [show u.length - i.toNat = 0 by omega] at hk;refine vifd (fun e => by omega) fun _ => hk.2 rfl
def Xrb : LE Try.prog := ⟨10, 15, fun W => @Ytn W Xhn, Xqe⟩
def Xk0 : Tab Try.prog := ⟨[Xla], [], []⟩
def Xfp [InW] (e : List Ed) (K : Nat -> List Ed -> Prop) : Prop := match e with
 | [.ro _ s, .b pass, .i i, .ro _ qs, .ro _ ps, .i all, .l l, .l u] => Pre (0 <= i /\ l.length <= 1000 /\ Sp.anyF (Sp.outL u l) i.toNat (l.length - i.toNat) = false) (K 0 [.ro _ s, .b pass, .ro _ qs, .ro _ ps, .i all])
 | _ => False
def Xb0 : LC where
 len := 173
 T := [(3, (.ptr 7 0)), (7, (.row 1)), (12, (.row 4)), (13, .rs Jb), (15, .bool), (22, .int .i64)]
 H := [(7, .blk 25 [.rs Iv5, .rs Jc, .int .i64]), (1, .arr 44 Ja), (4, .arr 44 Ja)]
 W := ([6] ++ rg 134 13)
 outs := [⟨.exit 2, [(3, (.ptr 7 0)), (13, .rs Jb), (15, .bool)], [(7, .blk 25 [.rs Iv5, .rs Jc, .int .i64])], ([6, 7, 12, 22] ++ rg 134 13)⟩]
 spec := Xfp
def Xen [W : InW] (s : Ro Jb) (pass : Bool) (i : Int) (qs : Ro Iv5) (ps : Ro Jc) (all : Int) (l u : Dt) (A : List Ed -> Prop) (K : Nat -> List Ed -> Prop) : Prop :=
 Vif (decide (i < (↑(l.length) : Int))) (Need (decide (0 <= i) && decide (i < (↑(l.length) : Int))) (Need (decide (i.toNat < l.length)) (Pre True (Vif (!Sp.hasB u (cel l i.toNat (0 : Nat)).int (cel l i.toNat (0+1)).int) ((472 : Nat) = 472 + 1) (Ar .i64 (i + 1) fun z => A [.ro Zdv s, .b pass, .i z, .ro _ qs, .ro _ ps, .i all, .l l, .l u]))))) (K 0 [.ro Zdv s, .b pass, .ro _ qs, .ro _ ps, .i all])
theorem Xl6 (W : InW) (s pass i qs ps all l u A K) : Yfc { cxT Try.prog TT Xk0 1000 50 with fn := 10 } 1000 (Yn7 Try.prog 10 24) (Yd6 173 [(3, .ptr 7 0), (7, .rw 1), (12, .rw 4), (13, .rs _ s), (15, .sb pass), (22, .si .i64 i)] ([6] ++ rg 134 13)) [(7, .blk 25 [.rs _ qs, .rs _ ps, .si .i64 all]), (1, .arr 44 Ja l), (4, .arr 44 Ja u)] (Yuf Xb0 A K) = Xen s pass i qs ps all l u A K := by kernel_rfl
def Xgr : Prop := ∀ (W : InW) (body a : Code), (Try.prog.funcs[10]?).bind (·.body) = some body -> a ∈ Yy body -> Yfw a = 24 -> @Ymq W Try.prog a (@Ytn W Xb0)
theorem Xnr (meas : [InW] -> List Ed -> Nat) (hyp_ : ∀ (W : InW) s pass i qs ps all l u K, Xfp [.ro _ s, .b pass, .i i, .ro _ qs, .ro _ ps, .i all, .l l, .l u] K -> ∀ A : List Ed -> Prop, (∀ e, meas e < meas [.ro _ s, .b pass, .i i, .ro _ qs, .ro _ ps, .i all, .l l, .l u] -> Xfp e K -> A e) -> Xen s pass i qs ps all l u A K) : Xgr :=
 LE.okOf' (fun W => @TT W) (fun W => @Xc W) Xa Xk0 1000 50 (by kernel_rfl) Xb0 (fun W => @meas W) fun W s pass i qs ps all l u K hs =>
  (Xl6 W s pass i qs ps all l u (fun e => meas e < meas [.ro _ s, .b pass, .i i, .ro _ qs, .ro _ ps, .i all, .l l, .l u] /\ Xfp e K) K).mpr (hyp_ W s pass i qs ps all l u K hs _ fun e h1 h2 => ⟨h1, h2⟩)
def Xfo [InW] (e : List Ed) (K : Nat -> List Ed -> Prop) : Prop := match e with
 | [.b pass, .i i, .ro _ qs, .ro _ ps, .i all, .l l, .l u, .l s] => Pre (0 <= i /\ l.length <= 1000 /\ Sp.anyF (Sp.outL u l) i.toNat (l.length - i.toNat) = false) (K 0 [.b pass, .ro _ qs, .ro _ ps, .i all, .l s])
 | _ => False
def Xhl : LC where
 len := 173
 T := [(3, (.ptr 7 0)), (7, (.row 1)), (12, (.row 4)), (13, (.opq 10)), (15, .bool), (22, .int .i64)]
 H := [(7, .blk 25 [.rs Iv5, .rs Jc, .int .i64]), (1, .arr 44 Ja), (4, .arr 44 Ja), (10, .fro [.sl Jc])]
 W := ([6] ++ rg 134 13)
 outs := [⟨.exit 2, [(3, (.ptr 7 0)), (13, (.opq 10)), (15, .bool)], [(7, .blk 25 [.rs Iv5, .rs Jc, .int .i64]), (10, .fro [.sl Jc])], ([6, 7, 12, 22] ++ rg 134 13)⟩]
 spec := Xfo
def Xem [W : InW] (pass : Bool) (i : Int) (qs : Ro Iv5) (ps : Ro Jc) (all : Int) (l u s : Dt) (A : List Ed -> Prop) (K : Nat -> List Ed -> Prop) : Prop :=
 Vif (decide (i < (↑(l.length) : Int))) (Need (decide (0 <= i) && decide (i < (↑(l.length) : Int))) (Need (decide (i.toNat < l.length)) (Pre True (Vif (!Sp.hasB u (cel l i.toNat (0 : Nat)).int (cel l i.toNat (0+1)).int) ((472 : Nat) = 472 + 1) (Ar .i64 (i + 1) fun z => A [.b pass, .i z, .ro _ qs, .ro _ ps, .i all, .l l, .l u, .l s]))))) (K 0 [.b pass, .ro _ qs, .ro _ ps, .i all, .l s])
theorem Xl5 (W : InW) (pass i qs ps all l u s A K) : Yfc { cxT Try.prog TT Xk0 1000 50 with fn := 10 } 1000 (Yn7 Try.prog 10 24) (Yd6 173 [(3, .ptr 7 0), (7, .rw 1), (12, .rw 4), (13, .opq 10), (15, .sb pass), (22, .si .i64 i)] ([6] ++ rg 134 13)) [(7, .blk 25 [.rs _ qs, .rs _ ps, .si .i64 all]), (1, .arr 44 Ja l), (4, .arr 44 Ja u), (10, .fro [.sl Jc] s)] (Yuf Xhl A K) = Xem pass i qs ps all l u s A K := by kernel_rfl
def Xgq : Prop := ∀ (W : InW) (body a : Code), (Try.prog.funcs[10]?).bind (·.body) = some body -> a ∈ Yy body -> Yfw a = 24 -> @Ymq W Try.prog a (@Ytn W Xhl)
theorem Xnq (meas : [InW] -> List Ed -> Nat) (hyp_ : ∀ (W : InW) pass i qs ps all l u s K, Xfo [.b pass, .i i, .ro _ qs, .ro _ ps, .i all, .l l, .l u, .l s] K -> ∀ A : List Ed -> Prop, (∀ e, meas e < meas [.b pass, .i i, .ro _ qs, .ro _ ps, .i all, .l l, .l u, .l s] -> Xfo e K -> A e) -> Xem pass i qs ps all l u s A K) : Xgq :=
 LE.okOf' (fun W => @TT W) (fun W => @Xc W) Xa Xk0 1000 50 (by kernel_rfl) Xhl (fun W => @meas W) fun W pass i qs ps all l u s K hs =>
  (Xl5 W pass i qs ps all l u s (fun e => meas e < meas [.b pass, .i i, .ro _ qs, .ro _ ps, .i all, .l l, .l u, .l s] /\ Xfo e K) K).mpr (hyp_ W pass i qs ps all l u s K hs _ fun e h1 h2 => ⟨h1, h2⟩)
theorem Xig {u l : Dt} {k n : Nat} (h : Sp.anyF (Sp.outL u l) k (n + 1) = false) : Sp.hasB u (cel l k 0).int (cel l k (0 + 1)).int = true /\ Sp.anyF (Sp.outL u l) (k + 1) n = false := by
 simp only [Sp.anyF, Bool.or_eq_false_iff] at h;have := h.1;unfold Sp.outL at this;rw [Bool.not_eq_false'] at this;exact ⟨this, h.2⟩
theorem Xqc : Xgr := Xnr (fun e => match e with | [_, _, .i i, _, _, _, .l l, _] => ((l.length : Int) - i).toNat | _ => 0) fun W s pass i qs ps all l u K hs A hA => by
 obtain ⟨⟨h0, hl, h1⟩, hk⟩ := hs;unfold Xen;delta Zdv
 by_cases hi : i < l.length
 ·rw [show l.length - i.toNat = (l.length - (i.toNat + 1)) + 1 by omega] at h1;obtain ⟨h2, h3⟩ := Xig h1;have ez : (i + 1).toNat = i.toNat + 1 := by omega
  have hA' := hA [.ro _ s, .b pass, .i (i + 1), .ro _ qs, .ro _ ps, .i all, .l l, .l u] (show ((l.length : Int) - (i + 1)).toNat < ((l.length : Int) - i).toNat by omega) ⟨⟨by omega, hl, by rw [ez]; exact h3⟩, hk⟩;rw [h2];refine vifd (fun _ => ?_) fun e => by omega
  exact ned2 (by omega) (nedd (by omega) (Xb trivial (vif (fun e => by cases e) fun _ => ar64 (by omega) hA')))
 ·refine vifd (fun e => by omega) fun _ => hk
theorem Xqb : Xgq := Xnq (fun e => match e with | [_, .i i, _, _, _, .l l, _, _] => ((l.length : Int) - i).toNat | _ => 0) fun W pass i qs ps all l u s K hs A hA => by
 obtain ⟨⟨h0, hl, h1⟩, hk⟩ := hs;unfold Xem
 by_cases hi : i < l.length
 ·rw [show l.length - i.toNat = (l.length - (i.toNat + 1)) + 1 by omega] at h1;obtain ⟨h2, h3⟩ := Xig h1;have ez : (i + 1).toNat = i.toNat + 1 := by omega
  have hA' := hA [.b pass, .i (i + 1), .ro _ qs, .ro _ ps, .i all, .l l, .l u, .l s] (show ((l.length : Int) - (i + 1)).toNat < ((l.length : Int) - i).toNat by omega) ⟨⟨by omega, hl, by rw [ez]; exact h3⟩, hk⟩;rw [h2];refine vifd (fun _ => ?_) fun e => by omega
  exact ned2 (by omega) (nedd (by omega) (Xb trivial (vif (fun e => by cases e) fun _ => ar64 (by omega) hA')))
 ·refine vifd (fun e => by omega) fun _ => hk
def Xra : LE Try.prog := ⟨10, 24, fun W => @Ytn W Xb0, Xqc⟩
def Xq9 : LE Try.prog := ⟨10, 24, fun W => @Ytn W Xhl, Xqb⟩
def le_dn : LE Try.prog := LE.pickY Xb0.T Xb0.H Xra Xq9 rfl rfl
def TL10 : Tab Try.prog := ⟨[Xie, Xid, Xj0, Xo3, Xf2, Xdj, Xj6], [Xrb, le_dn], []⟩
def Zfn [W : InW] (Q : DS -> Prop) := Pre True (Q [[Cl.b true]])
def Zfm [W : InW] (kQ : Ro Iv5) (kP : Ro Jc) (kA : Int) (sh : Ro Jb) := Zb <= 0 /\ List.length (Sp.dcA kQ.xs kP.xs kA sh.xs) <= 1000 /\ Sp.anyF (Sp.outL (Sp.uns sh.xs) (Sp.dcA kQ.xs kP.xs kA sh.xs)) Zer (List.length (Sp.dcA kQ.xs kP.xs kA sh.xs) - Int.toNat Zb) = false
def Zfl [W : InW] (kQ : Ro Iv5) (kP : Ro Jc) (kA : Int) (sh : Ro Jb) (x : Int) := Sp.seenF (Sp.dcA kQ.xs kP.xs kA sh.xs) (Sp.rdgV x sh.xs) (Sp.uns sh.xs) Zer (List.length (Sp.uns sh.xs) - Int.toNat Zb) sh.xs
def Xcn [W : InW] (kQ : Ro Iv5) (kP : Ro Jc) (kA : Int) (sh : Ro Jb) (x : Int) (Q : DS -> Prop) : Prop :=
 Pre True (Pre True (Pre True (Vif (!decide (Sp.askE kQ.xs kP.xs kA sh.xs = 0)) (Vif (!decide (Sp.askE kQ.xs kP.xs kA sh.xs = 0)) (Vif (decide (Sp.askE kQ.xs kP.xs kA sh.xs = Sp.askE kQ.xs kP.xs kA sh.xs)) (Vif (decide ((↑(List.length (Sp.dcA kQ.xs kP.xs kA sh.xs)) : Int) = 0)) (Zfn Q) (Q Zey)) (Q Zey)) (Q Zey)) (Vif (!decide (Sp.askE kQ.xs kP.xs kA sh.xs = 0)) (Q Zey) (Vif (!decide (Sp.askE kQ.xs kP.xs kA sh.xs = 0)) (Q Zey) (Vif (!decide (Sp.ocA kQ.xs kP.xs kA sh.xs = 2) == decide (Zb < (↑(List.length (Sp.dcA kQ.xs kP.xs kA sh.xs)) : Int))) (Q Zey) (Pre (Sp.Few sh.xs /\ List.length (Sp.uns sh.xs) <= 7 /\ 0 <= x /\ x <= 65535) (Pre (Sp.Few sh.xs) (Pre True (Vif (!decide (Sp.markE kQ.xs kP.xs kA (Sp.rdgV x sh.xs) = 0)) (Q Zey) (Pre (Zb <= 0 /\ Zb <= (↑(List.length (Sp.uns sh.xs)) : Int) /\ Sp.DeOk kQ.xs kP.xs kA (Sp.dcA kQ.xs kP.xs kA sh.xs) (Sp.rdgV x sh.xs) (Sp.uns sh.xs) (Sp.markB kQ.xs kP.xs kA (Sp.rdgV x sh.xs)) /\ Sp.Few sh.xs /\ Sp.BxOk sh.xs (Sp.uns sh.xs)) (Vif (Sp.anyF (Sp.inL (Sp.dcA kQ.xs kP.xs kA sh.xs) (Sp.uns sh.xs)) Zer (List.length (Sp.uns sh.xs) - Int.toNat Zb)) (Pre (Zfm kQ kP kA sh) (Pre True (Vif (decide (Sp.askE kQ.xs kP.xs kA (Zfl kQ kP kA sh x) = 0)) (Vif (decide (Sp.ocA kQ.xs kP.xs kA (Zfl kQ kP kA sh x) = 1)) (Vif (Sp.markB kQ.xs kP.xs kA (Sp.rdgV x sh.xs)) (Zfn Q) (Vif (decide (Sp.ocA kQ.xs kP.xs kA (Zfl kQ kP kA sh x) = 0)) (Vif (!Sp.markB kQ.xs kP.xs kA (Sp.rdgV x sh.xs)) (Zfn Q) (Q Zey)) (Q Zey))) (Vif (decide (Sp.ocA kQ.xs kP.xs kA (Zfl kQ kP kA sh x) = 0)) (Vif (!Sp.markB kQ.xs kP.xs kA (Sp.rdgV x sh.xs)) (Zfn Q) (Q Zey)) (Q Zey))) (Q Zey)))) (Pre (Zfm kQ kP kA sh) (Pre True (Vif (decide (Sp.askE kQ.xs kP.xs kA sh.xs = 0)) (Vif (decide (Sp.ocA kQ.xs kP.xs kA sh.xs = 1)) (Vif (Sp.markB kQ.xs kP.xs kA (Sp.rdgV x sh.xs)) (Zfn Q) (Vif (decide (Sp.ocA kQ.xs kP.xs kA sh.xs = 0)) (Vif (!Sp.markB kQ.xs kP.xs kA (Sp.rdgV x sh.xs)) (Zfn Q) (Q Zey)) (Q Zey))) (Vif (decide (Sp.ocA kQ.xs kP.xs kA sh.xs = 0)) (Vif (!Sp.markB kQ.xs kP.xs kA (Sp.rdgV x sh.xs)) (Zfn Q) (Q Zey)) (Q Zey))) (Q Zey))))))))))))))))
theorem Xjr (W : InW) (kQ kP kA sh x Q) : Ywt (cxT Try.prog TT TL10 1000 50) 1000 10 [.agg [.rs _ kQ, .rs _ kP, .si .i64 kA], .rs _ sh, .si .u16 x] [] 0 (Y02 [(false, [.bool])] Q) (fun _ _ _ _ => Stuck 421) = Xcn kQ kP kA sh x Q := by kernel_rfl
abbrev Xbq : List AT := [.agg [.sl Iv5, .sl Jc, .int .i64], .one (.sl Jb), .one (.int .u16)]
theorem Xkm {pre : DS -> Prop} {res : DS -> DS} (hyp_ : ∀ (W : InW) (kQ : Ro Iv5) (kP : Ro Jc) (kA : Int) (sh : Ro Jb) (x : Int), pre [[.l kQ.xs, .l kP.xs, .i kA], [.l sh.xs], [.i x]] -> ∀ Q : DS -> Prop, Q (res [[.l kQ.xs, .l kP.xs, .i kA], [.l sh.xs], [.i x]]) -> Xcn kQ kP kA sh x Q) : PureOk Try.prog 10 Xbq [(false, [.bool])] pre res :=
 PureOk.of' (fun W => @TT W) (fun W => @Xc W) Xa TL10 1000 50 fun W kQ kP kA sh x hp =>
  (Xjr W kQ kP kA sh x (fun o => o = res [[.l kQ.xs, .l kP.xs, .i kA], [.l sh.xs], [.i x]])).mpr (hyp_ W kQ kP kA sh x hp _ rfl)
theorem Xc5 : PureOk Try.prog 10 Xbq [(false, [.bool])] (WfD Xbq) fun _ => [[.b true]] :=
 Xkm fun W qs ps all sh x hp Q h => by
  have hx := Xos (WfL.head (WfD.head (WfD.head (WfD.head hp).2).2).1).1;unfold Xcn;delta Zfm Zfl Zer Zey Zfn Zb
  by_cases e : Sp.askE qs.xs ps.xs all sh.xs = 0
  ·obtain ⟨hk, hs⟩ := Sp.askE_ok e;have hr := Sp.rdgV_mem hx.1 sh.xs;have f1 := Sp.rd_facts hk hs hr;have f2 := Sp.deOk hk hs hr;obtain ⟨f3, f4⟩ := Sp.seen_end hk hs hr;have f5 : Sp.anyF (Sp.outL (Sp.uns sh.xs) (Sp.dcS qs.xs ps.xs all sh.xs)) 0 (Sp.dcS qs.xs ps.xs all sh.xs).length = false := Sp.dcS_out;have f6 : (Sp.dcS qs.xs ps.xs all sh.xs).length <= 1000 := Nat.le_trans (Sp.dcS_len hs) (by decide);have f7 : (0 : Int) < (Sp.dcS qs.xs ps.xs all sh.xs).length ↔ Sp.ocV qs.xs ps.xs all sh.xs = 2 := by rw [<- Sp.dcS_pos (qs := qs.xs) (ps := ps.xs) (all := all) (sh := sh.xs)]; omega
   have f8 := (Sp.rds_mark hk hs hr).2.2;have hf := hs.toShapeOk.few hk;have h7 := hs.seven;have hb := Xlg h7;have f9 := @Sp.seenF_no (Sp.dcS qs.xs ps.xs all sh.xs) (Sp.rdgV x sh.xs) (Sp.uns sh.xs) (Sp.uns sh.xs).length 0 sh.xs;rw [<- f8] at f2 f4;simp only [Vif_iff, Pre_iff, e, f1.e, hf, h7, hb, hx.1, hx.2, Sp.dcA_ok e, show Int.toNat 0 = 0 from rfl, Nat.sub_zero, f5, f6, f2, f3, f4];have f10 := Sp.ocA_ok (qs := qs.xs) (ps := ps.xs) (all := all) e;generalize Sp.markB qs.xs ps.xs all (Sp.rdgV x sh.xs) = B at *
   by_cases c : Sp.anyF (Sp.inL (Sp.dcS qs.xs ps.xs all sh.xs) (Sp.uns sh.xs)) 0 (Sp.uns sh.xs).length = true
   ·rw [f10];simp only [c];generalize ((Sp.dcS qs.xs ps.xs all sh.xs).length : Int) = L at *;generalize Sp.ocV qs.xs ps.xs all sh.xs = O at *;clear f1 f2 f9 f3 f4;cases B <;> by_cases hO : O = 2 <;> simp [h, hO, f7]
   ·have c : Sp.anyF (Sp.inL (Sp.dcS qs.xs ps.xs all sh.xs) (Sp.uns sh.xs)) 0 (Sp.uns sh.xs).length = false := by simpa using c
    rw [f9 c] at f4;simp only [c, f4];rw [f10] at f4;rw [f4] at f7;generalize ((Sp.dcS qs.xs ps.xs all sh.xs).length : Int) = L at *;clear f1 f2 f9 f3 f4;cases B <;> simp [h] at f7 ⊢ <;> first | (intro hL; exact absurd hL (by omega)) | omega | trace_state
  ·simp [Vif_iff, Pre_iff, e, h, Sp.ocA, Sp.dcA]
end Go.Proofs.Ytifhdbgciehicaa
namespace Go.Proofs.Ytifhdbgciehicaa.answerDecides
open Go.ChangeShapes Go.WideShapes Go.ChangeAt Go.RowKit
set_option maxRecDepth 100000
theorem own : ownKnob Try.prog.godebug = none := by kernel_rfl
theorem laid : laidOutB Try.prog = true := by kernel_rfl
theorem lifted (os : Os) (started : os.Started) (H : Type) (enc : TypeId × Value -> H) :
  ReturnsInHanded {} Try.checked os 10 .any (Rows.answerDecidesSpec.pre6 enc Try.prog Try.f10 Rows.answerDecidesRow.domain false) (Rows.answerDecidesSpec.post enc Try.prog Try.f10 false true false false) := by
 refine returnsInHanded_of_change (C := Try.checked) own started (by kernel_rfl) Try.func10
  (ChangeSpec.witness6 (enc := enc) (C := Try.checked) false ⟨#[], #[(.agg #[.slice none 0 0, .slice none 0 0, .int .i64 0]), (.slice none 0 0), (.int .u16 0)], []⟩ 8 (by kernel_rfl) (by kernel_rfl) (by kernel_rfl) (by kernel_rfl)) ?_
 intro W base args ds gs before hval hW _ _;exact law_end (f := Try.f10) (s := Rows.answerDecidesSpec) (by kernel_rfl) Try.underlying4 (by kernel_rfl) rfl laid (by kernel_rfl)
  (fun ds h => by match ds, (show ds.length = 3 from h) with | [_, _, _], _ => exact ⟨rfl, rfl, rfl⟩) Xc5 hval hW
theorem over : Rows.answerDecidesRow.holds Try.pinned (OpenSpec.ofChange Rows.answerDecidesSpec) :=
 OpenClaim.holds_of_wide 10 Try.f10 rfl rfl rfl rfl rfl rfl rfl ⟨rfl, rfl, rfl, rfl, rfl⟩ rfl rfl rfl rfl rfl (by kernel_rfl) Try.func10 (by kernel_rfl)
  (of_decide_eq_true (by kernel_rfl)) (by unfold Func.isWrapper; first | (rw [if_pos (by decide +kernel)]; kernel_rfl) | (rw [if_neg (by decide +kernel)]; exact ⟨rfl, rfl⟩))
  (fun os started H enc _ => lifted os started H enc)
theorem proved : Rows.AnswerDecidesSaid := over
end Go.Proofs.Ytifhdbgciehicaa.answerDecides
