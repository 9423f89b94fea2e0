/-
  'AnswerStruck': for every input the law returns true, and what is handed in reads as before. No condition.
-/
import Derived.Test.YtifhdbgciehicaaQskd
import Derived.Test.YtifhdbgciehicaaRows
import Derived.WalkKit
import Derived.ProofKit
set_option linter.unusedVariables false
set_option linter.unusedSectionVars false
set_option linter.unusedSimpArgs false
noncomputable section
namespace Go.Proofs.Ytifhdbgciehicaa
open Go.RowKit
set_option maxRecDepth 100000
theorem vif_t [InW] {b : Bool} {A B : Prop} (hb : b = true) (ha : A) : Vif b A B := Vif_iff.2 ⟨fun _ => ha, fun h => absurd (hb.symm.trans h) (by decide)⟩
theorem Xkg [W : InW] (Q : DS -> Prop) (h : Q [[.b true]]) : Xbf Q := by
 unfold Xbf;delta Zfa Zew Zex Zey Zez Zfc Zfb Zev Zb
 repeat first | refine vif_t (by kernel_rfl) ?_ | refine Pre_iff.2 ⟨trivial, ?_⟩ | refine Pre_iff.2 ⟨by kernel_rfl, ?_⟩ | refine Pre_iff.2 ⟨⟨by kernel_rfl, by kernel_rfl, by kernel_rfl⟩, ?_⟩
 exact (congrArg Q (by kernel_rfl)).mpr h
def Xjn : PC Try.prog := ⟨22, [], [(false, [.bool])], fun _ => True, fun _ => [[.b true]], Xj5 fun W hp Q h => Xkg Q h⟩
set_option maxHeartbeats 1600000
namespace Sp
def bitN (x : Int) (i : Nat) : Int := x / 2 ^ i % 2
def rdgF (u : Dt) (x : Int) : Nat -> Nat -> Dt -> Dt
 | _, 0, sh => sh
 | i, n + 1, sh => rdgF u x (i + 1) n (withD sh (cA u i).toNat (cB u i).toNat (bitN x i))
def rdgV (x : Int) (sh : Dt) : Dt := rdgF (uns sh) x 0 (uns sh).length sh
theorem bitN_nat (x i : Nat) : bitN (x : Int) i = ((x / 2 ^ i % 2 : Nat) : Int) := by
 unfold bitN;rw [Int.natCast_emod, Int.natCast_ediv, Int.natCast_pow]; rfl
theorem rdgF_it (us : List (Nat × Nat)) (x : Nat) : ∀ n i s, i + n = us.length -> rdgF (us.map prC) x i n s = itW (us.drop i) (x / 2 ^ i) s
 | 0, i, s, h => by rw [List.drop_eq_nil_of_le (by omega)]; rfl
 | n + 1, i, s, h => by
  have hi : i < us.length := by omega
  rw [List.drop_eq_getElem_cons hi];unfold rdgF itW;rw [(prC_cel us i hi).1, (prC_cel us i hi).2, bitN_nat, Int.toNat_natCast, Int.toNat_natCast, rdgF_it us x n (i + 1) _ (by omega), Nat.pow_succ, Nat.div_div_eq_div_mul]
theorem rdgV_it {x : Int} (h : 0 <= x) (sh : Dt) : rdgV x sh = itW (pos sh) x.toNat sh := by
 obtain ⟨n, rfl⟩ := Int.eq_ofNat_of_zero_le h;unfold rdgV;rw [uns_pos, show (List.map prC (pos sh)).length = (pos sh).length by simp];have := rdgF_it (pos sh) n (pos sh).length 0 sh (by omega);simpa using this
theorem itW_mod : ∀ (ps : List (Nat × Nat)) (b : Nat) (s : Dt), itW ps b s = itW ps (b % 2 ^ ps.length) s
 | [], _, _ => rfl
 | p :: ps, b, s => by
  simp only [itW, List.length_cons];rw [itW_mod ps (b / 2), itW_mod ps (b % 2 ^ (ps.length + 1) / 2), Nat.pow_succ];have h1 : b % (2 ^ ps.length * 2) % 2 = b % 2 := Nat.mod_mul_left_mod b _ 2;have h2 : b % (2 ^ ps.length * 2) / 2 % 2 ^ ps.length = b / 2 % 2 ^ ps.length := by
   rw [Nat.mul_comm, Nat.mod_mul_right_div_self, Nat.mod_mod]
  rw [h1, h2]
theorem rdgV_mem {x : Int} (h : 0 <= x) (sh : Dt) : rdgV x sh ∈ rds sh := by
 rw [rdgV_it h, rds_it _ _ _ rfl, itW_mod];exact ⟨_, Nat.mod_lt _ (Nat.pow_pos (by decide)), rfl⟩
theorem rds_shok {qs sh : Dt} (h : ShOk qs sh) : ∀ r ∈ rds sh, ShOk qs r :=
 rds_ind (P := fun r => ShOk qs r) h fun s q j v hs _ hv => hs.withD hv
theorem ask_of {qs ps sh : Dt} {all : Int} (hk : KeyOk qs ps all) (hs : ShOk qs sh) : askE qs ps all sh = 0 := by
 unfold askE;rw [if_pos (chkE_iff.2 hk), shE_iff.2 hs]
def boxV (u : Dt) (a b : Int) (i : Nat) : Bool := decide (cA u i = a) && decide (cB u i = b)
def hasB (u : Dt) (a b : Int) : Bool := anyF (boxV u a b) 0 u.length
end Sp
def TN1 : Tab Try.prog := ⟨[Xcy, Xji], [], []⟩
def Xck [W : InW] (kQ : Ro Iv5) (kP : Ro Jc) (kA : Int) (sh : Ro Jb) (Q : DS -> Prop) : Prop :=
 Pre True (Vif (decide (Sp.chkE kQ.xs kP.xs kA = 0)) (Pre (Sp.KeyOk kQ.xs kP.xs kA) (Q [[Cl.b (decide (Sp.shE kQ.xs sh.xs = 0))]])) (Q [[Cl.b false]]))
theorem Xi3 (W : InW) (kQ kP kA sh Q) : Ywx (cxT Try.prog TT TN1 1000 50) 1000 40 [.agg [.rs _ kQ, .rs _ kP, .si .i64 kA], .rs _ sh] [] 0 (Y04 [(false, [.bool])] Q) (fun _ _ _ _ => Stuck 421) = Xck kQ kP kA sh Q := by kernel_rfl
abbrev Xbq : List AT := [.agg [.sl Iv5, .sl Jc, .int .i64], .one (.sl Jb)]
theorem Xjz {pre : DS -> Prop} {res : DS -> DS} (hyp_ : ∀ (W : InW) (kQ : Ro Iv5) (kP : Ro Jc) (kA : Int) (sh : Ro Jb), pre [[.l kQ.xs, .l kP.xs, .i kA], [.l sh.xs]] -> ∀ Q : DS -> Prop, Q (res [[.l kQ.xs, .l kP.xs, .i kA], [.l sh.xs]]) -> Xck kQ kP kA sh Q) : PureOk Try.prog 40 Xbq [(false, [.bool])] pre res :=
 PureOk.of' (fun W => @TT W) (fun W => @Xe W) Xa TN1 1000 50 fun W kQ kP kA sh hp =>
  (Xi3 W kQ kP kA sh (fun o => o = res [[.l kQ.xs, .l kP.xs, .i kA], [.l sh.xs]])).mpr (hyp_ W kQ kP kA sh hp _ rfl)
abbrev Xs (ds : DS) : DS := match ds with | [[.l qs, .l ps, .i all], [.l sh]] => [[.b (decide (Sp.askE qs ps all sh = 0))]] | _ => []
theorem Xmc : PureOk Try.prog 40 Xbq [(false, [.bool])] (fun _ => True) Xs :=
 Xjz fun W qs ps all sh hp Q h => by
  unfold Xck;refine ⟨trivial, vifd (fun e => ⟨Sp.chkE_iff.1 e, ?_⟩) fun e => ?_⟩
  ·have e2 : Sp.askE qs.xs ps.xs all sh.xs = Sp.shE qs.xs sh.xs := by unfold Sp.askE; rw [if_pos e]
   simpa [Xs, e2] using h
  ·have e2 : Sp.askE qs.xs ps.xs all sh.xs = Sp.chkE qs.xs ps.xs all := by unfold Sp.askE; rw [if_neg e]
   simpa [Xs, e2, e] using h
def Xjg : PC Try.prog := ⟨40, Xbq, [(false, [.bool])], fun _ => True, Xs, Xmc⟩
def Xe6 [InW] (e : List Ed) (K : Nat -> List Ed -> Prop) : Prop := match e with
 | [.i x, .i i, .l sh, .l u] => Pre (0 <= i /\ i <= u.length /\ Sp.Few sh /\ Sp.BxOk sh u /\ 0 <= x /\ x <= 65535) (K 0 [.l (Sp.rdgF u x i.toNat (u.length - i.toNat) sh)])
 | _ => False
def TN5 : Tab Try.prog := ⟨[Xht, Xl6], [], []⟩
def Xgw : LC where
 len := 27
 T := [(0, (.opq 6)), (1, .int .u16), (5, (.row 1)), (6, .int .i64)]
 H := [(6, .fro [.sl Jc]), (1, .arr 44 Ja)]
 W := (rg 9 17)
 outs := [⟨.exit 0, [(0, (.opq 12))], [(12, .fro [.sl Jc])], ([1, 5, 6] ++ rg 9 17)⟩]
 spec := Xe6
def Xd9 [W : InW] (x i : Int) (sh u : Dt) (A : List Ed -> Prop) (K : Nat -> List Ed -> Prop) : Prop :=
 Vif (decide (i < (↑(u.length) : Int))) (Need (decide (0 <= i) && decide (i < (↑(u.length) : Int))) (Need (decide (i.toNat < u.length)) (Need (decide (0 <= i)) (Ar .i64 ((x.fdiv ((2 : Int) ^ min i.toNat (16 : Nat))).tmod (2 : Int)) fun z => Pre (Sp.Few sh /\ ((0 : Int) <= (cel u i.toNat Zd).int /\ (cel u i.toNat Zd).int < (↑(sh.length) : Int)) /\ (0 : Int) <= (cel u i.toNat (0+1)).int /\ (cel u i.toNat (0+1)).int < (↑(List.length (Sp.row sh (cel u i.toNat Zd).int.toNat)) : Int)) (Ar .i64 (i + 1) fun z_1 => A [.i x, .i z_1, .l (Sp.withD sh (cel u i.toNat Zd).int.toNat (cel u i.toNat (0+1)).int.toNat z), .l u]))))) (K 0 [.l sh])
theorem Xk7 (W : InW) (x i sh u A K) : Yfc { cxT Try.prog TT TN5 1000 50 with fn := 41 } 1000 (Yn8 Try.prog 41 4) (Yd8 27 [(0, .opq 6), (1, .si .u16 x), (5, .rw 1), (6, .si .i64 i)] (rg 9 17)) [(6, .fro [.sl Jc] sh), (1, .arr 44 Ja u)] (Yug Xgw A K) = Xd9 x i sh u A K := by kernel_rfl
def Xf5 : Prop := ∀ (W : InW) (body a : Code), (Try.prog.funcs[41]?).bind (·.body) = some body -> a ∈ Y0 body -> Yfw a = 4 -> @Ymr W Try.prog a (@Yto W Xgw)
theorem Xms (meas : [InW] -> List Ed -> Nat) (hyp_ : ∀ (W : InW) x i sh u K, Xe6 [.i x, .i i, .l sh, .l u] K -> ∀ A : List Ed -> Prop, (∀ e, meas e < meas [.i x, .i i, .l sh, .l u] -> Xe6 e K -> A e) -> Xd9 x i sh u A K) : Xf5 :=
 LE.okOf' (fun W => @TT W) (fun W => @Xe W) Xa TN5 1000 50 (by kernel_rfl) Xgw (fun W => @meas W) fun W x i sh u K hs =>
  (Xk7 W x i sh u (fun e => meas e < meas [.i x, .i i, .l sh, .l u] /\ Xe6 e K) K).mpr (hyp_ W x i sh u K hs _ fun e h1 h2 => ⟨h1, h2⟩)
theorem Xkv {x i : Int} (hx : 0 <= x) (h0 : 0 <= i) (h1 : i < 7) : (x.fdiv (2 ^ min i.toNat 16)).tmod 2 = Sp.bitN x i.toNat := by
 rw [show min i.toNat 16 = i.toNat by omega];have hp : (0 : Int) <= 2 ^ i.toNat := Int.le_of_lt (Int.pow_pos (by decide));rw [Int.fdiv_eq_ediv_of_nonneg _ hp, Int.tmod_eq_emod_of_nonneg (Int.ediv_nonneg hx hp)];rfl
theorem Xih (x : Int) (i : Nat) : Sp.bitN x i = 0 \/ Sp.bitN x i = 1 := by unfold Sp.bitN; omega
theorem Xig {sh u : Dt} (h : Sp.BxOk sh u) (q j : Nat) (v : Int) : Sp.BxOk (Sp.withD sh q j v) u :=
 ⟨h.few, fun i hi => by have := h.in_ i hi; rw [Sp.withD_len, Sp.withD_rlen]; exact this⟩
theorem Xqg {sh : Dt} (h : (Sp.uns sh).length <= 7) : Sp.BxOk sh (Sp.uns sh) := by
 refine ⟨h, fun i hi => ?_⟩;obtain ⟨p, hp, e1, e2⟩ := Sp.uns_cel hi;have := Sp.mem_pos.1 hp;rw [e1, e2, Int.toNat_natCast];omega
theorem Xo8 : Xf5 := Xms (fun e => match e with | [_, .i i, _, .l u] => ((u.length : Int) - i).toNat | _ => 0) fun W x i sh u K hs A hA => by
 obtain ⟨⟨h0, h1, hf, hb, x0, x1⟩, hk⟩ := hs;have hu := hb.few;unfold Xd9;delta Zd;simp only [Nat.zero_add]
 by_cases hi : i < u.length
 ·rw [show u.length - i.toNat = (u.length - (i.toNat + 1)) + 1 by omega] at hk;simp only [Sp.rdgF] at hk;have hin := hb.in_ i.toNat (by omega);have ez : (i + 1).toNat = i.toNat + 1 := by omega
  have hv := Xih x i.toNat;have go := hA [.i x, .i (i + 1), .l (Sp.withD sh (Sp.cA u i.toNat).toNat (Sp.cB u i.toNat).toNat (Sp.bitN x i.toNat)), .l u] (show ((u.length : Int) - (i + 1)).toNat < ((u.length : Int) - i).toNat by omega) ⟨⟨by omega, by omega, hf.withD _ _ _, Xig hb _ _ _, x0, x1⟩, by rw [ez]; exact hk⟩;rw [Xkv x0 h0 (by omega)];clear hA hk;refine vifd (fun _ => ?_) fun e => by omega
  refine ned (by simp only [Bool.and_eq_true, decide_eq_true_eq]; omega) (nedd (by omega) (nedd (by omega) (ar64 (by omega) ⟨⟨hf, ⟨hin.1, hin.2.1⟩, hin.2.2⟩, ar64 (by omega) go⟩)))
 ·rw [show u.length - i.toNat = 0 by omega] at hk;refine vifd (fun e => by omega) fun _ => hk
def Xia : LE Try.prog := ⟨41, 4, fun W => @Yto W Xgw, Xo8⟩
def Xe7 [InW] (e : List Ed) (K : Nat -> List Ed -> Prop) : Prop := match e with
 | [.ro _ sh, .i x, .i i, .l u] => Pre (i = 0 /\ Sp.Few sh.xs /\ Sp.BxOk sh.xs u /\ 0 <= x /\ x <= 65535) (Vif (decide (u.length = 0)) (K 0 [.ro _ sh]) (K 1 [.l (Sp.rdgF u x 0 u.length sh.xs)]))
 | _ => False
def Xgx : LC where
 len := 27
 T := [(0, .rs Jb), (1, .int .u16), (5, (.row 1)), (6, .int .i64)]
 H := [(1, .arr 44 Ja)]
 W := (rg 9 17)
 outs := [⟨.exit 0, [(0, .rs Jb)], [], ([1, 5, 6] ++ rg 9 17)⟩, ⟨.exit 0, [(0, (.opq 12))], [(12, .fro [.sl Jc])], ([1, 5, 6] ++ rg 9 17)⟩]
 spec := Xe7
def Xea [W : InW] (sh : Ro Jb) (x i : Int) (u : Dt) (A : List Ed -> Prop) (K : Nat -> List Ed -> Prop) : Prop :=
 Vif (decide (i < (↑(u.length) : Int))) (Need (decide (0 <= i) && decide (i < (↑(u.length) : Int))) (Need (decide (i.toNat < u.length)) (Need (decide (0 <= i)) (Ar .i64 ((x.fdiv ((2 : Int) ^ min i.toNat (16 : Nat))).tmod (2 : Int)) fun z => Pre (Sp.Few sh.xs /\ ((0 : Int) <= (cel u i.toNat Zd).int /\ (cel u i.toNat Zd).int < (↑(sh.xs.length) : Int)) /\ (0 : Int) <= (cel u i.toNat (0+1)).int /\ (cel u i.toNat (0+1)).int < (↑(List.length (Sp.row sh.xs (cel u i.toNat Zd).int.toNat)) : Int)) (Ar .i64 (i + 1) fun z_1 => Pre (0 <= z_1 /\ z_1 <= (↑(u.length) : Int) /\ Sp.Few (Sp.withD sh.xs (cel u i.toNat Zd).int.toNat (cel u i.toNat (0+1)).int.toNat z) /\ Sp.BxOk (Sp.withD sh.xs (cel u i.toNat Zd).int.toNat (cel u i.toNat (0+1)).int.toNat z) u /\ 0 <= x /\ x <= 65535) (K (0+1) [.l (Sp.rdgF u x z_1.toNat (u.length - z_1.toNat) (Sp.withD sh.xs (cel u i.toNat Zd).int.toNat (cel u i.toNat (0+1)).int.toNat z))])))))) (K 0 [.ro Zdw sh])
theorem Xk8 (W : InW) (sh x i u A K) : Yfc { cxT Try.prog TT TN5 1000 50 with fn := 41 } 1000 (Yn8 Try.prog 41 4) (Yd8 27 [(0, .rs _ sh), (1, .si .u16 x), (5, .rw 1), (6, .si .i64 i)] (rg 9 17)) [(1, .arr 44 Ja u)] (Xfm Xgx ((Xia).f W) A K) = Xea sh x i u A K := by kernel_rfl
def Xf6 : Prop := ∀ (W : InW) (body a : Code), (Try.prog.funcs[41]?).bind (·.body) = some body -> a ∈ Y0 body -> Yfw a = 4 -> @Ymr W Try.prog a (@Yto W Xgx)
theorem Xmt (meas : [InW] -> List Ed -> Nat) (hyp_ : ∀ (W : InW) sh x i u K, Xe7 [.ro _ sh, .i x, .i i, .l u] K -> ∀ A : List Ed -> Prop, (∀ e, meas e < meas [.ro _ sh, .i x, .i i, .l u] -> Xe7 e K -> A e) -> Xea sh x i u A K) : Xf6 :=
 LE.okOfY (fun W => @TT W) (fun W => @Xe W) Xa TN5 1000 50 (by kernel_rfl) Xgx (Xia).f (Xia).ok (fun W => @meas W) fun W sh x i u K hs =>
  (Xk8 W sh x i u (fun e => meas e < meas [.ro _ sh, .i x, .i i, .l u] /\ Xe7 e K) K).mpr (hyp_ W sh x i u K hs _ fun e h1 h2 => ⟨h1, h2⟩)
theorem Xo9 : Xf6 := Xmt (fun _ => 0) fun W sh x i u K hs A hA => by
 obtain ⟨⟨rfl, hf, hb, x0, x1⟩, hk⟩ := hs;have hu := hb.few;unfold Xea;delta Zdw Zd;simp only [Nat.zero_add]
 by_cases hi : 0 < u.length
 ·have hin := hb.in_ 0 hi;have hk := hk.2 (decide_eq_false (by omega));rw [show u.length = (u.length - 1) + 1 by omega] at hk;simp only [Sp.rdgF] at hk;rw [Xkv x0 (by omega) (by omega)];have hv := Xih x 0;rw [show Int.toNat 0 = 0 from rfl];refine vifd (fun _ => ?_) fun e => by omega
  refine ned (by simp only [Bool.and_eq_true, decide_eq_true_eq]; omega) (nedd (by omega) (nedd (by omega) (ar64 (by omega) ⟨⟨hf, ⟨hin.1, hin.2.1⟩, hin.2.2⟩, ar64 (by omega) ⟨⟨by omega, by omega, hf.withD _ _ _, Xig hb _ _ _, x0, x1⟩, ?_⟩⟩)));exact hk
 ·have hk := hk.1 (decide_eq_true (by omega));refine vifd (fun e => by omega) fun _ => hk
def Xp3 : LE Try.prog := ⟨41, 4, fun W => @Yto W Xgx, Xo9⟩
def TN6 : Tab Try.prog := ⟨[Xht], [Xp3], []⟩
def Xio [W : InW] (sh : Ro Jb) (x : Int) (Q : DS -> Prop) : Prop :=
 Pre (Sp.Few sh.xs) (Pre ((0 : Int) = 0 /\ Sp.Few sh.xs /\ Sp.BxOk sh.xs (Sp.uns sh.xs) /\ 0 <= x /\ x <= 65535) (Vif (decide (List.length (Sp.uns sh.xs) = 0)) (Q [[Cl.l sh.xs]]) (Q [[Cl.l (Sp.rdgF (Sp.uns sh.xs) x (0 : Nat) (List.length (Sp.uns sh.xs)) sh.xs)]])))
theorem Xn8 (W : InW) (sh x Q) : Ywx (cxT Try.prog TT TN6 1000 50) 1000 41 [.rs _ sh, .si .u16 x] [] 0 (Y04 [(false, [.fro [.sl Jc]])] Q) (fun _ _ _ _ => Stuck 421) = Xio sh x Q := by kernel_rfl
abbrev Xdl : List AT := [.one (.sl Jb), .one (.int .u16)]
theorem Xou {pre : DS -> Prop} {res : DS -> DS} (hyp_ : ∀ (W : InW) (sh : Ro Jb) (x : Int), pre [[.l sh.xs], [.i x]] -> ∀ Q : DS -> Prop, Q (res [[.l sh.xs], [.i x]]) -> Xio sh x Q) : PureOk Try.prog 41 Xdl [(false, [.fro [.sl Jc]])] pre res :=
 PureOk.of' (fun W => @TT W) (fun W => @Xe W) Xa TN6 1000 50 fun W sh x hp =>
  (Xn8 W sh x (fun o => o = res [[.l sh.xs], [.i x]])).mpr (hyp_ W sh x hp _ rfl)
abbrev Xdc (ds : DS) : DS := match ds with | [[.l sh], [.i x]] => [[.l (Sp.rdgV x sh)]] | _ => []
abbrev Xhr (ds : DS) : Prop := match ds with | [[.l sh], [.i x]] => Sp.Few sh /\ (Sp.uns sh).length <= 7 /\ 0 <= x /\ x <= 65535 | _ => False
theorem okrdV : PureOk Try.prog 41 Xdl [(false, [.fro [.sl Jc]])] Xhr Xdc :=
 Xou fun W sh x hp Q h => by
  obtain ⟨hf, h7, x0, x1⟩ : Sp.Few sh.xs /\ (Sp.uns sh.xs).length <= 7 /\ 0 <= x /\ x <= 65535 := hp;unfold Xio;simp only [Xdc, Sp.rdgV] at h;refine ⟨hf, ⟨rfl, hf, Xqg h7, x0, x1⟩, vifd (fun e => ?_) fun e => h⟩;rw [e] at h; exact h
def Xoc : PC Try.prog := ⟨41, Xdl, [(false, [.fro [.sl Jc]])], Xhr, Xdc, okrdV⟩
theorem Xkh {n : Int} (h : WfC (.int .u16) (.i n)) : 0 <= n /\ n <= 65535 := by
 cases h with
 | int _ _ h => simp [Lit.wf, IntKind.min, IntKind.max, IntKind.signed, IntKind.bits] at h; omega
theorem WfL.head {t : Ty} {ts : List Ty} {c : Cl} {cs : List Cl} (h : WfL (t :: ts) (c :: cs)) : WfC t c /\ WfL ts cs := by
 cases h with
 | cons h hs => exact ⟨h, hs⟩
theorem WfD.head {a : AT} {ats : List AT} {d : List Cl} {ds : DS} (h : WfD (a :: ats) (d :: ds)) : WfA a d /\ WfD ats ds := by
 obtain ⟨d', ds', e, h1, h2⟩ := h;cases e;exact ⟨h1, h2⟩
namespace Sp
theorem rds_with {v : Int} (hv : v = 0 \/ v = 1) (p : Nat × Nat) : ∀ n s, (pos s).length = n -> ∀ r ∈ rds s, withD r p.1 p.2 v ∈ rds (withD s p.1 p.2 v)
 | 0, s, hl, r, hr => by
  have e := List.length_eq_zero_iff.1 hl;rw [rds_nil e, List.mem_singleton] at hr;subst hr;rw [rds_nil (by rw [pos_with (by omega), e]; rfl)];exact List.mem_singleton.2 rfl
 | n + 1, s, hl, r, hr => by
  cases e : pos s with
  | nil => rw [e] at hl; simp at hl
  | cons q qs =>
   have step : ∀ w : Int, w = 0 \/ w = 1 -> r ∈ rds (withD s q.1 q.2 w) -> withD r p.1 p.2 v ∈ rds (withD s p.1 p.2 v) := by
    intro w hw hr;have ih := rds_with hv p n _ (by rw [pos_with_tl (by omega) e]; rw [e] at hl; simpa using hl) r hr
    by_cases c : q = p
    ·subst c; rw [withD_same] at ih; exact ih
    ·rw [withD_comm _ _ _ _ _ c] at ih;have hp : pos (withD s p.1 p.2 v) = q :: qs.filter (fun x => decide (x ≠ (p.1, p.2))) := by
      rw [pos_with (by omega), e, List.filter_cons_of_pos (by simpa using c)]
     rw [rds_cons hp, List.mem_append];rcases hw with rfl | rfl
     ·exact .inl ih
     ·exact .inr ih
   rw [rds_cons e, List.mem_append] at hr;exact hr.elim (step 0 (.inl rfl)) (step 1 (.inr rfl))
theorem rds_of_with {v : Int} (hv : v = 0 \/ v = 1) (p : Nat × Nat) : ∀ n s, (pos s).length = n -> p ∈ pos s -> ∀ r ∈ rds (withD s p.1 p.2 v), r ∈ rds s
 | 0, s, hl, hp, r, hr => by rw [List.length_eq_zero_iff.1 hl] at hp; cases hp
 | n + 1, s, hl, hp, r, hr => by
  cases e : pos s with
  | nil => rw [e] at hl; simp at hl
  | cons q qs =>
   rw [rds_cons e, List.mem_append]
   by_cases c : q = p
   ·subst c;rcases hv with rfl | rfl
    ·exact .inl hr
    ·exact .inr hr
   ·have hp' : pos (withD s p.1 p.2 v) = q :: qs.filter (fun x => decide (x ≠ (p.1, p.2))) := by
     rw [pos_with (by omega), e, List.filter_cons_of_pos (by simpa using c)]
    have hq : p ∈ qs := by rw [e] at hp; exact (List.mem_cons.1 hp).resolve_left fun h => c h.symm
    have step : ∀ w : Int, w = 0 \/ w = 1 -> r ∈ rds (withD (withD s p.1 p.2 v) q.1 q.2 w) -> r ∈ rds (withD s q.1 q.2 w) := by
     intro w hw hr;rw [withD_comm _ _ _ _ _ (fun h => c h.symm)] at hr;exact rds_of_with hv p n _ (by rw [pos_with_tl (by omega) e]; rw [e] at hl; simpa using hl) (by rw [pos_with_tl (by omega) e]; exact hq) r hr
    rw [rds_cons hp', List.mem_append] at hr;exact hr.elim (fun h => .inl (step 0 (.inl rfl) h)) fun h => .inr (step 1 (.inr rfl) h)
structure Same (a b : Dt) : Prop where
 len : a.length = b.length
 rlen : ∀ i, (row a i).length = (row b i).length
 val : ∀ i j, i < a.length -> j < (row a i).length -> bx (row a i) j = bx (row b i) j
theorem Same.symm {a b : Dt} (h : Same a b) : Same b a := ⟨h.len.symm, fun i => (h.rlen i).symm, fun i j h1 h2 => (h.val i j (by rw [h.len]; exact h1) (by rw [h.rlen]; exact h2)).symm⟩
theorem Same.trans {a b c : Dt} (h : Same a b) (h' : Same b c) : Same a c := ⟨h.len.trans h'.len, fun i => (h.rlen i).trans (h'.rlen i), fun i j h1 h2 => (h.val i j h1 h2).trans (h'.val i j (by rw [<- h.len]; exact h1) (by rw [<- h.rlen]; exact h2))⟩
theorem ansD_same {d d' : Dt} : ∀ n i a, (∀ j, i <= j -> j < i + n -> bx d j = bx d' j) -> ansD d i n a = ansD d' i n a
 | 0, _, _, _ => rfl
 | n + 1, i, a, h => by
  unfold ansD;rw [h i (by omega) (by omega), ansD_same n (i + 1) i fun j a b => h j (by omega) (by omega), ansD_same n (i + 1) a fun j a b => h j (by omega) (by omega)]
theorem ansL_same {d d' : Dt} : ∀ n i a, (∀ j, i <= j -> j < i + n -> bx d j = bx d' j) -> ansL d i n a = ansL d' i n a
 | 0, _, _, _ => rfl
 | n + 1, i, a, h => by
  unfold ansL;rw [h i (by omega) (by omega), ansL_same n (i + 1) i fun j a b => h j (by omega) (by omega), ansL_same n (i + 1) a fun j a b => h j (by omega) (by omega)]
theorem ansOf_same {d d' : Dt} (hl : d.length = d'.length) (h : ∀ j, j < d.length -> bx d j = bx d' j) : ansOf d = ansOf d' := by
 unfold ansOf;rw [<- hl, ansD_same _ _ _ fun j _ b => h j (by omega), ansL_same _ _ _ fun j _ b => h j (by omega)]
theorem Same.ans {a b : Dt} (h : Same a b) {i : Nat} (hi : i < a.length) : ansOf (row a i) = ansOf (row b i) := ansOf_same (h.rlen i) fun j hj => h.val i j hi hj
theorem addG_same {qs a b : Dt} : ∀ n i l, (∀ k, i <= k -> k < i + n -> ansOf (row a k) = ansOf (row b k)) -> addG qs a i n l = addG qs b i n l
 | 0, _, _, _ => rfl
 | n + 1, i, l, h => by
  unfold addG;rw [show ptsQ qs a i = ptsQ qs b i by unfold ptsQ ptsV; rw [h i (by omega) (by omega)], addG_same n (i + 1) _ fun k x y => h k (by omega) (by omega)]
theorem Same.mk_eq {a b : Dt} (h : Same a b) (qs ps : Dt) : Sp.mk qs ps a = Sp.mk qs ps b := by
 unfold Sp.mk;rw [<- h.len, addG_same _ _ _ fun k _ y => h.ans (by omega)]
theorem Same.ps {a b : Dt} (h : Same a b) (qs ps : Dt) (all : Int) : psS qs ps all a = psS qs ps all b := by unfold psS; rw [h.mk_eq]
theorem with_same {r : Dt} {p : Nat × Nat} {v : Int} (h1 : p.1 < r.length) (h2 : p.2 < (row r p.1).length) (h3 : bx (row r p.1) p.2 = v) : Same (withD r p.1 p.2 v) r := by
 refine ⟨withD_len _ _ _ _, fun i => withD_rlen _ _ _ _ _, fun i j hi hj => ?_⟩;rw [withD_len] at hi;rw [withD_rlen] at hj;rw [withD_bx _ _ _ _ _ _ hi hj]
 split
 ·rename_i e;cases e;exact h3.symm
 ·rfl
theorem in_pos {s r : Dt} (hr : r ∈ rds s) {p : Nat × Nat} (hp : p ∈ pos s) : p.1 < r.length /\ p.2 < (row r p.1).length := by
 have h1 := mem_pos.1 hp;have h2 := rds_shape r hr;rw [h2.1, h2.2];exact ⟨h1.1, h1.2.1⟩
theorem rds_01 {qs s : Dt} (hs : ShOk qs s) {r : Dt} (hr : r ∈ rds s) {i j : Nat} (hi : i < r.length) (hj : j < (row r i).length) : bx (row r i) j = 0 \/ bx (row r i) j = 1 := by
 have h1 := rds_shok hs r hr;have h2 := h1.val i j (by rw [<- h1.n]; exact hi) hj;have h3 : bx (row r i) j ≠ 2 := fun e => by
  have : (i, j) ∈ pos r := mem_pos.2 ⟨hi, hj, e⟩;rw [rds_sure r hr] at this;cases this
 omega
theorem uns_at {sh : Dt} {k : Nat} (hk : k < (uns sh).length) : ∃ p ∈ pos sh, cA (uns sh) k = p.1 /\ cB (uns sh) k = p.2 := uns_cel hk
def dcS (qs ps : Dt) (all : Int) (sh : Dt) : Dt := dcL qs ps all sh (uns sh) 0 (uns sh).length
end Sp
namespace Sp
def bA (u : Dt) (k : Nat) : Nat := (cA u k).toNat
def bB (u : Dt) (k : Nat) : Nat := (cB u k).toNat
def inL (l u : Dt) (k : Nat) : Bool := hasB l (cA u k) (cB u k)
def outL (u l : Dt) (k : Nat) : Bool := !hasB u (cA l k) (cB l k)
def at_ (r u : Dt) (k : Nat) : Int := bx (row r (bA u k)) (bB u k)
def seenF (l r u : Dt) : Nat -> Nat -> Dt -> Dt
 | _, 0, s => s
 | i, n + 1, s => seenF l r u (i + 1) n (if inL l u i = true then withD s (bA u i) (bB u i) (at_ r u i) else s)
theorem uns_ab {sh : Dt} {k : Nat} (hk : k < (uns sh).length) : (bA (uns sh) k, bB (uns sh) k) ∈ pos sh /\ cA (uns sh) k = bA (uns sh) k /\ cB (uns sh) k = bB (uns sh) k := by
 obtain ⟨p, hp, a, b⟩ := uns_at hk;have e1 : bA (uns sh) k = p.1 := by unfold bA; rw [a, Int.toNat_natCast]
 have e2 : bB (uns sh) k = p.2 := by unfold bB; rw [b, Int.toNat_natCast]
 rw [e1, e2, a, b];exact ⟨hp, rfl, rfl⟩
structure SeenOk (qs ps : Dt) (all : Int) (sh r s : Dt) (i : Nat) : Prop where
 ok : ShOk qs s
 sub : ∀ t ∈ rds s, t ∈ rds sh
 pos_ : ∀ p ∈ pos s, p ∈ pos sh /\ ∀ k, k < i -> inL (dcS qs ps all sh) (uns sh) k = true -> p ≠ (bA (uns sh) k, bB (uns sh) k)
 has_ : ∃ r' ∈ rds s, Same r' r
theorem SeenOk.go {qs ps sh r : Dt} {all : Int} (hs : ShOk qs sh) (hr : r ∈ rds sh) : ∀ n i s, i + n = (uns sh).length -> (∀ k, i <= k -> k < (uns sh).length -> (bA (uns sh) k, bB (uns sh) k) ∈ pos s) -> SeenOk qs ps all sh r s i -> SeenOk qs ps all sh r (seenF (dcS qs ps all sh) r (uns sh) i n s) (uns sh).length
 | 0, i, s, e, _, h => by rw [<- show i = (uns sh).length by omega]; exact h
 | n + 1, i, s, e, hp, h => by
  have hi : i < (uns sh).length := by omega
  have hnd : ∀ k, k < (uns sh).length -> k ≠ i -> (bA (uns sh) k, bB (uns sh) k) ≠ (bA (uns sh) i, bB (uns sh) i) := fun k hk hne e => by
   have hl := uns_len sh;have g : ∀ j (hj : j < (uns sh).length), (bA (uns sh) j, bB (uns sh) j) = (pos sh)[j]'(by omega) := fun j hj => by
    unfold bA bB;have := prC_cel (pos sh) j (by omega);rw [<- uns_pos] at this;rw [this.1, this.2, Int.toNat_natCast, Int.toNat_natCast]
   rw [g k hk, g i hi] at e;exact hne ((List.getElem_inj (pos_nd sh)).1 e)
  unfold seenF
  by_cases c : inL (dcS qs ps all sh) (uns sh) i = true
  ·rw [if_pos c];have hpi := hp i (Nat.le_refl _) hi;have hm := in_pos hr (uns_ab hi).1;have hv : at_ r (uns sh) i = 0 \/ at_ r (uns sh) i = 1 := rds_01 hs hr hm.1 hm.2;obtain ⟨r', hr', hsame⟩ := h.has_;have hposw : ∀ p, p ∈ pos (withD s (bA (uns sh) i) (bB (uns sh) i) (at_ r (uns sh) i)) ↔ p ∈ pos s /\ p ≠ (bA (uns sh) i, bB (uns sh) i) := fun p => by
    rw [pos_with (by omega), List.mem_filter, decide_eq_true_eq]
   refine SeenOk.go hs hr n (i + 1) _ (by omega) (fun k a b => (hposw _).2 ⟨hp k (by omega) b, hnd k b (by omega)⟩) ⟨h.ok.withD hv, fun t ht => h.sub t (rds_of_with hv (bA (uns sh) i, bB (uns sh) i) _ _ rfl hpi t ht), fun p hpp => ?_, ?_⟩
   ·obtain ⟨a, b⟩ := (hposw p).1 hpp;refine ⟨(h.pos_ p a).1, fun k hk hc => ?_⟩;rcases Nat.lt_or_ge k i with d | d
    ·exact (h.pos_ p a).2 k d hc
    ·rw [show k = i by omega]; exact b
   ·refine ⟨_, rds_with hv (bA (uns sh) i, bB (uns sh) i) _ _ rfl r' hr', ?_⟩;have hm' := in_pos hr' hpi;refine Same.trans (with_same (p := (bA (uns sh) i, bB (uns sh) i)) hm'.1 hm'.2 ?_) hsame;exact hsame.val _ _ hm'.1 hm'.2
  ·rw [if_neg c];refine SeenOk.go hs hr n (i + 1) s (by omega) (fun k a b => hp k (by omega) b) ⟨h.ok, h.sub, fun p hpp => ⟨(h.pos_ p hpp).1, fun k hk hc => ?_⟩, h.has_⟩;rcases Nat.lt_or_ge k i with d | d
   ·exact (h.pos_ p hpp).2 k d hc
   ·rw [show k = i by omega] at hc; exact absurd hc c
end Sp
namespace Sp
structure MoreK (ps ps' : Dt) (all all' : Int) : Prop where
 len : ps'.length = ps.length
 all_ : all <= all'
 parts : ∀ p, p < ps.length -> num ps p <= num ps' p
theorem MoreK.ps {qs ps ps' r : Dt} {all all' : Int} (h : MoreK ps ps' all all') (hl : (Sp.mk qs ps r).length = ps.length) (hp : psS qs ps' all' r = true) : psS qs ps all r = true := by
 unfold psS passOf at hp ⊢;rw [show Sp.mk qs ps' r = Sp.mk qs ps r by unfold Sp.mk; rw [h.len]] at hp;rw [Bool.and_eq_true, decide_eq_true_eq] at hp ⊢;refine ⟨Int.le_trans h.all_ hp.1, ?_⟩;have h2 := hp.2;unfold partsOk at h2 ⊢;rw [allF_0] at h2 ⊢;intro k hk;have h3 := of_decide_eq_true (h2 k hk);exact decide_eq_true (Int.le_trans (h.parts k (by omega)) h3)
theorem mk_len (qs ps sh : Dt) : (mk qs ps sh).length = ps.length := by unfold mk; rw [addG_len, List.length_replicate]
end Sp
namespace Sp
def sm (f : Nat -> Int) : Nat -> Nat -> Int
 | _, 0 => 0
 | i, n + 1 => f i + sm f (i + 1) n
theorem sumF_sm (f : Nat -> Int) : ∀ n i a, sumF f i n a = a + sm f i n
 | 0, _, a => by simp [sumF, sm]
 | n + 1, i, a => by rw [sumF, sumF_sm f n, sm]; omega
theorem sm_congr {f g : Nat -> Int} : ∀ n i, (∀ k, i <= k -> k < i + n -> f k = g k) -> sm f i n = sm g i n
 | 0, _, _ => rfl
 | n + 1, i, h => by rw [sm, sm, h i (by omega) (by omega), sm_congr n (i + 1) fun k a b => h k (by omega) (by omega)]
theorem sm_add (f : Nat -> Int) : ∀ a b i, sm f i (a + b) = sm f i a + sm f (i + a) b
 | 0, b, i => by simp [sm]
 | a + 1, b, i => by
  rw [show a + 1 + b = (a + b) + 1 by omega, sm, sm, sm_add f a b (i + 1), show i + 1 + a = i + (a + 1) by omega]; omega
theorem sm_shift (f : Nat -> Int) : ∀ n i, sm (fun k => f (k + 1)) i n = sm f (i + 1) n
 | 0, _ => rfl
 | n + 1, i => by rw [sm, sm, sm_shift f n (i + 1)]
theorem sm_set (f : Nat -> Int) (p : Nat) (v : Int) : ∀ n i, sm (fun k => if p = k then v else f k) i n = sm f i n + if i <= p /\ p < i + n then v - f p else 0
 | 0, i => by rw [if_neg (by omega)]; simp [sm]
 | n + 1, i => by
  rw [sm, sm, sm_set f p v n (i + 1)]
  by_cases h : p = i
  ·subst h;rw [if_pos rfl, if_neg (by omega), if_pos (by omega)]; omega
  ·rw [if_neg h]
   by_cases h2 : i <= p /\ p < i + (n + 1)
   ·rw [if_pos (by omega), if_pos h2]; omega
   ·rw [if_neg (by omega), if_neg h2]; omega
theorem total_sm (l : Dt) : total l = sm (num l) 0 l.length := by unfold total; rw [sumF_sm]; omega
theorem total_set {l : Dt} {p : Nat} {v : Int} (hp : p < l.length) : total (l.set p [.i v]) = total l + (v - num l p) := by
 rw [total_sm, total_sm, List.length_set, sm_congr (g := fun k => if p = k then v else num l k) _ _ fun k _ _ => num_set hp k, sm_set, if_pos ⟨Nat.zero_le _, by omega⟩]
def ptP (qs sh : Dt) (p k : Nat) : Int := if (qPart qs k).toNat = p then ptsQ qs sh k else 0
theorem addG_num {qs sh : Dt} {p : Nat} : ∀ n i l, (∀ k, i <= k -> k < i + n -> (qPart qs k).toNat < l.length) -> num (addG qs sh i n l) p = num l p + sm (ptP qs sh p) i n
 | 0, _, _, _ => by simp [addG, sm]
 | n + 1, i, l, h => by
  have hi := h i (by omega) (by omega);rw [addG, addG_num n (i + 1) _ fun k a b => by rw [List.length_set]; exact h k (by omega) (by omega), num_set hi, sm];unfold ptP
  by_cases c : (qPart qs i).toNat = p
  ·rw [if_pos c, if_pos c, c]; omega
  ·rw [if_neg c, if_neg c]; omega
theorem addG_total {qs sh : Dt} : ∀ n i l, (∀ k, i <= k -> k < i + n -> (qPart qs k).toNat < l.length) -> total (addG qs sh i n l) = total l + sm (ptsQ qs sh) i n
 | 0, _, _, _ => by simp [addG, sm]
 | n + 1, i, l, h => by
  have hi := h i (by omega) (by omega);rw [addG, addG_total n (i + 1) _ fun k a b => by rw [List.length_set]; exact h k (by omega) (by omega), total_set hi, sm];omega
theorem total_rep (n : Nat) : total (List.replicate n [.i 0]) = 0 := by
 rw [total_sm, sm_congr (g := fun _ => 0) _ _ fun k _ _ => num_rep _ _];generalize (List.replicate n [Cl.i 0]).length = m;have : ∀ m i, sm (fun _ => 0) i m = 0 := by
  intro m
  induction m with
  | zero => intro i; rfl
  | succ m ih => intro i; rw [sm, ih]; rfl
 exact this m 0
theorem mk_num {qs ps sh : Dt} {all : Int} (hk : KeyOk qs ps all) (hl : sh.length = qs.length) (p : Nat) : num (mk qs ps sh) p = sm (ptP qs sh p) 0 qs.length := by
 unfold mk;rw [addG_num _ _ _ fun k _ h => by rw [List.length_replicate]; have := hk.part k (by omega); omega, num_rep, hl];omega
theorem mk_total {qs ps sh : Dt} {all : Int} (hk : KeyOk qs ps all) (hl : sh.length = qs.length) : total (mk qs ps sh) = sm (ptsQ qs sh) 0 qs.length := by
 unfold mk;rw [addG_total _ _ _ fun k _ h => by rw [List.length_replicate]; have := hk.part k (by omega); omega, total_rep, hl];omega
theorem psS_iff {qs ps sh : Dt} {all : Int} (hk : KeyOk qs ps all) (hl : sh.length = qs.length) : psS qs ps all sh = true ↔ all <= sm (ptsQ qs sh) 0 qs.length /\ ∀ p, p < ps.length -> num ps p <= sm (ptP qs sh p) 0 qs.length := by
 unfold psS passOf partsOk;rw [Bool.and_eq_true, decide_eq_true_eq, mk_total hk hl, allF_0, mk_len];constructor
 ·rintro ⟨a, b⟩;exact ⟨a, fun p hp => by rw [<- mk_num hk hl p]; exact of_decide_eq_true (b p hp)⟩
 ·rintro ⟨a, b⟩;exact ⟨a, fun p hp => decide_eq_true (by rw [mk_num hk hl p]; exact b p hp)⟩
def sk (i k : Nat) : Nat := if k < i then k else k + 1
theorem cut_eq (l : Dt) (i : Nat) : l.take i ++ l.drop (i + 1) = l.eraseIdx i := (List.eraseIdx_eq_take_drop_succ l i).symm
theorem cel_cut (l : Dt) (i k c : Nat) : cel (l.take i ++ l.drop (i + 1)) k c = cel l (sk i k) c := by
 rw [cut_eq];unfold cel sk;rw [List.getD_eq_getElem?_getD (l := l.eraseIdx i), List.getElem?_eraseIdx]
 split <;> rw [List.getD_eq_getElem?_getD (l := l)]
theorem row_cut (l : Dt) (i k : Nat) : row (l.take i ++ l.drop (i + 1)) k = row l (sk i k) := by unfold row; rw [cel_cut]
theorem len_cut {l : Dt} {i : Nat} (h : i < l.length) : (l.take i ++ l.drop (i + 1)).length = l.length - 1 := by
 rw [cut_eq, List.length_eraseIdx, if_pos h]
theorem sk_lt {i k n : Nat} (h : k < n - 1) (hi : i < n) : sk i k < n := by unfold sk; split <;> omega
theorem sm_cut (g : Nat -> Int) {i n : Nat} (h : i < n) : sm (fun k => g (sk i k)) 0 (n - 1) = sm g 0 n - g i := by
 rw [show n - 1 = i + (n - 1 - i) by omega, sm_add, show sm g 0 n = sm g 0 (i + ((n - 1 - i) + 1)) by rw [show i + (n - 1 - i + 1) = n by omega], sm_add g i, Nat.zero_add, sm];rw [sm_congr (f := fun k => g (sk i k)) (g := g) i 0 fun k _ hk => by unfold sk; rw [if_pos (by omega)]];rw [sm_congr (f := fun k => g (sk i k)) (g := fun k => g (k + 1)) (n - 1 - i) i fun k a _ => by unfold sk; rw [if_neg (by omega)], sm_shift];omega
theorem strE_facts {qs ps : Dt} {all i : Int} (hk : KeyOk qs ps all) (h0 : 0 <= i) (h1 : i < qs.length) :
  (strE qs ps all i = 3 /\ qs.length = 1) \/ strE qs ps all i = 7 \/ (strE qs ps all i = 0 /\ qs.length ≠ 1 /\ (-240 <= strA qs all i.toNat /\ strA qs all i.toNat <= 240) /\ -240 <= num (strP qs ps i.toNat) (qPart qs i.toNat).toNat /\ num (strP qs ps i.toNat) (qPart qs i.toNat).toNat <= 240) := by
 unfold strE;rw [if_pos (chkE_iff.2 hk), if_pos (inr_iff.2 (by omega))]
 split
 ·rename_i h; exact .inl ⟨rfl, h⟩
 ·rename_i h
  split
  ·rename_i h2
   split
   ·rename_i h3; exact .inr (.inr ⟨rfl, h, inr_iff.1 h2, inr_iff.1 h3⟩)
   ·exact .inr (.inl rfl)
  ·exact .inr (.inl rfl)
theorem strK_ok {qs ps : Dt} {all : Int} {i : Nat} (hk : KeyOk qs ps all) (hi : i < qs.length) (hn : qs.length ≠ 1) (ha : -240 <= strA qs all i /\ strA qs all i <= 240) (hp : -240 <= num (strP qs ps i) (qPart qs i).toNat /\ num (strP qs ps i) (qPart qs i).toNat <= 240) : KeyOk (strQ qs i) (strP qs ps i) (strA qs all i) := by
 have hl : (strQ qs i).length = qs.length - 1 := len_cut hi;have hlp : (strP qs ps i).length = ps.length := List.length_set;have n1 := hk.n1;have n2 := hk.n2;have hc : ∀ k c, cel (strQ qs i) k c = cel qs (sk i k) c := fun k c => cel_cut qs i k c;have hpi := hk.part i hi;refine ⟨by omega, by omega, by rw [hlp]; exact hk.p1, by rw [hlp]; exact hk.p2, fun k h => ?_, fun k h => ?_, fun k h => ?_, fun k h => ?_, fun k h => ?_, fun q h => ?_, ha⟩
 ·unfold qPart; rw [hc, hlp]; exact hk.part _ (sk_lt (by omega) hi)
 ·unfold qBoxes; rw [hc]; exact hk.boxes _ (sk_lt (by omega) hi)
 ·unfold qRight qBoxes; rw [hc, hc]; exact hk.right _ (sk_lt (by omega) hi)
 ·unfold qPts; rw [hc]; exact hk.pts _ (sk_lt (by omega) hi)
 ·unfold qMin; rw [hc]; exact hk.minus _ (sk_lt (by omega) hi)
 ·rw [hlp] at h
  show -240 <= num _ q /\ num _ q <= 240
  by_cases c : (qPart qs i).toNat = q
  ·subst c; exact hp
  ·unfold strP;rw [num_set (by omega), if_neg c];exact hk.need q h
theorem strS_ok {qs r : Dt} {i : Nat} (hs : ShOk qs r) (h0 : pos r = []) (hi : i < qs.length) : ShOk (strQ qs i) (r.take i ++ r.drop (i + 1)) /\ pos (r.take i ++ r.drop (i + 1)) = [] := by
 have hl : (strQ qs i).length = qs.length - 1 := len_cut hi;have hn := hs.n;have hlr := len_cut (l := r) (i := i) (by omega);have hp : pos (r.take i ++ r.drop (i + 1)) = [] := by
  refine List.eq_nil_iff_forall_not_mem.2 fun p hp => ?_;obtain ⟨a, b, c⟩ := mem_pos.1 hp;rw [row_cut] at b c;rw [hlr] at a;have : (sk i p.1, p.2) ∈ pos r := mem_pos.2 ⟨sk_lt a (by omega), b, c⟩;rw [h0] at this; cases this
 refine ⟨⟨⟨by omega, fun k h => ?_, fun k j h hj => ?_⟩, by rw [uns_len, hp]; simp⟩, hp⟩
 ·rw [row_cut];unfold qBoxes;rw [show cel (strQ qs i) k 1 = cel qs (sk i k) 1 from cel_cut qs i k 1];exact hs.row_ _ (sk_lt (by omega) hi)
 ·rw [row_cut] at hj ⊢;exact hs.val _ _ (sk_lt (by omega) hi) hj
theorem ptsQ_cut (qs r : Dt) (i k : Nat) : ptsQ (strQ qs i) (r.take i ++ r.drop (i + 1)) k = ptsQ qs r (sk i k) := by
 unfold ptsQ qRight qPts qMin strQ;rw [cel_cut, cel_cut, cel_cut, row_cut]
theorem ptsQ_le {qs r : Dt} {i : Nat} (h1 : 0 <= qPts qs i) (h2 : 0 <= qMin qs i) : ptsQ qs r i <= qPts qs i := by
 unfold ptsQ ptsV; repeat' split <;> omega
theorem struck {qs ps r : Dt} {all : Int} {i : Nat} (hk : KeyOk qs ps all) (hk2 : KeyOk (strQ qs i) (strP qs ps i) (strA qs all i)) (hl : r.length = qs.length) (hi : i < qs.length) :
  (psS qs ps all r = true -> psS (strQ qs i) (strP qs ps i) (strA qs all i) (r.take i ++ r.drop (i + 1)) = true) /\ (ansOf (row r i) = qRight qs i -> psS qs ps all r = psS (strQ qs i) (strP qs ps i) (strA qs all i) (r.take i ++ r.drop (i + 1))) := by
 have hlq : (strQ qs i).length = qs.length - 1 := len_cut hi;have hlr : (r.take i ++ r.drop (i + 1)).length = (strQ qs i).length := by rw [hlq, len_cut (by omega), hl]
 have hlp : (strP qs ps i).length = ps.length := List.length_set;have e1 : sm (ptsQ (strQ qs i) (r.take i ++ r.drop (i + 1))) 0 (strQ qs i).length = sm (ptsQ qs r) 0 qs.length - ptsQ qs r i := by
  rw [hlq, sm_congr (g := fun k => ptsQ qs r (sk i k)) _ _ fun k _ _ => ptsQ_cut qs r i k, sm_cut _ hi]
 have e2 : ∀ p, sm (ptP (strQ qs i) (r.take i ++ r.drop (i + 1)) p) 0 (strQ qs i).length = sm (ptP qs r p) 0 qs.length - ptP qs r p i := fun p => by
  rw [hlq, sm_congr (g := fun k => ptP qs r p (sk i k)) _ _ fun k _ _ => by
   unfold ptP qPart;rw [ptsQ_cut, show cel (strQ qs i) k 0 = cel qs (sk i k) 0 from cel_cut qs i k 0], sm_cut _ hi]
 have hle := ptsQ_le (r := r) (hk.pts i hi).1 (hk.minus i hi).1;have hpi := hk.part i hi;have hnum : ∀ p, num (strP qs ps i) p = if (qPart qs i).toNat = p then num ps p - qPts qs i else num ps p := fun p => by
  unfold strP;rw [num_set (by omega)]
  split
  ·rename_i c; rw [c]
  ·rfl
 have i1 := psS_iff hk hl;have i2 := psS_iff hk2 hlr;rw [e1, hlp] at i2;constructor
 ·intro h;obtain ⟨a, b⟩ := i1.1 h;refine i2.2 ⟨by unfold strA; omega, fun p hp => ?_⟩;have := b p hp;rw [e2, hnum, show ptP qs r p i = if (qPart qs i).toNat = p then ptsQ qs r i else 0 from rfl]
  split <;> omega
 ·intro hr;have ht : ptsQ qs r i = qPts qs i := by unfold ptsQ ptsV; rw [if_pos hr]
  apply bool_iff;rw [i1, i2, ht];unfold strA;constructor
  ·rintro ⟨a, b⟩;refine ⟨by omega, fun p hp => ?_⟩;have := b p hp;rw [e2, hnum, show ptP qs r p i = if (qPart qs i).toNat = p then ptsQ qs r i else 0 from rfl]
   split <;> omega
  ·rintro ⟨a, b⟩;refine ⟨by omega, fun p hp => ?_⟩;have := b p hp;rw [e2, hnum, show ptP qs r p i = if (qPart qs i).toNat = p then ptsQ qs r i else 0 from rfl] at this
   split at this <;> omega
theorem mark_sure {qs ps r : Dt} {all : Int} (hk : KeyOk qs ps all) (hs : ShOk qs r) (h0 : pos r = []) : markE qs ps all r = 0 /\ markB qs ps all r = psS qs ps all r := by
 have e : markE qs ps all r = 0 := by
  unfold markE;rw [if_pos (ask_of hk hs), if_pos (by rw [uns_len, h0]; rfl)]
 exact ⟨e, by unfold markB; rw [if_pos e]⟩
end Sp
namespace Sp
def skQ (qs ps : Dt) (all i : Int) : Dt := if strE qs ps all i = 0 then strQ qs i.toNat else []
def skP (qs ps : Dt) (all i : Int) : Dt := if strE qs ps all i = 0 then strP qs ps i.toNat else []
def skA (qs ps : Dt) (all i : Int) : Int := if strE qs ps all i = 0 then strA qs all i.toNat else 0
end Sp
abbrev Xba (ds : DS) : DS := match ds with | [[.l qs, .l ps, .i all], [.i i]] => [[.l (Sp.skQ qs ps all i), .l (Sp.skP qs ps all i), .i (Sp.skA qs ps all i)], [.i (Sp.strE qs ps all i)]] | _ => []
theorem Xl3 : Xbg = Xba := by
 have h : ∀ qs ps all i, Sp.strK qs ps all i = [.l (Sp.skQ qs ps all i), .l (Sp.skP qs ps all i), .i (Sp.skA qs ps all i)] := fun qs ps all i => by
  unfold Sp.strK Sp.skQ Sp.skP Sp.skA
  by_cases c : Sp.strE qs ps all i = 0 <;> simp [c]
 funext ds
 unfold Xbg Xba;simp only [h];rfl
theorem Xmf : PureOk Try.prog 32 Xy Xb0 (fun _ => True) Xba := Xl3 ▸ Xkq
def Xjj : PC Try.prog := ⟨32, Xy, Xb0, fun _ => True, Xba, Xmf⟩
def TL13 : Tab Try.prog := ⟨[Xjg, Xjj, Xcy, Xoc, Xhu, Xhw, Xoe, Xjn], [], []⟩
def Zfg [W : InW] (Q : DS -> Prop) := Pre True (Q [[Cl.b true]])
def Zfd [W : InW] (kQ : Ro Iv5) := (↑(kQ.xs.length) : Int)
def Zfh [W : InW] (sh : Ro Jb) (x_a : Int) := Sp.rdgV x_a sh.xs
def Zfe [W : InW] (Q : DS -> Prop) := Vif true (Zfg Q) (Q Zez)
def Zff [W : InW] (sh : Ro Jb) (x_a : Int) := List.take (List.length (Zfh sh x_a)) (Zfh sh x_a)
def Xco [W : InW] (kQ : Ro Iv5) (kP : Ro Jc) (kA : Int) (sh : Ro Jb) (x_a x_b : Int) (Q : DS -> Prop) : Prop :=
 Pre True (Vif (!decide (Sp.askE kQ.xs kP.xs kA sh.xs = 0)) (Pre True (Pre True (Vif (decide (Sp.chkE kQ.xs kP.xs kA = 0)) (Zfg Q) (Vif (decide (Sp.strE kQ.xs kP.xs kA (0 : Int) = Sp.chkE kQ.xs kP.xs kA)) (Zfg Q) (Q Zez))))) (Pre (Sp.Few sh.xs /\ List.length (Sp.uns sh.xs) <= 7 /\ 0 <= x_a /\ x_a <= 65535) (Ar .i64 x_b fun z => Need (!decide ((Zfd kQ) = 0)) (Pre True (Pre True (Vif (!decide (Sp.markE kQ.xs kP.xs kA (Zfh sh x_a) = 0)) (Vif (decide (Sp.markE kQ.xs kP.xs kA (Zfh sh x_a) = 0)) (Vif (decide (Sp.strE kQ.xs kP.xs kA (z.tmod (Zfd kQ)) = 3)) (Vif (decide ((Zfd kQ) = 1)) (Pre (Sp.skQ kQ.xs kP.xs kA (z.tmod (Zfd kQ)) = [] /\ Sp.skP kQ.xs kP.xs kA (z.tmod (Zfd kQ)) = [] /\ Sp.skA kQ.xs kP.xs kA (z.tmod (Zfd kQ)) = 0) (Zfe Q)) (Vif (decide (Sp.strE kQ.xs kP.xs kA (z.tmod (Zfd kQ)) = 7)) (Pre (Sp.skQ kQ.xs kP.xs kA (z.tmod (Zfd kQ)) = [] /\ Sp.skP kQ.xs kP.xs kA (z.tmod (Zfd kQ)) = [] /\ Sp.skA kQ.xs kP.xs kA (z.tmod (Zfd kQ)) = 0) (Zfe Q)) (Q Zez))) (Vif (decide (Sp.strE kQ.xs kP.xs kA (z.tmod (Zfd kQ)) = 7)) (Pre (Sp.skQ kQ.xs kP.xs kA (z.tmod (Zfd kQ)) = [] /\ Sp.skP kQ.xs kP.xs kA (z.tmod (Zfd kQ)) = [] /\ Sp.skA kQ.xs kP.xs kA (z.tmod (Zfd kQ)) = 0) (Zfe Q)) (Q Zez))) (Q Zez)) (Vif (!decide (Sp.strE kQ.xs kP.xs kA (z.tmod (Zfd kQ)) = 0)) (Vif (decide (Sp.markE kQ.xs kP.xs kA (Zfh sh x_a) = 0)) (Vif (decide (Sp.strE kQ.xs kP.xs kA (z.tmod (Zfd kQ)) = 3)) (Vif (decide ((Zfd kQ) = 1)) (Pre (Sp.skQ kQ.xs kP.xs kA (z.tmod (Zfd kQ)) = [] /\ Sp.skP kQ.xs kP.xs kA (z.tmod (Zfd kQ)) = [] /\ Sp.skA kQ.xs kP.xs kA (z.tmod (Zfd kQ)) = 0) (Zfe Q)) (Vif (decide (Sp.strE kQ.xs kP.xs kA (z.tmod (Zfd kQ)) = 7)) (Pre (Sp.skQ kQ.xs kP.xs kA (z.tmod (Zfd kQ)) = [] /\ Sp.skP kQ.xs kP.xs kA (z.tmod (Zfd kQ)) = [] /\ Sp.skA kQ.xs kP.xs kA (z.tmod (Zfd kQ)) = 0) (Zfe Q)) (Q Zez))) (Vif (decide (Sp.strE kQ.xs kP.xs kA (z.tmod (Zfd kQ)) = 7)) (Pre (Sp.skQ kQ.xs kP.xs kA (z.tmod (Zfd kQ)) = [] /\ Sp.skP kQ.xs kP.xs kA (z.tmod (Zfd kQ)) = [] /\ Sp.skA kQ.xs kP.xs kA (z.tmod (Zfd kQ)) = 0) (Zfe Q)) (Q Zez))) (Q Zez)) (Need (decide (0 <= z.tmod (Zfd kQ))) (Need (decide (Zd <= (z.tmod (Zfd kQ)).toNat) && decide ((z.tmod (Zfd kQ)).toNat <= List.length (Zfh sh x_a))) (Need (decide ((List.drop Zd (List.take (z.tmod (Zfd kQ)).toNat (Zfh sh x_a))).length * 24 <= 140737488355328)) (Ar .i64 (z.tmod (Zfd kQ) + 1) fun z_1 => Need (decide (0 <= z_1)) (Need (decide (z_1.toNat <= List.length (Zfh sh x_a)) && decide (List.length (Zfh sh x_a) <= List.length (Zfh sh x_a))) (Need (decide (((List.drop Zd (List.take (z.tmod (Zfd kQ)).toNat (Zfh sh x_a))).length + (List.drop z_1.toNat (Zff sh x_a)).length) * 24 <= 140737488355328)) (Pre True (Need (decide (0 <= z.tmod (Zfd kQ)) && decide (z.tmod (Zfd kQ) < (↑(List.length (Zfh sh x_a)) : Int))) (Need (decide ((z.tmod (Zfd kQ)).toNat < List.length (Zfh sh x_a))) (Pre True (Need (decide (0 <= z.tmod (Zfd kQ)) && decide (z.tmod (Zfd kQ) < (Zfd kQ))) (Need (decide ((z.tmod (Zfd kQ)).toNat < kQ.xs.length)) (Vif (decide (Sp.markE (Sp.skQ kQ.xs kP.xs kA (z.tmod (Zfd kQ))) (Sp.skP kQ.xs kP.xs kA (z.tmod (Zfd kQ))) (Sp.skA kQ.xs kP.xs kA (z.tmod (Zfd kQ))) (List.drop Zd (List.take (z.tmod (Zfd kQ)).toNat (Zfh sh x_a)) ++ List.drop z_1.toNat (Zff sh x_a)) = 0)) (Vif (!Sp.markB kQ.xs kP.xs kA (Zfh sh x_a)) (Vif (!decide (Sp.ansOf (cel (Zfh sh x_a) (z.tmod (Zfd kQ)).toNat Zd).lst = (cel kQ.xs (z.tmod (Zfd kQ)).toNat (1+1)).int)) (Zfg Q) (Vif (Sp.markB kQ.xs kP.xs kA (Zfh sh x_a) == Sp.markB (Sp.skQ kQ.xs kP.xs kA (z.tmod (Zfd kQ))) (Sp.skP kQ.xs kP.xs kA (z.tmod (Zfd kQ))) (Sp.skA kQ.xs kP.xs kA (z.tmod (Zfd kQ))) (List.drop Zd (List.take (z.tmod (Zfd kQ)).toNat (Zfh sh x_a)) ++ List.drop z_1.toNat (Zff sh x_a))) (Zfg Q) (Q Zez))) (Vif (Sp.markB (Sp.skQ kQ.xs kP.xs kA (z.tmod (Zfd kQ))) (Sp.skP kQ.xs kP.xs kA (z.tmod (Zfd kQ))) (Sp.skA kQ.xs kP.xs kA (z.tmod (Zfd kQ))) (List.drop Zd (List.take (z.tmod (Zfd kQ)).toNat (Zfh sh x_a)) ++ List.drop z_1.toNat (Zff sh x_a))) (Vif (!decide (Sp.ansOf (cel (Zfh sh x_a) (z.tmod (Zfd kQ)).toNat Zd).lst = (cel kQ.xs (z.tmod (Zfd kQ)).toNat (1+1)).int)) (Zfg Q) (Vif (Sp.markB kQ.xs kP.xs kA (Zfh sh x_a) == Sp.markB (Sp.skQ kQ.xs kP.xs kA (z.tmod (Zfd kQ))) (Sp.skP kQ.xs kP.xs kA (z.tmod (Zfd kQ))) (Sp.skA kQ.xs kP.xs kA (z.tmod (Zfd kQ))) (List.drop Zd (List.take (z.tmod (Zfd kQ)).toNat (Zfh sh x_a)) ++ List.drop z_1.toNat (Zff sh x_a))) (Zfg Q) (Q Zez))) (Q Zez))) (Q Zez)))))))))))))))))))))
theorem Xi7 (W : InW) (kQ kP kA sh x_a x_b Q) : Ywx (cxT Try.prog TT TL13 1000 50) 1000 13 [.agg [.rs _ kQ, .rs _ kP, .si .i64 kA], .rs _ sh, .agg [.si .u16 x_a, .si .u16 x_b]] [] 0 (Y04 [(false, [.bool])] Q) (fun _ _ _ _ => Stuck 421) = Xco kQ kP kA sh x_a x_b Q := by kernel_rfl
abbrev Xbt : List AT := [.agg [.sl Iv5, .sl Jc, .int .i64], .one (.sl Jb), .agg [.int .u16, .int .u16]]
theorem Xj3 {pre : DS -> Prop} {res : DS -> DS} (hyp_ : ∀ (W : InW) (kQ : Ro Iv5) (kP : Ro Jc) (kA : Int) (sh : Ro Jb) (x_a x_b : Int), pre [[.l kQ.xs, .l kP.xs, .i kA], [.l sh.xs], [.i x_a, .i x_b]] -> ∀ Q : DS -> Prop, Q (res [[.l kQ.xs, .l kP.xs, .i kA], [.l sh.xs], [.i x_a, .i x_b]]) -> Xco kQ kP kA sh x_a x_b Q) : PureOk Try.prog 13 Xbt [(false, [.bool])] pre res :=
 PureOk.of' (fun W => @TT W) (fun W => @Xe W) Xa TL13 1000 50 fun W kQ kP kA sh x_a x_b hp =>
  (Xi7 W kQ kP kA sh x_a x_b (fun o => o = res [[.l kQ.xs, .l kP.xs, .i kA], [.l sh.xs], [.i x_a, .i x_b]])).mpr (hyp_ W kQ kP kA sh x_a x_b hp _ rfl)
theorem Xc7 : PureOk Try.prog 13 Xbt [(false, [.bool])] (WfD Xbt) fun _ => [[.b true]] :=
 Xj3 fun W qs ps all sh x1 x2 hp Q h => by
  have hx := WfL.head (WfD.head (WfD.head (WfD.head hp).2).2).1;unfold Xco;delta Zff Zfe Zez Zfg Zfh Zfd Zd;have w1 := Xkh hx.1;have w2 := Xkh (WfL.head hx.2).1
  by_cases e : Sp.askE qs.xs ps.xs all sh.xs = 0
  ·obtain ⟨hk, hs⟩ := Sp.askE_ok e;have hf := hs.toShapeOk.few hk;have h7 := hs.seven;have k1 := hk.n1;have k2 := hk.n2;have hr := Sp.rdgV_mem w1.1 sh.xs;have hsr := Sp.rds_shok hs _ hr;have h0 := Sp.rds_sure _ hr;have hl := hsr.n;obtain ⟨m1, m2⟩ := Sp.mark_sure hk hsr h0;generalize Sp.rdgV x1 sh.xs = r at *;have t0 : 0 <= x2.tmod qs.xs.length /\ x2.tmod qs.xs.length < qs.xs.length := by
    rw [Int.tmod_eq_emod_of_nonneg w2.1];exact ⟨Int.emod_nonneg _ (by omega), Int.emod_lt_of_pos _ (by omega)⟩
   have hn : (!decide ((qs.xs.length : Int) = 0)) = true := by rw [decide_eq_false (by omega)]; rfl
   refine Xb trivial (vifn (fun c => absurd e c) fun _ => Xb ⟨hf, h7, w1⟩ (ar64 (by omega) (ned hn (Xb trivial (Xb trivial (vifn (fun c => absurd m1 c) fun _ => ?_))))));generalize x2.tmod qs.xs.length = i at *;have ez : (i + 1).toNat = i.toNat + 1 := by omega
   have lc := Sp.len_cut (l := r) (i := i.toNat) (by omega);have hl1 : (List.drop 0 (List.take i.toNat r)).length <= 12 := by simp; omega
   have hl2 : (List.drop (i.toNat + 1) (List.take r.length r)).length <= 12 := by simp; omega
   rcases Sp.strE_facts hk t0.1 t0.2 with ⟨s1, s2⟩ | s1 | ⟨s1, s2, s3, s4⟩
   ·have sq : Sp.skQ qs.xs ps.xs all i = [] := by unfold Sp.skQ; rw [if_neg (by rw [s1]; decide)]
    have sp : Sp.skP qs.xs ps.xs all i = [] := by unfold Sp.skP; rw [if_neg (by rw [s1]; decide)]
    have sa : Sp.skA qs.xs ps.xs all i = 0 := by unfold Sp.skA; rw [if_neg (by rw [s1]; decide)]
    refine vifn (fun _ => vifd (fun _ => vifd (fun _ => vifd (fun _ => Xb ⟨sq, sp, sa⟩ (vif (fun _ => Xb trivial h) fun c => by cases c)) fun c => absurd (by omega) c) fun c => absurd s1 c) fun c => absurd m1 c) fun c => by rw [s1] at c; cases c
   ·have sq : Sp.skQ qs.xs ps.xs all i = [] := by unfold Sp.skQ; rw [if_neg (by rw [s1]; decide)]
    have sp : Sp.skP qs.xs ps.xs all i = [] := by unfold Sp.skP; rw [if_neg (by rw [s1]; decide)]
    have sa : Sp.skA qs.xs ps.xs all i = 0 := by unfold Sp.skA; rw [if_neg (by rw [s1]; decide)]
    refine vifn (fun _ => vifd (fun _ => vifd (fun c => by rw [s1] at c; cases c) fun _ => vifd (fun _ => Xb ⟨sq, sp, sa⟩ (vif (fun _ => Xb trivial h) fun c => by cases c)) fun c => absurd s1 c) fun c => absurd m1 c) fun c => by rw [s1] at c; cases c
   ·have sq : Sp.skQ qs.xs ps.xs all i = Sp.strQ qs.xs i.toNat := by unfold Sp.skQ; rw [if_pos s1]
    have sp : Sp.skP qs.xs ps.xs all i = Sp.strP qs.xs ps.xs i.toNat := by unfold Sp.skP; rw [if_pos s1]
    have sa : Sp.skA qs.xs ps.xs all i = Sp.strA qs.xs all i.toNat := by unfold Sp.skA; rw [if_pos s1]
    have hk2 := Sp.strK_ok hk (i := i.toNat) (by omega) s2 s3 s4;obtain ⟨g1, g2⟩ := Sp.struck (r := r) hk hk2 hl (by omega);obtain ⟨f1, f2⟩ := Sp.strS_ok (i := i.toNat) hsr h0 (by omega);obtain ⟨n1, n2⟩ := Sp.mark_sure hk2 f1 f2;rw [<- m2, <- n2] at g1;rw [<- m2, <- n2] at g2;refine vifn (fun c => absurd s1 c) fun _ => nedd t0.1 (ned2 (by omega) (nedd (by omega) (ar64 (by omega) ?_)));simp only [sq, sp, sa, ez];have ecut : List.drop 0 (List.take i.toNat r) ++ List.drop (i.toNat + 1) (List.take r.length r) = r.take i.toNat ++ r.drop (i.toNat + 1) := by rw [List.drop_zero, List.take_length]
    simp only [ecut, n1];refine nedd (by omega) (ned2 (by omega) (nedd (by omega) (Xb trivial (ned2 (by omega) (nedd (by omega) (Xb trivial (ned2 (by omega) (nedd (by omega) (vif (fun _ => ?_) fun c => by cases c)))))))));simp only [show (cel r i.toNat 0).lst = Sp.row r i.toNat from rfl, show (cel qs.xs i.toNat (1 + 1)).int = Sp.qRight qs.xs i.toNat from rfl];simp only [Vif_iff, Pre_iff];generalize Sp.markB qs.xs ps.xs all r = A at *;generalize Sp.markB (Sp.strQ qs.xs i.toNat) (Sp.strP qs.xs ps.xs i.toNat) (Sp.strA qs.xs all i.toNat) (r.take i.toNat ++ r.drop (i.toNat + 1)) = B at *
    by_cases ca : Sp.ansOf (Sp.row r i.toNat) = Sp.qRight qs.xs i.toNat
    ·have := g2 ca;subst this;cases A <;> simp [h, ca]
    ·cases A <;> cases B <;> simp [h, ca] at g1 ⊢
  ·simp only [Vif_iff, Pre_iff, e]
   by_cases c : Sp.chkE qs.xs ps.xs all = 0
   ·simp [h, c]
   ·have hS : Sp.strE qs.xs ps.xs all 0 = Sp.chkE qs.xs ps.xs all := by unfold Sp.strE; rw [if_neg c]
    simp [h, c, hS]
end Go.Proofs.Ytifhdbgciehicaa
namespace Go.Proofs.Ytifhdbgciehicaa.answerStruck
open Go.ChangeShapes Go.WideShapes Go.ChangeAt Go.RowKit
set_option maxRecDepth 100000
theorem own : ownKnob Try.prog.godebug = none := by kernel_rfl
theorem laid : laidOutB Try.prog = true := by kernel_rfl
theorem lifted (os : Os) (started : os.Started) (H : Type) (enc : TypeId × Value -> H) :
  ReturnsInHanded {} Try.checked os 13 .any (Rows.answerStruckSpec.pre6 enc Try.prog Try.f13 Rows.answerStruckRow.domain false) (Rows.answerStruckSpec.post enc Try.prog Try.f13 false true false false) := by
 refine returnsInHanded_of_change (C := Try.checked) own started (by kernel_rfl) Try.func13
  (ChangeSpec.witness6 (enc := enc) (C := Try.checked) false ⟨#[], #[(.agg #[.slice none 0 0, .slice none 0 0, .int .i64 0]), (.slice none 0 0), (.agg #[.int .u16 0, .int .u16 0])], []⟩ 8 (by kernel_rfl) (by kernel_rfl) (by kernel_rfl) (by kernel_rfl)) ?_
 intro W base args ds gs before hval hW _ _;exact law_end (f := Try.f13) (s := Rows.answerStruckSpec) (by kernel_rfl) Try.underlying4 (by kernel_rfl) rfl laid (by kernel_rfl)
  (fun ds h => by match ds, (show ds.length = 3 from h) with | [_, _, _], _ => exact ⟨rfl, rfl, rfl⟩) Xc7 hval hW
theorem over : Rows.answerStruckRow.holds Try.pinned (OpenSpec.ofChange Rows.answerStruckSpec) :=
 OpenClaim.holds_of_wide 13 Try.f13 rfl rfl rfl rfl rfl rfl rfl ⟨rfl, rfl, rfl, rfl, rfl⟩ rfl rfl rfl rfl rfl (by kernel_rfl) Try.func13 (by kernel_rfl)
  (of_decide_eq_true (by kernel_rfl)) (by unfold Func.isWrapper; first | (rw [if_pos (by decide +kernel)]; kernel_rfl) | (rw [if_neg (by decide +kernel)]; exact ⟨rfl, rfl⟩))
  (fun os started H enc _ => lifted os started H enc)
theorem proved : Rows.AnswerStruckSaid := over
end Go.Proofs.Ytifhdbgciehicaa.answerStruck
