/-
  'AnswerMissed': for every input the law returns true, and what is handed in reads as before. No condition.
-/
import Derived.Test.YtifhdbgciehicaaQmid
import Derived.Test.YtifhdbgciehicaaRows
import Derived.WalkKit
import Derived.ProofKit
set_option linter.unusedVariables false
set_option linter.unusedSectionVars false
set_option linter.unusedSimpArgs false
noncomputable section
namespace Go.Proofs.Ytifhdbgciehicaa
open Go.RowKit
set_option maxRecDepth 100000
theorem vif_t [InW] {b : Bool} {A B : Prop} (hb : b = true) (ha : A) : Vif b A B := Vif_iff.2 ⟨fun _ => ha, fun h => absurd (hb.symm.trans h) (by decide)⟩
theorem Xkw [W : InW] (Q : DS -> Prop) (h : Q [[.b true]]) : Xbc Q := by
 unfold Xbc;delta Zfd Zez Zfa Zfb Zfc Zff Zfe Zey Zb
 repeat first | refine vif_t (by kernel_rfl) ?_ | refine Pre_iff.2 ⟨trivial, ?_⟩ | refine Pre_iff.2 ⟨by kernel_rfl, ?_⟩ | refine Pre_iff.2 ⟨⟨by kernel_rfl, by kernel_rfl, by kernel_rfl⟩, ?_⟩
 exact (congrArg Q (by kernel_rfl)).mpr h
def Xj4 : PC Try.prog := ⟨22, [], [(false, [.bool])], fun _ => True, fun _ => [[.b true]], Xkl fun W hp Q h => Xkw Q h⟩
set_option maxHeartbeats 1600000
namespace Sp
def bitN (x : Int) (i : Nat) : Int := x / 2 ^ i % 2
def rdgF (u : Dt) (x : Int) : Nat -> Nat -> Dt -> Dt
 | _, 0, sh => sh
 | i, n + 1, sh => rdgF u x (i + 1) n (withD sh (cA u i).toNat (cB u i).toNat (bitN x i))
def rdgV (x : Int) (sh : Dt) : Dt := rdgF (uns sh) x 0 (uns sh).length sh
theorem bitN_nat (x i : Nat) : bitN (x : Int) i = ((x / 2 ^ i % 2 : Nat) : Int) := by
 unfold bitN;rw [Int.natCast_emod, Int.natCast_ediv, Int.natCast_pow]; rfl
theorem rdgF_it (us : List (Nat × Nat)) (x : Nat) : ∀ n i s, i + n = us.length -> rdgF (us.map prC) x i n s = itW (us.drop i) (x / 2 ^ i) s
 | 0, i, s, h => by rw [List.drop_eq_nil_of_le (by omega)]; rfl
 | n + 1, i, s, h => by
  have hi : i < us.length := by omega
  rw [List.drop_eq_getElem_cons hi];unfold rdgF itW;rw [(prC_cel us i hi).1, (prC_cel us i hi).2, bitN_nat, Int.toNat_natCast, Int.toNat_natCast, rdgF_it us x n (i + 1) _ (by omega), Nat.pow_succ, Nat.div_div_eq_div_mul]
theorem rdgV_it {x : Int} (h : 0 <= x) (sh : Dt) : rdgV x sh = itW (pos sh) x.toNat sh := by
 obtain ⟨n, rfl⟩ := Int.eq_ofNat_of_zero_le h;unfold rdgV;rw [uns_pos, show (List.map prC (pos sh)).length = (pos sh).length by simp];have := rdgF_it (pos sh) n (pos sh).length 0 sh (by omega);simpa using this
theorem itW_mod : ∀ (ps : List (Nat × Nat)) (b : Nat) (s : Dt), itW ps b s = itW ps (b % 2 ^ ps.length) s
 | [], _, _ => rfl
 | p :: ps, b, s => by
  simp only [itW, List.length_cons];rw [itW_mod ps (b / 2), itW_mod ps (b % 2 ^ (ps.length + 1) / 2), Nat.pow_succ];have h1 : b % (2 ^ ps.length * 2) % 2 = b % 2 := Nat.mod_mul_left_mod b _ 2;have h2 : b % (2 ^ ps.length * 2) / 2 % 2 ^ ps.length = b / 2 % 2 ^ ps.length := by
   rw [Nat.mul_comm, Nat.mod_mul_right_div_self, Nat.mod_mod]
  rw [h1, h2]
theorem rdgV_mem {x : Int} (h : 0 <= x) (sh : Dt) : rdgV x sh ∈ rds sh := by
 rw [rdgV_it h, rds_it _ _ _ rfl, itW_mod];exact ⟨_, Nat.mod_lt _ (Nat.pow_pos (by decide)), rfl⟩
theorem rds_shok {qs sh : Dt} (h : ShOk qs sh) : ∀ r ∈ rds sh, ShOk qs r :=
 rds_ind (P := fun r => ShOk qs r) h fun s q j v hs _ hv => hs.withD hv
def boxV (u : Dt) (a b : Int) (i : Nat) : Bool := decide (cA u i = a) && decide (cB u i = b)
def hasB (u : Dt) (a b : Int) : Bool := anyF (boxV u a b) 0 u.length
end Sp
def Xe7 [InW] (e : List Ed) (K : Nat -> List Ed -> Prop) : Prop := match e with
 | [.i x, .i i, .l sh, .l u] => Pre (0 <= i /\ i <= u.length /\ Sp.Few sh /\ Sp.BxOk sh u /\ 0 <= x /\ x <= 65535) (K 0 [.l (Sp.rdgF u x i.toNat (u.length - i.toNat) sh)])
 | _ => False
def TN5 : Tab Try.prog := ⟨[Xfz, Xh9], [], []⟩
def Xg7 : LC where
 len := 27
 T := [(0, (.opq 6)), (1, .int .u16), (5, (.row 1)), (6, .int .i64)]
 H := [(6, .fro [.sl Jc]), (1, .arr 44 Ja)]
 W := (rg 9 17)
 outs := [⟨.exit 0, [(0, (.opq 12))], [(12, .fro [.sl Jc])], ([1, 5, 6] ++ rg 9 17)⟩]
 spec := Xe7
def Xd6 [W : InW] (x i : Int) (sh u : Dt) (A : List Ed -> Prop) (K : Nat -> List Ed -> Prop) : Prop :=
 Vif (decide (i < (↑(u.length) : Int))) (Need (decide (0 <= i) && decide (i < (↑(u.length) : Int))) (Need (decide (i.toNat < u.length)) (Need (decide (0 <= i)) (Ar .i64 ((x.fdiv ((2 : Int) ^ min i.toNat (16 : Nat))).tmod (2 : Int)) fun z => Pre (Sp.Few sh /\ ((0 : Int) <= (cel u i.toNat Zd).int /\ (cel u i.toNat Zd).int < (↑(sh.length) : Int)) /\ (0 : Int) <= (cel u i.toNat (0+1)).int /\ (cel u i.toNat (0+1)).int < (↑(List.length (Sp.row sh (cel u i.toNat Zd).int.toNat)) : Int)) (Ar .i64 (i + 1) fun z_1 => A [.i x, .i z_1, .l (Sp.withD sh (cel u i.toNat Zd).int.toNat (cel u i.toNat (0+1)).int.toNat z), .l u]))))) (K 0 [.l sh])
theorem Xln (W : InW) (x i sh u A K) : Yfc { cxT Try.prog TT TN5 1000 50 with fn := 41 } 1000 (Yn7 Try.prog 41 4) (Yd6 27 [(0, .opq 6), (1, .si .u16 x), (5, .rw 1), (6, .si .i64 i)] (rg 9 17)) [(6, .fro [.sl Jc] sh), (1, .arr 44 Ja u)] (Yuf Xg7 A K) = Xd6 x i sh u A K := by kernel_rfl
def Xgc : Prop := ∀ (W : InW) (body a : Code), (Try.prog.funcs[41]?).bind (·.body) = some body -> a ∈ Yy body -> Yfw a = 4 -> @Ymq W Try.prog a (@Ytn W Xg7)
theorem Xnd (meas : [InW] -> List Ed -> Nat) (hyp_ : ∀ (W : InW) x i sh u K, Xe7 [.i x, .i i, .l sh, .l u] K -> ∀ A : List Ed -> Prop, (∀ e, meas e < meas [.i x, .i i, .l sh, .l u] -> Xe7 e K -> A e) -> Xd6 x i sh u A K) : Xgc :=
 LE.okOf' (fun W => @TT W) (fun W => @Xe W) Xa TN5 1000 50 (by kernel_rfl) Xg7 (fun W => @meas W) fun W x i sh u K hs =>
  (Xln W x i sh u (fun e => meas e < meas [.i x, .i i, .l sh, .l u] /\ Xe7 e K) K).mpr (hyp_ W x i sh u K hs _ fun e h1 h2 => ⟨h1, h2⟩)
theorem Xlb {x i : Int} (hx : 0 <= x) (h0 : 0 <= i) (h1 : i < 7) : (x.fdiv (2 ^ min i.toNat 16)).tmod 2 = Sp.bitN x i.toNat := by
 rw [show min i.toNat 16 = i.toNat by omega];have hp : (0 : Int) <= 2 ^ i.toNat := Int.le_of_lt (Int.pow_pos (by decide));rw [Int.fdiv_eq_ediv_of_nonneg _ hp, Int.tmod_eq_emod_of_nonneg (Int.ediv_nonneg hx hp)];rfl
theorem Xiy (x : Int) (i : Nat) : Sp.bitN x i = 0 \/ Sp.bitN x i = 1 := by unfold Sp.bitN; omega
theorem Xix {sh u : Dt} (h : Sp.BxOk sh u) (q j : Nat) (v : Int) : Sp.BxOk (Sp.withD sh q j v) u :=
 ⟨h.few, fun i hi => by have := h.in_ i hi; rw [Sp.withD_len, Sp.withD_rlen]; exact this⟩
theorem Xrh {sh : Dt} (h : (Sp.uns sh).length <= 7) : Sp.BxOk sh (Sp.uns sh) := by
 refine ⟨h, fun i hi => ?_⟩;obtain ⟨p, hp, e1, e2⟩ := Sp.uns_cel hi;have := Sp.mem_pos.1 hp;rw [e1, e2, Int.toNat_natCast];omega
theorem Xp1 : Xgc := Xnd (fun e => match e with | [_, .i i, _, .l u] => ((u.length : Int) - i).toNat | _ => 0) fun W x i sh u K hs A hA => by
 obtain ⟨⟨h0, h1, hf, hb, x0, x1⟩, hk⟩ := hs;have hu := hb.few;unfold Xd6;delta Zd;simp only [Nat.zero_add]
 by_cases hi : i < u.length
 ·rw [show u.length - i.toNat = (u.length - (i.toNat + 1)) + 1 by omega] at hk;simp only [Sp.rdgF] at hk;have hin := hb.in_ i.toNat (by omega);have ez : (i + 1).toNat = i.toNat + 1 := by omega
  have hv := Xiy x i.toNat;have go := hA [.i x, .i (i + 1), .l (Sp.withD sh (Sp.cA u i.toNat).toNat (Sp.cB u i.toNat).toNat (Sp.bitN x i.toNat)), .l u] (show ((u.length : Int) - (i + 1)).toNat < ((u.length : Int) - i).toNat by omega) ⟨⟨by omega, by omega, hf.withD _ _ _, Xix hb _ _ _, x0, x1⟩, by rw [ez]; exact hk⟩;rw [Xlb x0 h0 (by omega)];clear hA hk;refine vifd (fun _ => ?_) fun e => by omega
  refine ned (by simp only [Bool.and_eq_true, decide_eq_true_eq]; omega) (nedd (by omega) (nedd (by omega) (ar64 (by omega) ⟨⟨hf, ⟨hin.1, hin.2.1⟩, hin.2.2⟩, ar64 (by omega) go⟩)))
 ·rw [show u.length - i.toNat = 0 by omega] at hk;refine vifd (fun e => by omega) fun _ => hk
def Xir : LE Try.prog := ⟨41, 4, fun W => @Ytn W Xg7, Xp1⟩
def Xe8 [InW] (e : List Ed) (K : Nat -> List Ed -> Prop) : Prop := match e with
 | [.ro _ sh, .i x, .i i, .l u] => Pre (i = 0 /\ Sp.Few sh.xs /\ Sp.BxOk sh.xs u /\ 0 <= x /\ x <= 65535) (Vif (decide (u.length = 0)) (K 0 [.ro _ sh]) (K 1 [.l (Sp.rdgF u x 0 u.length sh.xs)]))
 | _ => False
def Xg8 : LC where
 len := 27
 T := [(0, .rs Jb), (1, .int .u16), (5, (.row 1)), (6, .int .i64)]
 H := [(1, .arr 44 Ja)]
 W := (rg 9 17)
 outs := [⟨.exit 0, [(0, .rs Jb)], [], ([1, 5, 6] ++ rg 9 17)⟩, ⟨.exit 0, [(0, (.opq 12))], [(12, .fro [.sl Jc])], ([1, 5, 6] ++ rg 9 17)⟩]
 spec := Xe8
def Xd7 [W : InW] (sh : Ro Jb) (x i : Int) (u : Dt) (A : List Ed -> Prop) (K : Nat -> List Ed -> Prop) : Prop :=
 Vif (decide (i < (↑(u.length) : Int))) (Need (decide (0 <= i) && decide (i < (↑(u.length) : Int))) (Need (decide (i.toNat < u.length)) (Need (decide (0 <= i)) (Ar .i64 ((x.fdiv ((2 : Int) ^ min i.toNat (16 : Nat))).tmod (2 : Int)) fun z => Pre (Sp.Few sh.xs /\ ((0 : Int) <= (cel u i.toNat Zd).int /\ (cel u i.toNat Zd).int < (↑(sh.xs.length) : Int)) /\ (0 : Int) <= (cel u i.toNat (0+1)).int /\ (cel u i.toNat (0+1)).int < (↑(List.length (Sp.row sh.xs (cel u i.toNat Zd).int.toNat)) : Int)) (Ar .i64 (i + 1) fun z_1 => Pre (0 <= z_1 /\ z_1 <= (↑(u.length) : Int) /\ Sp.Few (Sp.withD sh.xs (cel u i.toNat Zd).int.toNat (cel u i.toNat (0+1)).int.toNat z) /\ Sp.BxOk (Sp.withD sh.xs (cel u i.toNat Zd).int.toNat (cel u i.toNat (0+1)).int.toNat z) u /\ 0 <= x /\ x <= 65535) (K (0+1) [.l (Sp.rdgF u x z_1.toNat (u.length - z_1.toNat) (Sp.withD sh.xs (cel u i.toNat Zd).int.toNat (cel u i.toNat (0+1)).int.toNat z))])))))) (K 0 [.ro Zdz sh])
theorem Xlo (W : InW) (sh x i u A K) : Yfc { cxT Try.prog TT TN5 1000 50 with fn := 41 } 1000 (Yn7 Try.prog 41 4) (Yd6 27 [(0, .rs _ sh), (1, .si .u16 x), (5, .rw 1), (6, .si .i64 i)] (rg 9 17)) [(1, .arr 44 Ja u)] (Xfs Xg8 ((Xir).f W) A K) = Xd7 sh x i u A K := by kernel_rfl
def Xgd : Prop := ∀ (W : InW) (body a : Code), (Try.prog.funcs[41]?).bind (·.body) = some body -> a ∈ Yy body -> Yfw a = 4 -> @Ymq W Try.prog a (@Ytn W Xg8)
theorem Xne (meas : [InW] -> List Ed -> Nat) (hyp_ : ∀ (W : InW) sh x i u K, Xe8 [.ro _ sh, .i x, .i i, .l u] K -> ∀ A : List Ed -> Prop, (∀ e, meas e < meas [.ro _ sh, .i x, .i i, .l u] -> Xe8 e K -> A e) -> Xd7 sh x i u A K) : Xgd :=
 LE.okOfY (fun W => @TT W) (fun W => @Xe W) Xa TN5 1000 50 (by kernel_rfl) Xg8 (Xir).f (Xir).ok (fun W => @meas W) fun W sh x i u K hs =>
  (Xlo W sh x i u (fun e => meas e < meas [.ro _ sh, .i x, .i i, .l u] /\ Xe8 e K) K).mpr (hyp_ W sh x i u K hs _ fun e h1 h2 => ⟨h1, h2⟩)
theorem Xp2 : Xgd := Xne (fun _ => 0) fun W sh x i u K hs A hA => by
 obtain ⟨⟨rfl, hf, hb, x0, x1⟩, hk⟩ := hs;have hu := hb.few;unfold Xd7;delta Zdz Zd;simp only [Nat.zero_add]
 by_cases hi : 0 < u.length
 ·have hin := hb.in_ 0 hi;have hk := hk.2 (decide_eq_false (by omega));rw [show u.length = (u.length - 1) + 1 by omega] at hk;simp only [Sp.rdgF] at hk;rw [Xlb x0 (by omega) (by omega)];have hv := Xiy x 0;rw [show Int.toNat 0 = 0 from rfl];refine vifd (fun _ => ?_) fun e => by omega
  refine ned (by simp only [Bool.and_eq_true, decide_eq_true_eq]; omega) (nedd (by omega) (nedd (by omega) (ar64 (by omega) ⟨⟨hf, ⟨hin.1, hin.2.1⟩, hin.2.2⟩, ar64 (by omega) ⟨⟨by omega, by omega, hf.withD _ _ _, Xix hb _ _ _, x0, x1⟩, ?_⟩⟩)));exact hk
 ·have hk := hk.1 (decide_eq_true (by omega));refine vifd (fun e => by omega) fun _ => hk
def Xq0 : LE Try.prog := ⟨41, 4, fun W => @Ytn W Xg8, Xp2⟩
def TN6 : Tab Try.prog := ⟨[Xfz], [Xq0], []⟩
def Xi6 [W : InW] (sh : Ro Jb) (x : Int) (Q : DS -> Prop) : Prop :=
 Pre (Sp.Few sh.xs) (Pre ((0 : Int) = 0 /\ Sp.Few sh.xs /\ Sp.BxOk sh.xs (Sp.uns sh.xs) /\ 0 <= x /\ x <= 65535) (Vif (decide (List.length (Sp.uns sh.xs) = 0)) (Q [[Cl.l sh.xs]]) (Q [[Cl.l (Sp.rdgF (Sp.uns sh.xs) x (0 : Nat) (List.length (Sp.uns sh.xs)) sh.xs)]])))
theorem Xoz (W : InW) (sh x Q) : Ywt (cxT Try.prog TT TN6 1000 50) 1000 41 [.rs _ sh, .si .u16 x] [] 0 (Y02 [(false, [.fro [.sl Jc]])] Q) (fun _ _ _ _ => Stuck 421) = Xi6 sh x Q := by kernel_rfl
abbrev Xdi : List AT := [.one (.sl Jb), .one (.int .u16)]
theorem Xpn {pre : DS -> Prop} {res : DS -> DS} (hyp_ : ∀ (W : InW) (sh : Ro Jb) (x : Int), pre [[.l sh.xs], [.i x]] -> ∀ Q : DS -> Prop, Q (res [[.l sh.xs], [.i x]]) -> Xi6 sh x Q) : PureOk Try.prog 41 Xdi [(false, [.fro [.sl Jc]])] pre res :=
 PureOk.of' (fun W => @TT W) (fun W => @Xe W) Xa TN6 1000 50 fun W sh x hp =>
  (Xoz W sh x (fun o => o = res [[.l sh.xs], [.i x]])).mpr (hyp_ W sh x hp _ rfl)
abbrev Xc8 (ds : DS) : DS := match ds with | [[.l sh], [.i x]] => [[.l (Sp.rdgV x sh)]] | _ => []
abbrev Xh7 (ds : DS) : Prop := match ds with | [[.l sh], [.i x]] => Sp.Few sh /\ (Sp.uns sh).length <= 7 /\ 0 <= x /\ x <= 65535 | _ => False
theorem okrdV : PureOk Try.prog 41 Xdi [(false, [.fro [.sl Jc]])] Xh7 Xc8 :=
 Xpn fun W sh x hp Q h => by
  obtain ⟨hf, h7, x0, x1⟩ : Sp.Few sh.xs /\ (Sp.uns sh.xs).length <= 7 /\ 0 <= x /\ x <= 65535 := hp;unfold Xi6;simp only [Xc8, Sp.rdgV] at h;refine ⟨hf, ⟨rfl, hf, Xrh h7, x0, x1⟩, vifd (fun e => ?_) fun e => h⟩;rw [e] at h; exact h
def Xo5 : PC Try.prog := ⟨41, Xdi, [(false, [.fro [.sl Jc]])], Xh7, Xc8, okrdV⟩
theorem Xos {n : Int} (h : WfC (.int .u16) (.i n)) : 0 <= n /\ n <= 65535 := by
 cases h with
 | int _ _ h => simp [Lit.wf, IntKind.min, IntKind.max, IntKind.signed, IntKind.bits] at h; omega
theorem WfL.head {t : Ty} {ts : List Ty} {c : Cl} {cs : List Cl} (h : WfL (t :: ts) (c :: cs)) : WfC t c /\ WfL ts cs := by
 cases h with
 | cons h hs => exact ⟨h, hs⟩
theorem WfD.head {a : AT} {ats : List AT} {d : List Cl} {ds : DS} (h : WfD (a :: ats) (d :: ds)) : WfA a d /\ WfD ats ds := by
 obtain ⟨d', ds', e, h1, h2⟩ := h;cases e;exact ⟨h1, h2⟩
theorem wf_el {ts : List Ty} {xs : Dt} (h : WfC (.sl ts) (.l xs)) (i : Nat) (hi : i < xs.length) {t : Ty} {k : Nat} (ht : ts[k]? = some t) : WfC t (cel xs i k) := by
 cases h with
 | sl _ _ _ _ h => exact h i k t hi ht
namespace Sp
theorem rds_with {v : Int} (hv : v = 0 \/ v = 1) (p : Nat × Nat) : ∀ n s, (pos s).length = n -> ∀ r ∈ rds s, withD r p.1 p.2 v ∈ rds (withD s p.1 p.2 v)
 | 0, s, hl, r, hr => by
  have e := List.length_eq_zero_iff.1 hl;rw [rds_nil e, List.mem_singleton] at hr;subst hr;rw [rds_nil (by rw [pos_with (by omega), e]; rfl)];exact List.mem_singleton.2 rfl
 | n + 1, s, hl, r, hr => by
  cases e : pos s with
  | nil => rw [e] at hl; simp at hl
  | cons q qs =>
   have step : ∀ w : Int, w = 0 \/ w = 1 -> r ∈ rds (withD s q.1 q.2 w) -> withD r p.1 p.2 v ∈ rds (withD s p.1 p.2 v) := by
    intro w hw hr;have ih := rds_with hv p n _ (by rw [pos_with_tl (by omega) e]; rw [e] at hl; simpa using hl) r hr
    by_cases c : q = p
    ·subst c; rw [withD_same] at ih; exact ih
    ·rw [withD_comm _ _ _ _ _ c] at ih;have hp : pos (withD s p.1 p.2 v) = q :: qs.filter (fun x => decide (x ≠ (p.1, p.2))) := by
      rw [pos_with (by omega), e, List.filter_cons_of_pos (by simpa using c)]
     rw [rds_cons hp, List.mem_append];rcases hw with rfl | rfl
     ·exact .inl ih
     ·exact .inr ih
   rw [rds_cons e, List.mem_append] at hr;exact hr.elim (step 0 (.inl rfl)) (step 1 (.inr rfl))
theorem rds_of_with {v : Int} (hv : v = 0 \/ v = 1) (p : Nat × Nat) : ∀ n s, (pos s).length = n -> p ∈ pos s -> ∀ r ∈ rds (withD s p.1 p.2 v), r ∈ rds s
 | 0, s, hl, hp, r, hr => by rw [List.length_eq_zero_iff.1 hl] at hp; cases hp
 | n + 1, s, hl, hp, r, hr => by
  cases e : pos s with
  | nil => rw [e] at hl; simp at hl
  | cons q qs =>
   rw [rds_cons e, List.mem_append]
   by_cases c : q = p
   ·subst c;rcases hv with rfl | rfl
    ·exact .inl hr
    ·exact .inr hr
   ·have hp' : pos (withD s p.1 p.2 v) = q :: qs.filter (fun x => decide (x ≠ (p.1, p.2))) := by
     rw [pos_with (by omega), e, List.filter_cons_of_pos (by simpa using c)]
    have hq : p ∈ qs := by rw [e] at hp; exact (List.mem_cons.1 hp).resolve_left fun h => c h.symm
    have step : ∀ w : Int, w = 0 \/ w = 1 -> r ∈ rds (withD (withD s p.1 p.2 v) q.1 q.2 w) -> r ∈ rds (withD s q.1 q.2 w) := by
     intro w hw hr;rw [withD_comm _ _ _ _ _ (fun h => c h.symm)] at hr;exact rds_of_with hv p n _ (by rw [pos_with_tl (by omega) e]; rw [e] at hl; simpa using hl) (by rw [pos_with_tl (by omega) e]; exact hq) r hr
    rw [rds_cons hp', List.mem_append] at hr;exact hr.elim (fun h => .inl (step 0 (.inl rfl) h)) fun h => .inr (step 1 (.inr rfl) h)
structure Same (a b : Dt) : Prop where
 len : a.length = b.length
 rlen : ∀ i, (row a i).length = (row b i).length
 val : ∀ i j, i < a.length -> j < (row a i).length -> bx (row a i) j = bx (row b i) j
theorem Same.symm {a b : Dt} (h : Same a b) : Same b a := ⟨h.len.symm, fun i => (h.rlen i).symm, fun i j h1 h2 => (h.val i j (by rw [h.len]; exact h1) (by rw [h.rlen]; exact h2)).symm⟩
theorem Same.trans {a b c : Dt} (h : Same a b) (h' : Same b c) : Same a c := ⟨h.len.trans h'.len, fun i => (h.rlen i).trans (h'.rlen i), fun i j h1 h2 => (h.val i j h1 h2).trans (h'.val i j (by rw [<- h.len]; exact h1) (by rw [<- h.rlen]; exact h2))⟩
theorem ansD_same {d d' : Dt} : ∀ n i a, (∀ j, i <= j -> j < i + n -> bx d j = bx d' j) -> ansD d i n a = ansD d' i n a
 | 0, _, _, _ => rfl
 | n + 1, i, a, h => by
  unfold ansD;rw [h i (by omega) (by omega), ansD_same n (i + 1) i fun j a b => h j (by omega) (by omega), ansD_same n (i + 1) a fun j a b => h j (by omega) (by omega)]
theorem ansL_same {d d' : Dt} : ∀ n i a, (∀ j, i <= j -> j < i + n -> bx d j = bx d' j) -> ansL d i n a = ansL d' i n a
 | 0, _, _, _ => rfl
 | n + 1, i, a, h => by
  unfold ansL;rw [h i (by omega) (by omega), ansL_same n (i + 1) i fun j a b => h j (by omega) (by omega), ansL_same n (i + 1) a fun j a b => h j (by omega) (by omega)]
theorem ansOf_same {d d' : Dt} (hl : d.length = d'.length) (h : ∀ j, j < d.length -> bx d j = bx d' j) : ansOf d = ansOf d' := by
 unfold ansOf;rw [<- hl, ansD_same _ _ _ fun j _ b => h j (by omega), ansL_same _ _ _ fun j _ b => h j (by omega)]
theorem Same.ans {a b : Dt} (h : Same a b) {i : Nat} (hi : i < a.length) : ansOf (row a i) = ansOf (row b i) := ansOf_same (h.rlen i) fun j hj => h.val i j hi hj
theorem addG_same {qs a b : Dt} : ∀ n i l, (∀ k, i <= k -> k < i + n -> ansOf (row a k) = ansOf (row b k)) -> addG qs a i n l = addG qs b i n l
 | 0, _, _, _ => rfl
 | n + 1, i, l, h => by
  unfold addG;rw [show ptsQ qs a i = ptsQ qs b i by unfold ptsQ ptsV; rw [h i (by omega) (by omega)], addG_same n (i + 1) _ fun k x y => h k (by omega) (by omega)]
theorem Same.mk_eq {a b : Dt} (h : Same a b) (qs ps : Dt) : Sp.mk qs ps a = Sp.mk qs ps b := by
 unfold Sp.mk;rw [<- h.len, addG_same _ _ _ fun k _ y => h.ans (by omega)]
theorem Same.ps {a b : Dt} (h : Same a b) (qs ps : Dt) (all : Int) : psS qs ps all a = psS qs ps all b := by unfold psS; rw [h.mk_eq]
theorem with_same {r : Dt} {p : Nat × Nat} {v : Int} (h1 : p.1 < r.length) (h2 : p.2 < (row r p.1).length) (h3 : bx (row r p.1) p.2 = v) : Same (withD r p.1 p.2 v) r := by
 refine ⟨withD_len _ _ _ _, fun i => withD_rlen _ _ _ _ _, fun i j hi hj => ?_⟩;rw [withD_len] at hi;rw [withD_rlen] at hj;rw [withD_bx _ _ _ _ _ _ hi hj]
 split
 ·rename_i e;cases e;exact h3.symm
 ·rfl
theorem in_pos {s r : Dt} (hr : r ∈ rds s) {p : Nat × Nat} (hp : p ∈ pos s) : p.1 < r.length /\ p.2 < (row r p.1).length := by
 have h1 := mem_pos.1 hp;have h2 := rds_shape r hr;rw [h2.1, h2.2];exact ⟨h1.1, h1.2.1⟩
theorem rds_01 {qs s : Dt} (hs : ShOk qs s) {r : Dt} (hr : r ∈ rds s) {i j : Nat} (hi : i < r.length) (hj : j < (row r i).length) : bx (row r i) j = 0 \/ bx (row r i) j = 1 := by
 have h1 := rds_shok hs r hr;have h2 := h1.val i j (by rw [<- h1.n]; exact hi) hj;have h3 : bx (row r i) j ≠ 2 := fun e => by
  have : (i, j) ∈ pos r := mem_pos.2 ⟨hi, hj, e⟩;rw [rds_sure r hr] at this;cases this
 omega
theorem uns_at {sh : Dt} {k : Nat} (hk : k < (uns sh).length) : ∃ p ∈ pos sh, cA (uns sh) k = p.1 /\ cB (uns sh) k = p.2 := uns_cel hk
def dcS (qs ps : Dt) (all : Int) (sh : Dt) : Dt := dcL qs ps all sh (uns sh) 0 (uns sh).length
end Sp
namespace Sp
def bA (u : Dt) (k : Nat) : Nat := (cA u k).toNat
def bB (u : Dt) (k : Nat) : Nat := (cB u k).toNat
def inL (l u : Dt) (k : Nat) : Bool := hasB l (cA u k) (cB u k)
def outL (u l : Dt) (k : Nat) : Bool := !hasB u (cA l k) (cB l k)
def at_ (r u : Dt) (k : Nat) : Int := bx (row r (bA u k)) (bB u k)
def seenF (l r u : Dt) : Nat -> Nat -> Dt -> Dt
 | _, 0, s => s
 | i, n + 1, s => seenF l r u (i + 1) n (if inL l u i = true then withD s (bA u i) (bB u i) (at_ r u i) else s)
theorem uns_ab {sh : Dt} {k : Nat} (hk : k < (uns sh).length) : (bA (uns sh) k, bB (uns sh) k) ∈ pos sh /\ cA (uns sh) k = bA (uns sh) k /\ cB (uns sh) k = bB (uns sh) k := by
 obtain ⟨p, hp, a, b⟩ := uns_at hk;have e1 : bA (uns sh) k = p.1 := by unfold bA; rw [a, Int.toNat_natCast]
 have e2 : bB (uns sh) k = p.2 := by unfold bB; rw [b, Int.toNat_natCast]
 rw [e1, e2, a, b];exact ⟨hp, rfl, rfl⟩
structure SeenOk (qs ps : Dt) (all : Int) (sh r s : Dt) (i : Nat) : Prop where
 ok : ShOk qs s
 sub : ∀ t ∈ rds s, t ∈ rds sh
 pos_ : ∀ p ∈ pos s, p ∈ pos sh /\ ∀ k, k < i -> inL (dcS qs ps all sh) (uns sh) k = true -> p ≠ (bA (uns sh) k, bB (uns sh) k)
 has_ : ∃ r' ∈ rds s, Same r' r
theorem SeenOk.go {qs ps sh r : Dt} {all : Int} (hs : ShOk qs sh) (hr : r ∈ rds sh) : ∀ n i s, i + n = (uns sh).length -> (∀ k, i <= k -> k < (uns sh).length -> (bA (uns sh) k, bB (uns sh) k) ∈ pos s) -> SeenOk qs ps all sh r s i -> SeenOk qs ps all sh r (seenF (dcS qs ps all sh) r (uns sh) i n s) (uns sh).length
 | 0, i, s, e, _, h => by rw [<- show i = (uns sh).length by omega]; exact h
 | n + 1, i, s, e, hp, h => by
  have hi : i < (uns sh).length := by omega
  have hnd : ∀ k, k < (uns sh).length -> k ≠ i -> (bA (uns sh) k, bB (uns sh) k) ≠ (bA (uns sh) i, bB (uns sh) i) := fun k hk hne e => by
   have hl := uns_len sh;have g : ∀ j (hj : j < (uns sh).length), (bA (uns sh) j, bB (uns sh) j) = (pos sh)[j]'(by omega) := fun j hj => by
    unfold bA bB;have := prC_cel (pos sh) j (by omega);rw [<- uns_pos] at this;rw [this.1, this.2, Int.toNat_natCast, Int.toNat_natCast]
   rw [g k hk, g i hi] at e;exact hne ((List.getElem_inj (pos_nd sh)).1 e)
  unfold seenF
  by_cases c : inL (dcS qs ps all sh) (uns sh) i = true
  ·rw [if_pos c];have hpi := hp i (Nat.le_refl _) hi;have hm := in_pos hr (uns_ab hi).1;have hv : at_ r (uns sh) i = 0 \/ at_ r (uns sh) i = 1 := rds_01 hs hr hm.1 hm.2;obtain ⟨r', hr', hsame⟩ := h.has_;have hposw : ∀ p, p ∈ pos (withD s (bA (uns sh) i) (bB (uns sh) i) (at_ r (uns sh) i)) ↔ p ∈ pos s /\ p ≠ (bA (uns sh) i, bB (uns sh) i) := fun p => by
    rw [pos_with (by omega), List.mem_filter, decide_eq_true_eq]
   refine SeenOk.go hs hr n (i + 1) _ (by omega) (fun k a b => (hposw _).2 ⟨hp k (by omega) b, hnd k b (by omega)⟩) ⟨h.ok.withD hv, fun t ht => h.sub t (rds_of_with hv (bA (uns sh) i, bB (uns sh) i) _ _ rfl hpi t ht), fun p hpp => ?_, ?_⟩
   ·obtain ⟨a, b⟩ := (hposw p).1 hpp;refine ⟨(h.pos_ p a).1, fun k hk hc => ?_⟩;rcases Nat.lt_or_ge k i with d | d
    ·exact (h.pos_ p a).2 k d hc
    ·rw [show k = i by omega]; exact b
   ·refine ⟨_, rds_with hv (bA (uns sh) i, bB (uns sh) i) _ _ rfl r' hr', ?_⟩;have hm' := in_pos hr' hpi;refine Same.trans (with_same (p := (bA (uns sh) i, bB (uns sh) i)) hm'.1 hm'.2 ?_) hsame;exact hsame.val _ _ hm'.1 hm'.2
  ·rw [if_neg c];refine SeenOk.go hs hr n (i + 1) s (by omega) (fun k a b => hp k (by omega) b) ⟨h.ok, h.sub, fun p hpp => ⟨(h.pos_ p hpp).1, fun k hk hc => ?_⟩, h.has_⟩;rcases Nat.lt_or_ge k i with d | d
   ·exact (h.pos_ p hpp).2 k d hc
   ·rw [show k = i by omega] at hc; exact absurd hc c
end Sp
namespace Sp
structure MoreK (ps ps' : Dt) (all all' : Int) : Prop where
 len : ps'.length = ps.length
 all_ : all <= all'
 parts : ∀ p, p < ps.length -> num ps p <= num ps' p
theorem MoreK.ps {qs ps ps' r : Dt} {all all' : Int} (h : MoreK ps ps' all all') (hl : (Sp.mk qs ps r).length = ps.length) (hp : psS qs ps' all' r = true) : psS qs ps all r = true := by
 unfold psS passOf at hp ⊢;rw [show Sp.mk qs ps' r = Sp.mk qs ps r by unfold Sp.mk; rw [h.len]] at hp;rw [Bool.and_eq_true, decide_eq_true_eq] at hp ⊢;refine ⟨Int.le_trans h.all_ hp.1, ?_⟩;have h2 := hp.2;unfold partsOk at h2 ⊢;rw [allF_0] at h2 ⊢;intro k hk;have h3 := of_decide_eq_true (h2 k hk);exact decide_eq_true (Int.le_trans (h.parts k (by omega)) h3)
end Sp
namespace Sp
def sm (f : Nat -> Int) : Nat -> Nat -> Int
 | _, 0 => 0
 | i, n + 1 => f i + sm f (i + 1) n
end Sp
namespace Sp
def cnt (f : Nat -> Bool) : Nat -> Nat -> Int
 | _, 0 => 0
 | i, n + 1 => (if f i = true then 1 else 0) + cnt f (i + 1) n
theorem cnt_le {f g : Nat -> Bool} : ∀ n i, (∀ k, i <= k -> k < i + n -> f k = true -> g k = true) -> cnt f i n <= cnt g i n
 | 0, _, _ => Int.le_refl _
 | n + 1, i, h => by
  have h1 := cnt_le n (i + 1) fun k a b => h k (by omega) (by omega);have h2 := h i (by omega) (by omega);rw [cnt, cnt]
  by_cases c : f i = true
  ·rw [if_pos c, if_pos (h2 c)]; omega
  ·rw [if_neg c]; split <;> omega
def bitX (x : Dt) (i : Nat) : Int := if x.length = 0 then 0 else (cel x (i % x.length) 0).int
def isI (right : Int) (pp x : Dt) (n i : Nat) : Bool := !decide (ansOf (row (rdgV (bitX x i) (row pp i)) n) = right)
def lsI (right : Int) (pp : Dt) (n i : Nat) : Bool := mAll right (row (row pp i) n)
def msI (right : Int) (pp : Dt) (n i : Nat) : Bool := mAny right (row (row pp i) n)
def xOk (x : Dt) : Prop := ∀ i, i < x.length -> 0 <= (cel x i 0).int /\ (cel x i 0).int <= 65535
theorem bitX_in {x : Dt} (h : xOk x) (i : Nat) : 0 <= bitX x i /\ bitX x i <= 65535 := by
 unfold bitX
 split
 ·omega
 ·exact h _ (Nat.mod_lt _ (by omega))
theorem row_miss {qs s r : Dt} {q : Nat} {right : Int} (hs : ShOk qs s) (hr : r ∈ rds s) (hq : q < s.length) :
  (mAll right (row s q) = true -> ansOf (row r q) ≠ right) /\ (ansOf (row r q) ≠ right -> mAny right (row s q) = true) := by
 obtain ⟨b, hb, rfl⟩ := (rds_it _ _ _ rfl).1 hr;constructor
 ·intro h e;obtain ⟨k, hk, h2⟩ := (any_row hq fun d => decide (ansOf d = right)).1 ⟨b, hb, decide_eq_true e⟩;have h1 := (allF_0.1 h) k hk;unfold mis1 at h1;rw [h2] at h1;cases h1
 ·intro h;obtain ⟨k, hk, h2⟩ := (any_row hq fun d => !decide (ansOf d = right)).1 ⟨b, hb, by rw [decide_eq_false h]; rfl⟩;exact anyF_0.2 ⟨k, hk, h2⟩
theorem addQ_cel {qs sh : Dt} {j : Nat} : ∀ n i l, i + n <= l.length -> (cel (addQ qs sh i n l) j 0).int = (cel l j 0).int + (if i <= j /\ j < i + n /\ mAll (qRight qs j) (row sh j) = true then 1 else 0) /\ (cel (addQ qs sh i n l) j 1).int = (cel l j 1).int + (if i <= j /\ j < i + n /\ mAny (qRight qs j) (row sh j) = true then 1 else 0)
 | 0, i, l, _ => by
  rw [if_neg (by omega), if_neg (by omega)];simp [addQ]
 | n + 1, i, l, h => by
  have hl : (mAdd qs sh l i).length = l.length := by unfold mAdd; rw [List.length_set]
  obtain ⟨h1, h2⟩ := addQ_cel (qs := qs) (sh := sh) (j := j) n (i + 1) (mAdd qs sh l i) (by rw [hl]; omega);rw [addQ, h1, h2]
  by_cases c : i = j
  ·subst c;have n1 : ¬ (i + 1 <= i) := by omega
   simp only [n1, false_and, if_false];unfold mAdd;have hi : i < l.length := by omega
   rw [cel_set hi, cel_set hi];constructor
   ·show (cel l i 0).int + _ + 0 = _
    by_cases d : mAll (qRight qs i) (row sh i) = true
    ·rw [if_pos d, if_pos ⟨by omega, by omega, d⟩]; omega
    ·rw [if_neg d, if_neg (fun x => d x.2.2)]; omega
   ·show (cel l i 1).int + _ + 0 = _
    by_cases d : mAny (qRight qs i) (row sh i) = true
    ·rw [if_pos d, if_pos ⟨by omega, by omega, d⟩]; omega
    ·rw [if_neg d, if_neg (fun x => d x.2.2)]; omega
  ·have e : ∀ c, cel (mAdd qs sh l i) j c = cel l j c := fun c => by
    unfold mAdd cel;rw [set_getN (by omega)]
   rw [e, e];constructor
   ·by_cases d : i + 1 <= j /\ j < i + 1 + n /\ mAll (qRight qs j) (row sh j) = true
    ·rw [if_pos d, if_pos ⟨by omega, by omega, d.2.2⟩]
    ·rw [if_neg d, if_neg (fun x => d ⟨by omega, by omega, x.2.2⟩)]
   ·by_cases d : i + 1 <= j /\ j < i + 1 + n /\ mAny (qRight qs j) (row sh j) = true
    ·rw [if_pos d, if_pos ⟨by omega, by omega, d.2.2⟩]
    ·rw [if_neg d, if_neg (fun x => d ⟨by omega, by omega, x.2.2⟩)]
theorem addP_cel {qs pp : Dt} {j : Nat} : ∀ n i l, j < l.length -> (cel (addP qs pp i n l) j 0).int = (cel l j 0).int + cnt (lsI (qRight qs j) pp j) i n /\ (cel (addP qs pp i n l) j 1).int = (cel l j 1).int + cnt (msI (qRight qs j) pp j) i n
 | 0, i, l, _ => by simp [addP, cnt]
 | n + 1, i, l, h => by
  obtain ⟨h1, h2⟩ := addP_cel (qs := qs) (pp := pp) (j := j) n (i + 1) (addQ qs (row pp i) 0 l.length l) (by rw [addQ_len]; exact h);obtain ⟨h3, h4⟩ := addQ_cel (qs := qs) (sh := row pp i) (j := j) l.length 0 l (by omega);rw [addP, h1, h2, h3, h4, cnt, cnt];unfold lsI msI;constructor
  ·by_cases d : mAll (qRight qs j) (row (row pp i) j) = true
   ·rw [if_pos ⟨by omega, by omega, d⟩, if_pos d]; omega
   ·rw [if_neg (fun x => d x.2.2), if_neg d]; omega
  ·by_cases d : mAny (qRight qs j) (row (row pp i) j) = true
   ·rw [if_pos ⟨by omega, by omega, d⟩, if_pos d]; omega
   ·rw [if_neg (fun x => d x.2.2), if_neg d]; omega
structure MsOk (qs ps : Dt) (all : Int) (pp x l : Dt) : Prop where
 key : KeyOk qs ps all
 n20 : pp.length <= 20
 ok : ∀ i, i < pp.length -> ShOk qs (row pp i)
 x_ : xOk x
 len : l.length = qs.length
 lo : ∀ n, n < l.length -> (cel l n 0).int = cnt (lsI (qRight qs n) pp n) 0 pp.length
 hi : ∀ n, n < l.length -> (cel l n 1).int = cnt (msI (qRight qs n) pp n) 0 pp.length
theorem MsOk.le {qs ps pp x l : Dt} {all : Int} (h : MsOk qs ps all pp x l) {n : Nat} (hn : n < l.length) (right : Int) :
  cnt (lsI right pp n) 0 pp.length <= cnt (isI right pp x n) 0 pp.length /\ cnt (isI right pp x n) 0 pp.length <= cnt (msI right pp n) 0 pp.length := by
 have hl := h.len;have key : ∀ k, k < pp.length -> _ := fun k hk => row_miss (right := right) (h.ok k hk) (rdgV_mem (bitX_in h.x_ k).1 (row pp k)) (q := n) (by rw [(h.ok k hk).n]; omega);constructor
 ·exact cnt_le _ _ fun k _ hk hc => by
   have := (key k (by omega)).1 hc;unfold isI;rw [decide_eq_false this]; rfl
 ·exact cnt_le _ _ fun k _ hk hc => by
   unfold isI at hc;exact (key k (by omega)).2 (by simpa using hc)
theorem cel_rep {n j c : Nat} : (cel (List.replicate n [Cl.i 0, Cl.i 0]) j c).int = 0 := by
 unfold cel;rw [List.getD_eq_getElem?_getD (l := List.replicate n _), List.getElem?_replicate]
 split
 ·rcases c with _ | _ | c <;> rfl
 ·rfl
theorem ms_ok {qs ps pp x : Dt} {all : Int} (e : misE qs ps all pp = 0) (hx : xOk x) : MsOk qs ps all pp x (misV qs ps all pp) := by
 obtain ⟨hk, h20, hs⟩ := misE_ok e;have hv : misV qs ps all pp = addP qs pp 0 pp.length (List.replicate qs.length [.i 0, .i 0]) := by unfold misV; rw [if_pos e]
 have hl : (misV qs ps all pp).length = qs.length := by rw [hv, addP_len, List.length_replicate]
 refine ⟨hk, h20, hs, hx, hl, fun n hn => ?_, fun n hn => ?_⟩
 ·rw [hv, (addP_cel _ _ _ (by rw [List.length_replicate]; omega)).1, cel_rep]; omega
 ·rw [hv, (addP_cel _ _ _ (by rw [List.length_replicate]; omega)).2, cel_rep]; omega
theorem misE_iff {qs ps pp : Dt} {all : Int} : misE qs ps all pp = 0 ↔ chkE qs ps all = 0 /\ pp.length <= 20 /\ allF (fun k => decide (shE qs (row pp k) = 0)) 0 pp.length = true := by
 constructor
 ·intro h;obtain ⟨a, b, c⟩ := misE_ok h;exact ⟨chkE_iff.2 a, b, allF_0.2 fun k hk => decide_eq_true (shE_iff.2 (c k hk))⟩
 ·rintro ⟨a, b, c⟩;unfold misE;rw [if_pos a, if_neg (by omega), errL_has];rw [hasE_of (f := shI qs pp) fun k _ hk => of_decide_eq_true (allF_0.1 c k (by omega))];rfl
end Sp
namespace Sp
structure NonE (rs : Dt) : Prop where
 ok : ∀ k, k < rs.length -> 0 < (row rs k).length
end Sp
def Xfk [InW] (e : List Ed) (K : Nat -> List Ed -> Prop) : Prop := match e with
 | [.ro _ pp, .ro _ x, .i er, .b fine, .i i, .ro _ qs, .ro _ ps, .i all, .l l] => Pre (0 <= i /\ i <= pp.xs.length /\ (fine = true -> Sp.KeyOk qs.xs ps.xs all)) (K 0 [.ro _ pp, .ro _ x, .i er, .b (fine && Sp.allF (fun k => decide (Sp.shE qs.xs (Sp.row pp.xs k) = 0)) i.toNat (pp.xs.length - i.toNat)), .ro _ qs, .ro _ ps, .i all, .l l])
 | _ => False
def Xrm : Tab Try.prog := ⟨[Xj0], [], []⟩
def Xhk : LC where
 len := 190
 T := [(1, .rs [.sl Jb]), (2, .rs [.int .u16]), (3, (.ptr 7 0)), (7, (.row 1)), (8, .int .i64), (12, .bool), (13, .int .i64)]
 H := [(7, .blk 25 [.rs Iv5, .rs Jc, .int .i64]), (1, .arr 80 Ja)]
 W := (rg 45 16)
 outs := [⟨.exit 0, [(1, .rs [.sl Jb]), (2, .rs [.int .u16]), (3, (.ptr 7 0)), (7, (.row 1)), (8, .int .i64), (12, .bool)], [(7, .blk 25 [.rs Iv5, .rs Jc, .int .i64]), (1, .arr 80 Ja)], ([13] ++ rg 45 16)⟩]
 spec := Xfk
def Xej [W : InW] (pp : Ro [.sl Jb]) (x : Ro [.int .u16]) (er : Int) (fine : Bool) (i : Int) (qs : Ro Iv5) (ps : Ro Jc) (all : Int) (l : Dt) (A : List Ed -> Prop) (K : Nat -> List Ed -> Prop) : Prop :=
 Vif (decide (i < (↑(pp.xs.length) : Int))) (Vif fine (Need (decide (0 <= i) && decide (i < (↑(pp.xs.length) : Int))) (Need (decide (i.toNat < pp.xs.length)) (Pre (Sp.KeyOk qs.xs ps.xs all) (Ar .i64 (i + 1) fun z => A [.ro [Ty.sl Zdz] pp, .ro _ x, .i er, .b (decide (Sp.shE qs.xs (cel pp.xs i.toNat (0 : Nat)).lst = 0)), .i z, .ro _ qs, .ro _ ps, .i all, .l l])))) (K 0 [.ro [Ty.sl Zdz] pp, .ro _ x, .i er, .b fine, .ro _ qs, .ro _ ps, .i all, .l l])) (K 0 [.ro [Ty.sl Zdz] pp, .ro _ x, .i er, .b fine, .ro _ qs, .ro _ ps, .i all, .l l])
theorem Xl0 (W : InW) (pp x er fine i qs ps all l A K) : Yfc { cxT Try.prog TT Xrm 1000 50 with fn := 16 } 1000 (Yn7 Try.prog 16 6) (Yd6 190 [(1, .rs _ pp), (2, .rs _ x), (3, .ptr 7 0), (7, .rw 1), (8, .si .i64 er), (12, .sb fine), (13, .si .i64 i)] (rg 45 16)) [(7, .blk 25 [.rs _ qs, .rs _ ps, .si .i64 all]), (1, .arr 80 Ja l)] (Yuf Xhk A K) = Xej pp x er fine i qs ps all l A K := by kernel_rfl
def Xgp : Prop := ∀ (W : InW) (body a : Code), (Try.prog.funcs[16]?).bind (·.body) = some body -> a ∈ Yy body -> Yfw a = 6 -> @Ymq W Try.prog a (@Ytn W Xhk)
theorem Xnq (meas : [InW] -> List Ed -> Nat) (hyp_ : ∀ (W : InW) pp x er fine i qs ps all l K, Xfk [.ro _ pp, .ro _ x, .i er, .b fine, .i i, .ro _ qs, .ro _ ps, .i all, .l l] K -> ∀ A : List Ed -> Prop, (∀ e, meas e < meas [.ro _ pp, .ro _ x, .i er, .b fine, .i i, .ro _ qs, .ro _ ps, .i all, .l l] -> Xfk e K -> A e) -> Xej pp x er fine i qs ps all l A K) : Xgp :=
 LE.okOf' (fun W => @TT W) (fun W => @Xe W) Xa Xrm 1000 50 (by kernel_rfl) Xhk (fun W => @meas W) fun W pp x er fine i qs ps all l K hs =>
  (Xl0 W pp x er fine i qs ps all l (fun e => meas e < meas [.ro _ pp, .ro _ x, .i er, .b fine, .i i, .ro _ qs, .ro _ ps, .i all, .l l] /\ Xfk e K) K).mpr (hyp_ W pp x er fine i qs ps all l K hs _ fun e h1 h2 => ⟨h1, h2⟩)
theorem Xqe : Xgp := Xnq (fun e => match e with | [.ro _ pp, _, _, _, .i i, _, _, _, _] => ((pp.xs.length : Int) - i).toNat | _ => 0) fun W pp x er fine i qs ps all l K hs A hA => by
 obtain ⟨⟨h0, h1, hp⟩, hk⟩ := hs;have hm := pp.len;simp only [maxLen] at hm;unfold Xej;delta Zdz;have ez : (i + 1).toNat = i.toNat + 1 := by omega
 by_cases hi : i < pp.xs.length
 ·rw [show pp.xs.length - i.toNat = (pp.xs.length - (i.toNat + 1)) + 1 by omega] at hk;simp only [Sp.allF] at hk;cases fine with
  | true =>
   have hkey := hp rfl;have go : ∀ b, b = decide (Sp.shE qs.xs (Sp.row pp.xs i.toNat) = 0) -> A [.ro _ pp, .ro _ x, .i er, .b b, .i (i + 1), .ro _ qs, .ro _ ps, .i all, .l l] := fun b hb => hA _ (show ((pp.xs.length : Int) - (i + 1)).toNat < ((pp.xs.length : Int) - i).toNat by omega) ⟨⟨by omega, by omega, fun _ => hkey⟩, by
    rw [ez, hb];rw [Bool.true_and] at hk;exact hk⟩
   clear hA hk
   repeat' (first | (with_reducible refine Xb hkey ?_) | omega|intro _|with_reducible first|apply vifd|apply vifn|apply vifq|apply Xd|apply Xc|apply vifb|apply vif|apply nedd|apply ned2|apply ned|apply ar64|apply Xb|exact True.intro|assumption|rfl|apply And.intro)
   all_goals first | contradiction | exact go _ rfl | (refine go _ ?_; simp [*]; done) | skip
  | false =>
   rw [Bool.false_and] at hk;clear hA
   repeat' (first | omega|intro _|with_reducible first|apply vifd|apply vifn|apply vifq|apply Xd|apply Xc|apply vifb|apply vif|apply nedd|apply ned2|apply ned|apply ar64|apply Xb|exact True.intro|assumption|rfl|apply And.intro)
   all_goals first | exact hk | contradiction | skip
 ·rw [show pp.xs.length - i.toNat = 0 by omega] at hk;simp only [Sp.allF, Bool.and_true] at hk;clear hA
  repeat' (first | omega|intro _|with_reducible first|apply vifd|apply vifn|apply vifq|apply Xd|apply Xc|apply vifb|apply vif|apply nedd|apply ned2|apply ned|apply ar64|apply Xb|exact True.intro|assumption|rfl|apply And.intro)
  all_goals first | contradiction | exact hk | skip
def Xrc : LE Try.prog := ⟨16, 6, fun W => @Ytn W Xhk, Xqe⟩
def Xfi [InW] (e : List Ed) (K : Nat -> List Ed -> Prop) : Prop := match e with
 | [.ro _ pp, .ro _ x, .i n, .i is, .i least, .i most, .i right, .i i, .b any, .b al, .i j, .ro _ qs, .ro _ ps, .i all, .l l, .l rs] => Pre (0 <= j /\ j <= rs.length /\ rs.length <= 128 /\ Sp.NonE rs) (K 0 [.ro _ pp, .ro _ x, .i n, .i is, .i least, .i most, .i right, .i i, .b (any || Sp.anyF (Sp.mis1 right rs) j.toNat (rs.length - j.toNat)), .b (al && Sp.allF (Sp.mis1 right rs) j.toNat (rs.length - j.toNat)), .ro _ qs, .ro _ ps, .i all, .l l])
 | _ => False
def Xrl : Tab Try.prog := ⟨[Xk6], [], []⟩
def Xhi : LC where
 len := 190
 T := [(1, .rs [.sl Jb]), (2, .rs [.int .u16]), (3, (.ptr 7 0)), (7, (.row 1)), (14, .int .i64), (15, .int .i64), (16, .int .i64), (17, .int .i64), (18, .int .i64), (19, .int .i64), (21, (.row 4)), (22, .bool), (23, .bool), (24, .int .i64)]
 H := [(7, .blk 25 [.rs Iv5, .rs Jc, .int .i64]), (1, .arr 80 Ja), (4, .nst 26 [.sl Jb])]
 W := ([25] ++ rg 134 23)
 outs := [⟨.exit 6, [(1, .rs [.sl Jb]), (2, .rs [.int .u16]), (3, (.ptr 7 0)), (7, (.row 1)), (14, .int .i64), (15, .int .i64), (16, .int .i64), (17, .int .i64), (18, .int .i64), (19, .int .i64), (22, .bool), (23, .bool)], [(7, .blk 25 [.rs Iv5, .rs Jc, .int .i64]), (1, .arr 80 Ja)], ([21, 24, 25] ++ rg 134 23)⟩]
 spec := Xfi
def Zfg [W : InW] (j : Int) (rs : Dt) := cel (cel rs j.toNat Zd).lst (Int.toNat Zb) Zd
def Xeh [W : InW] (pp : Ro [.sl Jb]) (x : Ro [.int .u16]) (n is least most right i : Int) (any al : Bool) (j : Int) (qs : Ro Iv5) (ps : Ro Jc) (all : Int) (l rs : Dt) (A : List Ed -> Prop) (K : Nat -> List Ed -> Prop) : Prop :=
 Vif (decide (j < (↑(rs.length) : Int))) (Need (decide (0 <= j) && decide (j < (↑(rs.length) : Int))) (Need (decide (j.toNat < rs.length)) (Need (decide (Zb <= 0) && decide (Zb < (↑(List.length (cel rs j.toNat Zd).lst) : Int))) (Need (decide (Int.toNat Zb < List.length (cel rs j.toNat Zd).lst)) (Pre True (Vif any (Vif al (Ar .i64 (j + 1) fun z => A [.ro [Ty.sl Zdz] pp, .ro _ x, .i n, .i is, .i least, .i most, .i right, .i i, .b true, .b !decide (Sp.ansOf (Zfg j rs).lst = right), .i z, .ro _ qs, .ro _ ps, .i all, .l l, .l rs]) (Ar .i64 (j + 1) fun z => A [.ro [Ty.sl Zdz] pp, .ro _ x, .i n, .i is, .i least, .i most, .i right, .i i, .b true, .b false, .i z, .ro _ qs, .ro _ ps, .i all, .l l, .l rs])) (Vif al (Ar .i64 (j + 1) fun z => A [.ro [Ty.sl Zdz] pp, .ro _ x, .i n, .i is, .i least, .i most, .i right, .i i, .b !decide (Sp.ansOf (Zfg j rs).lst = right), .b !decide (Sp.ansOf (Zfg j rs).lst = right), .i z, .ro _ qs, .ro _ ps, .i all, .l l, .l rs]) (Ar .i64 (j + 1) fun z => A [.ro [Ty.sl Zdz] pp, .ro _ x, .i n, .i is, .i least, .i most, .i right, .i i, .b !decide (Sp.ansOf (Zfg j rs).lst = right), .b false, .i z, .ro _ qs, .ro _ ps, .i all, .l l, .l rs])))))))) (K 0 [.ro [Ty.sl Zdz] pp, .ro _ x, .i n, .i is, .i least, .i most, .i right, .i i, .b any, .b al, .ro _ qs, .ro _ ps, .i all, .l l])
theorem Xly (W : InW) (pp x n is least most right i any al j qs ps all l rs A K) : Yfc { cxT Try.prog TT Xrl 1000 50 with fn := 16 } 1000 (Yn7 Try.prog 16 29) (Yd6 190 [(1, .rs _ pp), (2, .rs _ x), (3, .ptr 7 0), (7, .rw 1), (14, .si .i64 n), (15, .si .i64 is), (16, .si .i64 least), (17, .si .i64 most), (18, .si .i64 right), (19, .si .i64 i), (21, .rw 4), (22, .sb any), (23, .sb al), (24, .si .i64 j)] ([25] ++ rg 134 23)) [(7, .blk 25 [.rs _ qs, .rs _ ps, .si .i64 all]), (1, .arr 80 Ja l), (4, .nst 26 [.sl Jb] rs)] (Yuf Xhi A K) = Xeh pp x n is least most right i any al j qs ps all l rs A K := by kernel_rfl
def Xgn : Prop := ∀ (W : InW) (body a : Code), (Try.prog.funcs[16]?).bind (·.body) = some body -> a ∈ Yy body -> Yfw a = 29 -> @Ymq W Try.prog a (@Ytn W Xhi)
theorem Xno (meas : [InW] -> List Ed -> Nat) (hyp_ : ∀ (W : InW) pp x n is least most right i any al j qs ps all l rs K, Xfi [.ro _ pp, .ro _ x, .i n, .i is, .i least, .i most, .i right, .i i, .b any, .b al, .i j, .ro _ qs, .ro _ ps, .i all, .l l, .l rs] K -> ∀ A : List Ed -> Prop, (∀ e, meas e < meas [.ro _ pp, .ro _ x, .i n, .i is, .i least, .i most, .i right, .i i, .b any, .b al, .i j, .ro _ qs, .ro _ ps, .i all, .l l, .l rs] -> Xfi e K -> A e) -> Xeh pp x n is least most right i any al j qs ps all l rs A K) : Xgn :=
 LE.okOf' (fun W => @TT W) (fun W => @Xe W) Xa Xrl 1000 50 (by kernel_rfl) Xhi (fun W => @meas W) fun W pp x n is least most right i any al j qs ps all l rs K hs =>
  (Xly W pp x n is least most right i any al j qs ps all l rs (fun e => meas e < meas [.ro _ pp, .ro _ x, .i n, .i is, .i least, .i most, .i right, .i i, .b any, .b al, .i j, .ro _ qs, .ro _ ps, .i all, .l l, .l rs] /\ Xfi e K) K).mpr (hyp_ W pp x n is least most right i any al j qs ps all l rs K hs _ fun e h1 h2 => ⟨h1, h2⟩)
theorem Xqc : Xgn := Xno (fun e => match e with | [_, _, _, _, _, _, _, _, _, _, .i j, _, _, _, _, .l rs] => ((rs.length : Int) - j).toNat | _ => 0) fun W pp x n is least most right i any al j qs ps all l rs K hs A hA => by
 obtain ⟨⟨h0, h1, h2, hp⟩, hk⟩ := hs;unfold Xeh;delta Zfg Zdz Zd Zb;simp only [show Int.toNat 0 = 0 from rfl, show (cel rs j.toNat 0).lst = Sp.row rs j.toNat from rfl, show (cel (Sp.row rs j.toNat) 0 0).lst = Sp.row (Sp.row rs j.toNat) 0 from rfl];have ez : (j + 1).toNat = j.toNat + 1 := by omega
 by_cases hi : j < rs.length
 ·have h3 := hp.ok j.toNat (by omega);rw [show rs.length - j.toNat = (rs.length - (j.toNat + 1)) + 1 by omega] at hk;have hA' : ∀ c d, c = (any || Sp.mis1 right rs j.toNat) -> d = (al && Sp.mis1 right rs j.toNat) -> A [.ro _ pp, .ro _ x, .i n, .i is, .i least, .i most, .i right, .i i, .b c, .b d, .i (j + 1), .ro _ qs, .ro _ ps, .i all, .l l, .l rs] := fun c d hc hd => hA _ (show ((rs.length : Int) - (j + 1)).toNat < ((rs.length : Int) - j).toNat by omega) ⟨⟨by omega, by omega, h2, hp⟩, by
   rw [ez, hc, hd, Bool.or_assoc, Bool.and_assoc];exact hk⟩
  clear hA hk;unfold Sp.mis1 at hA'
  repeat' (first | omega|intro _|with_reducible first|apply vifd|apply vifn|apply vifq|apply Xd|apply Xc|apply vifb|apply vif|apply nedd|apply ned2|apply ned|apply ar64|apply Xb|exact True.intro|assumption|rfl|apply And.intro)
  all_goals first | contradiction | (refine hA' _ _ ?_ ?_ <;> simp [*]; done) | skip
 ·rw [show rs.length - j.toNat = 0 by omega] at hk;simp only [Sp.allF, Sp.anyF, Bool.and_true, Bool.or_false] at hk;refine vifd (fun e => by omega) fun _ => hk
def Xra : LE Try.prog := ⟨16, 29, fun W => @Ytn W Xhi, Xqc⟩
def Xrk : Tab Try.prog := ⟨[Xo5, Xk6, Xo4], [Xra], []⟩
namespace Sp
structure MiAt (i is least most : Int) : Prop where
 a : 0 <= is /\ is <= i
 b : 0 <= least /\ least <= i
 c : 0 <= most /\ most <= i
end Sp
def Xfj [InW] (e : List Ed) (K : Nat -> List Ed -> Prop) : Prop := match e with
 | [.ro _ pp, .ro _ x, .i n, .i is, .i least, .i most, .i right, .i i, .ro _ qs, .ro _ ps, .i all, .l l] => Pre (0 <= i /\ i <= pp.xs.length /\ (0 <= n /\ n < l.length) /\ Sp.MiAt i is least most /\ Sp.MsOk qs.xs ps.xs all pp.xs x.xs l) (K 0 [.ro _ pp, .ro _ x, .i n, .i (is + Sp.cnt (Sp.isI right pp.xs x.xs n.toNat) i.toNat (pp.xs.length - i.toNat)), .i (least + Sp.cnt (Sp.lsI right pp.xs n.toNat) i.toNat (pp.xs.length - i.toNat)), .i (most + Sp.cnt (Sp.msI right pp.xs n.toNat) i.toNat (pp.xs.length - i.toNat)), .ro _ qs, .ro _ ps, .i all, .l l])
 | _ => False
def Xhj : LC where
 len := 190
 T := [(1, .rs [.sl Jb]), (2, .rs [.int .u16]), (3, (.ptr 7 0)), (7, (.row 1)), (14, .int .i64), (15, .int .i64), (16, .int .i64), (17, .int .i64), (18, .int .i64), (19, .int .i64)]
 H := [(7, .blk 25 [.rs Iv5, .rs Jc, .int .i64]), (1, .arr 80 Ja)]
 W := (rg 20 6 ++ rg 95 68)
 outs := [⟨.exit 4, [(1, .rs [.sl Jb]), (2, .rs [.int .u16]), (3, (.ptr 7 0)), (7, (.row 1)), (14, .int .i64), (15, .int .i64), (16, .int .i64), (17, .int .i64)], [(7, .blk 25 [.rs Iv5, .rs Jc, .int .i64]), (1, .arr 80 Ja)], (rg 18 8 ++ rg 95 68)⟩]
 spec := Xfj
def Zfo [W : InW] (x : Ro [.int .u16]) := (↑(x.xs.length) : Int)
def Zfn [W : InW] (pp : Ro [.sl Jb]) (i : Int) := decide (0 <= i) && decide (i < (↑(pp.xs.length) : Int))
def Zfk [W : InW] (pp : Ro [.sl Jb]) (i : Int) := cel pp.xs i.toNat Zd
def Zfm [W : InW] (x : Ro [.int .u16]) (i : Int) := cel x.xs (i.tmod (Zfo x)).toNat Zd
def Zfh [W : InW] (pp : Ro [.sl Jb]) (n i : Int) := Sp.rdD [[Cl.l (cel (Zfk pp i).lst n.toNat Zd).lst]]
def Zfl [W : InW] (pp : Ro [.sl Jb]) (n right i : Int) := false || Sp.anyF (Sp.mis1 right (Zfh pp n i)) Zev (List.length (Zfh pp n i) - Int.toNat Zb)
def Zfp := [Ty.sl Zdz]
def Zfi [W : InW] (pp : Ro [.sl Jb]) (x : Ro [.int .u16]) (n is least most right i : Int) (qs : Ro Iv5) (ps : Ro Jc) (all : Int) (l : Dt) (A : List Ed -> Prop) := Ar .i64 (is + 1) fun z => Need (Zfn pp i) (Need (decide (i.toNat < pp.xs.length)) (Need (decide (0 <= n) && decide (n < (↑(List.length (Zfk pp i).lst) : Int))) (Need (decide (n.toNat < List.length (Zfk pp i).lst)) (Pre (Sp.RdgOk (8 : Nat) [[Cl.l (cel (Zfk pp i).lst n.toNat Zd).lst]]) (Pre (Zb <= 0 /\ Zb <= (↑(List.length (Zfh pp n i)) : Int) /\ List.length (Zfh pp n i) <= 128 /\ Sp.NonE (Zfh pp n i)) (Vif (true && Sp.allF (Sp.mis1 right (Zfh pp n i)) Zev (List.length (Zfh pp n i) - Int.toNat Zb)) (Ar .i64 (least + 1) fun z_1 => Vif (Zfl pp n right i) (Ar .i64 (most + 1) fun z_2 => Ar .i64 (i + 1) fun z_3 => A [.ro Zfp pp, .ro _ x, .i n, .i z, .i z_1, .i z_2, .i right, .i z_3, .ro _ qs, .ro _ ps, .i all, .l l]) (Ar .i64 (i + 1) fun z_2 => A [.ro Zfp pp, .ro _ x, .i n, .i z, .i z_1, .i most, .i right, .i z_2, .ro _ qs, .ro _ ps, .i all, .l l])) (Vif (Zfl pp n right i) (Ar .i64 (most + 1) fun z_1 => Ar .i64 (i + 1) fun z_2 => A [.ro Zfp pp, .ro _ x, .i n, .i z, .i least, .i z_1, .i right, .i z_2, .ro _ qs, .ro _ ps, .i all, .l l]) (Ar .i64 (i + 1) fun z_1 => A [.ro Zfp pp, .ro _ x, .i n, .i z, .i least, .i most, .i right, .i z_1, .ro _ qs, .ro _ ps, .i all, .l l]))))))))
def Zfj [W : InW] (pp : Ro [.sl Jb]) (x : Ro [.int .u16]) (n is least most right i : Int) (qs : Ro Iv5) (ps : Ro Jc) (all : Int) (l : Dt) (A : List Ed -> Prop) := Need (Zfn pp i) (Need (decide (i.toNat < pp.xs.length)) (Need (decide (0 <= n) && decide (n < (↑(List.length (Zfk pp i).lst) : Int))) (Need (decide (n.toNat < List.length (Zfk pp i).lst)) (Pre (Sp.RdgOk (8 : Nat) [[Cl.l (cel (Zfk pp i).lst n.toNat Zd).lst]]) (Pre (Zb <= 0 /\ Zb <= (↑(List.length (Zfh pp n i)) : Int) /\ List.length (Zfh pp n i) <= 128 /\ Sp.NonE (Zfh pp n i)) (Vif (true && Sp.allF (Sp.mis1 right (Zfh pp n i)) Zev (List.length (Zfh pp n i) - Int.toNat Zb)) (Ar .i64 (least + 1) fun z => Vif (Zfl pp n right i) (Ar .i64 (most + 1) fun z_1 => Ar .i64 (i + 1) fun z_2 => A [.ro Zfp pp, .ro _ x, .i n, .i is, .i z, .i z_1, .i right, .i z_2, .ro _ qs, .ro _ ps, .i all, .l l]) (Ar .i64 (i + 1) fun z_1 => A [.ro Zfp pp, .ro _ x, .i n, .i is, .i z, .i most, .i right, .i z_1, .ro _ qs, .ro _ ps, .i all, .l l])) (Vif (Zfl pp n right i) (Ar .i64 (most + 1) fun z => Ar .i64 (i + 1) fun z_1 => A [.ro Zfp pp, .ro _ x, .i n, .i is, .i least, .i z, .i right, .i z_1, .ro _ qs, .ro _ ps, .i all, .l l]) (Ar .i64 (i + 1) fun z => A [.ro Zfp pp, .ro _ x, .i n, .i is, .i least, .i most, .i right, .i z, .ro _ qs, .ro _ ps, .i all, .l l]))))))))
def Xei [W : InW] (pp : Ro [.sl Jb]) (x : Ro [.int .u16]) (n is least most right i : Int) (qs : Ro Iv5) (ps : Ro Jc) (all : Int) (l : Dt) (A : List Ed -> Prop) (K : Nat -> List Ed -> Prop) : Prop :=
 Vif (decide (i < (↑(pp.xs.length) : Int))) (Vif (decide (Zb < (Zfo x))) (Need (!decide ((Zfo x) = 0)) (Need (decide (0 <= i.tmod (Zfo x)) && decide (i.tmod (Zfo x) < (Zfo x))) (Need (decide ((i.tmod (Zfo x)).toNat < x.xs.length)) (Need (Zfn pp i) (Need (decide (i.toNat < pp.xs.length)) (Pre (Sp.Few (Zfk pp i).lst /\ List.length (Sp.uns (Zfk pp i).lst) <= 7 /\ Zb <= (Zfm x i).int /\ (Zfm x i).int <= 65535) (Need (decide (0 <= n) && decide (n < (↑(List.length (Sp.rdgV (Zfm x i).int (Zfk pp i).lst)) : Int))) (Need (decide (n.toNat < List.length (Sp.rdgV (Zfm x i).int (Zfk pp i).lst))) (Pre True (Vif (!decide (Sp.ansOf (cel (Sp.rdgV (Zfm x i).int (Zfk pp i).lst) n.toNat Zd).lst = right)) (Zfi pp x n is least most right i qs ps all l A) (Zfj pp x n is least most right i qs ps all l A))))))))))) (Need (Zfn pp i) (Need (decide (i.toNat < pp.xs.length)) (Pre (Sp.Few (Zfk pp i).lst /\ List.length (Sp.uns (Zfk pp i).lst) <= 7 /\ Zb <= 0 /\ Zb <= 65535) (Need (decide (0 <= n) && decide (n < (↑(List.length (Sp.rdgV Zb (Zfk pp i).lst)) : Int))) (Need (decide (n.toNat < List.length (Sp.rdgV Zb (Zfk pp i).lst))) (Pre True (Vif (!decide (Sp.ansOf (cel (Sp.rdgV Zb (Zfk pp i).lst) n.toNat Zd).lst = right)) (Zfi pp x n is least most right i qs ps all l A) (Zfj pp x n is least most right i qs ps all l A))))))))) (K 0 [.ro Zfp pp, .ro _ x, .i n, .i is, .i least, .i most, .ro _ qs, .ro _ ps, .i all, .l l])
theorem Xlz (W : InW) (pp x n is least most right i qs ps all l A K) : Yfc { cxT Try.prog TT Xrk 1000 50 with fn := 16 } 1000 (Yn7 Try.prog 16 19) (Yd6 190 [(1, .rs _ pp), (2, .rs _ x), (3, .ptr 7 0), (7, .rw 1), (14, .si .i64 n), (15, .si .i64 is), (16, .si .i64 least), (17, .si .i64 most), (18, .si .i64 right), (19, .si .i64 i)] (rg 20 6 ++ rg 95 68)) [(7, .blk 25 [.rs _ qs, .rs _ ps, .si .i64 all]), (1, .arr 80 Ja l)] (Yuf Xhj A K) = Xei pp x n is least most right i qs ps all l A K := by kernel_rfl
def Xgo : Prop := ∀ (W : InW) (body a : Code), (Try.prog.funcs[16]?).bind (·.body) = some body -> a ∈ Yy body -> Yfw a = 19 -> @Ymq W Try.prog a (@Ytn W Xhj)
theorem Xnp (meas : [InW] -> List Ed -> Nat) (hyp_ : ∀ (W : InW) pp x n is least most right i qs ps all l K, Xfj [.ro _ pp, .ro _ x, .i n, .i is, .i least, .i most, .i right, .i i, .ro _ qs, .ro _ ps, .i all, .l l] K -> ∀ A : List Ed -> Prop, (∀ e, meas e < meas [.ro _ pp, .ro _ x, .i n, .i is, .i least, .i most, .i right, .i i, .ro _ qs, .ro _ ps, .i all, .l l] -> Xfj e K -> A e) -> Xei pp x n is least most right i qs ps all l A K) : Xgo :=
 LE.okOf' (fun W => @TT W) (fun W => @Xe W) Xa Xrk 1000 50 (by kernel_rfl) Xhj (fun W => @meas W) fun W pp x n is least most right i qs ps all l K hs =>
  (Xlz W pp x n is least most right i qs ps all l (fun e => meas e < meas [.ro _ pp, .ro _ x, .i n, .i is, .i least, .i most, .i right, .i i, .ro _ qs, .ro _ ps, .i all, .l l] /\ Xfj e K) K).mpr (hyp_ W pp x n is least most right i qs ps all l K hs _ fun e h1 h2 => ⟨h1, h2⟩)
theorem Xqd : Xgo := Xnp (fun e => match e with | [.ro _ pp, _, _, _, _, _, _, .i i, _, _, _, _] => ((pp.xs.length : Int) - i).toNat | _ => 0) fun W pp x n is least most right i qs ps all l K hs A hA => by
 obtain ⟨⟨h0, h1, hn, hat, hm⟩, hk⟩ := hs;unfold Xei;delta Zfj Zfi Zfl Zfh Zfp Zfk Zev Zfm Zdz Zb Zd Zfn Zfo;have ez : (i + 1).toNat = i.toNat + 1 := by omega
 have h20 := hm.n20
 by_cases hi : i < pp.xs.length
 ·have hlt : i.toNat < pp.xs.length := by omega
  have ho := hm.ok _ hlt;have hkey := hm.key;have hf : Sp.Few (cel pp.xs i.toNat 0).lst := ho.toShapeOk.few hkey;have h7 : (Sp.uns (cel pp.xs i.toNat 0).lst).length <= 7 := ho.seven;have hlen : (cel pp.xs i.toNat 0).lst.length = qs.xs.length := ho.n;have hll := hm.len;have hd : (cel (cel pp.xs i.toNat 0).lst n.toNat 0).lst.length <= 4 := hf.2 n.toNat (by omega);have hrd : Sp.RdgOk 8 [[Cl.l (cel (cel pp.xs i.toNat 0).lst n.toNat 0).lst]] := Xmw hd;have hli := Xmx hd;have h128 : (Sp.rdD [[Cl.l (cel (cel pp.xs i.toNat 0).lst n.toNat 0).lst]]).length <= 128 := hli.few;have hne : Sp.NonE (Sp.rdD [[Cl.l (cel (cel pp.xs i.toNat 0).lst n.toNat 0).lst]]) := ⟨fun k hk => by
   have h : 0 < (Sp.row (Sp.rdD (Sp.one (cel (cel pp.xs i.toNat 0).lst n.toNat 0).lst)) k).length := by rw [hli.len k hk]; simp [Sp.one]
   exact h⟩
  rw [show pp.xs.length - i.toNat = (pp.xs.length - (i.toNat + 1)) + 1 by omega] at hk;simp only [Sp.cnt] at hk;obtain ⟨a1, b1, c1⟩ := hat;have go0 : ∀ a b c : Int, a = is + (if Sp.isI right pp.xs x.xs n.toNat i.toNat = true then 1 else 0) -> b = least + (if Sp.lsI right pp.xs n.toNat i.toNat = true then 1 else 0) -> c = most + (if Sp.msI right pp.xs n.toNat i.toNat = true then 1 else 0) -> A [.ro _ pp, .ro _ x, .i n, .i a, .i b, .i c, .i right, .i (i + 1), .ro _ qs, .ro _ ps, .i all, .l l] := fun a b c ha hb hc => hA _ (show ((pp.xs.length : Int) - (i + 1)).toNat < ((pp.xs.length : Int) - i).toNat by omega) ⟨⟨by omega, by omega, hn, ⟨by rw [ha]; split <;> omega, by rw [hb]; split <;> omega, by rw [hc]; split <;> omega⟩, hm⟩, by
   rw [ez, ha, hb, hc, Int.add_assoc, Int.add_assoc, Int.add_assoc];exact hk⟩
  clear hA hk;simp only [show Int.toNat 0 = 0 from rfl, Nat.sub_zero, Bool.true_and, Bool.false_or];have go : ∀ β : Int, β = Sp.bitX x.xs i.toNat -> ∀ a b c : Int, a = is + (if (!decide (Sp.ansOf (cel (Sp.rdgV β (cel pp.xs i.toNat 0).lst) n.toNat 0).lst = right)) = true then 1 else 0) -> b = least + (if Sp.allF (Sp.mis1 right (Sp.rdD [[Cl.l (cel (cel pp.xs i.toNat 0).lst n.toNat 0).lst]])) 0 (Sp.rdD [[Cl.l (cel (cel pp.xs i.toNat 0).lst n.toNat 0).lst]]).length = true then 1 else 0) -> c = most + (if Sp.anyF (Sp.mis1 right (Sp.rdD [[Cl.l (cel (cel pp.xs i.toNat 0).lst n.toNat 0).lst]])) 0 (Sp.rdD [[Cl.l (cel (cel pp.xs i.toNat 0).lst n.toNat 0).lst]]).length = true then 1 else 0) -> A [.ro _ pp, .ro _ x, .i n, .i a, .i b, .i c, .i right, .i (i + 1), .ro _ qs, .ro _ ps, .i all, .l l] := fun β hβ a b c ha hb hc => by
   subst hβ;exact go0 a b c ha hb hc
  clear go0;have rl : ∀ β : Int, 0 <= β -> (Sp.rdgV β (cel pp.xs i.toNat 0).lst).length = qs.xs.length := fun β hb => by rw [(Sp.rds_shape _ (Sp.rdgV_mem hb _)).1]; exact hlen
  by_cases hx : 0 < x.xs.length
  ·have t0 : 0 <= i.tmod x.xs.length /\ i.tmod x.xs.length < x.xs.length := by
    rw [Int.tmod_eq_emod_of_nonneg h0];exact ⟨Int.emod_nonneg _ (by omega), Int.emod_lt_of_pos _ (by omega)⟩
   have hb := hm.x_ (i.tmod x.xs.length).toNat (by omega);have eb : (cel x.xs (i.tmod x.xs.length).toNat 0).int = Sp.bitX x.xs i.toNat := by
    unfold Sp.bitX;rw [if_neg (by omega), show (i.tmod x.xs.length).toNat = i.toNat % x.xs.length by rw [Int.tmod_eq_emod_of_nonneg h0, Int.toNat_emod h0 (by omega), Int.toNat_natCast]]
   have hrl := rl _ hb.1;have go := go _ eb;clear rl eb;generalize (cel x.xs (i.tmod x.xs.length).toNat 0).int = β at *;have hn0 : (!decide ((x.xs.length : Int) = 0)) = true := by rw [decide_eq_false (by omega)]; rfl
   refine vifd (fun _ => vifd (fun _ => ned hn0 (ned2 t0 (nedd (by omega) (ned2 (by omega) (nedd hlt (Xb ⟨hf, h7, hb⟩ (ned2 (by omega) (nedd (by omega) (Xb trivial ?_))))))))) fun c => by omega) fun c => by omega
   repeat' (first | omega|intro _|with_reducible first|apply vifd|apply vifn|apply vifq|apply Xd|apply Xc|apply vifb|apply vif|apply nedd|apply ned2|apply ned|apply ar64|apply Xb|exact True.intro|assumption|rfl|apply And.intro)
   all_goals (refine go _ _ _ ?_ ?_ ?_ <;> simp [*])
  ·have eb : (0 : Int) = Sp.bitX x.xs i.toNat := by unfold Sp.bitX; rw [if_pos (by omega)]
   have hrl := rl 0 (by omega);have go := go _ eb;clear rl eb;refine vifd (fun _ => vifd (fun c => by omega) fun _ => ned2 (by omega) (nedd hlt (Xb ⟨hf, h7, by omega, by omega⟩ (ned2 (by omega) (nedd (by omega) (Xb trivial ?_)))))) fun c => by omega
   repeat' (first | omega|intro _|with_reducible first|apply vifd|apply vifn|apply vifq|apply Xd|apply Xc|apply vifb|apply vif|apply nedd|apply ned2|apply ned|apply ar64|apply Xb|exact True.intro|assumption|rfl|apply And.intro)
   all_goals (refine go _ _ _ ?_ ?_ ?_ <;> simp [*])
 ·rw [show pp.xs.length - i.toNat = 0 by omega] at hk;simp only [Sp.cnt, Int.add_zero] at hk;refine vifd (fun e => by omega) fun _ => hk
def Xrb : LE Try.prog := ⟨16, 19, fun W => @Ytn W Xhj, Xqd⟩
def Xfh [InW] (e : List Ed) (K : Nat -> List Ed -> Prop) : Prop := match e with
 | [.ro _ pp, .ro _ x, .i n, .ro _ qs, .ro _ ps, .i all, .l l] => Pre (0 <= n /\ n <= l.length /\ Sp.MsOk qs.xs ps.xs all pp.xs x.xs l) (K 0 [])
 | _ => False
def Xrj : Tab Try.prog := ⟨[], [Xrb], []⟩
def Xhh : LC where
 len := 190
 T := [(1, .rs [.sl Jb]), (2, .rs [.int .u16]), (3, (.ptr 7 0)), (7, (.row 1)), (14, .int .i64)]
 H := [(7, .blk 25 [.rs Iv5, .rs Jc, .int .i64]), (1, .arr 80 Ja)]
 W := ([6] ++ rg 15 11 ++ rg 83 106)
 outs := [⟨.exit 2, [], [], ([1, 2, 3, 6, 7] ++ rg 14 12 ++ rg 83 106)⟩]
 spec := Xfh
def Zfq [W : InW] (n : Int) (l : Dt) := decide (0 <= n) && decide (n < (↑(l.length) : Int))
def Xeg [W : InW] (pp : Ro [.sl Jb]) (x : Ro [.int .u16]) (n : Int) (qs : Ro Iv5) (ps : Ro Jc) (all : Int) (l : Dt) (A : List Ed -> Prop) (K : Nat -> List Ed -> Prop) : Prop :=
 Vif (decide (n < (↑(l.length) : Int))) (Need (decide (0 <= n) && decide (n < (↑(qs.xs.length) : Int))) (Need (decide (n.toNat < qs.xs.length)) (Pre (Zb <= 0 /\ Zb <= (↑(pp.xs.length) : Int) /\ (0 <= n /\ n < (↑(l.length) : Int)) /\ Sp.MiAt Zb Zb Zb Zb /\ Sp.MsOk qs.xs ps.xs all pp.xs x.xs l) (Need (Zfq n l) (Need (decide (n.toNat < l.length)) (Vif (decide (Zb + Sp.cnt (Sp.isI (cel qs.xs n.toNat (1+1)).int pp.xs x.xs n.toNat) Zev (pp.xs.length - Int.toNat Zb) < (cel l n.toNat (0 : Nat)).int)) ((472 : Nat) = 472 + 1) (Need (Zfq n l) (Need (decide (n.toNat < l.length)) (Vif (decide ((cel l n.toNat (0+1)).int < 0 + Sp.cnt (Sp.isI (cel qs.xs n.toNat (1+1)).int pp.xs x.xs n.toNat) Zev (pp.xs.length - Int.toNat Zb))) ((472 : Nat) = 472 + 1) (Need (Zfq n l) (Need (decide (n.toNat < l.length)) (Vif (!(decide ((cel l n.toNat (0 : Nat)).int = 0 + Sp.cnt (Sp.lsI (cel qs.xs n.toNat (1+1)).int pp.xs n.toNat) Zev (pp.xs.length - Int.toNat Zb)) && (decide ((cel l n.toNat (0+1)).int = 0 + Sp.cnt (Sp.msI (cel qs.xs n.toNat (1+1)).int pp.xs n.toNat) Zev (pp.xs.length - Int.toNat Zb)) && true))) ((472 : Nat) = 472 + 1) (Ar .i64 (n + 1) fun z => A [.ro [Ty.sl Zdz] pp, .ro _ x, .i z, .ro _ qs, .ro _ ps, .i all, .l l]))))))))))))) (K 0 [])
theorem Xlx (W : InW) (pp x n qs ps all l A K) : Yfc { cxT Try.prog TT Xrj 1000 50 with fn := 16 } 1000 (Yn7 Try.prog 16 14) (Yd6 190 [(1, .rs _ pp), (2, .rs _ x), (3, .ptr 7 0), (7, .rw 1), (14, .si .i64 n)] ([6] ++ rg 15 11 ++ rg 83 106)) [(7, .blk 25 [.rs _ qs, .rs _ ps, .si .i64 all]), (1, .arr 80 Ja l)] (Yuf Xhh A K) = Xeg pp x n qs ps all l A K := by kernel_rfl
def Xgm : Prop := ∀ (W : InW) (body a : Code), (Try.prog.funcs[16]?).bind (·.body) = some body -> a ∈ Yy body -> Yfw a = 14 -> @Ymq W Try.prog a (@Ytn W Xhh)
theorem Xnn (meas : [InW] -> List Ed -> Nat) (hyp_ : ∀ (W : InW) pp x n qs ps all l K, Xfh [.ro _ pp, .ro _ x, .i n, .ro _ qs, .ro _ ps, .i all, .l l] K -> ∀ A : List Ed -> Prop, (∀ e, meas e < meas [.ro _ pp, .ro _ x, .i n, .ro _ qs, .ro _ ps, .i all, .l l] -> Xfh e K -> A e) -> Xeg pp x n qs ps all l A K) : Xgm :=
 LE.okOf' (fun W => @TT W) (fun W => @Xe W) Xa Xrj 1000 50 (by kernel_rfl) Xhh (fun W => @meas W) fun W pp x n qs ps all l K hs =>
  (Xlx W pp x n qs ps all l (fun e => meas e < meas [.ro _ pp, .ro _ x, .i n, .ro _ qs, .ro _ ps, .i all, .l l] /\ Xfh e K) K).mpr (hyp_ W pp x n qs ps all l K hs _ fun e h1 h2 => ⟨h1, h2⟩)
theorem Xqb : Xgm := Xnn (fun e => match e with | [_, _, .i n, _, _, _, .l l] => ((l.length : Int) - n).toNat | _ => 0) fun W pp x n qs ps all l K hs A hA => by
 obtain ⟨⟨h0, h1, hm⟩, hk⟩ := hs;unfold Xeg;delta Zev Zdz Zb Zfq
 by_cases hi : n < l.length
 ·have hll := hm.len;have h20 := hm.n20;have n2 := hm.key.n2;obtain ⟨l1, l2⟩ := hm.le (n := n.toNat) (by omega) (Sp.qRight qs.xs n.toNat);have lo := hm.lo n.toNat (by omega);have hi2 := hm.hi n.toNat (by omega);have hA' := hA [.ro _ pp, .ro _ x, .i (n + 1), .ro _ qs, .ro _ ps, .i all, .l l] (show ((l.length : Int) - (n + 1)).toNat < ((l.length : Int) - n).toNat by omega) ⟨⟨by omega, by omega, hm⟩, hk⟩;clear hA;simp only [show Int.toNat 0 = 0 from rfl, Nat.sub_zero, Int.zero_add, Nat.zero_add, show (cel qs.xs n.toNat (1 + 1)).int = Sp.qRight qs.xs n.toNat from rfl];refine vifd (fun _ => ned2 (by omega) (nedd (by omega) (Xb ⟨by omega, by omega, ⟨h0, hi⟩, ⟨by omega, by omega, by omega⟩, hm⟩ (ned2 (by omega) (nedd (by omega) (vifd (fun c => by omega) fun _ => ned2 (by omega) (nedd (by omega) (vifd (fun c => by omega) fun _ => ned2 (by omega) (nedd (by omega) (vif (fun c => ?_) fun _ => ar64 (by omega) hA')))))))))) fun c => by omega
  exfalso;rw [decide_eq_true lo, decide_eq_true hi2] at c;cases c
 ·refine vifd (fun c => by omega) fun _ => hk
def Xq9 : LE Try.prog := ⟨16, 14, fun W => @Ytn W Xhh, Xqb⟩
def TL16 : Tab Try.prog := ⟨[Xib, Xia, Xj4], [Xrc, Xq9], []⟩
def Zfr [W : InW] (kQ : Ro Iv5) (kP : Ro Jc) (kA : Int) (pp : Ro [.sl Jb]) (x : Ro [.int .u16]) (Q : DS -> Prop) := Vif (!decide (Sp.misE kQ.xs kP.xs kA pp.xs = 0)) (Q Zfc) (Vif (!decide ((↑(List.length (Sp.misV kQ.xs kP.xs kA pp.xs)) : Int) = (↑(kQ.xs.length) : Int))) (Q Zfc) (Pre (Zb <= 0 /\ Zb <= (↑(List.length (Sp.misV kQ.xs kP.xs kA pp.xs)) : Int) /\ Sp.MsOk kQ.xs kP.xs kA pp.xs x.xs (Sp.misV kQ.xs kP.xs kA pp.xs)) (Pre True (Q [[Cl.b true]]))))
def Xck [W : InW] (kQ : Ro Iv5) (kP : Ro Jc) (kA : Int) (pp : Ro [.sl Jb]) (x : Ro [.int .u16]) (Q : DS -> Prop) : Prop :=
 Pre True (Pre True (Vif (decide (Sp.chkE kQ.xs kP.xs kA = 0)) (Pre (Zb <= 0 /\ Zb <= (↑(pp.xs.length) : Int) /\ (decide ((↑(pp.xs.length) : Int) <= 20) = true -> Sp.KeyOk kQ.xs kP.xs kA)) (Vif (!(decide ((↑(pp.xs.length) : Int) <= 20) && Sp.allF (fun k => decide (Sp.shE kQ.xs (Sp.row pp.xs k) = 0)) Zev (pp.xs.length - Int.toNat Zb))) (Vif (!decide (Sp.misE kQ.xs kP.xs kA pp.xs = 0)) (Vif (decide ((↑(List.length (Sp.misV kQ.xs kP.xs kA pp.xs)) : Int) = 0)) (Pre True (Q [[Cl.b true]])) (Q Zfc)) (Q Zfc)) (Zfr kQ kP kA pp x Q))) (Pre (Zb <= 0 /\ Zb <= (↑(pp.xs.length) : Int) /\ (false = true -> Sp.KeyOk kQ.xs kP.xs kA)) (Vif (!(false && Sp.allF (fun k => decide (Sp.shE kQ.xs (Sp.row pp.xs k) = 0)) Zev (pp.xs.length - Int.toNat Zb))) (Vif (!decide (Sp.misE kQ.xs kP.xs kA pp.xs = 0)) (Vif (decide ((↑(List.length (Sp.misV kQ.xs kP.xs kA pp.xs)) : Int) = 0)) (Pre True (Q [[Cl.b true]])) (Q Zfc)) (Q Zfc)) (Zfr kQ kP kA pp x Q)))))
theorem Xjp (W : InW) (kQ kP kA pp x Q) : Ywt (cxT Try.prog TT TL16 1000 50) 1000 16 [.agg [.rs _ kQ, .rs _ kP, .si .i64 kA], .rs _ pp, .rs _ x] [] 0 (Y02 [(false, [.bool])] Q) (fun _ _ _ _ => Stuck 421) = Xck kQ kP kA pp x Q := by kernel_rfl
abbrev Xbo : List AT := [.agg [.sl Iv5, .sl Jc, .int .i64], .one (.sl [.sl Jb]), .one (.sl [.int .u16])]
theorem Xkj {pre : DS -> Prop} {res : DS -> DS} (hyp_ : ∀ (W : InW) (kQ : Ro Iv5) (kP : Ro Jc) (kA : Int) (pp : Ro [.sl Jb]) (x : Ro [.int .u16]), pre [[.l kQ.xs, .l kP.xs, .i kA], [.l pp.xs], [.l x.xs]] -> ∀ Q : DS -> Prop, Q (res [[.l kQ.xs, .l kP.xs, .i kA], [.l pp.xs], [.l x.xs]]) -> Xck kQ kP kA pp x Q) : PureOk Try.prog 16 Xbo [(false, [.bool])] pre res :=
 PureOk.of' (fun W => @TT W) (fun W => @Xe W) Xa TL16 1000 50 fun W kQ kP kA pp x hp =>
  (Xjp W kQ kP kA pp x (fun o => o = res [[.l kQ.xs, .l kP.xs, .i kA], [.l pp.xs], [.l x.xs]])).mpr (hyp_ W kQ kP kA pp x hp _ rfl)
theorem Xdg : PureOk Try.prog 16 Xbo [(false, [.bool])] (WfD Xbo) fun _ => [[.b true]] :=
 Xkj fun W qs ps all pp x hp Q h => by
  have hx := (WfL.head (WfD.head (WfD.head (WfD.head hp).2).2).1).1;unfold Xck;delta Zfr Zev Zb Zfc;have hxo : Sp.xOk x.xs := fun i hi => by
   have h1 := wf_el hx i hi (k := 0) rfl;have h2 : ∃ m, cel x.xs i 0 = .i m := by
    cases hc : cel x.xs i 0 <;> rw [hc] at h1 <;> cases h1;exact ⟨_, rfl⟩
   obtain ⟨m, e⟩ := h2;rw [e] at h1 ⊢;exact Xos h1
  simp only [show Int.toNat 0 = 0 from rfl, Nat.sub_zero]
  by_cases e : Sp.misE qs.xs ps.xs all pp.xs = 0
  ·obtain ⟨c1, c2, c3⟩ := Sp.misE_iff.1 e;have hm := Sp.ms_ok e hxo;have hl := hm.len;refine Xb trivial (Xb trivial (vifd (fun _ => Xb ⟨by omega, by omega, fun _ => hm.key⟩ (vifb (fun hb => ?_) fun _ => vifn (fun c => absurd e c) fun _ => vifn (fun c => absurd (by omega) c) fun _ => Xb ⟨by omega, by omega, hm⟩ (Xb trivial h))) fun c => absurd c1 c));rw [decide_eq_true (by omega), c3] at hb;cases hb
  ·have hv : Sp.misV qs.xs ps.xs all pp.xs = [] := by unfold Sp.misV; rw [if_neg e]
   have bad : Vif (!decide (Sp.misE qs.xs ps.xs all pp.xs = 0)) (Vif (decide (((Sp.misV qs.xs ps.xs all pp.xs).length : Int) = 0)) (Pre True (Q [[Cl.b true]])) (Q [[Cl.b false]])) (Q [[Cl.b false]]) :=
    vifn (fun _ => vifd (fun _ => Xb trivial h) fun c => absurd (by rw [hv]; rfl) c) fun c => absurd c e
   refine Xb trivial (Xb trivial (vifd (fun c1 => Xb ⟨by omega, by omega, fun _ => Sp.chkE_iff.1 c1⟩ (vifb (fun hb => bad) fun hb => ?_)) fun c1 => Xb ⟨by omega, by omega, fun c => by cases c⟩ (vifb (fun hb => bad) fun hb => by cases hb)));rw [Bool.and_eq_true] at hb;have := of_decide_eq_true hb.1;exact absurd (Sp.misE_iff.2 ⟨c1, by omega, hb.2⟩) e
end Go.Proofs.Ytifhdbgciehicaa
namespace Go.Proofs.Ytifhdbgciehicaa.answerMissed
open Go.ChangeShapes Go.WideShapes Go.ChangeAt Go.RowKit
set_option maxRecDepth 100000
theorem own : ownKnob Try.prog.godebug = none := by kernel_rfl
theorem laid : laidOutB Try.prog = true := by kernel_rfl
theorem lifted (os : Os) (started : os.Started) (H : Type) (enc : TypeId × Value -> H) :
  ReturnsInHanded {} Try.checked os 16 .any (Rows.answerMissedSpec.pre6 enc Try.prog Try.f16 Rows.answerMissedRow.domain false) (Rows.answerMissedSpec.post enc Try.prog Try.f16 false true false false) := by
 refine returnsInHanded_of_change (C := Try.checked) own started (by kernel_rfl) Try.func16
  (ChangeSpec.witness6 (enc := enc) (C := Try.checked) false ⟨#[], #[(.agg #[.slice none 0 0, .slice none 0 0, .int .i64 0]), (.slice none 0 0), (.slice none 0 0)], []⟩ 8 (by kernel_rfl) (by kernel_rfl) (by kernel_rfl) (by kernel_rfl)) ?_
 intro W base args ds gs before hval hW _ _;exact law_end (f := Try.f16) (s := Rows.answerMissedSpec) (by kernel_rfl) Try.underlying4 (by kernel_rfl) rfl laid (by kernel_rfl)
  (fun ds h => by match ds, (show ds.length = 3 from h) with | [_, _, _], _ => exact ⟨rfl, rfl, rfl⟩) Xdg hval hW
theorem over : Rows.answerMissedRow.holds Try.pinned (OpenSpec.ofChange Rows.answerMissedSpec) :=
 OpenClaim.holds_of_wide 16 Try.f16 rfl rfl rfl rfl rfl rfl rfl ⟨rfl, rfl, rfl, rfl, rfl⟩ rfl rfl rfl rfl rfl (by kernel_rfl) Try.func16 (by kernel_rfl)
  (of_decide_eq_true (by kernel_rfl)) (by unfold Func.isWrapper; first | (rw [if_pos (by decide +kernel)]; kernel_rfl) | (rw [if_neg (by decide +kernel)]; exact ⟨rfl, rfl⟩))
  (fun os started H enc _ => lifted os started H enc)
theorem proved : Rows.AnswerMissedSaid := over
end Go.Proofs.Ytifhdbgciehicaa.answerMissed
