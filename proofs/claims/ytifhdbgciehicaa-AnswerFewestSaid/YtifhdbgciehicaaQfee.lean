/-
  'AnswerFewest': for every input the law returns true, and what is handed in reads as before. No condition.
-/
import Derived.Test.YtifhdbgciehicaaQfed
import Derived.Test.YtifhdbgciehicaaRows
import Derived.WalkKit
import Derived.ProofKit
set_option linter.unusedVariables false
set_option linter.unusedSectionVars false
set_option linter.unusedSimpArgs false
namespace Go.Proofs.Ytifhdbgciehicaa
open Go.RowKit
set_option maxRecDepth 100000
theorem vif_t [InW] {b : Bool} {A B : Prop} (hb : b = true) (ha : A) : Vif b A B := Vif_iff.2 ⟨fun _ => ha, fun h => absurd (hb.symm.trans h) (by decide)⟩
theorem Xjx [W : InW] (Q : DS -> Prop) (h : Q [[.b true]]) : Xbb Q := by
 unfold Xbb;delta Zez Zev Zew Zex Zey Zfb Zfa Zeu Zb
 repeat first | refine vif_t (by kernel_rfl) ?_ | refine Pre_iff.2 ⟨trivial, ?_⟩ | refine Pre_iff.2 ⟨by kernel_rfl, ?_⟩ | refine Pre_iff.2 ⟨⟨by kernel_rfl, by kernel_rfl, by kernel_rfl⟩, ?_⟩
 exact (congrArg Q (by kernel_rfl)).mpr h
noncomputable def Xi4 : PC Try.prog := ⟨22, [], [(false, [.bool])], fun _ => True, fun _ => [[.b true]], Xjm fun W hp Q h => Xjx Q h⟩
set_option maxHeartbeats 1600000
namespace Sp
theorem rds_shok {qs sh : Dt} (h : ShOk qs sh) : ∀ r ∈ rds sh, ShOk qs r :=
 rds_ind (P := fun r => ShOk qs r) h fun s q j v hs _ hv => hs.withD hv
theorem ask_of {qs ps sh : Dt} {all : Int} (hk : KeyOk qs ps all) (hs : ShOk qs sh) : askE qs ps all sh = 0 := by
 unfold askE;rw [if_pos (chkE_iff.2 hk), shE_iff.2 hs]
def boxV (u : Dt) (a b : Int) (i : Nat) : Bool := decide (cA u i = a) && decide (cB u i = b)
def hasB (u : Dt) (a b : Int) : Bool := anyF (boxV u a b) 0 u.length
def lksV (qs ps : Dt) (all : Int) (sh : Dt) : Int := if (lookE qs ps all sh = 0 /\ 0 < (lookR qs ps all sh).n) \/ (lookE qs ps all sh = 4 /\ (lookR qs ps all sh).n = 0) then (lookR qs ps all sh).n else -1
end Sp
noncomputable def TN1 : Tab Try.prog := ⟨[Xhg, Xi1], [], []⟩
def Xcg [W : InW] (kQ : Ro Iv5) (kP : Ro Jc) (kA : Int) (sh : Ro Jb) (Q : DS -> Prop) : Prop :=
 Pre True (Vif (decide (Sp.chkE kQ.xs kP.xs kA = 0)) (Pre (Sp.KeyOk kQ.xs kP.xs kA) (Q [[Cl.b (decide (Sp.shE kQ.xs sh.xs = 0))]])) (Q [[Cl.b false]]))
theorem Xim (W : InW) (kQ kP kA sh Q) : Ywt (cxT Try.prog TT TN1 1000 50) 1000 40 [.agg [.rs _ kQ, .rs _ kP, .si .i64 kA], .rs _ sh] [] 0 (Y02 [(false, [.bool])] Q) (fun _ _ _ _ => Stuck 421) = Xcg kQ kP kA sh Q := by kernel_rfl
abbrev Xbl : List AT := [.agg [.sl Iv5, .sl Jc, .int .i64], .one (.sl Jb)]
theorem Xjg {pre : DS -> Prop} {res : DS -> DS} (hyp_ : ∀ (W : InW) (kQ : Ro Iv5) (kP : Ro Jc) (kA : Int) (sh : Ro Jb), pre [[.l kQ.xs, .l kP.xs, .i kA], [.l sh.xs]] -> ∀ Q : DS -> Prop, Q (res [[.l kQ.xs, .l kP.xs, .i kA], [.l sh.xs]]) -> Xcg kQ kP kA sh Q) : PureOk Try.prog 40 Xbl [(false, [.bool])] pre res :=
 PureOk.of' (fun W => @TT W) (fun W => @Xe W) Xa TN1 1000 50 fun W kQ kP kA sh hp =>
  (Xim W kQ kP kA sh (fun o => o = res [[.l kQ.xs, .l kP.xs, .i kA], [.l sh.xs]])).mpr (hyp_ W kQ kP kA sh hp _ rfl)
abbrev Xr (ds : DS) : DS := match ds with | [[.l qs, .l ps, .i all], [.l sh]] => [[.b (decide (Sp.askE qs ps all sh = 0))]] | _ => []
theorem Xlp : PureOk Try.prog 40 Xbl [(false, [.bool])] (fun _ => True) Xr :=
 Xjg fun W qs ps all sh hp Q h => by
  unfold Xcg;refine ⟨trivial, vifd (fun e => ⟨Sp.chkE_iff.1 e, ?_⟩) fun e => ?_⟩
  ·have e2 : Sp.askE qs.xs ps.xs all sh.xs = Sp.shE qs.xs sh.xs := by unfold Sp.askE; rw [if_pos e]
   simpa [Xr, e2] using h
  ·have e2 : Sp.askE qs.xs ps.xs all sh.xs = Sp.chkE qs.xs ps.xs all := by unfold Sp.askE; rw [if_neg e]
   simpa [Xr, e2, e] using h
noncomputable def Xiz : PC Try.prog := ⟨40, Xbl, [(false, [.bool])], fun _ => True, Xr, Xlp⟩
def Xfd [InW] (e : List Ed) (K : Nat -> List Ed -> Prop) : Prop := match e with
 | [.ro _ u, .i i, .i a, .i b] => Pre (0 <= i /\ i <= u.xs.length) (Vif (Sp.anyF (Sp.boxV u.xs a b) i.toNat (u.xs.length - i.toNat)) (K 1 []) (K 0 []))
 | _ => False
noncomputable def Xgx : LC where
 len := 18
 T := [(0, .rs Ja), (3, (.ptr 1 0)), (5, .int .i64)]
 H := [(1, .blk 44 [.int .i64, .int .i64])]
 W := ([4] ++ rg 6 12)
 outs := [⟨.exit 0, [], [], ([0] ++ rg 3 15)⟩, ⟨.ret, [(4, (.lit (.bool true)))], [], ([0, 3] ++ rg 5 13)⟩]
 spec := Xfd
def Xeh [W : InW] (u : Ro Ja) (i a b : Int) (A : List Ed -> Prop) (K : Nat -> List Ed -> Prop) : Prop :=
 Vif (decide (i < (↑(u.xs.length) : Int))) (Need (decide (0 <= i) && decide (i < (↑(u.xs.length) : Int))) (Need (decide (i.toNat < u.xs.length)) (Vif (decide ((cel u.xs i.toNat (0 : Nat)).int = a) && (decide ((cel u.xs i.toNat (0+1)).int = b) && true)) (K (0+1) []) (Ar .i64 (i + 1) fun z => A [.ro _ u, .i z, .i a, .i b])))) (K 0 [])
theorem Xky (W : InW) (u i a b A K) : Yfc { cxT Try.prog TT T0 1000 50 with fn := 46 } 1000 (Yn7 Try.prog 46 3) (Yd6 18 [(0, .rs _ u), (3, .ptr 1 0), (5, .si .i64 i)] ([4] ++ rg 6 12)) [(1, .blk 44 [.si .i64 a, .si .i64 b])] (Yuf Xgx A K) = Xeh u i a b A K := by kernel_rfl
def Xf8 : Prop := ∀ (W : InW) (body a : Code), (Try.prog.funcs[46]?).bind (·.body) = some body -> a ∈ Yy body -> Yfw a = 3 -> @Ymq W Try.prog a (@Ytn W Xgx)
theorem Xmg (meas : [InW] -> List Ed -> Nat) (hyp_ : ∀ (W : InW) u i a b K, Xfd [.ro _ u, .i i, .i a, .i b] K -> ∀ A : List Ed -> Prop, (∀ e, meas e < meas [.ro _ u, .i i, .i a, .i b] -> Xfd e K -> A e) -> Xeh u i a b A K) : Xf8 :=
 LE.okOf' (fun W => @TT W) (fun W => @Xe W) Xa T0 1000 50 (by kernel_rfl) Xgx (fun W => @meas W) fun W u i a b K hs =>
  (Xky W u i a b (fun e => meas e < meas [.ro _ u, .i i, .i a, .i b] /\ Xfd e K) K).mpr (hyp_ W u i a b K hs _ fun e h1 h2 => ⟨h1, h2⟩)
theorem Xov : Xf8 := Xmg (fun e => match e with | .ro _ u :: .i i :: _ => ((u.xs.length : Int) - i).toNat | _ => 0) fun W u i a b K hs A hA => by
 obtain ⟨⟨h0, h1⟩, hk⟩ := hs;unfold Xeh;have hm := u.len;simp only [maxLen] at hm;have ez : (i + 1).toNat = i.toNat + 1 := by omega
 by_cases hi : i < u.xs.length
 ·rw [show u.xs.length - i.toNat = (u.xs.length - (i.toNat + 1)) + 1 by omega] at hk;simp only [Sp.anyF] at hk;simp only [show ∀ k, (cel u.xs k 0).int = Sp.cA u.xs k from fun _ => rfl, show ∀ k, (cel u.xs k 1).int = Sp.cB u.xs k from fun _ => rfl, Bool.and_true];have go : Sp.boxV u.xs a b i.toNat = false -> A [.ro _ u, .i (i + 1), .i a, .i b] := fun c2 => by
   rw [c2, Bool.false_or] at hk;exact hA _ (show ((u.xs.length : Int) - (i + 1)).toNat < ((u.xs.length : Int) - i).toNat by omega) ⟨⟨by omega, by omega⟩, by rw [ez]; exact hk⟩
  have yes : Sp.boxV u.xs a b i.toNat = true -> K 1 [] := fun c2 => by
   rw [c2, Bool.true_or] at hk;exact hk.1 rfl
  clear hA hk;unfold Sp.boxV at go yes;refine vifd (fun _ => ?_) fun e => by omega
  repeat (first | refine nedd (by omega) ?_ | refine ned (by simp only [Bool.and_eq_true, decide_eq_true_eq]; omega) ?_)
  refine vif (fun e => yes e) fun e => ?_;exact ar64 (by omega) (go e)
 ·rw [show u.xs.length - i.toNat = 0 by omega] at hk;clear hA
  repeat' (first | omega|intro _|with_reducible first|apply vifd|apply vifn|apply vifq|apply Xd|apply Xc|apply vifb|apply vif|apply nedd|apply ned2|apply ned|apply ar64|apply Xb|exact True.intro|assumption|rfl|apply And.intro)
  all_goals exact hk.2 rfl
noncomputable def Xpn : LE Try.prog := ⟨46, 3, fun W => @Ytn W Xgx, Xov⟩
noncomputable def TN3 : Tab Try.prog := ⟨[], [Xpn], []⟩
def Xh9 [W : InW] (u : Ro Ja) (b_A b_B : Int) (Q : DS -> Prop) : Prop :=
 Pre ((0 : Int) <= 0 /\ (0 : Int) <= (↑(u.xs.length) : Int)) (Vif (Sp.anyF (Sp.boxV u.xs b_A b_B) (Int.toNat (0 : Int)) (u.xs.length - Int.toNat (0 : Int))) (Q [[Cl.b true]]) (Q [[Cl.b false]]))
theorem Xnk (W : InW) (u b_A b_B Q) : Ywt (cxT Try.prog TT TN3 1000 50) 1000 46 [.rs _ u, .agg [.si .i64 b_A, .si .i64 b_B]] [] 0 (Y02 [(false, [.bool])] Q) (fun _ _ _ _ => Stuck 421) = Xh9 u b_A b_B Q := by kernel_rfl
abbrev Xdj : List AT := [.one (.sl Ja), .agg [.int .i64, .int .i64]]
theorem Xn7 {pre : DS -> Prop} {res : DS -> DS} (hyp_ : ∀ (W : InW) (u : Ro Ja) (b_A b_B : Int), pre [[.l u.xs], [.i b_A, .i b_B]] -> ∀ Q : DS -> Prop, Q (res [[.l u.xs], [.i b_A, .i b_B]]) -> Xh9 u b_A b_B Q) : PureOk Try.prog 46 Xdj [(false, [.bool])] pre res :=
 PureOk.of' (fun W => @TT W) (fun W => @Xe W) Xa TN3 1000 50 fun W u b_A b_B hp =>
  (Xnk W u b_A b_B (fun o => o = res [[.l u.xs], [.i b_A, .i b_B]])).mpr (hyp_ W u b_A b_B hp _ rfl)
abbrev Xdd (ds : DS) : DS := match ds with | [[.l u], [.i a, .i b]] => [[.b (Sp.hasB u a b)]] | _ => []
theorem okamg : PureOk Try.prog 46 Xdj [(false, [.bool])] (fun _ => True) Xdd :=
 Xn7 fun W u a b hp Q h => by
  unfold Xh9;simp only [Xdd, Sp.hasB] at h;simp only [show Int.toNat 0 = 0 from rfl, Nat.sub_zero];refine ⟨⟨by omega, by omega⟩, vif (fun e => ?_) fun e => ?_⟩
  ·rw [e] at h; exact h
  ·rw [e] at h; exact h
noncomputable def Xno : PC Try.prog := ⟨46, Xdj, [(false, [.bool])], fun _ => True, Xdd, okamg⟩
noncomputable def TN4 : Tab Try.prog := ⟨[Xb2], [], []⟩
def Zfc [W : InW] (kQ : Ro Iv5) (kP : Ro Jc) (kA : Int) (sh : Ro Jb) (Q : DS -> Prop) := Vif (decide (Sp.lookE kQ.xs kP.xs kA sh.xs = 4)) (Vif (decide ((Sp.lookR kQ.xs kP.xs kA sh.xs).n = 0)) (Q [[Cl.i (Sp.lookR kQ.xs kP.xs kA sh.xs).n]]) (Q [[Cl.i (-1 : Int)]])) (Q [[Cl.i (-1 : Int)]])
def Xh8 [W : InW] (kQ : Ro Iv5) (kP : Ro Jc) (kA : Int) (sh : Ro Jb) (Q : DS -> Prop) : Prop :=
 Pre True (Vif (decide (Sp.lookE kQ.xs kP.xs kA sh.xs = 0)) (Vif (decide ((0 : Int) < (Sp.lookR kQ.xs kP.xs kA sh.xs).n)) (Q [[Cl.i (Sp.lookR kQ.xs kP.xs kA sh.xs).n]]) (Zfc kQ kP kA sh Q)) (Zfc kQ kP kA sh Q))
theorem Xnj (W : InW) (kQ kP kA sh Q) : Ywt (cxT Try.prog TT TN4 1000 50) 1000 48 [.agg [.rs _ kQ, .rs _ kP, .si .i64 kA], .rs _ sh] [] 0 (Y02 [(false, [.int .i64])] Q) (fun _ _ _ _ => Stuck 421) = Xh8 kQ kP kA sh Q := by kernel_rfl
abbrev Xdi : List AT := [.agg [.sl Iv5, .sl Jc, .int .i64], .one (.sl Jb)]
theorem Xn6 {pre : DS -> Prop} {res : DS -> DS} (hyp_ : ∀ (W : InW) (kQ : Ro Iv5) (kP : Ro Jc) (kA : Int) (sh : Ro Jb), pre [[.l kQ.xs, .l kP.xs, .i kA], [.l sh.xs]] -> ∀ Q : DS -> Prop, Q (res [[.l kQ.xs, .l kP.xs, .i kA], [.l sh.xs]]) -> Xh8 kQ kP kA sh Q) : PureOk Try.prog 48 Xdi [(false, [.int .i64])] pre res :=
 PureOk.of' (fun W => @TT W) (fun W => @Xe W) Xa TN4 1000 50 fun W kQ kP kA sh hp =>
  (Xnj W kQ kP kA sh (fun o => o = res [[.l kQ.xs, .l kP.xs, .i kA], [.l sh.xs]])).mpr (hyp_ W kQ kP kA sh hp _ rfl)
abbrev Xdb (ds : DS) : DS := match ds with | [[.l qs, .l ps, .i all], [.l sh]] => [[.i (Sp.lksV qs ps all sh)]] | _ => []
theorem oklks : PureOk Try.prog 48 Xdi [(false, [.int .i64])] (fun _ => True) Xdb :=
 Xn6 fun W qs ps all sh hp Q h => by
  unfold Xh8;delta Zfc;simp only [Xdb, Sp.lksV] at h;generalize Sp.lookE qs.xs ps.xs all sh.xs = E at *;generalize (Sp.lookR qs.xs ps.xs all sh.xs).n = n at *;have h1 : (E = 0 /\ 0 < n) \/ (E = 4 /\ n = 0) -> Q [[.i n]] := fun c => by rw [if_pos c] at h; exact h
  have h2 : ¬ ((E = 0 /\ 0 < n) \/ (E = 4 /\ n = 0)) -> Q [[.i (-1)]] := fun c => by rw [if_neg c] at h; exact h
  clear h
  repeat' (first | omega|intro _|with_reducible first|apply vifd|apply vifn|apply vifq|apply Xd|apply Xc|apply vifb|apply vif|apply nedd|apply ned2|apply ned|apply ar64|apply Xb|exact True.intro|assumption|rfl|apply And.intro)
  all_goals first | exact h1 (by omega) | exact h2 (by omega)
noncomputable def Xnm : PC Try.prog := ⟨48, Xdi, [(false, [.int .i64])], fun _ => True, Xdb, oklks⟩
theorem wf_u8 {n : Int} (h : WfC (.int .u8) (.i n)) : 0 <= n /\ n <= 255 := by
 cases h with
 | int _ _ h => simp [Lit.wf, IntKind.min, IntKind.max, IntKind.signed, IntKind.bits] at h; omega
theorem WfL.head {t : Ty} {ts : List Ty} {c : Cl} {cs : List Cl} (h : WfL (t :: ts) (c :: cs)) : WfC t c /\ WfL ts cs := by
 cases h with
 | cons h hs => exact ⟨h, hs⟩
theorem WfD.head {a : AT} {ats : List AT} {d : List Cl} {ds : DS} (h : WfD (a :: ats) (d :: ds)) : WfA a d /\ WfD ats ds := by
 obtain ⟨d', ds', e, h1, h2⟩ := h;cases e;exact ⟨h1, h2⟩
namespace Sp
theorem rds_with {v : Int} (hv : v = 0 \/ v = 1) (p : Nat × Nat) : ∀ n s, (pos s).length = n -> ∀ r ∈ rds s, withD r p.1 p.2 v ∈ rds (withD s p.1 p.2 v)
 | 0, s, hl, r, hr => by
  have e := List.length_eq_zero_iff.1 hl;rw [rds_nil e, List.mem_singleton] at hr;subst hr;rw [rds_nil (by rw [pos_with (by omega), e]; rfl)];exact List.mem_singleton.2 rfl
 | n + 1, s, hl, r, hr => by
  cases e : pos s with
  | nil => rw [e] at hl; simp at hl
  | cons q qs =>
   have step : ∀ w : Int, w = 0 \/ w = 1 -> r ∈ rds (withD s q.1 q.2 w) -> withD r p.1 p.2 v ∈ rds (withD s p.1 p.2 v) := by
    intro w hw hr;have ih := rds_with hv p n _ (by rw [pos_with_tl (by omega) e]; rw [e] at hl; simpa using hl) r hr
    by_cases c : q = p
    ·subst c; rw [withD_same] at ih; exact ih
    ·rw [withD_comm _ _ _ _ _ c] at ih;have hp : pos (withD s p.1 p.2 v) = q :: qs.filter (fun x => decide (x ≠ (p.1, p.2))) := by
      rw [pos_with (by omega), e, List.filter_cons_of_pos (by simpa using c)]
     rw [rds_cons hp, List.mem_append];rcases hw with rfl | rfl
     ·exact .inl ih
     ·exact .inr ih
   rw [rds_cons e, List.mem_append] at hr;exact hr.elim (step 0 (.inl rfl)) (step 1 (.inr rfl))
theorem rds_of_with {v : Int} (hv : v = 0 \/ v = 1) (p : Nat × Nat) : ∀ n s, (pos s).length = n -> p ∈ pos s -> ∀ r ∈ rds (withD s p.1 p.2 v), r ∈ rds s
 | 0, s, hl, hp, r, hr => by rw [List.length_eq_zero_iff.1 hl] at hp; cases hp
 | n + 1, s, hl, hp, r, hr => by
  cases e : pos s with
  | nil => rw [e] at hl; simp at hl
  | cons q qs =>
   rw [rds_cons e, List.mem_append]
   by_cases c : q = p
   ·subst c;rcases hv with rfl | rfl
    ·exact .inl hr
    ·exact .inr hr
   ·have hp' : pos (withD s p.1 p.2 v) = q :: qs.filter (fun x => decide (x ≠ (p.1, p.2))) := by
     rw [pos_with (by omega), e, List.filter_cons_of_pos (by simpa using c)]
    have hq : p ∈ qs := by rw [e] at hp; exact (List.mem_cons.1 hp).resolve_left fun h => c h.symm
    have step : ∀ w : Int, w = 0 \/ w = 1 -> r ∈ rds (withD (withD s p.1 p.2 v) q.1 q.2 w) -> r ∈ rds (withD s q.1 q.2 w) := by
     intro w hw hr;rw [withD_comm _ _ _ _ _ (fun h => c h.symm)] at hr;exact rds_of_with hv p n _ (by rw [pos_with_tl (by omega) e]; rw [e] at hl; simpa using hl) (by rw [pos_with_tl (by omega) e]; exact hq) r hr
    rw [rds_cons hp', List.mem_append] at hr;exact hr.elim (fun h => .inl (step 0 (.inl rfl) h)) fun h => .inr (step 1 (.inr rfl) h)
structure Same (a b : Dt) : Prop where
 len : a.length = b.length
 rlen : ∀ i, (row a i).length = (row b i).length
 val : ∀ i j, i < a.length -> j < (row a i).length -> bx (row a i) j = bx (row b i) j
theorem Same.symm {a b : Dt} (h : Same a b) : Same b a := ⟨h.len.symm, fun i => (h.rlen i).symm, fun i j h1 h2 => (h.val i j (by rw [h.len]; exact h1) (by rw [h.rlen]; exact h2)).symm⟩
theorem Same.trans {a b c : Dt} (h : Same a b) (h' : Same b c) : Same a c := ⟨h.len.trans h'.len, fun i => (h.rlen i).trans (h'.rlen i), fun i j h1 h2 => (h.val i j h1 h2).trans (h'.val i j (by rw [<- h.len]; exact h1) (by rw [<- h.rlen]; exact h2))⟩
theorem ansD_same {d d' : Dt} : ∀ n i a, (∀ j, i <= j -> j < i + n -> bx d j = bx d' j) -> ansD d i n a = ansD d' i n a
 | 0, _, _, _ => rfl
 | n + 1, i, a, h => by
  unfold ansD;rw [h i (by omega) (by omega), ansD_same n (i + 1) i fun j a b => h j (by omega) (by omega), ansD_same n (i + 1) a fun j a b => h j (by omega) (by omega)]
theorem ansL_same {d d' : Dt} : ∀ n i a, (∀ j, i <= j -> j < i + n -> bx d j = bx d' j) -> ansL d i n a = ansL d' i n a
 | 0, _, _, _ => rfl
 | n + 1, i, a, h => by
  unfold ansL;rw [h i (by omega) (by omega), ansL_same n (i + 1) i fun j a b => h j (by omega) (by omega), ansL_same n (i + 1) a fun j a b => h j (by omega) (by omega)]
theorem ansOf_same {d d' : Dt} (hl : d.length = d'.length) (h : ∀ j, j < d.length -> bx d j = bx d' j) : ansOf d = ansOf d' := by
 unfold ansOf;rw [<- hl, ansD_same _ _ _ fun j _ b => h j (by omega), ansL_same _ _ _ fun j _ b => h j (by omega)]
theorem Same.ans {a b : Dt} (h : Same a b) {i : Nat} (hi : i < a.length) : ansOf (row a i) = ansOf (row b i) := ansOf_same (h.rlen i) fun j hj => h.val i j hi hj
theorem addG_same {qs a b : Dt} : ∀ n i l, (∀ k, i <= k -> k < i + n -> ansOf (row a k) = ansOf (row b k)) -> addG qs a i n l = addG qs b i n l
 | 0, _, _, _ => rfl
 | n + 1, i, l, h => by
  unfold addG;rw [show ptsQ qs a i = ptsQ qs b i by unfold ptsQ ptsV; rw [h i (by omega) (by omega)], addG_same n (i + 1) _ fun k x y => h k (by omega) (by omega)]
theorem Same.mk_eq {a b : Dt} (h : Same a b) (qs ps : Dt) : Sp.mk qs ps a = Sp.mk qs ps b := by
 unfold Sp.mk;rw [<- h.len, addG_same _ _ _ fun k _ y => h.ans (by omega)]
theorem Same.ps {a b : Dt} (h : Same a b) (qs ps : Dt) (all : Int) : psS qs ps all a = psS qs ps all b := by unfold psS; rw [h.mk_eq]
theorem with_same {r : Dt} {p : Nat × Nat} {v : Int} (h1 : p.1 < r.length) (h2 : p.2 < (row r p.1).length) (h3 : bx (row r p.1) p.2 = v) : Same (withD r p.1 p.2 v) r := by
 refine ⟨withD_len _ _ _ _, fun i => withD_rlen _ _ _ _ _, fun i j hi hj => ?_⟩;rw [withD_len] at hi;rw [withD_rlen] at hj;rw [withD_bx _ _ _ _ _ _ hi hj]
 split
 ·rename_i e;cases e;exact h3.symm
 ·rfl
theorem rds_bx {s : Dt} {p : Nat × Nat} (h1 : p.1 < s.length) (h2 : p.2 < (row s p.1).length) (hp : p ∉ pos s) : ∀ r ∈ rds s, bx (row r p.1) p.2 = bx (row s p.1) p.2 := by
 have key := rds_ind (sh := s) (P := fun t => t.length = s.length /\ (∀ i, (row t i).length = (row s i).length) /\ bx (row t p.1) p.2 = bx (row s p.1) p.2 /\ p ∉ pos t) ⟨rfl, fun _ => rfl, rfl, hp⟩ fun t q j v ⟨a, b, c, d⟩ hm hv => by
  refine ⟨by rw [withD_len]; exact a, fun i => by rw [withD_rlen]; exact b i, ?_, ?_⟩
  ·rw [withD_bx _ _ _ _ _ _ (by omega) (by rw [b]; exact h2), if_neg, c];intro e;exact d (by rw [show p = (q, j) from e]; exact hm)
  ·rw [pos_with (by omega)];exact fun h => d (List.mem_filter.1 h).1
 exact fun r hr => (key r hr).2.2.1
theorem in_pos {s r : Dt} (hr : r ∈ rds s) {p : Nat × Nat} (hp : p ∈ pos s) : p.1 < r.length /\ p.2 < (row r p.1).length := by
 have h1 := mem_pos.1 hp;have h2 := rds_shape r hr;rw [h2.1, h2.2];exact ⟨h1.1, h1.2.1⟩
theorem rds_01 {qs s : Dt} (hs : ShOk qs s) {r : Dt} (hr : r ∈ rds s) {i j : Nat} (hi : i < r.length) (hj : j < (row r i).length) : bx (row r i) j = 0 \/ bx (row r i) j = 1 := by
 have h1 := rds_shok hs r hr;have h2 := h1.val i j (by rw [<- h1.n]; exact hi) hj;have h3 : bx (row r i) j ≠ 2 := fun e => by
  have : (i, j) ∈ pos r := mem_pos.2 ⟨hi, hj, e⟩;rw [rds_sure r hr] at this;cases this
 omega
theorem rds_at {s r : Dt} {p : Nat × Nat} {v : Int} (hv : v = 0 \/ v = 1) (hp : p ∈ pos s) (hr : r ∈ rds (withD s p.1 p.2 v)) : bx (row r p.1) p.2 = v := by
 have h1 := mem_pos.1 hp;rw [rds_bx (by rw [withD_len]; exact h1.1) (by rw [withD_rlen]; exact h1.2.1) (by rw [pos_with (by omega)]; exact fun h => by simpa using (List.mem_filter.1 h).2) r hr];rw [withD_bx _ _ _ _ _ _ h1.1 h1.2.1, if_pos rfl]
theorem const_of {f : Dt -> Bool} (hf : ∀ r r', Same r r' -> f r = f r') : ∀ n s, (pos s).length = n -> (∀ r ∈ rds s, ∀ p ∈ pos s, f (withD r p.1 p.2 0) = f (withD r p.1 p.2 1)) -> ∀ r ∈ rds s, ∀ r' ∈ rds s, f r = f r'
 | 0, s, hl, _, r, hr, r', hr' => by
  have e := List.length_eq_zero_iff.1 hl;rw [rds_nil e, List.mem_singleton] at hr hr';rw [hr, hr']
 | n + 1, s, hl, hI, r, hr, r', hr' => by
  cases e : pos s with
  | nil => rw [e] at hl; simp at hl
  | cons q qs =>
   have hq : q ∈ pos s := by rw [e]; exact List.mem_cons_self
   have ih : ∀ w : Int, w = 0 \/ w = 1 -> ∀ r ∈ rds (withD s q.1 q.2 w), ∀ r' ∈ rds (withD s q.1 q.2 w), f r = f r' := fun w hw =>
    const_of hf n _ (by rw [pos_with_tl (by omega) e]; rw [e] at hl; simpa using hl) fun t ht p hp => hI t (rds_of_with hw q _ _ rfl hq t ht) p (by
     rw [pos_with_tl (by omega) e] at hp;rw [e]; exact List.mem_cons_of_mem _ hp)
   have cross : ∀ r0 ∈ rds (withD s q.1 q.2 0), ∀ r1 ∈ rds (withD s q.1 q.2 1), f r0 = f r1 := fun r0 h0 r1 h1 => by
    have m0 := rds_of_with (.inl rfl) q _ _ rfl hq r0 h0;have b := in_pos m0 hq;have h2 := rds_with (v := 1) (.inr rfl) q _ _ rfl r0 h0;rw [withD_same] at h2;rw [<- ih 1 (.inr rfl) _ h2 _ h1, <- hI r0 m0 q hq];exact (hf _ _ (with_same b.1 b.2 (rds_at (.inl rfl) hq h0))).symm
   rw [rds_cons e, List.mem_append] at hr hr';rcases hr with hr | hr <;> rcases hr' with hr' | hr'
   ·exact ih 0 (.inl rfl) _ hr _ hr'
   ·exact cross _ hr _ hr'
   ·exact (cross _ hr' _ hr).symm
   ·exact ih 1 (.inr rfl) _ hr _ hr'
theorem dc_no {qs ps sh : Dt} {all : Int} {p : Nat × Nat} (h : dcV qs ps all sh p.1 p.2 = false) : ∀ r ∈ rds sh, psS qs ps all (withD r p.1 p.2 0) = psS qs ps all (withD r p.1 p.2 1) := fun r hr => by
 have h0 := rds_with (v := 0) (.inl rfl) p _ _ rfl r hr;obtain ⟨k, hk, e⟩ := rds_ix.1 h0;cases c : dcI qs ps all (rdD (withD sh p.1 p.2 0)) p.1 p.2 k with
 | true =>
  have : dcV qs ps all sh p.1 p.2 = true := anyF_0.2 ⟨k, hk, c⟩;rw [h] at this; cases this
 | false =>
  unfold dcI at c;rw [e, withD_same] at c;simpa using c
theorem dc_yes {qs ps sh : Dt} {all : Int} {p : Nat × Nat} (h : dcV qs ps all sh p.1 p.2 = true) : ∃ r ∈ rds (withD sh p.1 p.2 0), psS qs ps all r ≠ psS qs ps all (withD r p.1 p.2 1) := by
 obtain ⟨k, hk, c⟩ := anyF_0.1 h;refine ⟨_, rds_ix.2 ⟨k, hk, rfl⟩, ?_⟩;unfold dcI at c;simpa using c
theorem dec_iff {qs ps sh : Dt} {all : Int} : ocV qs ps all sh = 2 ↔ ∃ p ∈ pos sh, dcV qs ps all sh p.1 p.2 = true := by
 constructor
 ·intro h;refine Classical.byContradiction fun hn => ?_;obtain ⟨⟨r, hr, a⟩, r', hr', b⟩ := oc2.1 h;have := const_of (f := psS qs ps all) (fun r r' hs => hs.ps _ _ _) _ sh rfl (fun r hr p hp => dc_no (by
   cases c : dcV qs ps all sh p.1 p.2 with
   | false => rfl
   | true => exact absurd ⟨p, hp, c⟩ hn) r hr) r hr r' hr'
  rw [a, b] at this; cases this
 ·rintro ⟨p, hp, h⟩;obtain ⟨r, hr, hne⟩ := dc_yes h;have h1 := rds_of_with (.inl rfl) p _ _ rfl hp r hr;have h2 := rds_with (v := 1) (.inr rfl) p _ _ rfl r hr;rw [withD_same] at h2;have h2 := rds_of_with (.inr rfl) p _ _ rfl hp _ h2;refine oc2.2 ?_;cases a : psS qs ps all r <;> cases b : psS qs ps all (withD r p.1 p.2 1)
  ·rw [a, b] at hne; exact absurd rfl hne
  ·exact ⟨⟨_, h2, b⟩, _, h1, a⟩
  ·exact ⟨⟨_, h1, a⟩, _, h2, b⟩
  ·rw [a, b] at hne; exact absurd rfl hne
def bxs (l : Dt) : List (Int × Int) := l.map fun c => ((c.getD 0 .z).int, (c.getD 1 .z).int)
theorem hasB_iff {l : Dt} {a b : Int} : hasB l a b = true ↔ (a, b) ∈ bxs l := by
 unfold hasB bxs;rw [anyF_0, List.mem_map];constructor
 ·rintro ⟨k, hk, h⟩;unfold boxV cA cB cel at h;rw [Bool.and_eq_true, decide_eq_true_eq, decide_eq_true_eq] at h;exact ⟨l[k], List.getElem_mem hk, by
   rw [List.getD_eq_getElem?_getD (l := l), List.getElem?_eq_getElem hk] at h;exact Prod.ext h.1 h.2⟩
 ·rintro ⟨c, hc, e⟩;obtain ⟨k, hk, rfl⟩ := List.mem_iff_getElem.1 hc;refine ⟨k, hk, ?_⟩;unfold boxV cA cB cel;rw [Bool.and_eq_true, decide_eq_true_eq, decide_eq_true_eq, List.getD_eq_getElem?_getD (l := l), List.getElem?_eq_getElem hk];exact ⟨congrArg Prod.fst e, congrArg Prod.snd e⟩
theorem uns_at {sh : Dt} {k : Nat} (hk : k < (uns sh).length) : ∃ p ∈ pos sh, cA (uns sh) k = p.1 /\ cB (uns sh) k = p.2 := uns_cel hk
theorem uns_of {sh : Dt} {p : Nat × Nat} (hp : p ∈ pos sh) : ∃ k, k < (uns sh).length /\ cA (uns sh) k = p.1 /\ cB (uns sh) k = p.2 := by
 obtain ⟨k, hk, e⟩ := List.mem_iff_getElem.1 hp;refine ⟨k, by rw [uns_len]; exact hk, ?_⟩;rw [uns_pos, (prC_cel _ k hk).1, (prC_cel _ k hk).2, e];exact ⟨rfl, rfl⟩
def dcS (qs ps : Dt) (all : Int) (sh : Dt) : Dt := dcL qs ps all sh (uns sh) 0 (uns sh).length
theorem uns_has {sh : Dt} {p : Nat × Nat} : hasB (uns sh) p.1 p.2 = true ↔ p ∈ pos sh := by
 rw [hasB_iff, uns_pos];unfold bxs;rw [List.map_map, List.mem_map];constructor
 ·rintro ⟨q, hq, e⟩;have e1 : (q.1 : Int) = p.1 := congrArg Prod.fst e;have e2 : (q.2 : Int) = p.2 := congrArg Prod.snd e;rw [show p = q from Prod.ext (by omega) (by omega)];exact hq
 ·exact fun h => ⟨p, h, rfl⟩
end Sp
namespace Sp
def bA (u : Dt) (k : Nat) : Nat := (cA u k).toNat
def bB (u : Dt) (k : Nat) : Nat := (cB u k).toNat
def inL (l u : Dt) (k : Nat) : Bool := hasB l (cA u k) (cB u k)
def outL (u l : Dt) (k : Nat) : Bool := !hasB u (cA l k) (cB l k)
def at_ (r u : Dt) (k : Nat) : Int := bx (row r (bA u k)) (bB u k)
def seenF (l r u : Dt) : Nat -> Nat -> Dt -> Dt
 | _, 0, s => s
 | i, n + 1, s => seenF l r u (i + 1) n (if inL l u i = true then withD s (bA u i) (bB u i) (at_ r u i) else s)
theorem uns_ab {sh : Dt} {k : Nat} (hk : k < (uns sh).length) : (bA (uns sh) k, bB (uns sh) k) ∈ pos sh /\ cA (uns sh) k = bA (uns sh) k /\ cB (uns sh) k = bB (uns sh) k := by
 obtain ⟨p, hp, a, b⟩ := uns_at hk;have e1 : bA (uns sh) k = p.1 := by unfold bA; rw [a, Int.toNat_natCast]
 have e2 : bB (uns sh) k = p.2 := by unfold bB; rw [b, Int.toNat_natCast]
 rw [e1, e2, a, b];exact ⟨hp, rfl, rfl⟩
structure SeenOk (qs ps : Dt) (all : Int) (sh r s : Dt) (i : Nat) : Prop where
 ok : ShOk qs s
 sub : ∀ t ∈ rds s, t ∈ rds sh
 pos_ : ∀ p ∈ pos s, p ∈ pos sh /\ ∀ k, k < i -> inL (dcS qs ps all sh) (uns sh) k = true -> p ≠ (bA (uns sh) k, bB (uns sh) k)
 has_ : ∃ r' ∈ rds s, Same r' r
theorem SeenOk.go {qs ps sh r : Dt} {all : Int} (hs : ShOk qs sh) (hr : r ∈ rds sh) : ∀ n i s, i + n = (uns sh).length -> (∀ k, i <= k -> k < (uns sh).length -> (bA (uns sh) k, bB (uns sh) k) ∈ pos s) -> SeenOk qs ps all sh r s i -> SeenOk qs ps all sh r (seenF (dcS qs ps all sh) r (uns sh) i n s) (uns sh).length
 | 0, i, s, e, _, h => by rw [<- show i = (uns sh).length by omega]; exact h
 | n + 1, i, s, e, hp, h => by
  have hi : i < (uns sh).length := by omega
  have hnd : ∀ k, k < (uns sh).length -> k ≠ i -> (bA (uns sh) k, bB (uns sh) k) ≠ (bA (uns sh) i, bB (uns sh) i) := fun k hk hne e => by
   have hl := uns_len sh;have g : ∀ j (hj : j < (uns sh).length), (bA (uns sh) j, bB (uns sh) j) = (pos sh)[j]'(by omega) := fun j hj => by
    unfold bA bB;have := prC_cel (pos sh) j (by omega);rw [<- uns_pos] at this;rw [this.1, this.2, Int.toNat_natCast, Int.toNat_natCast]
   rw [g k hk, g i hi] at e;exact hne ((List.getElem_inj (pos_nd sh)).1 e)
  unfold seenF
  by_cases c : inL (dcS qs ps all sh) (uns sh) i = true
  ·rw [if_pos c];have hpi := hp i (Nat.le_refl _) hi;have hm := in_pos hr (uns_ab hi).1;have hv : at_ r (uns sh) i = 0 \/ at_ r (uns sh) i = 1 := rds_01 hs hr hm.1 hm.2;obtain ⟨r', hr', hsame⟩ := h.has_;have hposw : ∀ p, p ∈ pos (withD s (bA (uns sh) i) (bB (uns sh) i) (at_ r (uns sh) i)) ↔ p ∈ pos s /\ p ≠ (bA (uns sh) i, bB (uns sh) i) := fun p => by
    rw [pos_with (by omega), List.mem_filter, decide_eq_true_eq]
   refine SeenOk.go hs hr n (i + 1) _ (by omega) (fun k a b => (hposw _).2 ⟨hp k (by omega) b, hnd k b (by omega)⟩) ⟨h.ok.withD hv, fun t ht => h.sub t (rds_of_with hv (bA (uns sh) i, bB (uns sh) i) _ _ rfl hpi t ht), fun p hpp => ?_, ?_⟩
   ·obtain ⟨a, b⟩ := (hposw p).1 hpp;refine ⟨(h.pos_ p a).1, fun k hk hc => ?_⟩;rcases Nat.lt_or_ge k i with d | d
    ·exact (h.pos_ p a).2 k d hc
    ·rw [show k = i by omega]; exact b
   ·refine ⟨_, rds_with hv (bA (uns sh) i, bB (uns sh) i) _ _ rfl r' hr', ?_⟩;have hm' := in_pos hr' hpi;refine Same.trans (with_same (p := (bA (uns sh) i, bB (uns sh) i)) hm'.1 hm'.2 ?_) hsame;exact hsame.val _ _ hm'.1 hm'.2
  ·rw [if_neg c];refine SeenOk.go hs hr n (i + 1) s (by omega) (fun k a b => hp k (by omega) b) ⟨h.ok, h.sub, fun p hpp => ⟨(h.pos_ p hpp).1, fun k hk hc => ?_⟩, h.has_⟩;rcases Nat.lt_or_ge k i with d | d
   ·exact (h.pos_ p hpp).2 k d hc
   ·rw [show k = i by omega] at hc; exact absurd hc c
theorem dcA_ok {qs ps sh : Dt} {all : Int} (e : askE qs ps all sh = 0) : dcA qs ps all sh = dcS qs ps all sh := by unfold dcA; rw [if_pos e]; rfl
end Sp
namespace Sp
theorem lkF_congr {c c' : Nat -> Int} {u : Dt} : ∀ n i r, (∀ k, i <= k -> k < i + n -> c k = c' k) -> lkF c u i n r = lkF c' u i n r
 | 0, _, _, _ => rfl
 | n + 1, i, r, h => by
  unfold lkF;rw [h i (by omega) (by omega), lkF_congr n (i + 1) _ fun k a b => h k (by omega) (by omega)]
theorem lkF_spec {c : Nat -> Int} {u : Dt} : ∀ n i r, (∀ k, i <= k -> k < i + n -> 0 <= c k) -> 
  ((lkF c u i n r = r /\ (n = 0 \/ 0 <= r.n)) \/ ∃ k, i <= k /\ k < i + n /\ lkF c u i n r = ⟨c k, cA u k, cB u k⟩) /\ (∀ k, i <= k -> k < i + n -> (lkF c u i n r).n <= c k) /\ (0 <= r.n -> (lkF c u i n r).n <= r.n)
 | 0, i, r, h => ⟨.inl ⟨rfl, .inl rfl⟩, fun k a b => by omega, fun _ => Int.le_refl _⟩
 | n + 1, i, r, h => by
  have h0 := h i (by omega) (by omega);unfold lkF;obtain ⟨g1, g2, g3⟩ := lkF_spec (c := c) (u := u) n (i + 1) (if r.n < 0 \/ c i < r.n then ⟨c i, cA u i, cB u i⟩ else r) fun k a b => h k (by omega) (by omega)
  by_cases d : r.n < 0 \/ c i < r.n
  ·rw [if_pos d] at g1 g2 g3 ⊢;have g3 := g3 h0;refine ⟨.inr ?_, fun k a b => ?_, fun hr => ?_⟩
   ·rcases g1 with ⟨e, _⟩ | ⟨k, a, b, e⟩
    ·exact ⟨i, Nat.le_refl _, by omega, e⟩
    ·exact ⟨k, by omega, by omega, e⟩
   ·rcases Nat.eq_or_lt_of_le a with x | x
    ·subst x; exact g3
    ·exact g2 k x (by omega)
   ·simp only [] at g3; omega
  ·rw [if_neg d] at g1 g2 g3 ⊢;have g3 := g3 (by omega);refine ⟨?_, fun k a b => ?_, fun hr => g3⟩
   ·rcases g1 with ⟨e, _⟩ | ⟨k, a, b, e⟩
    ·exact .inl ⟨e, .inr (by omega)⟩
    ·exact .inr ⟨k, by omega, by omega, e⟩
   ·rcases Nat.eq_or_lt_of_le a with x | x
    ·subst x; omega
    ·exact g2 k x (by omega)
def stp (sh : Dt) (k : Nat) (v : Int) : Dt := withD sh (bA (uns sh) k) (bB (uns sh) k) v
theorem stp_pos {sh : Dt} {k : Nat} (hk : k < (uns sh).length) {v : Int} (hv : v = 0 \/ v = 1) : (pos (stp sh k v)).length + 1 = (pos sh).length :=
 pos_with_len (by omega) (uns_ab hk).1
def csF (qs ps : Dt) (all : Int) (n : Nat) (sh : Dt) (k : Nat) : Int := 1 + max (lkN qs ps all n (stp sh k 0)).n (lkN qs ps all n (stp sh k 1)).n
theorem lkN_eq (qs ps : Dt) (all : Int) (n : Nat) (sh : Dt) : lkN qs ps all (n + 1) sh = if ocV qs ps all sh = 2 then lkF (csF qs ps all n sh) (uns sh) 0 (uns sh).length ⟨-1, 0, 0⟩ else ⟨0, 0, 0⟩ := rfl
theorem lkN_fuel {qs ps : Dt} {all : Int} : ∀ n m sh, (pos sh).length < n -> (pos sh).length < m -> lkN qs ps all n sh = lkN qs ps all m sh
 | 0, m, sh, h, _ => by omega
 | n + 1, 0, sh, _, h => by omega
 | n + 1, m + 1, sh, h1, h2 => by
  rw [lkN_eq, lkN_eq]
  split
  ·refine lkF_congr _ _ _ fun k _ hk => ?_;have a0 := stp_pos (sh := sh) (k := k) (by omega) (v := 0) (.inl rfl);have a1 := stp_pos (sh := sh) (k := k) (by omega) (v := 1) (.inr rfl);unfold csF;rw [lkN_fuel n m (stp sh k 0) (by omega) (by omega), lkN_fuel n m (stp sh k 1) (by omega) (by omega)]
  ·rfl
def cost (qs ps : Dt) (all : Int) (sh : Dt) : Int := (lkN qs ps all 8 sh).n
def csK (qs ps : Dt) (all : Int) (sh : Dt) (k : Nat) : Int := 1 + max (cost qs ps all (stp sh k 0)) (cost qs ps all (stp sh k 1))
theorem lk8 {qs ps sh : Dt} {all : Int} (h7 : (pos sh).length <= 7) : lkN qs ps all 8 sh = if ocV qs ps all sh = 2 then lkF (csK qs ps all sh) (uns sh) 0 (uns sh).length ⟨-1, 0, 0⟩ else ⟨0, 0, 0⟩ := by
 rw [lkN_eq]
 split
 ·refine lkF_congr _ _ _ fun k _ hk => ?_;have a0 := stp_pos (sh := sh) (k := k) (by omega) (v := 0) (.inl rfl);have a1 := stp_pos (sh := sh) (k := k) (by omega) (v := 1) (.inr rfl);unfold csF csK cost;rw [lkN_fuel 7 8 (stp sh k 0) (by omega) (by omega), lkN_fuel 7 8 (stp sh k 1) (by omega) (by omega)]
 ·rfl
structure CostOk (qs ps : Dt) (all : Int) (sh : Dt) : Prop where
 zero : ocV qs ps all sh ≠ 2 -> cost qs ps all sh = 0
 one : ocV qs ps all sh = 2 -> 1 <= cost qs ps all sh
 le : ocV qs ps all sh = 2 -> ∀ k, k < (uns sh).length -> cost qs ps all sh <= csK qs ps all sh k
 at_ : ocV qs ps all sh = 2 -> ∃ k, k < (uns sh).length /\ lkN qs ps all 8 sh = ⟨csK qs ps all sh k, cA (uns sh) k, cB (uns sh) k⟩
theorem cost_ok {qs ps : Dt} {all : Int} : ∀ n sh, (pos sh).length = n -> n <= 7 -> CostOk qs ps all sh := by
 intro n
 induction n using Nat.strongRecOn with
 | _ n ih =>
  intro sh hl h7;have e8 := lk8 (qs := qs) (ps := ps) (sh := sh) (all := all) (by omega)
  by_cases o : ocV qs ps all sh = 2
  ·rw [if_pos o] at e8;have hn : ∀ s, (pos s).length + 1 = (pos sh).length -> 0 <= cost qs ps all s := fun s hs => by
    have := ih (pos s).length (by omega) s rfl (by omega)
    by_cases o2 : ocV qs ps all s = 2
    ·have := this.one o2; omega
    ·rw [this.zero o2]; omega
   have hc : ∀ k, k < (uns sh).length -> 1 <= csK qs ps all sh k := fun k hk => by
    have a0 := hn _ (stp_pos hk (v := 0) (.inl rfl));unfold csK;omega
   have hpos : 0 < (uns sh).length := by
    rw [uns_len];exact List.length_pos_iff.2 (oc_free o)
   obtain ⟨g1, g2, g3⟩ := lkF_spec (c := csK qs ps all sh) (u := uns sh) (uns sh).length 0 ⟨-1, 0, 0⟩ fun k _ hk => by have := hc k (by omega); omega
   rw [<- e8] at g1 g2;have g1 : ∃ k, k < (uns sh).length /\ lkN qs ps all 8 sh = ⟨csK qs ps all sh k, cA (uns sh) k, cB (uns sh) k⟩ := by
    rcases g1 with ⟨_, h | h⟩ | ⟨k, _, b, e⟩
    ·omega
    ·simp at h
    ·exact ⟨k, by omega, e⟩
   refine ⟨fun h => absurd o h, fun _ => ?_, fun _ k hk => g2 k (by omega) (by omega), fun _ => g1⟩;obtain ⟨k, hk, e⟩ := g1;unfold cost;rw [e];exact hc k hk
  ·rw [if_neg o] at e8;refine ⟨fun _ => by unfold cost; rw [e8], fun h => absurd h o, fun h => absurd h o, fun h => absurd h o⟩
def dcP (qs ps : Dt) (all : Int) (sh : Dt) (p : Nat × Nat) : Bool := dcV qs ps all sh p.1 p.2
def dcN (qs ps : Dt) (all : Int) (sh : Dt) : Nat := ((pos sh).filter (dcP qs ps all sh)).length
theorem dcL_n {qs ps sh : Dt} {all : Int} (us : List (Nat × Nat)) : ∀ n i, i + n = us.length -> (dcL qs ps all sh (us.map prC) i n).length = ((us.drop i).filter (dcP qs ps all sh)).length
 | 0, i, h => by rw [List.drop_eq_nil_of_le (by omega)]; rfl
 | n + 1, i, h => by
  have hi : i < us.length := by omega
  have e0 : dcL qs ps all sh (us.map prC) i (n + 1) = (if dcV qs ps all sh (cA (us.map prC) i).toNat (cB (us.map prC) i).toNat = true then [[.i (cA (us.map prC) i), .i (cB (us.map prC) i)]] else []) ++ dcL qs ps all sh (us.map prC) (i + 1) n := rfl;rw [e0, List.drop_eq_getElem_cons hi, (prC_cel us i hi).1, (prC_cel us i hi).2, Int.toNat_natCast, Int.toNat_natCast, List.length_append, dcL_n us n (i + 1) (by omega), List.filter_cons];unfold dcP
  split <;> simp <;> omega
theorem dcS_n {qs ps sh : Dt} {all : Int} : (dcS qs ps all sh).length = dcN qs ps all sh := by
 unfold dcS dcN;have := dcL_n (qs := qs) (ps := ps) (sh := sh) (all := all) (pos sh) (pos sh).length 0 (by omega);rw [uns_pos, List.length_map];simpa using this
theorem dc_less {qs ps sh : Dt} {all : Int} {p q : Nat × Nat} {v : Int} (hv : v = 0 \/ v = 1) (hp : p ∈ pos sh) (hq : q ∈ pos (withD sh p.1 p.2 v)) (h : dcV qs ps all (withD sh p.1 p.2 v) q.1 q.2 = true) : dcV qs ps all sh q.1 q.2 = true := by
 obtain ⟨r, hr, hne⟩ := dc_yes h;have hpq : q ≠ p := by
  rw [pos_with (by omega), List.mem_filter] at hq;simpa using hq.2
 rw [withD_comm _ _ _ _ _ (Ne.symm hpq)] at hr;have hp2 : p ∈ pos (withD sh q.1 q.2 0) := by
  rw [pos_with (by decide), List.mem_filter];exact ⟨hp, by simpa using (Ne.symm hpq)⟩
 have hr := rds_of_with hv p _ _ rfl hp2 r hr;obtain ⟨k, hk, rfl⟩ := rds_ix.1 hr;exact anyF_0.2 ⟨k, hk, by unfold dcI; simpa using hne⟩
theorem dcN_less {qs ps sh : Dt} {all : Int} {p : Nat × Nat} {v : Int} (hv : v = 0 \/ v = 1) (hp : p ∈ pos sh) (hd : dcV qs ps all sh p.1 p.2 = true) : dcN qs ps all (withD sh p.1 p.2 v) + 1 <= dcN qs ps all sh := by
 have h1 := filter_ne_len (l := (pos sh).filter (dcP qs ps all sh)) ((pos_nd sh).filter _) (List.mem_filter.2 ⟨hp, hd⟩);have h2 : dcN qs ps all (withD sh p.1 p.2 v) <= (((pos sh).filter (dcP qs ps all sh)).filter (fun x => decide (x ≠ p))).length := by
  unfold dcN;have e : ((pos sh).filter (dcP qs ps all sh)).filter (fun x => decide (x ≠ p)) = (pos (withD sh p.1 p.2 v)).filter (dcP qs ps all sh) := by
   rw [pos_with (by omega), List.filter_filter, List.filter_filter];refine List.filter_congr fun x _ => Bool.and_comm _ _
  rw [e, <- List.countP_eq_length_filter, <- List.countP_eq_length_filter];exact List.countP_mono_left fun x hx hd => dc_less hv hp hx hd
 unfold dcN at h2 ⊢;omega
theorem cost_dc {qs ps : Dt} {all : Int} : ∀ n sh, (pos sh).length = n -> n <= 7 -> cost qs ps all sh <= dcN qs ps all sh := by
 intro n
 induction n using Nat.strongRecOn with
 | _ n ih =>
  intro sh hl h7;have hc := cost_ok (qs := qs) (ps := ps) (all := all) n sh hl h7
  by_cases o : ocV qs ps all sh = 2
  ·obtain ⟨p, hp, hd⟩ := dec_iff.1 o;obtain ⟨k, hk, a, b⟩ := uns_of hp;have e1 : bA (uns sh) k = p.1 := by unfold bA; rw [a, Int.toNat_natCast]
   have e2 : bB (uns sh) k = p.2 := by unfold bB; rw [b, Int.toNat_natCast]
   have h1 := hc.le o k hk;have p0 := stp_pos hk (v := 0) (.inl rfl);have p1 := stp_pos hk (v := 1) (.inr rfl);have i0 := ih _ (by omega) (stp sh k 0) rfl (by omega);have i1 := ih _ (by omega) (stp sh k 1) rfl (by omega);have d0 := dcN_less (qs := qs) (ps := ps) (all := all) (v := 0) (.inl rfl) hp hd;have d1 := dcN_less (qs := qs) (ps := ps) (all := all) (v := 1) (.inr rfl) hp hd;unfold csK at h1;unfold stp at h1 i0 i1;rw [e1, e2] at h1 i0 i1;omega
  ·rw [hc.zero o]; omega
theorem lks_cost {qs ps s : Dt} {all : Int} (hk : KeyOk qs ps all) (hs : ShOk qs s) : lksV qs ps all s = cost qs ps all s := by
 have h7 := hs.seven;rw [uns_len] at h7;have hc := cost_ok (qs := qs) (ps := ps) (all := all) _ s rfl h7;have e := ask_of hk hs
 by_cases o : ocV qs ps all s = 2
 ·have e1 : lookE qs ps all s = 0 := by unfold lookE; rw [if_pos e, if_pos o]
  have e2 : lookR qs ps all s = lkN qs ps all 8 s := by unfold lookR; rw [if_pos e1]
  have h1 := hc.one o;unfold lksV;rw [e2, if_pos (.inl ⟨e1, by unfold cost at h1; omega⟩)];rfl
 ·have e1 : lookE qs ps all s = 4 := by unfold lookE; rw [if_pos e, if_neg o]
  have e2 : lookR qs ps all s = ⟨0, 0, 0⟩ := by unfold lookR; rw [if_neg (by rw [e1]; decide)]
  unfold lksV;rw [e2, if_pos (.inr ⟨e1, rfl⟩), hc.zero o]
structure FwOk (qs ps : Dt) (all : Int) (sh : Dt) (R : LkR) (w : Nat) : Prop where
 n1 : 1 <= R.n
 nl : R.n <= (dcS qs ps all sh).length
 hb : hasB (uns sh) R.a R.b = true
 a0 : 0 <= R.a /\ R.a < sh.length
 b0 : 0 <= R.b /\ R.b < (row sh R.a.toNat).length
 z0 : 0 <= lksV qs ps all (withD sh R.a.toNat R.b.toNat 0) /\ lksV qs ps all (withD sh R.a.toNat R.b.toNat 0) < R.n
 z1 : 0 <= lksV qs ps all (withD sh R.a.toNat R.b.toNat 1) /\ lksV qs ps all (withD sh R.a.toNat R.b.toNat 1) < R.n
 c0 : (0 <= cA (uns sh) w /\ cA (uns sh) w < sh.length) /\ 0 <= cB (uns sh) w /\ cB (uns sh) w < (row sh (bA (uns sh) w)).length
 y0 : 0 <= lksV qs ps all (stp sh w 0)
 y1 : 0 <= lksV qs ps all (stp sh w 1)
 le : R.n <= 1 + max (lksV qs ps all (stp sh w 0)) (lksV qs ps all (stp sh w 1))
 lt : max (lksV qs ps all (stp sh w 0)) (lksV qs ps all (stp sh w 1)) <= 8
theorem fw_ok {qs ps sh : Dt} {all : Int} (hk : KeyOk qs ps all) (hs : ShOk qs sh) (o : ocV qs ps all sh = 2) {w : Nat} (hw : w < (uns sh).length) : FwOk qs ps all sh (lookR qs ps all sh) w := by
 have h7 := hs.seven;rw [uns_len] at h7;have hc := cost_ok (qs := qs) (ps := ps) (all := all) _ sh rfl h7;have e1 : lookE qs ps all sh = 0 := by unfold lookE; rw [if_pos (ask_of hk hs), if_pos o]
 have e2 : lookR qs ps all sh = lkN qs ps all 8 sh := by unfold lookR; rw [if_pos e1]
 obtain ⟨k, hk2, e⟩ := hc.at_ o;have hn : (lookR qs ps all sh).n = cost qs ps all sh := by rw [e2]; rfl
 have hcost : cost qs ps all sh = csK qs ps all sh k := by unfold cost; rw [e]
 have sok : ∀ j, j < (uns sh).length -> ∀ v : Int, v = 0 \/ v = 1 -> lksV qs ps all (stp sh j v) = cost qs ps all (stp sh j v) /\ 0 <= cost qs ps all (stp sh j v) /\ cost qs ps all (stp sh j v) <= 7 := fun j hj v hv => by
  have hsv : ShOk qs (stp sh j v) := hs.withD hv;have p0 := stp_pos hj hv;have hcv := cost_ok (qs := qs) (ps := ps) (all := all) _ (stp sh j v) rfl (by omega);refine ⟨lks_cost hk hsv, ?_, ?_⟩
  ·by_cases o2 : ocV qs ps all (stp sh j v) = 2
   ·have := hcv.one o2; omega
   ·rw [hcv.zero o2]; omega
  ·have := cost_dc (qs := qs) (ps := ps) (all := all) _ (stp sh j v) rfl (by omega);have h2 : dcN qs ps all (stp sh j v) <= (pos (stp sh j v)).length := List.length_filter_le _ _;omega
 obtain ⟨u1, u2, u3⟩ := uns_ab hk2;obtain ⟨w1, w2, w3⟩ := uns_ab hw;have hm : bA (uns sh) k < sh.length /\ bB (uns sh) k < (row sh (bA (uns sh) k)).length /\ _ := mem_pos.1 u1;have hmw : bA (uns sh) w < sh.length /\ bB (uns sh) w < (row sh (bA (uns sh) w)).length /\ _ := mem_pos.1 w1;obtain ⟨s0, s1, s2⟩ := sok k hk2 0 (.inl rfl);obtain ⟨t0, t1, t2⟩ := sok k hk2 1 (.inr rfl);obtain ⟨x0, x1, x2⟩ := sok w hw 0 (.inl rfl);obtain ⟨v0, v1, v2⟩ := sok w hw 1 (.inr rfl);have hle := hc.le o w hw;have hdc := cost_dc (qs := qs) (ps := ps) (all := all) _ sh rfl h7;rw [<- dcS_n] at hdc;have ra : (lookR qs ps all sh).a = bA (uns sh) k := by rw [e2, e]; exact u2
 have rb : (lookR qs ps all sh).b = bB (uns sh) k := by rw [e2, e]; exact u3
 unfold csK at hcost hle;refine ⟨by rw [hn]; exact hc.one o, by rw [hn]; exact hdc, by rw [ra, rb]; exact uns_has.2 u1, by rw [ra]; omega, by rw [ra, rb, Int.toNat_natCast]; omega, ?_, ?_, ?_, by omega, by omega, by rw [hn, x0, v0]; exact hle, by omega⟩
 ·rw [ra, rb, Int.toNat_natCast, Int.toNat_natCast, hn];have s0 : lksV qs ps all (withD sh (bA (uns sh) k) (bB (uns sh) k) 0) = _ := s0;omega
 ·rw [ra, rb, Int.toNat_natCast, Int.toNat_natCast, hn];have t0 : lksV qs ps all (withD sh (bA (uns sh) k) (bB (uns sh) k) 1) = _ := t0;omega
 ·rw [w2, w3]; omega
end Sp
noncomputable def TL12 : Tab Try.prog := ⟨[Xb2, Xhh, Xiz, Xj6, Xno, Xli, Xnm, Xi4], [], []⟩
def Zfe [W : InW] (kQ : Ro Iv5) (kP : Ro Jc) (kA : Int) (sh : Ro Jb) := Sp.lookR kQ.xs kP.xs kA sh.xs
def Zfg [W : InW] (kQ : Ro Iv5) (kP : Ro Jc) (kA : Int) (sh : Ro Jb) (Q : DS -> Prop) := Vif (!decide (Sp.lookE kQ.xs kP.xs kA sh.xs = 0)) (Vif (decide ((Zfe kQ kP kA sh).n = 0)) (Vif (decide ((Zfe kQ kP kA sh).a = 0) && (decide ((Zfe kQ kP kA sh).b = 0) && true)) (Pre True (Q [[Cl.b true]])) (Q Zey)) (Q Zey)) (Q Zey)
def Zfh [W : InW] (sh : Ro Jb) := Sp.uns sh.xs
def Zff [W : InW] (kQ : Ro Iv5) (kP : Ro Jc) (kA : Int) (sh : Ro Jb) := Sp.Few sh.xs /\ (Zb <= (Zfe kQ kP kA sh).a /\ (Zfe kQ kP kA sh).a < (↑(sh.xs.length) : Int)) /\ Zb <= (Zfe kQ kP kA sh).b /\ (Zfe kQ kP kA sh).b < (↑(List.length (Sp.row sh.xs (Zfe kQ kP kA sh).a.toNat)) : Int)
def Zfd [W : InW] (sh : Ro Jb) := (↑(List.length (Zfh sh)) : Int)
def Xck [W : InW] (kQ : Ro Iv5) (kP : Ro Jc) (kA : Int) (sh : Ro Jb) (x : Int) (Q : DS -> Prop) : Prop :=
 Pre True (Pre True (Vif (!decide (Sp.askE kQ.xs kP.xs kA sh.xs = 0)) (Zfg kQ kP kA sh Q) (Vif (decide (Sp.lookE kQ.xs kP.xs kA sh.xs = 4)) (Zfg kQ kP kA sh Q) (Pre True (Pre (Sp.Few sh.xs) (Vif (!decide (Sp.lookE kQ.xs kP.xs kA sh.xs = 0)) (Q Zey) (Vif (!decide (Sp.askE kQ.xs kP.xs kA sh.xs = 0)) (Q Zey) (Vif (decide ((Zfe kQ kP kA sh).n < 1)) (Q Zey) (Vif (decide ((↑(List.length (Sp.dcA kQ.xs kP.xs kA sh.xs)) : Int) < (Zfe kQ kP kA sh).n)) (Q Zey) (Pre True (Vif (!Sp.hasB (Zfh sh) (Zfe kQ kP kA sh).a (Zfe kQ kP kA sh).b) (Q Zey) (Pre (Zff kQ kP kA sh) (Pre True (Vif (decide (Sp.lksV kQ.xs kP.xs kA (Sp.withD sh.xs (Zfe kQ kP kA sh).a.toNat (Zfe kQ kP kA sh).b.toNat Zb) < 0)) (Q Zey) (Vif (decide ((Zfe kQ kP kA sh).n <= Sp.lksV kQ.xs kP.xs kA (Sp.withD sh.xs (Zfe kQ kP kA sh).a.toNat (Zfe kQ kP kA sh).b.toNat Zb))) (Q Zey) (Pre (Zff kQ kP kA sh) (Pre True (Vif (decide (Sp.lksV kQ.xs kP.xs kA (Sp.withD sh.xs (Zfe kQ kP kA sh).a.toNat (Zfe kQ kP kA sh).b.toNat (Int.ofNat (0+1))) < 0)) (Q Zey) (Vif (decide ((Zfe kQ kP kA sh).n <= Sp.lksV kQ.xs kP.xs kA (Sp.withD sh.xs (Zfe kQ kP kA sh).a.toNat (Zfe kQ kP kA sh).b.toNat (Int.ofNat (0+1))))) (Q Zey) (Ar .i64 x fun z => Need (!decide ((Zfd sh) = 0)) (Need (decide (0 <= z.tmod (Zfd sh)) && decide (z.tmod (Zfd sh) < (Zfd sh))) (Need (decide ((z.tmod (Zfd sh)).toNat < List.length (Zfh sh))) (Pre (Sp.Few sh.xs /\ (Zb <= (cel (Zfh sh) (z.tmod (Zfd sh)).toNat Zc).int /\ (cel (Zfh sh) (z.tmod (Zfd sh)).toNat Zc).int < (↑(sh.xs.length) : Int)) /\ Zb <= (cel (Zfh sh) (z.tmod (Zfd sh)).toNat (0+1)).int /\ (cel (Zfh sh) (z.tmod (Zfd sh)).toNat (0+1)).int < (↑(List.length (Sp.row sh.xs (cel (Zfh sh) (z.tmod (Zfd sh)).toNat Zc).int.toNat)) : Int)) (Pre True (Pre (Sp.Few sh.xs /\ (Zb <= (cel (Zfh sh) (z.tmod (Zfd sh)).toNat Zc).int /\ (cel (Zfh sh) (z.tmod (Zfd sh)).toNat Zc).int < (↑(sh.xs.length) : Int)) /\ Zb <= (cel (Zfh sh) (z.tmod (Zfd sh)).toNat (0+1)).int /\ (cel (Zfh sh) (z.tmod (Zfd sh)).toNat (0+1)).int < (↑(List.length (Sp.row sh.xs (cel (Zfh sh) (z.tmod (Zfd sh)).toNat Zc).int.toNat)) : Int)) (Pre True (Vif (decide (Zb <= Sp.lksV kQ.xs kP.xs kA (Sp.withD sh.xs (cel (Zfh sh) (z.tmod (Zfd sh)).toNat Zc).int.toNat (cel (Zfh sh) (z.tmod (Zfd sh)).toNat (0+1)).int.toNat Zb))) (Vif (decide (Zb <= Sp.lksV kQ.xs kP.xs kA (Sp.withD sh.xs (cel (Zfh sh) (z.tmod (Zfd sh)).toNat Zc).int.toNat (cel (Zfh sh) (z.tmod (Zfd sh)).toNat (0+1)).int.toNat (1 : Int)))) (Ar .i64 ((1 : Int) + max (Sp.lksV kQ.xs kP.xs kA (Sp.withD sh.xs (cel (Zfh sh) (z.tmod (Zfd sh)).toNat Zc).int.toNat (cel (Zfh sh) (z.tmod (Zfd sh)).toNat (0+1)).int.toNat Zb)) (Sp.lksV kQ.xs kP.xs kA (Sp.withD sh.xs (cel (Zfh sh) (z.tmod (Zfd sh)).toNat Zc).int.toNat (cel (Zfh sh) (z.tmod (Zfd sh)).toNat (0+1)).int.toNat (1 : Int)))) fun z => Vif (decide ((Zfe kQ kP kA sh).n <= z)) (Pre True (Q [[Cl.b true]])) (Q Zey)) (Q Zey)) (Q Zey))))))))))))))))))))))))))))
theorem Xiq (W : InW) (kQ kP kA sh x Q) : Ywt (cxT Try.prog TT TL12 1000 50) 1000 12 [.agg [.rs _ kQ, .rs _ kP, .si .i64 kA], .rs _ sh, .si .u8 x] [] 0 (Y02 [(false, [.bool])] Q) (fun _ _ _ _ => Stuck 421) = Xck kQ kP kA sh x Q := by kernel_rfl
abbrev Xbo : List AT := [.agg [.sl Iv5, .sl Jc, .int .i64], .one (.sl Jb), .one (.int .u8)]
theorem Xjk {pre : DS -> Prop} {res : DS -> DS} (hyp_ : ∀ (W : InW) (kQ : Ro Iv5) (kP : Ro Jc) (kA : Int) (sh : Ro Jb) (x : Int), pre [[.l kQ.xs, .l kP.xs, .i kA], [.l sh.xs], [.i x]] -> ∀ Q : DS -> Prop, Q (res [[.l kQ.xs, .l kP.xs, .i kA], [.l sh.xs], [.i x]]) -> Xck kQ kP kA sh x Q) : PureOk Try.prog 12 Xbo [(false, [.bool])] pre res :=
 PureOk.of' (fun W => @TT W) (fun W => @Xe W) Xa TL12 1000 50 fun W kQ kP kA sh x hp =>
  (Xiq W kQ kP kA sh x (fun o => o = res [[.l kQ.xs, .l kP.xs, .i kA], [.l sh.xs], [.i x]])).mpr (hyp_ W kQ kP kA sh x hp _ rfl)
theorem Xdf : PureOk Try.prog 12 Xbo [(false, [.bool])] (WfD Xbo) fun _ => [[.b true]] :=
 Xjk fun W qs ps all sh x hp Q h => by
  have hx := wf_u8 (WfL.head (WfD.head (WfD.head (WfD.head hp).2).2).1).1;unfold Xck;delta Zfd Zff Zfg Zey Zfe Zfh Zc Zb;simp only [show Int.ofNat (0 + 1) = 1 from rfl]
  by_cases e : Sp.askE qs.xs ps.xs all sh.xs = 0
  ·obtain ⟨hk, hs⟩ := Sp.askE_ok e;simp only [Sp.dcA_ok e];have hf := hs.toShapeOk.few hk
   by_cases o : Sp.ocV qs.xs ps.xs all sh.xs = 2
   ·have eL : Sp.lookE qs.xs ps.xs all sh.xs = 0 := by unfold Sp.lookE; rw [if_pos e, if_pos o]
    have hpos : 0 < (Sp.uns sh.xs).length := by
     rw [Sp.uns_len];exact List.length_pos_iff.2 (Sp.oc_free o)
    have h7 := hs.seven;have t0 : 0 <= x.tmod (Sp.uns sh.xs).length /\ x.tmod (Sp.uns sh.xs).length < (Sp.uns sh.xs).length := by
     rw [Int.tmod_eq_emod_of_nonneg hx.1];exact ⟨Int.emod_nonneg _ (by omega), Int.emod_lt_of_pos _ (by omega)⟩
    have hn : (!decide (((Sp.uns sh.xs).length : Int) = 0)) = true := by
     rw [decide_eq_false (by omega)]; rfl
    obtain ⟨n1, nl, hb, a0, b0, z0, z1, ⟨c1, c2⟩, y0, y1, le, lt⟩ := Sp.fw_ok hk hs o (w := (x.tmod (Sp.uns sh.xs).length).toNat) (by omega);refine Xb trivial (Xb trivial (vifn (fun c => absurd e c) fun _ => vifd (fun c => absurd (eL.symm.trans c) (by decide)) fun _ => Xb trivial (Xb hf (vifn (fun c => absurd eL c) fun _ => vifn (fun c => absurd e c) fun _ => vifd (fun c => by omega) fun _ => vifd (fun c => by omega) fun _ => Xb trivial (vifb (fun c => by rw [hb] at c; cases c) fun _ => Xb ⟨hf, a0, b0⟩ (Xb trivial (vifd (fun c => by omega) fun _ => vifd (fun c => by omega) fun _ => Xb ⟨hf, a0, b0⟩ (Xb trivial (vifd (fun c => by omega) fun _ => vifd (fun c => by omega) fun _ => ar64 (by omega) ?_)))))))));refine ned hn (ned2 t0 (nedd (by omega) (Xb ⟨hf, c1, c2⟩ (Xb trivial (Xb ⟨hf, c1, c2⟩ (Xb trivial ?_))))));refine vifd (fun _ => vifd (fun _ => ar64 ?_ (vifd (fun _ => Xb trivial h) fun c => absurd le c)) fun c => absurd y1 c) fun c => absurd y0 c
    show -9223372036854775808 <= 1 + max (Sp.lksV qs.xs ps.xs all (Sp.stp sh.xs (x.tmod (Sp.uns sh.xs).length).toNat 0)) (Sp.lksV qs.xs ps.xs all (Sp.stp sh.xs (x.tmod (Sp.uns sh.xs).length).toNat 1)) /\ 1 + max (Sp.lksV qs.xs ps.xs all (Sp.stp sh.xs (x.tmod (Sp.uns sh.xs).length).toNat 0)) (Sp.lksV qs.xs ps.xs all (Sp.stp sh.xs (x.tmod (Sp.uns sh.xs).length).toNat 1)) <= 9223372036854775807
    omega
   ·have eL : Sp.lookE qs.xs ps.xs all sh.xs = 4 := by unfold Sp.lookE; rw [if_pos e, if_neg o]
    have eR : Sp.lookR qs.xs ps.xs all sh.xs = ⟨0, 0, 0⟩ := by unfold Sp.lookR; rw [if_neg (by rw [eL]; decide)]
    simp [Vif_iff, Pre_iff, e, eL, eR, h]
  ·have eL : Sp.lookE qs.xs ps.xs all sh.xs = Sp.askE qs.xs ps.xs all sh.xs := by unfold Sp.lookE; rw [if_neg e]
   have eR : Sp.lookR qs.xs ps.xs all sh.xs = ⟨0, 0, 0⟩ := by unfold Sp.lookR; rw [if_neg (by rw [eL]; exact e)]
   simp [Vif_iff, Pre_iff, e, eL, eR, h]
end Go.Proofs.Ytifhdbgciehicaa
namespace Go.Proofs.Ytifhdbgciehicaa.answerFewest
open Go.ChangeShapes Go.WideShapes Go.ChangeAt Go.RowKit
set_option maxRecDepth 100000
theorem own : ownKnob Try.prog.godebug = none := by kernel_rfl
theorem laid : laidOutB Try.prog = true := by kernel_rfl
theorem lifted (os : Os) (started : os.Started) (H : Type) (enc : TypeId × Value -> H) :
  ReturnsInHanded {} Try.checked os 12 .any (Rows.answerFewestSpec.pre6 enc Try.prog Try.f12 Rows.answerFewestRow.domain false) (Rows.answerFewestSpec.post enc Try.prog Try.f12 false true false false) := by
 refine returnsInHanded_of_change (C := Try.checked) own started (by kernel_rfl) Try.func12
  (ChangeSpec.witness6 (enc := enc) (C := Try.checked) false ⟨#[], #[(.agg #[.slice none 0 0, .slice none 0 0, .int .i64 0]), (.slice none 0 0), (.int .u8 0)], []⟩ 8 (by kernel_rfl) (by kernel_rfl) (by kernel_rfl) (by kernel_rfl)) ?_
 intro W base args ds gs before hval hW _ _;exact law_end (f := Try.f12) (s := Rows.answerFewestSpec) (by kernel_rfl) Try.underlying4 (by kernel_rfl) rfl laid (by kernel_rfl)
  (fun ds h => by match ds, (show ds.length = 3 from h) with | [_, _, _], _ => exact ⟨rfl, rfl, rfl⟩) Xdf hval hW
theorem over : Rows.answerFewestRow.holds Try.pinned (OpenSpec.ofChange Rows.answerFewestSpec) :=
 OpenClaim.holds_of_wide 12 Try.f12 rfl rfl rfl rfl rfl rfl rfl ⟨rfl, rfl, rfl, rfl, rfl⟩ rfl rfl rfl rfl rfl (by kernel_rfl) Try.func12 (by kernel_rfl)
  (of_decide_eq_true (by kernel_rfl)) (by unfold Func.isWrapper; first | (rw [if_pos (by decide +kernel)]; kernel_rfl) | (rw [if_neg (by decide +kernel)]; exact ⟨rfl, rfl⟩))
  (fun os started H enc _ => lifted os started H enc)
theorem proved : Rows.AnswerFewestSaid := over
end Go.Proofs.Ytifhdbgciehicaa.answerFewest
