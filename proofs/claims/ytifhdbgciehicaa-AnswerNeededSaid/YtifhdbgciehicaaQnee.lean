/-
  'AnswerNeeded': for every input the law returns true, and what is handed in reads as before. No condition.
-/
import Derived.Test.YtifhdbgciehicaaQned
import Derived.Test.YtifhdbgciehicaaRows
import Derived.WalkKit
import Derived.ProofKit
set_option linter.unusedVariables false
set_option linter.unusedSectionVars false
set_option linter.unusedSimpArgs false
namespace Go.Proofs.Ytifhdbgciehicaa
open Go.RowKit
set_option maxRecDepth 100000
theorem vif_t [InW] {b : Bool} {A B : Prop} (hb : b = true) (ha : A) : Vif b A B := Vif_iff.2 ⟨fun _ => ha, fun h => absurd (hb.symm.trans h) (by decide)⟩
theorem Xj8 [W : InW] (Q : DS -> Prop) (h : Q [[.b true]]) : Xbb Q := by
 unfold Xbb;delta Zfc Zey Zez Zfa Zfb Zfe Zfd Zex Zb
 repeat first | refine vif_t (by kernel_rfl) ?_ | refine Pre_iff.2 ⟨trivial, ?_⟩ | refine Pre_iff.2 ⟨by kernel_rfl, ?_⟩ | refine Pre_iff.2 ⟨⟨by kernel_rfl, by kernel_rfl, by kernel_rfl⟩, ?_⟩
 exact (congrArg Q (by kernel_rfl)).mpr h
noncomputable def Xfo : PC Try.prog := ⟨22, [], [(false, [.bool])], fun _ => True, fun _ => [[.b true]], Xjx fun W hp Q h => Xj8 Q h⟩
set_option maxHeartbeats 1600000
namespace Sp
theorem rds_shok {qs sh : Dt} (h : ShOk qs sh) : ∀ r ∈ rds sh, ShOk qs r :=
 rds_ind (P := fun r => ShOk qs r) h fun s q j v hs _ hv => hs.withD hv
theorem ask_of {qs ps sh : Dt} {all : Int} (hk : KeyOk qs ps all) (hs : ShOk qs sh) : askE qs ps all sh = 0 := by
 unfold askE;rw [if_pos (chkE_iff.2 hk), shE_iff.2 hs]
def boxV (u : Dt) (a b : Int) (i : Nat) : Bool := decide (cA u i = a) && decide (cB u i = b)
def hasB (u : Dt) (a b : Int) : Bool := anyF (boxV u a b) 0 u.length
end Sp
noncomputable def TN1 : Tab Try.prog := ⟨[Xho, Xjc], [], []⟩
def Xcg [W : InW] (kQ : Ro Iv5) (kP : Ro Jc) (kA : Int) (sh : Ro Jb) (Q : DS -> Prop) : Prop :=
 Pre True (Vif (decide (Sp.chkE kQ.xs kP.xs kA = 0)) (Pre (Sp.KeyOk kQ.xs kP.xs kA) (Q [[Cl.b (decide (Sp.shE kQ.xs sh.xs = 0))]])) (Q [[Cl.b false]]))
theorem Xiw (W : InW) (kQ kP kA sh Q) : Ywt (cxT Try.prog TT TN1 1000 50) 1000 40 [.agg [.rs _ kQ, .rs _ kP, .si .i64 kA], .rs _ sh] [] 0 (Y02 [(false, [.bool])] Q) (fun _ _ _ _ => Stuck 421) = Xcg kQ kP kA sh Q := by kernel_rfl
abbrev Xbl : List AT := [.agg [.sl Iv5, .sl Jc, .int .i64], .one (.sl Jb)]
theorem Xjr {pre : DS -> Prop} {res : DS -> DS} (hyp_ : ∀ (W : InW) (kQ : Ro Iv5) (kP : Ro Jc) (kA : Int) (sh : Ro Jb), pre [[.l kQ.xs, .l kP.xs, .i kA], [.l sh.xs]] -> ∀ Q : DS -> Prop, Q (res [[.l kQ.xs, .l kP.xs, .i kA], [.l sh.xs]]) -> Xcg kQ kP kA sh Q) : PureOk Try.prog 40 Xbl [(false, [.bool])] pre res :=
 PureOk.of' (fun W => @TT W) (fun W => @Xc W) Xa TN1 1000 50 fun W kQ kP kA sh hp =>
  (Xiw W kQ kP kA sh (fun o => o = res [[.l kQ.xs, .l kP.xs, .i kA], [.l sh.xs]])).mpr (hyp_ W kQ kP kA sh hp _ rfl)
abbrev Xr (ds : DS) : DS := match ds with | [[.l qs, .l ps, .i all], [.l sh]] => [[.b (decide (Sp.askE qs ps all sh = 0))]] | _ => []
theorem Xl0 : PureOk Try.prog 40 Xbl [(false, [.bool])] (fun _ => True) Xr :=
 Xjr fun W qs ps all sh hp Q h => by
  unfold Xcg;refine ⟨trivial, vifd (fun e => ⟨Sp.chkE_iff.1 e, ?_⟩) fun e => ?_⟩
  ·have e2 : Sp.askE qs.xs ps.xs all sh.xs = Sp.shE qs.xs sh.xs := by unfold Sp.askE; rw [if_pos e]
   simpa [Xr, e2] using h
  ·have e2 : Sp.askE qs.xs ps.xs all sh.xs = Sp.chkE qs.xs ps.xs all := by unfold Sp.askE; rw [if_neg e]
   simpa [Xr, e2, e] using h
noncomputable def Xja : PC Try.prog := ⟨40, Xbl, [(false, [.bool])], fun _ => True, Xr, Xl0⟩
def Xfg [InW] (e : List Ed) (K : Nat -> List Ed -> Prop) : Prop := match e with
 | [.ro _ u, .i i, .i a, .i b] => Pre (0 <= i /\ i <= u.xs.length) (Vif (Sp.anyF (Sp.boxV u.xs a b) i.toNat (u.xs.length - i.toNat)) (K 1 []) (K 0 []))
 | _ => False
noncomputable def Xg3 : LC where
 len := 18
 T := [(0, .rs Ja), (3, (.ptr 1 0)), (5, .int .i64)]
 H := [(1, .blk 44 [.int .i64, .int .i64])]
 W := ([4] ++ rg 6 12)
 outs := [⟨.exit 0, [], [], ([0] ++ rg 3 15)⟩, ⟨.ret, [(4, (.lit (.bool true)))], [], ([0, 3] ++ rg 5 13)⟩]
 spec := Xfg
def Xej [W : InW] (u : Ro Ja) (i a b : Int) (A : List Ed -> Prop) (K : Nat -> List Ed -> Prop) : Prop :=
 Vif (decide (i < (↑(u.xs.length) : Int))) (Need (decide (0 <= i) && decide (i < (↑(u.xs.length) : Int))) (Need (decide (i.toNat < u.xs.length)) (Vif (decide ((cel u.xs i.toNat (0 : Nat)).int = a) && (decide ((cel u.xs i.toNat (0+1)).int = b) && true)) (K (0+1) []) (Ar .i64 (i + 1) fun z => A [.ro _ u, .i z, .i a, .i b])))) (K 0 [])
theorem Xla (W : InW) (u i a b A K) : Yfc { cxT Try.prog TT T0 1000 50 with fn := 46 } 1000 (Yn7 Try.prog 46 3) (Yd6 18 [(0, .rs _ u), (3, .ptr 1 0), (5, .si .i64 i)] ([4] ++ rg 6 12)) [(1, .blk 44 [.si .i64 a, .si .i64 b])] (Yuf Xg3 A K) = Xej u i a b A K := by kernel_rfl
def Xgd : Prop := ∀ (W : InW) (body a : Code), (Try.prog.funcs[46]?).bind (·.body) = some body -> a ∈ Yy body -> Yfw a = 3 -> @Ymq W Try.prog a (@Ytn W Xg3)
theorem Xms (meas : [InW] -> List Ed -> Nat) (hyp_ : ∀ (W : InW) u i a b K, Xfg [.ro _ u, .i i, .i a, .i b] K -> ∀ A : List Ed -> Prop, (∀ e, meas e < meas [.ro _ u, .i i, .i a, .i b] -> Xfg e K -> A e) -> Xej u i a b A K) : Xgd :=
 LE.okOf' (fun W => @TT W) (fun W => @Xc W) Xa T0 1000 50 (by kernel_rfl) Xg3 (fun W => @meas W) fun W u i a b K hs =>
  (Xla W u i a b (fun e => meas e < meas [.ro _ u, .i i, .i a, .i b] /\ Xfg e K) K).mpr (hyp_ W u i a b K hs _ fun e h1 h2 => ⟨h1, h2⟩)
theorem Xo8 : Xgd := Xms (fun e => match e with | .ro _ u :: .i i :: _ => ((u.xs.length : Int) - i).toNat | _ => 0) fun W u i a b K hs A hA => by
 obtain ⟨⟨h0, h1⟩, hk⟩ := hs;unfold Xej;have hm := u.len;simp only [maxLen] at hm;have ez : (i + 1).toNat = i.toNat + 1 := by omega
 by_cases hi : i < u.xs.length
 ·rw [show u.xs.length - i.toNat = (u.xs.length - (i.toNat + 1)) + 1 by omega] at hk;simp only [Sp.anyF] at hk;simp only [show ∀ k, (cel u.xs k 0).int = Sp.cA u.xs k from fun _ => rfl, show ∀ k, (cel u.xs k 1).int = Sp.cB u.xs k from fun _ => rfl, Bool.and_true];have go : Sp.boxV u.xs a b i.toNat = false -> A [.ro _ u, .i (i + 1), .i a, .i b] := fun c2 => by
   rw [c2, Bool.false_or] at hk;exact hA _ (show ((u.xs.length : Int) - (i + 1)).toNat < ((u.xs.length : Int) - i).toNat by omega) ⟨⟨by omega, by omega⟩, by rw [ez]; exact hk⟩
  have yes : Sp.boxV u.xs a b i.toNat = true -> K 1 [] := fun c2 => by
   rw [c2, Bool.true_or] at hk;exact hk.1 rfl
  clear hA hk;unfold Sp.boxV at go yes;refine vifd (fun _ => ?_) fun e => by omega
  repeat (first | refine nedd (by omega) ?_ | refine ned (by simp only [Bool.and_eq_true, decide_eq_true_eq]; omega) ?_)
  refine vif (fun e => yes e) fun e => ?_;exact ar64 (by omega) (go e)
 ·rw [show u.xs.length - i.toNat = 0 by omega] at hk;clear hA
  repeat' (first | omega|intro _|with_reducible first|apply vifd|apply vifn|apply vifq|apply Xe|apply Xd|apply vifb|apply vif|apply nedd|apply ned2|apply ned|apply ar64|apply Xb|exact True.intro|assumption|rfl|apply And.intro)
  all_goals exact hk.2 rfl
noncomputable def Xp1 : LE Try.prog := ⟨46, 3, fun W => @Ytn W Xg3, Xo8⟩
noncomputable def TN3 : Tab Try.prog := ⟨[], [Xp1], []⟩
def Xii [W : InW] (u : Ro Ja) (b_A b_B : Int) (Q : DS -> Prop) : Prop :=
 Pre ((0 : Int) <= 0 /\ (0 : Int) <= (↑(u.xs.length) : Int)) (Vif (Sp.anyF (Sp.boxV u.xs b_A b_B) (Int.toNat (0 : Int)) (u.xs.length - Int.toNat (0 : Int))) (Q [[Cl.b true]]) (Q [[Cl.b false]]))
theorem Xnw (W : InW) (u b_A b_B Q) : Ywt (cxT Try.prog TT TN3 1000 50) 1000 46 [.rs _ u, .agg [.si .i64 b_A, .si .i64 b_B]] [] 0 (Y02 [(false, [.bool])] Q) (fun _ _ _ _ => Stuck 421) = Xii u b_A b_B Q := by kernel_rfl
abbrev Xdk : List AT := [.one (.sl Ja), .agg [.int .i64, .int .i64]]
theorem Xoj {pre : DS -> Prop} {res : DS -> DS} (hyp_ : ∀ (W : InW) (u : Ro Ja) (b_A b_B : Int), pre [[.l u.xs], [.i b_A, .i b_B]] -> ∀ Q : DS -> Prop, Q (res [[.l u.xs], [.i b_A, .i b_B]]) -> Xii u b_A b_B Q) : PureOk Try.prog 46 Xdk [(false, [.bool])] pre res :=
 PureOk.of' (fun W => @TT W) (fun W => @Xc W) Xa TN3 1000 50 fun W u b_A b_B hp =>
  (Xnw W u b_A b_B (fun o => o = res [[.l u.xs], [.i b_A, .i b_B]])).mpr (hyp_ W u b_A b_B hp _ rfl)
abbrev Xde (ds : DS) : DS := match ds with | [[.l u], [.i a, .i b]] => [[.b (Sp.hasB u a b)]] | _ => []
theorem okamg : PureOk Try.prog 46 Xdk [(false, [.bool])] (fun _ => True) Xde :=
 Xoj fun W u a b hp Q h => by
  unfold Xii;simp only [Xde, Sp.hasB] at h;simp only [show Int.toNat 0 = 0 from rfl, Nat.sub_zero];refine ⟨⟨by omega, by omega⟩, vif (fun e => ?_) fun e => ?_⟩
  ·rw [e] at h; exact h
  ·rw [e] at h; exact h
noncomputable def Xn1 : PC Try.prog := ⟨46, Xdk, [(false, [.bool])], fun _ => True, Xde, okamg⟩
theorem wf_u8 {n : Int} (h : WfC (.int .u8) (.i n)) : 0 <= n /\ n <= 255 := by
 cases h with
 | int _ _ h => simp [Lit.wf, IntKind.min, IntKind.max, IntKind.signed, IntKind.bits] at h; omega
theorem WfL.head {t : Ty} {ts : List Ty} {c : Cl} {cs : List Cl} (h : WfL (t :: ts) (c :: cs)) : WfC t c /\ WfL ts cs := by
 cases h with
 | cons h hs => exact ⟨h, hs⟩
theorem WfD.head {a : AT} {ats : List AT} {d : List Cl} {ds : DS} (h : WfD (a :: ats) (d :: ds)) : WfA a d /\ WfD ats ds := by
 obtain ⟨d', ds', e, h1, h2⟩ := h;cases e;exact ⟨h1, h2⟩
namespace Sp
theorem ocA_ok {qs ps sh : Dt} {all : Int} (e : askE qs ps all sh = 0) : ocA qs ps all sh = ocV qs ps all sh := by unfold ocA; rw [if_pos e]
end Sp
namespace Sp
theorem rds_with {v : Int} (hv : v = 0 \/ v = 1) (p : Nat × Nat) : ∀ n s, (pos s).length = n -> ∀ r ∈ rds s, withD r p.1 p.2 v ∈ rds (withD s p.1 p.2 v)
 | 0, s, hl, r, hr => by
  have e := List.length_eq_zero_iff.1 hl;rw [rds_nil e, List.mem_singleton] at hr;subst hr;rw [rds_nil (by rw [pos_with (by omega), e]; rfl)];exact List.mem_singleton.2 rfl
 | n + 1, s, hl, r, hr => by
  cases e : pos s with
  | nil => rw [e] at hl; simp at hl
  | cons q qs =>
   have step : ∀ w : Int, w = 0 \/ w = 1 -> r ∈ rds (withD s q.1 q.2 w) -> withD r p.1 p.2 v ∈ rds (withD s p.1 p.2 v) := by
    intro w hw hr;have ih := rds_with hv p n _ (by rw [pos_with_tl (by omega) e]; rw [e] at hl; simpa using hl) r hr
    by_cases c : q = p
    ·subst c; rw [withD_same] at ih; exact ih
    ·rw [withD_comm _ _ _ _ _ c] at ih;have hp : pos (withD s p.1 p.2 v) = q :: qs.filter (fun x => decide (x ≠ (p.1, p.2))) := by
      rw [pos_with (by omega), e, List.filter_cons_of_pos (by simpa using c)]
     rw [rds_cons hp, List.mem_append];rcases hw with rfl | rfl
     ·exact .inl ih
     ·exact .inr ih
   rw [rds_cons e, List.mem_append] at hr;exact hr.elim (step 0 (.inl rfl)) (step 1 (.inr rfl))
theorem rds_of_with {v : Int} (hv : v = 0 \/ v = 1) (p : Nat × Nat) : ∀ n s, (pos s).length = n -> p ∈ pos s -> ∀ r ∈ rds (withD s p.1 p.2 v), r ∈ rds s
 | 0, s, hl, hp, r, hr => by rw [List.length_eq_zero_iff.1 hl] at hp; cases hp
 | n + 1, s, hl, hp, r, hr => by
  cases e : pos s with
  | nil => rw [e] at hl; simp at hl
  | cons q qs =>
   rw [rds_cons e, List.mem_append]
   by_cases c : q = p
   ·subst c;rcases hv with rfl | rfl
    ·exact .inl hr
    ·exact .inr hr
   ·have hp' : pos (withD s p.1 p.2 v) = q :: qs.filter (fun x => decide (x ≠ (p.1, p.2))) := by
     rw [pos_with (by omega), e, List.filter_cons_of_pos (by simpa using c)]
    have hq : p ∈ qs := by rw [e] at hp; exact (List.mem_cons.1 hp).resolve_left fun h => c h.symm
    have step : ∀ w : Int, w = 0 \/ w = 1 -> r ∈ rds (withD (withD s p.1 p.2 v) q.1 q.2 w) -> r ∈ rds (withD s q.1 q.2 w) := by
     intro w hw hr;rw [withD_comm _ _ _ _ _ (fun h => c h.symm)] at hr;exact rds_of_with hv p n _ (by rw [pos_with_tl (by omega) e]; rw [e] at hl; simpa using hl) (by rw [pos_with_tl (by omega) e]; exact hq) r hr
    rw [rds_cons hp', List.mem_append] at hr;exact hr.elim (fun h => .inl (step 0 (.inl rfl) h)) fun h => .inr (step 1 (.inr rfl) h)
structure Same (a b : Dt) : Prop where
 len : a.length = b.length
 rlen : ∀ i, (row a i).length = (row b i).length
 val : ∀ i j, i < a.length -> j < (row a i).length -> bx (row a i) j = bx (row b i) j
theorem Same.symm {a b : Dt} (h : Same a b) : Same b a := ⟨h.len.symm, fun i => (h.rlen i).symm, fun i j h1 h2 => (h.val i j (by rw [h.len]; exact h1) (by rw [h.rlen]; exact h2)).symm⟩
theorem Same.trans {a b c : Dt} (h : Same a b) (h' : Same b c) : Same a c := ⟨h.len.trans h'.len, fun i => (h.rlen i).trans (h'.rlen i), fun i j h1 h2 => (h.val i j h1 h2).trans (h'.val i j (by rw [<- h.len]; exact h1) (by rw [<- h.rlen]; exact h2))⟩
theorem ansD_same {d d' : Dt} : ∀ n i a, (∀ j, i <= j -> j < i + n -> bx d j = bx d' j) -> ansD d i n a = ansD d' i n a
 | 0, _, _, _ => rfl
 | n + 1, i, a, h => by
  unfold ansD;rw [h i (by omega) (by omega), ansD_same n (i + 1) i fun j a b => h j (by omega) (by omega), ansD_same n (i + 1) a fun j a b => h j (by omega) (by omega)]
theorem ansL_same {d d' : Dt} : ∀ n i a, (∀ j, i <= j -> j < i + n -> bx d j = bx d' j) -> ansL d i n a = ansL d' i n a
 | 0, _, _, _ => rfl
 | n + 1, i, a, h => by
  unfold ansL;rw [h i (by omega) (by omega), ansL_same n (i + 1) i fun j a b => h j (by omega) (by omega), ansL_same n (i + 1) a fun j a b => h j (by omega) (by omega)]
theorem ansOf_same {d d' : Dt} (hl : d.length = d'.length) (h : ∀ j, j < d.length -> bx d j = bx d' j) : ansOf d = ansOf d' := by
 unfold ansOf;rw [<- hl, ansD_same _ _ _ fun j _ b => h j (by omega), ansL_same _ _ _ fun j _ b => h j (by omega)]
theorem Same.ans {a b : Dt} (h : Same a b) {i : Nat} (hi : i < a.length) : ansOf (row a i) = ansOf (row b i) := ansOf_same (h.rlen i) fun j hj => h.val i j hi hj
theorem addG_same {qs a b : Dt} : ∀ n i l, (∀ k, i <= k -> k < i + n -> ansOf (row a k) = ansOf (row b k)) -> addG qs a i n l = addG qs b i n l
 | 0, _, _, _ => rfl
 | n + 1, i, l, h => by
  unfold addG;rw [show ptsQ qs a i = ptsQ qs b i by unfold ptsQ ptsV; rw [h i (by omega) (by omega)], addG_same n (i + 1) _ fun k x y => h k (by omega) (by omega)]
theorem Same.mk_eq {a b : Dt} (h : Same a b) (qs ps : Dt) : Sp.mk qs ps a = Sp.mk qs ps b := by
 unfold Sp.mk;rw [<- h.len, addG_same _ _ _ fun k _ y => h.ans (by omega)]
theorem Same.ps {a b : Dt} (h : Same a b) (qs ps : Dt) (all : Int) : psS qs ps all a = psS qs ps all b := by unfold psS; rw [h.mk_eq]
theorem with_same {r : Dt} {p : Nat × Nat} {v : Int} (h1 : p.1 < r.length) (h2 : p.2 < (row r p.1).length) (h3 : bx (row r p.1) p.2 = v) : Same (withD r p.1 p.2 v) r := by
 refine ⟨withD_len _ _ _ _, fun i => withD_rlen _ _ _ _ _, fun i j hi hj => ?_⟩;rw [withD_len] at hi;rw [withD_rlen] at hj;rw [withD_bx _ _ _ _ _ _ hi hj]
 split
 ·rename_i e;cases e;exact h3.symm
 ·rfl
theorem rds_bx {s : Dt} {p : Nat × Nat} (h1 : p.1 < s.length) (h2 : p.2 < (row s p.1).length) (hp : p ∉ pos s) : ∀ r ∈ rds s, bx (row r p.1) p.2 = bx (row s p.1) p.2 := by
 have key := rds_ind (sh := s) (P := fun t => t.length = s.length /\ (∀ i, (row t i).length = (row s i).length) /\ bx (row t p.1) p.2 = bx (row s p.1) p.2 /\ p ∉ pos t) ⟨rfl, fun _ => rfl, rfl, hp⟩ fun t q j v ⟨a, b, c, d⟩ hm hv => by
  refine ⟨by rw [withD_len]; exact a, fun i => by rw [withD_rlen]; exact b i, ?_, ?_⟩
  ·rw [withD_bx _ _ _ _ _ _ (by omega) (by rw [b]; exact h2), if_neg, c];intro e;exact d (by rw [show p = (q, j) from e]; exact hm)
  ·rw [pos_with (by omega)];exact fun h => d (List.mem_filter.1 h).1
 exact fun r hr => (key r hr).2.2.1
theorem in_pos {s r : Dt} (hr : r ∈ rds s) {p : Nat × Nat} (hp : p ∈ pos s) : p.1 < r.length /\ p.2 < (row r p.1).length := by
 have h1 := mem_pos.1 hp;have h2 := rds_shape r hr;rw [h2.1, h2.2];exact ⟨h1.1, h1.2.1⟩
theorem rds_01 {qs s : Dt} (hs : ShOk qs s) {r : Dt} (hr : r ∈ rds s) {i j : Nat} (hi : i < r.length) (hj : j < (row r i).length) : bx (row r i) j = 0 \/ bx (row r i) j = 1 := by
 have h1 := rds_shok hs r hr;have h2 := h1.val i j (by rw [<- h1.n]; exact hi) hj;have h3 : bx (row r i) j ≠ 2 := fun e => by
  have : (i, j) ∈ pos r := mem_pos.2 ⟨hi, hj, e⟩;rw [rds_sure r hr] at this;cases this
 omega
theorem rds_at {s r : Dt} {p : Nat × Nat} {v : Int} (hv : v = 0 \/ v = 1) (hp : p ∈ pos s) (hr : r ∈ rds (withD s p.1 p.2 v)) : bx (row r p.1) p.2 = v := by
 have h1 := mem_pos.1 hp;rw [rds_bx (by rw [withD_len]; exact h1.1) (by rw [withD_rlen]; exact h1.2.1) (by rw [pos_with (by omega)]; exact fun h => by simpa using (List.mem_filter.1 h).2) r hr];rw [withD_bx _ _ _ _ _ _ h1.1 h1.2.1, if_pos rfl]
theorem dc_yes {qs ps sh : Dt} {all : Int} {p : Nat × Nat} (h : dcV qs ps all sh p.1 p.2 = true) : ∃ r ∈ rds (withD sh p.1 p.2 0), psS qs ps all r ≠ psS qs ps all (withD r p.1 p.2 1) := by
 obtain ⟨k, hk, c⟩ := anyF_0.1 h;refine ⟨_, rds_ix.2 ⟨k, hk, rfl⟩, ?_⟩;unfold dcI at c;simpa using c
def bxs (l : Dt) : List (Int × Int) := l.map fun c => ((c.getD 0 .z).int, (c.getD 1 .z).int)
theorem hasB_iff {l : Dt} {a b : Int} : hasB l a b = true ↔ (a, b) ∈ bxs l := by
 unfold hasB bxs;rw [anyF_0, List.mem_map];constructor
 ·rintro ⟨k, hk, h⟩;unfold boxV cA cB cel at h;rw [Bool.and_eq_true, decide_eq_true_eq, decide_eq_true_eq] at h;exact ⟨l[k], List.getElem_mem hk, by
   rw [List.getD_eq_getElem?_getD (l := l), List.getElem?_eq_getElem hk] at h;exact Prod.ext h.1 h.2⟩
 ·rintro ⟨c, hc, e⟩;obtain ⟨k, hk, rfl⟩ := List.mem_iff_getElem.1 hc;refine ⟨k, hk, ?_⟩;unfold boxV cA cB cel;rw [Bool.and_eq_true, decide_eq_true_eq, decide_eq_true_eq, List.getD_eq_getElem?_getD (l := l), List.getElem?_eq_getElem hk];exact ⟨congrArg Prod.fst e, congrArg Prod.snd e⟩
theorem dcL_mem {qs ps sh u : Dt} {all : Int} {x : Int × Int} : ∀ n i, x ∈ bxs (dcL qs ps all sh u i n) ↔ ∃ k, i <= k /\ k < i + n /\ dcV qs ps all sh (cA u k).toNat (cB u k).toNat = true /\ x = (cA u k, cB u k)
 | 0, i => by simp [dcL, bxs]; intro k a b; omega
 | n + 1, i => by
  have ih := dcL_mem (qs := qs) (ps := ps) (sh := sh) (u := u) (all := all) (x := x) n (i + 1);have e : bxs (dcL qs ps all sh u i (n + 1)) = (if dcV qs ps all sh (cA u i).toNat (cB u i).toNat = true then [(cA u i, cB u i)] else []) ++ bxs (dcL qs ps all sh u (i + 1) n) := by
   have e0 : dcL qs ps all sh u i (n + 1) = (if dcV qs ps all sh (cA u i).toNat (cB u i).toNat = true then [[.i (cA u i), .i (cB u i)]] else []) ++ dcL qs ps all sh u (i + 1) n := rfl;rw [e0];unfold bxs;rw [List.map_append]
   split <;> rfl
  rw [e, List.mem_append, ih];constructor
  ·rintro (h | ⟨k, h1, h2, h3⟩)
   ·split at h
    ·rename_i c;exact ⟨i, Nat.le_refl _, by omega, c, List.mem_singleton.1 h⟩
    ·cases h
   ·exact ⟨k, by omega, by omega, h3⟩
  ·rintro ⟨k, h1, h2, h3, h4⟩;rcases Nat.eq_or_lt_of_le h1 with c | c
   ·subst c;left; rw [if_pos h3, h4]; exact List.mem_singleton.2 rfl
   ·exact .inr ⟨k, c, by omega, h3, h4⟩
theorem uns_at {sh : Dt} {k : Nat} (hk : k < (uns sh).length) : ∃ p ∈ pos sh, cA (uns sh) k = p.1 /\ cB (uns sh) k = p.2 := uns_cel hk
def dcS (qs ps : Dt) (all : Int) (sh : Dt) : Dt := dcL qs ps all sh (uns sh) 0 (uns sh).length
theorem uns_has {sh : Dt} {p : Nat × Nat} : hasB (uns sh) p.1 p.2 = true ↔ p ∈ pos sh := by
 rw [hasB_iff, uns_pos];unfold bxs;rw [List.map_map, List.mem_map];constructor
 ·rintro ⟨q, hq, e⟩;have e1 : (q.1 : Int) = p.1 := congrArg Prod.fst e;have e2 : (q.2 : Int) = p.2 := congrArg Prod.snd e;rw [show p = q from Prod.ext (by omega) (by omega)];exact hq
 ·exact fun h => ⟨p, h, rfl⟩
theorem dcS_at {qs ps sh : Dt} {all : Int} {k : Nat} (hk : k < (dcS qs ps all sh).length) : ∃ p ∈ pos sh, cA (dcS qs ps all sh) k = p.1 /\ cB (dcS qs ps all sh) k = p.2 /\ dcV qs ps all sh p.1 p.2 = true := by
 have h : (cA (dcS qs ps all sh) k, cB (dcS qs ps all sh) k) ∈ bxs (dcS qs ps all sh) := hasB_iff.1 (anyF_0.2 ⟨k, hk, by unfold boxV; simp⟩);unfold dcS at h;rw [dcL_mem] at h;obtain ⟨j, _, hj, h1, h2⟩ := h;obtain ⟨p, hp, a, b⟩ := uns_at (sh := sh) (k := j) (by omega);have e1 := congrArg Prod.fst h2;have e2 := congrArg Prod.snd h2;simp only [] at e1 e2;rw [a, b, Int.toNat_natCast, Int.toNat_natCast] at h1;exact ⟨p, hp, e1.trans a, e2.trans b, h1⟩
end Sp
namespace Sp
def bA (u : Dt) (k : Nat) : Nat := (cA u k).toNat
def bB (u : Dt) (k : Nat) : Nat := (cB u k).toNat
def inL (l u : Dt) (k : Nat) : Bool := hasB l (cA u k) (cB u k)
def outL (u l : Dt) (k : Nat) : Bool := !hasB u (cA l k) (cB l k)
def at_ (r u : Dt) (k : Nat) : Int := bx (row r (bA u k)) (bB u k)
def seenF (l r u : Dt) : Nat -> Nat -> Dt -> Dt
 | _, 0, s => s
 | i, n + 1, s => seenF l r u (i + 1) n (if inL l u i = true then withD s (bA u i) (bB u i) (at_ r u i) else s)
theorem uns_ab {sh : Dt} {k : Nat} (hk : k < (uns sh).length) : (bA (uns sh) k, bB (uns sh) k) ∈ pos sh /\ cA (uns sh) k = bA (uns sh) k /\ cB (uns sh) k = bB (uns sh) k := by
 obtain ⟨p, hp, a, b⟩ := uns_at hk;have e1 : bA (uns sh) k = p.1 := by unfold bA; rw [a, Int.toNat_natCast]
 have e2 : bB (uns sh) k = p.2 := by unfold bB; rw [b, Int.toNat_natCast]
 rw [e1, e2, a, b];exact ⟨hp, rfl, rfl⟩
structure SeenOk (qs ps : Dt) (all : Int) (sh r s : Dt) (i : Nat) : Prop where
 ok : ShOk qs s
 sub : ∀ t ∈ rds s, t ∈ rds sh
 pos_ : ∀ p ∈ pos s, p ∈ pos sh /\ ∀ k, k < i -> inL (dcS qs ps all sh) (uns sh) k = true -> p ≠ (bA (uns sh) k, bB (uns sh) k)
 has_ : ∃ r' ∈ rds s, Same r' r
theorem SeenOk.go {qs ps sh r : Dt} {all : Int} (hs : ShOk qs sh) (hr : r ∈ rds sh) : ∀ n i s, i + n = (uns sh).length -> (∀ k, i <= k -> k < (uns sh).length -> (bA (uns sh) k, bB (uns sh) k) ∈ pos s) -> SeenOk qs ps all sh r s i -> SeenOk qs ps all sh r (seenF (dcS qs ps all sh) r (uns sh) i n s) (uns sh).length
 | 0, i, s, e, _, h => by rw [<- show i = (uns sh).length by omega]; exact h
 | n + 1, i, s, e, hp, h => by
  have hi : i < (uns sh).length := by omega
  have hnd : ∀ k, k < (uns sh).length -> k ≠ i -> (bA (uns sh) k, bB (uns sh) k) ≠ (bA (uns sh) i, bB (uns sh) i) := fun k hk hne e => by
   have hl := uns_len sh;have g : ∀ j (hj : j < (uns sh).length), (bA (uns sh) j, bB (uns sh) j) = (pos sh)[j]'(by omega) := fun j hj => by
    unfold bA bB;have := prC_cel (pos sh) j (by omega);rw [<- uns_pos] at this;rw [this.1, this.2, Int.toNat_natCast, Int.toNat_natCast]
   rw [g k hk, g i hi] at e;exact hne ((List.getElem_inj (pos_nd sh)).1 e)
  unfold seenF
  by_cases c : inL (dcS qs ps all sh) (uns sh) i = true
  ·rw [if_pos c];have hpi := hp i (Nat.le_refl _) hi;have hm := in_pos hr (uns_ab hi).1;have hv : at_ r (uns sh) i = 0 \/ at_ r (uns sh) i = 1 := rds_01 hs hr hm.1 hm.2;obtain ⟨r', hr', hsame⟩ := h.has_;have hposw : ∀ p, p ∈ pos (withD s (bA (uns sh) i) (bB (uns sh) i) (at_ r (uns sh) i)) ↔ p ∈ pos s /\ p ≠ (bA (uns sh) i, bB (uns sh) i) := fun p => by
    rw [pos_with (by omega), List.mem_filter, decide_eq_true_eq]
   refine SeenOk.go hs hr n (i + 1) _ (by omega) (fun k a b => (hposw _).2 ⟨hp k (by omega) b, hnd k b (by omega)⟩) ⟨h.ok.withD hv, fun t ht => h.sub t (rds_of_with hv (bA (uns sh) i, bB (uns sh) i) _ _ rfl hpi t ht), fun p hpp => ?_, ?_⟩
   ·obtain ⟨a, b⟩ := (hposw p).1 hpp;refine ⟨(h.pos_ p a).1, fun k hk hc => ?_⟩;rcases Nat.lt_or_ge k i with d | d
    ·exact (h.pos_ p a).2 k d hc
    ·rw [show k = i by omega]; exact b
   ·refine ⟨_, rds_with hv (bA (uns sh) i, bB (uns sh) i) _ _ rfl r' hr', ?_⟩;have hm' := in_pos hr' hpi;refine Same.trans (with_same (p := (bA (uns sh) i, bB (uns sh) i)) hm'.1 hm'.2 ?_) hsame;exact hsame.val _ _ hm'.1 hm'.2
  ·rw [if_neg c];refine SeenOk.go hs hr n (i + 1) s (by omega) (fun k a b => hp k (by omega) b) ⟨h.ok, h.sub, fun p hpp => ⟨(h.pos_ p hpp).1, fun k hk hc => ?_⟩, h.has_⟩;rcases Nat.lt_or_ge k i with d | d
   ·exact (h.pos_ p hpp).2 k d hc
   ·rw [show k = i by omega] at hc; exact absurd hc c
theorem dcA_ok {qs ps sh : Dt} {all : Int} (e : askE qs ps all sh = 0) : dcA qs ps all sh = dcS qs ps all sh := by unfold dcA; rw [if_pos e]; rfl
theorem dcL_len (qs ps : Dt) (all : Int) (sh u : Dt) : ∀ n i, (dcL qs ps all sh u i n).length <= n
 | 0, _ => Nat.le_refl _
 | n + 1, i => by
  have := dcL_len qs ps all sh u n (i + 1);simp only [dcL, List.length_append]
  split <;> simp <;> omega
theorem dcS_len {qs ps sh : Dt} {all : Int} (hs : ShOk qs sh) : (dcS qs ps all sh).length <= 7 := Nat.le_trans (dcL_len _ _ _ _ _ _ _) hs.seven
end Sp
namespace Sp
theorem only_one {p : Nat × Nat} : ∀ {l : List (Nat × Nat)}, l.Nodup -> (∀ q, q ∈ l ↔ q = p) -> l = [p]
 | [], _, h => by have := (h p).2 rfl; cases this
 | a :: l, hn, h => by
  have ha : a = p := (h a).1 List.mem_cons_self;subst ha;cases l with
  | nil => rfl
  | cons b l =>
   have hb : b = a := (h b).1 (List.mem_cons_of_mem _ List.mem_cons_self);subst hb;exact absurd List.mem_cons_self (List.nodup_cons.1 hn).1
theorem pos_two {r : Dt} {p : Nat × Nat} (h0 : pos r = []) (h1 : p.1 < r.length) (h2 : p.2 < (row r p.1).length) : pos (withD r p.1 p.2 2) = [p] := by
 refine only_one (pos_nd _) fun q => ?_;rw [mem_pos, withD_len, withD_rlen];constructor
 ·rintro ⟨a, b, c⟩;rw [withD_bx _ _ _ _ _ _ a b] at c
  split at c
  ·rename_i e; exact e
  ·have : q ∈ pos r := mem_pos.2 ⟨a, b, c⟩;rw [h0] at this; cases this
 ·rintro rfl;refine ⟨h1, h2, ?_⟩;rw [withD_bx _ _ _ _ _ _ h1 h2, if_pos rfl]
theorem two_rds {r : Dt} {p : Nat × Nat} (h0 : pos r = []) (h1 : p.1 < r.length) (h2 : p.2 < (row r p.1).length) : rds (withD r p.1 p.2 2) = [withD r p.1 p.2 0, withD r p.1 p.2 1] := by
 rw [rds_cons (pos_two h0 h1 h2), withD_same, withD_same];rw [rds_nil (by rw [pos_with (by decide), h0]; rfl), rds_nil (by rw [pos_with (by decide), h0]; rfl)];rfl
theorem two_ok {qs r : Dt} {p : Nat × Nat} (hs : ShOk qs r) (h0 : pos r = []) (h1 : p.1 < r.length) (h2 : p.2 < (row r p.1).length) : ShOk qs (withD r p.1 p.2 2) :=
 ⟨hs.toShapeOk.withD (by decide), by rw [uns_len, pos_two h0 h1 h2]; simp⟩
def neI (qs ps : Dt) (all : Int) (rs : Dt) (a b k : Nat) : Bool := decide (ocA qs ps all (withD (row rs k) a b 2) = 2)
structure NeOk (qs ps : Dt) (all : Int) (rs : Dt) (a b : Int) : Prop where
 few : rs.length <= 128
 a0 : 0 <= a
 b0 : 0 <= b
 f : ∀ k, k < rs.length -> Few (row rs k) /\ a < (row rs k).length /\ b < (row (row rs k) a.toNat).length
 e : ∀ k, k < rs.length -> askE qs ps all (withD (row rs k) a.toNat b.toNat 2) = 0
theorem needed_ok {qs ps sh : Dt} {all : Int} (hk : KeyOk qs ps all) (hs : ShOk qs sh) {p : Nat × Nat} (hp : p ∈ pos sh) : NeOk qs ps all (rdD (withD sh p.1 p.2 0)) p.1 p.2 := by
 have key : ∀ k, k < (rdD (withD sh p.1 p.2 0)).length -> row (rdD (withD sh p.1 p.2 0)) k ∈ rds (withD sh p.1 p.2 0) := fun k hk => rds_ix.2 ⟨k, hk, rfl⟩;have mem : ∀ r ∈ rds (withD sh p.1 p.2 0), r ∈ rds sh := fun r hr => rds_of_with (.inl rfl) p _ _ rfl hp r hr;refine ⟨(hs.withD (.inl rfl)).pps.few, by omega, by omega, fun k h => ?_, fun k h => ?_⟩
 ·have hm := in_pos (mem _ (key k h)) hp;refine ⟨(rds_shok hs _ (mem _ (key k h))).toShapeOk.few hk, by have := hm.1; omega, ?_⟩;rw [Int.toNat_natCast];have := hm.2; omega
 ·have hm := in_pos (mem _ (key k h)) hp;rw [Int.toNat_natCast, Int.toNat_natCast];exact ask_of hk (two_ok (rds_shok hs _ (mem _ (key k h))) (rds_sure _ (mem _ (key k h))) hm.1 hm.2)
theorem needed_any {qs ps sh : Dt} {all : Int} (hk : KeyOk qs ps all) (hs : ShOk qs sh) {p : Nat × Nat} (hp : p ∈ pos sh) (hd : dcV qs ps all sh p.1 p.2 = true) : anyF (neI qs ps all (rdD (withD sh p.1 p.2 0)) p.1 p.2) 0 (rdD (withD sh p.1 p.2 0)).length = true := by
 obtain ⟨r, hr, hne⟩ := dc_yes hd;have hm0 := rds_of_with (.inl rfl) p _ _ rfl hp r hr;have hm := in_pos hm0 hp;have h0 := rds_sure r hm0;obtain ⟨k, hk2, rfl⟩ := rds_ix.1 hr;refine anyF_0.2 ⟨k, hk2, decide_eq_true ?_⟩;rw [ocA_ok (ask_of hk (two_ok (rds_shok hs _ hm0) h0 hm.1 hm.2)), oc2, two_rds h0 hm.1 hm.2];have hsame := (with_same hm.1 hm.2 (rds_at (.inl rfl) hp hr)).ps qs ps all;generalize row (rdD (withD sh p.1 p.2 0)) k = r at *;rw [<- hsame] at hne;cases a : psS qs ps all (withD r p.1 p.2 0) <;> cases b : psS qs ps all (withD r p.1 p.2 1)
 ·rw [a, b] at hne; exact absurd rfl hne
 ·exact ⟨⟨_, List.mem_cons_of_mem _ List.mem_cons_self, b⟩, _, List.mem_cons_self, a⟩
 ·exact ⟨⟨_, List.mem_cons_self, a⟩, _, List.mem_cons_of_mem _ List.mem_cons_self, b⟩
 ·rw [a, b] at hne; exact absurd rfl hne
end Sp
noncomputable def Xp3 : Tab Try.prog := ⟨[Xdf, Xhp, Xfo], [], []⟩
def Xfa [InW] (e : List Ed) (K : Nat -> List Ed -> Prop) : Prop := match e with
 | [.i i, .ro _ qs, .ro _ ps, .i all, .i a, .i b, .l rs] => Pre (0 <= i /\ i <= rs.length /\ Sp.NeOk qs.xs ps.xs all rs a b /\ Sp.anyF (Sp.neI qs.xs ps.xs all rs a.toNat b.toNat) i.toNat (rs.length - i.toNat) = true) (K 0 [.b true])
 | _ => False
noncomputable def Xgz : LC where
 len := 88
 T := [(3, (.ptr 7 0)), (9, (.ptr 4 0)), (10, (.row 1)), (11, .int .i64)]
 H := [(7, .blk 25 [.rs Iv5, .rs Jc, .int .i64]), (4, .blk 44 [.int .i64, .int .i64]), (1, .nst 26 [.sl Jb])]
 W := ([6, 12, 13] ++ rg 66 22)
 outs := [⟨.ret, [(6, .bool)], [], ([3] ++ rg 9 5 ++ rg 66 22)⟩]
 spec := Xfa
def Xee [W : InW] (i : Int) (qs : Ro Iv5) (ps : Ro Jc) (all a b : Int) (rs : Dt) (A : List Ed -> Prop) (K : Nat -> List Ed -> Prop) : Prop :=
 Vif (decide (i < (↑(rs.length) : Int))) (Need (decide (0 <= i) && decide (i < (↑(rs.length) : Int))) (Need (decide (i.toNat < rs.length)) (Pre (Sp.Few (cel rs i.toNat Zc).lst /\ (0 <= a /\ a < (↑(List.length (cel rs i.toNat Zc).lst) : Int)) /\ 0 <= b /\ b < (↑(List.length (Sp.row (cel rs i.toNat Zc).lst a.toNat)) : Int)) (Pre True (Vif (!decide (Sp.askE qs.xs ps.xs all (Sp.withD (cel rs i.toNat Zc).lst a.toNat b.toNat (2 : Int)) = 0)) (K 0 [.b false]) (Vif (decide (Sp.ocA qs.xs ps.xs all (Sp.withD (cel rs i.toNat Zc).lst a.toNat b.toNat (2 : Int)) = 2)) (Pre True (K 0 [.b true])) (Ar .i64 (i + 1) fun z => A [.i z, .ro _ qs, .ro _ ps, .i all, .i a, .i b, .l rs]))))))) ((472 : Nat) = 472 + 1)
theorem Xk5 (W : InW) (i qs ps all a b rs A K) : Yfc { cxT Try.prog TT Xp3 1000 50 with fn := 11 } 1000 (Yn7 Try.prog 11 10) (Yd6 88 [(3, .ptr 7 0), (9, .ptr 4 0), (10, .rw 1), (11, .si .i64 i)] ([6, 12, 13] ++ rg 66 22)) [(7, .blk 25 [.rs _ qs, .rs _ ps, .si .i64 all]), (4, .blk 44 [.si .i64 a, .si .i64 b]), (1, .nst 26 [.sl Jb] rs)] (Yuf Xgz A K) = Xee i qs ps all a b rs A K := by kernel_rfl
def Xf9 : Prop := ∀ (W : InW) (body a : Code), (Try.prog.funcs[11]?).bind (·.body) = some body -> a ∈ Yy body -> Yfw a = 10 -> @Ymq W Try.prog a (@Ytn W Xgz)
theorem Xmn (meas : [InW] -> List Ed -> Nat) (hyp_ : ∀ (W : InW) i qs ps all a b rs K, Xfa [.i i, .ro _ qs, .ro _ ps, .i all, .i a, .i b, .l rs] K -> ∀ A : List Ed -> Prop, (∀ e, meas e < meas [.i i, .ro _ qs, .ro _ ps, .i all, .i a, .i b, .l rs] -> Xfa e K -> A e) -> Xee i qs ps all a b rs A K) : Xf9 :=
 LE.okOf' (fun W => @TT W) (fun W => @Xc W) Xa Xp3 1000 50 (by kernel_rfl) Xgz (fun W => @meas W) fun W i qs ps all a b rs K hs =>
  (Xk5 W i qs ps all a b rs (fun e => meas e < meas [.i i, .ro _ qs, .ro _ ps, .i all, .i a, .i b, .l rs] /\ Xfa e K) K).mpr (hyp_ W i qs ps all a b rs K hs _ fun e h1 h2 => ⟨h1, h2⟩)
theorem Xo3 : Xf9 := Xmn (fun e => match e with | [.i i, _, _, _, _, _, .l rs] => ((rs.length : Int) - i).toNat | _ => 0) fun W i qs ps all a b rs K hs A hA => by
 obtain ⟨⟨h0, h1, hn, ha⟩, hk⟩ := hs;have h2 := hn.few;have a0 := hn.a0;have b0 := hn.b0;unfold Xee;delta Zc
 by_cases hi : i < rs.length
 ·have hlt : i.toNat < rs.length := by omega
  obtain ⟨f1, f2, f3⟩ := hn.f _ hlt;have ez : (i + 1).toNat = i.toNat + 1 := by omega
  rw [show rs.length - i.toNat = (rs.length - (i.toNat + 1)) + 1 by omega] at ha;simp only [Sp.anyF] at ha;have fe : Sp.askE qs.xs ps.xs all (Sp.withD (cel rs i.toNat 0).lst a.toNat b.toNat 2) = 0 := hn.e _ hlt;refine vifd (fun _ => ?_) fun e => by omega
  refine ned2 ⟨h0, hi⟩ (nedd hlt (Xb ⟨f1, ⟨a0, f2⟩, b0, f3⟩ (Xb trivial (vifn (fun e => absurd fe e) fun _ => vifd (fun _ => Xb trivial hk) fun e => ?_))));have c : Sp.neI qs.xs ps.xs all rs a.toNat b.toNat i.toNat = false := decide_eq_false e;rw [c, Bool.false_or] at ha;exact ar64 (by omega) (hA [.i (i + 1), .ro _ qs, .ro _ ps, .i all, .i a, .i b, .l rs] (show ((rs.length : Int) - (i + 1)).toNat < ((rs.length : Int) - i).toNat by omega) ⟨⟨by omega, by omega, hn, by rw [ez]; exact ha⟩, hk⟩)
 ·rw [show rs.length - i.toNat = 0 by omega] at ha;cases ha
noncomputable def Xpx : LE Try.prog := ⟨11, 10, fun W => @Ytn W Xgz, Xo3⟩
noncomputable def TL11 : Tab Try.prog := ⟨[Xhq, Xja, Xhn, Xn1, Xdf, Xnz, Xfo], [Xpx], []⟩
def Zfh [W : InW] (kQ : Ro Iv5) (kP : Ro Jc) (kA : Int) (sh : Ro Jb) := Sp.dcA kQ.xs kP.xs kA sh.xs
def Zff [W : InW] (kQ : Ro Iv5) (kP : Ro Jc) (kA : Int) (sh : Ro Jb) := (↑(List.length (Zfh kQ kP kA sh)) : Int)
def Zfg [W : InW] (kQ : Ro Iv5) (kP : Ro Jc) (kA : Int) (sh : Ro Jb) (Q : DS -> Prop) := Vif (decide (Sp.askE kQ.xs kP.xs kA sh.xs = 0)) (Vif (decide ((Zff kQ kP kA sh) = 0)) (Pre True (Q [[Cl.b true]])) (Q Zfb)) (Pre True (Vif (!decide (Sp.askE kQ.xs kP.xs kA sh.xs = 0)) (Vif (decide ((Zff kQ kP kA sh) = 0)) (Pre True (Q [[Cl.b true]])) (Q Zfb)) (Q Zfb)))
def Xcl [W : InW] (kQ : Ro Iv5) (kP : Ro Jc) (kA : Int) (sh : Ro Jb) (x : Int) (Q : DS -> Prop) : Prop :=
 Pre True (Pre True (Vif (!decide (Sp.askE kQ.xs kP.xs kA sh.xs = 0)) (Zfg kQ kP kA sh Q) (Vif (!decide (Sp.askE kQ.xs kP.xs kA sh.xs = 0)) (Zfg kQ kP kA sh Q) (Vif (decide ((Zff kQ kP kA sh) = 0)) (Zfg kQ kP kA sh Q) (Ar .i64 x fun z => Need (!decide ((Zff kQ kP kA sh) = 0)) (Need (decide (0 <= z.tmod (Zff kQ kP kA sh)) && decide (z.tmod (Zff kQ kP kA sh) < (Zff kQ kP kA sh))) (Need (decide ((z.tmod (Zff kQ kP kA sh)).toNat < List.length (Zfh kQ kP kA sh))) (Pre (Sp.Few sh.xs) (Pre True (Vif (!Sp.hasB (Sp.uns sh.xs) (cel (Zfh kQ kP kA sh) (z.tmod (Zff kQ kP kA sh)).toNat Zc).int (cel (Zfh kQ kP kA sh) (z.tmod (Zff kQ kP kA sh)).toNat (0+1)).int) (Q Zfb) (Pre (Sp.Few sh.xs /\ (Zb <= (cel (Zfh kQ kP kA sh) (z.tmod (Zff kQ kP kA sh)).toNat Zc).int /\ (cel (Zfh kQ kP kA sh) (z.tmod (Zff kQ kP kA sh)).toNat Zc).int < (↑(sh.xs.length) : Int)) /\ Zb <= (cel (Zfh kQ kP kA sh) (z.tmod (Zff kQ kP kA sh)).toNat (0+1)).int /\ (cel (Zfh kQ kP kA sh) (z.tmod (Zff kQ kP kA sh)).toNat (0+1)).int < (↑(List.length (Sp.row sh.xs (cel (Zfh kQ kP kA sh) (z.tmod (Zff kQ kP kA sh)).toNat Zc).int.toNat)) : Int)) (Pre (Sp.RdgOk (8 : Nat) (Sp.withD sh.xs (cel (Zfh kQ kP kA sh) (z.tmod (Zff kQ kP kA sh)).toNat Zc).int.toNat (cel (Zfh kQ kP kA sh) (z.tmod (Zff kQ kP kA sh)).toNat (0+1)).int.toNat Zb)) (Pre (Zb <= 0 /\ Zb <= (↑(List.length (Sp.rdD (Sp.withD sh.xs (cel (Zfh kQ kP kA sh) (z.tmod (Zff kQ kP kA sh)).toNat Zc).int.toNat (cel (Zfh kQ kP kA sh) (z.tmod (Zff kQ kP kA sh)).toNat (0+1)).int.toNat Zb))) : Int) /\ Sp.NeOk kQ.xs kP.xs kA (Sp.rdD (Sp.withD sh.xs (cel (Zfh kQ kP kA sh) (z.tmod (Zff kQ kP kA sh)).toNat Zc).int.toNat (cel (Zfh kQ kP kA sh) (z.tmod (Zff kQ kP kA sh)).toNat (0+1)).int.toNat Zb)) (cel (Zfh kQ kP kA sh) (z.tmod (Zff kQ kP kA sh)).toNat Zc).int (cel (Zfh kQ kP kA sh) (z.tmod (Zff kQ kP kA sh)).toNat (0+1)).int /\ Sp.anyF (Sp.neI kQ.xs kP.xs kA (Sp.rdD (Sp.withD sh.xs (cel (Zfh kQ kP kA sh) (z.tmod (Zff kQ kP kA sh)).toNat Zc).int.toNat (cel (Zfh kQ kP kA sh) (z.tmod (Zff kQ kP kA sh)).toNat (0+1)).int.toNat Zb)) (cel (Zfh kQ kP kA sh) (z.tmod (Zff kQ kP kA sh)).toNat Zc).int.toNat (cel (Zfh kQ kP kA sh) (z.tmod (Zff kQ kP kA sh)).toNat (0+1)).int.toNat) (Int.toNat Zb) (List.length (Sp.rdD (Sp.withD sh.xs (cel (Zfh kQ kP kA sh) (z.tmod (Zff kQ kP kA sh)).toNat Zc).int.toNat (cel (Zfh kQ kP kA sh) (z.tmod (Zff kQ kP kA sh)).toNat (0+1)).int.toNat Zb)) - Int.toNat Zb) = true) (Q [[Cl.b true]]))))))))))))))
theorem Xi0 (W : InW) (kQ kP kA sh x Q) : Ywt (cxT Try.prog TT TL11 1000 50) 1000 11 [.agg [.rs _ kQ, .rs _ kP, .si .i64 kA], .rs _ sh, .si .u8 x] [] 0 (Y02 [(false, [.bool])] Q) (fun _ _ _ _ => Stuck 421) = Xcl kQ kP kA sh x Q := by kernel_rfl
abbrev Xbo : List AT := [.agg [.sl Iv5, .sl Jc, .int .i64], .one (.sl Jb), .one (.int .u8)]
theorem Xjv {pre : DS -> Prop} {res : DS -> DS} (hyp_ : ∀ (W : InW) (kQ : Ro Iv5) (kP : Ro Jc) (kA : Int) (sh : Ro Jb) (x : Int), pre [[.l kQ.xs, .l kP.xs, .i kA], [.l sh.xs], [.i x]] -> ∀ Q : DS -> Prop, Q (res [[.l kQ.xs, .l kP.xs, .i kA], [.l sh.xs], [.i x]]) -> Xcl kQ kP kA sh x Q) : PureOk Try.prog 11 Xbo [(false, [.bool])] pre res :=
 PureOk.of' (fun W => @TT W) (fun W => @Xc W) Xa TL11 1000 50 fun W kQ kP kA sh x hp =>
  (Xi0 W kQ kP kA sh x (fun o => o = res [[.l kQ.xs, .l kP.xs, .i kA], [.l sh.xs], [.i x]])).mpr (hyp_ W kQ kP kA sh x hp _ rfl)
theorem Xdh : PureOk Try.prog 11 Xbo [(false, [.bool])] (WfD Xbo) fun _ => [[.b true]] :=
 Xjv fun W qs ps all sh x hp Q h => by
  have hx := wf_u8 (WfL.head (WfD.head (WfD.head (WfD.head hp).2).2).1).1;unfold Xcl;delta Zfg Zff Zb Zfh Zc Zfb
  by_cases e : Sp.askE qs.xs ps.xs all sh.xs = 0
  ·obtain ⟨hk, hs⟩ := Sp.askE_ok e;have eD := Sp.dcA_ok e;have hf := hs.toShapeOk.few hk;simp only [eD];have hlen := Sp.dcS_len (qs := qs.xs) (ps := ps.xs) (all := all) hs
   by_cases hl : ((Sp.dcS qs.xs ps.xs all sh.xs).length : Int) = 0
   ·simp only [Vif_iff, Pre_iff, e, hl];simp [h]
   ·have t0 : 0 <= x.tmod (Sp.dcS qs.xs ps.xs all sh.xs).length /\ x.tmod (Sp.dcS qs.xs ps.xs all sh.xs).length < (Sp.dcS qs.xs ps.xs all sh.xs).length := by
     rw [Int.tmod_eq_emod_of_nonneg hx.1];exact ⟨Int.emod_nonneg _ hl, Int.emod_lt_of_pos _ (by omega)⟩
    obtain ⟨p, hp, ca, cb, hd⟩ := Sp.dcS_at (qs := qs.xs) (ps := ps.xs) (all := all) (sh := sh.xs) (k := (x.tmod (Sp.dcS qs.xs ps.xs all sh.xs).length).toNat) (by omega);refine Xb trivial (Xb trivial (vifn (fun c => absurd e c) fun _ => vifn (fun c => absurd e c) fun _ => vifd (fun c => absurd c hl) fun _ => ar64 (by omega) ?_));refine ned (by simpa using hl) (ned2 t0 (nedd (by omega) (Xb hf (Xb trivial ?_))));have ca : (cel (Sp.dcS qs.xs ps.xs all sh.xs) (x.tmod (Sp.dcS qs.xs ps.xs all sh.xs).length).toNat 0).int = p.1 := ca;have cb : (cel (Sp.dcS qs.xs ps.xs all sh.xs) (x.tmod (Sp.dcS qs.xs ps.xs all sh.xs).length).toNat (0 + 1)).int = p.2 := cb;simp only [ca, cb, Int.toNat_natCast];have m := Sp.mem_pos.1 hp;have hw : Sp.ShOk qs.xs (Sp.withD sh.xs p.1 p.2 0) := hs.withD (.inl rfl);refine vifb (fun c => by rw [Sp.uns_has.2 hp] at c; cases c) fun _ => Xb ⟨hf, ⟨by omega, by omega⟩, by omega, by omega⟩ (Xb (hw.rdg hk) (Xb ⟨by omega, by omega, Sp.needed_ok hk hs hp, ?_⟩ h));exact Sp.needed_any hk hs hp hd
  ·simp [Vif_iff, Pre_iff, e, h, Sp.dcA]
end Go.Proofs.Ytifhdbgciehicaa
namespace Go.Proofs.Ytifhdbgciehicaa.answerNeeded
open Go.ChangeShapes Go.WideShapes Go.ChangeAt Go.RowKit
set_option maxRecDepth 100000
theorem own : ownKnob Try.prog.godebug = none := by kernel_rfl
theorem laid : laidOutB Try.prog = true := by kernel_rfl
theorem lifted (os : Os) (started : os.Started) (H : Type) (enc : TypeId × Value -> H) :
  ReturnsInHanded {} Try.checked os 11 .any (Rows.answerNeededSpec.pre6 enc Try.prog Try.f11 Rows.answerNeededRow.domain false) (Rows.answerNeededSpec.post enc Try.prog Try.f11 false true false false) := by
 refine returnsInHanded_of_change (C := Try.checked) own started (by kernel_rfl) Try.func11
  (ChangeSpec.witness6 (enc := enc) (C := Try.checked) false ⟨#[], #[(.agg #[.slice none 0 0, .slice none 0 0, .int .i64 0]), (.slice none 0 0), (.int .u8 0)], []⟩ 8 (by kernel_rfl) (by kernel_rfl) (by kernel_rfl) (by kernel_rfl)) ?_
 intro W base args ds gs before hval hW _ _;exact law_end (f := Try.f11) (s := Rows.answerNeededSpec) (by kernel_rfl) Try.underlying4 (by kernel_rfl) rfl laid (by kernel_rfl)
  (fun ds h => by match ds, (show ds.length = 3 from h) with | [_, _, _], _ => exact ⟨rfl, rfl, rfl⟩) Xdh hval hW
theorem over : Rows.answerNeededRow.holds Try.pinned (OpenSpec.ofChange Rows.answerNeededSpec) :=
 OpenClaim.holds_of_wide 11 Try.f11 rfl rfl rfl rfl rfl rfl rfl ⟨rfl, rfl, rfl, rfl, rfl⟩ rfl rfl rfl rfl rfl (by kernel_rfl) Try.func11 (by kernel_rfl)
  (of_decide_eq_true (by kernel_rfl)) (by unfold Func.isWrapper; first | (rw [if_pos (by decide +kernel)]; kernel_rfl) | (rw [if_neg (by decide +kernel)]; exact ⟨rfl, rfl⟩))
  (fun os started H enc _ => lifted os started H enc)
theorem proved : Rows.AnswerNeededSaid := over
end Go.Proofs.Ytifhdbgciehicaa.answerNeeded
