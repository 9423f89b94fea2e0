/-
  'AnswerMore': for every input the law returns true, and what is handed in reads as before. No condition.
-/
import Derived.Test.YtifhdbgciehicaaQmod
import Derived.Test.YtifhdbgciehicaaRows
import Derived.WalkKit
import Derived.ProofKit
set_option linter.unusedVariables false
set_option linter.unusedSectionVars false
set_option linter.unusedSimpArgs false
namespace Go.Proofs.Ytifhdbgciehicaa
open Go.RowKit
set_option maxRecDepth 100000
theorem vif_t [InW] {b : Bool} {A B : Prop} (hb : b = true) (ha : A) : Vif b A B := Vif_iff.2 ⟨fun _ => ha, fun h => absurd (hb.symm.trans h) (by decide)⟩
theorem Xjo [W : InW] (Q : DS -> Prop) (h : Q [[.b true]]) : Xbb Q := by
 unfold Xbb;delta Zez Zev Zew Zex Zey Zfb Zfa Zeu Zb
 repeat first | refine vif_t (by kernel_rfl) ?_ | refine Pre_iff.2 ⟨trivial, ?_⟩ | refine Pre_iff.2 ⟨by kernel_rfl, ?_⟩ | refine Pre_iff.2 ⟨⟨by kernel_rfl, by kernel_rfl, by kernel_rfl⟩, ?_⟩
 exact (congrArg Q (by kernel_rfl)).mpr h
noncomputable def Xiv : PC Try.prog := ⟨22, [], [(false, [.bool])], fun _ => True, fun _ => [[.b true]], Xjd fun W hp Q h => Xjo Q h⟩
set_option maxHeartbeats 1600000
namespace Sp
def bitN (x : Int) (i : Nat) : Int := x / 2 ^ i % 2
def rdgF (u : Dt) (x : Int) : Nat -> Nat -> Dt -> Dt
 | _, 0, sh => sh
 | i, n + 1, sh => rdgF u x (i + 1) n (withD sh (cA u i).toNat (cB u i).toNat (bitN x i))
def rdgV (x : Int) (sh : Dt) : Dt := rdgF (uns sh) x 0 (uns sh).length sh
theorem bitN_nat (x i : Nat) : bitN (x : Int) i = ((x / 2 ^ i % 2 : Nat) : Int) := by
 unfold bitN;rw [Int.natCast_emod, Int.natCast_ediv, Int.natCast_pow]; rfl
theorem rdgF_it (us : List (Nat × Nat)) (x : Nat) : ∀ n i s, i + n = us.length -> rdgF (us.map prC) x i n s = itW (us.drop i) (x / 2 ^ i) s
 | 0, i, s, h => by rw [List.drop_eq_nil_of_le (by omega)]; rfl
 | n + 1, i, s, h => by
  have hi : i < us.length := by omega
  rw [List.drop_eq_getElem_cons hi];unfold rdgF itW;rw [(prC_cel us i hi).1, (prC_cel us i hi).2, bitN_nat, Int.toNat_natCast, Int.toNat_natCast, rdgF_it us x n (i + 1) _ (by omega), Nat.pow_succ, Nat.div_div_eq_div_mul]
theorem rdgV_it {x : Int} (h : 0 <= x) (sh : Dt) : rdgV x sh = itW (pos sh) x.toNat sh := by
 obtain ⟨n, rfl⟩ := Int.eq_ofNat_of_zero_le h;unfold rdgV;rw [uns_pos, show (List.map prC (pos sh)).length = (pos sh).length by simp];have := rdgF_it (pos sh) n (pos sh).length 0 sh (by omega);simpa using this
theorem itW_mod : ∀ (ps : List (Nat × Nat)) (b : Nat) (s : Dt), itW ps b s = itW ps (b % 2 ^ ps.length) s
 | [], _, _ => rfl
 | p :: ps, b, s => by
  simp only [itW, List.length_cons];rw [itW_mod ps (b / 2), itW_mod ps (b % 2 ^ (ps.length + 1) / 2), Nat.pow_succ];have h1 : b % (2 ^ ps.length * 2) % 2 = b % 2 := Nat.mod_mul_left_mod b _ 2;have h2 : b % (2 ^ ps.length * 2) / 2 % 2 ^ ps.length = b / 2 % 2 ^ ps.length := by
   rw [Nat.mul_comm, Nat.mod_mul_right_div_self, Nat.mod_mod]
  rw [h1, h2]
theorem rdgV_mem {x : Int} (h : 0 <= x) (sh : Dt) : rdgV x sh ∈ rds sh := by
 rw [rdgV_it h, rds_it _ _ _ rfl, itW_mod];exact ⟨_, Nat.mod_lt _ (Nat.pow_pos (by decide)), rfl⟩
theorem rds_shok {qs sh : Dt} (h : ShOk qs sh) : ∀ r ∈ rds sh, ShOk qs r :=
 rds_ind (P := fun r => ShOk qs r) h fun s q j v hs _ hv => hs.withD hv
theorem ask_of {qs ps sh : Dt} {all : Int} (hk : KeyOk qs ps all) (hs : ShOk qs sh) : askE qs ps all sh = 0 := by
 unfold askE;rw [if_pos (chkE_iff.2 hk), shE_iff.2 hs]
theorem oc_any {qs ps s : Dt} {all : Int} : anyP qs ps all (rdD s) = true ↔ ∃ r ∈ rds s, psS qs ps all r = true := by
 unfold anyP;rw [anyF_0];constructor
 ·rintro ⟨k, hk, h⟩;exact ⟨_, rds_ix.2 ⟨k, hk, rfl⟩, h⟩
 ·rintro ⟨r, hr, h⟩;obtain ⟨k, hk, rfl⟩ := rds_ix.1 hr;exact ⟨k, hk, h⟩
theorem oc_all {qs ps s : Dt} {all : Int} : allP qs ps all (rdD s) = true ↔ ∀ r ∈ rds s, psS qs ps all r = true := by
 unfold allP;rw [allF_0];constructor
 ·intro h r hr;obtain ⟨k, hk, rfl⟩ := rds_ix.1 hr;exact h k hk
 ·intro h k hk;exact h _ (rds_ix.2 ⟨k, hk, rfl⟩)
theorem oc1 {qs ps s : Dt} {all : Int} : ocV qs ps all s = 1 ↔ ∀ r ∈ rds s, psS qs ps all r = true := by
 rw [<- oc_all];unfold ocV
 by_cases h : allP qs ps all (rdD s) = true
 ·rw [if_pos h]; exact ⟨fun _ => h, fun _ => rfl⟩
 ·rw [if_neg h];constructor
  ·intro e; split at e <;> simp at e
  ·intro e; exact absurd e h
theorem rds_ne (s : Dt) : ∃ r, r ∈ rds s := ⟨_, rdgV_mem (x := 0) (by decide) s⟩
theorem oc0 {qs ps s : Dt} {all : Int} : ocV qs ps all s = 0 ↔ ∀ r ∈ rds s, psS qs ps all r = false := by
 have ha : ocV qs ps all s = 0 ↔ ¬ (allP qs ps all (rdD s) = true) /\ ¬ (anyP qs ps all (rdD s) = true) := by
  unfold ocV
  by_cases h : allP qs ps all (rdD s) = true
  ·simp [h]
  ·by_cases h2 : anyP qs ps all (rdD s) = true <;> simp [h, h2]
 rw [ha, oc_any];constructor
 ·rintro ⟨_, h⟩ r hr;cases e : psS qs ps all r with
  | false => rfl
  | true => exact absurd ⟨r, hr, e⟩ h
 ·intro h;refine ⟨fun c => ?_, fun ⟨r, hr, e⟩ => by rw [h r hr] at e; cases e⟩;obtain ⟨r, hr⟩ := rds_ne s;have := oc_all.1 c r hr;rw [h r hr] at this; cases this
theorem oc_in (qs ps : Dt) (all : Int) (s : Dt) : 0 <= ocV qs ps all s /\ ocV qs ps all s <= 2 := by
 unfold ocV; repeat' split <;> omega
def boxV (u : Dt) (a b : Int) (i : Nat) : Bool := decide (cA u i = a) && decide (cB u i = b)
def hasB (u : Dt) (a b : Int) : Bool := anyF (boxV u a b) 0 u.length
end Sp
noncomputable def TN1 : Tab Try.prog := ⟨[Xg6, Xir], [], []⟩
def Xcf [W : InW] (kQ : Ro Iv5) (kP : Ro Jc) (kA : Int) (sh : Ro Jb) (Q : DS -> Prop) : Prop :=
 Pre True (Vif (decide (Sp.chkE kQ.xs kP.xs kA = 0)) (Pre (Sp.KeyOk kQ.xs kP.xs kA) (Q [[Cl.b (decide (Sp.shE kQ.xs sh.xs = 0))]])) (Q [[Cl.b false]]))
theorem Xic (W : InW) (kQ kP kA sh Q) : Ywt (cxT Try.prog TT TN1 1000 50) 1000 40 [.agg [.rs _ kQ, .rs _ kP, .si .i64 kA], .rs _ sh] [] 0 (Y02 [(false, [.bool])] Q) (fun _ _ _ _ => Stuck 421) = Xcf kQ kP kA sh Q := by kernel_rfl
abbrev Xbl : List AT := [.agg [.sl Iv5, .sl Jc, .int .i64], .one (.sl Jb)]
theorem Xi7 {pre : DS -> Prop} {res : DS -> DS} (hyp_ : ∀ (W : InW) (kQ : Ro Iv5) (kP : Ro Jc) (kA : Int) (sh : Ro Jb), pre [[.l kQ.xs, .l kP.xs, .i kA], [.l sh.xs]] -> ∀ Q : DS -> Prop, Q (res [[.l kQ.xs, .l kP.xs, .i kA], [.l sh.xs]]) -> Xcf kQ kP kA sh Q) : PureOk Try.prog 40 Xbl [(false, [.bool])] pre res :=
 PureOk.of' (fun W => @TT W) (fun W => @Xf W) Xa TN1 1000 50 fun W kQ kP kA sh hp =>
  (Xic W kQ kP kA sh (fun o => o = res [[.l kQ.xs, .l kP.xs, .i kA], [.l sh.xs]])).mpr (hyp_ W kQ kP kA sh hp _ rfl)
abbrev Xr (ds : DS) : DS := match ds with | [[.l qs, .l ps, .i all], [.l sh]] => [[.b (decide (Sp.askE qs ps all sh = 0))]] | _ => []
theorem Xlf : PureOk Try.prog 40 Xbl [(false, [.bool])] (fun _ => True) Xr :=
 Xi7 fun W qs ps all sh hp Q h => by
  unfold Xcf;refine ⟨trivial, vifd (fun e => ⟨Sp.chkE_iff.1 e, ?_⟩) fun e => ?_⟩
  ·have e2 : Sp.askE qs.xs ps.xs all sh.xs = Sp.shE qs.xs sh.xs := by unfold Sp.askE; rw [if_pos e]
   simpa [Xr, e2] using h
  ·have e2 : Sp.askE qs.xs ps.xs all sh.xs = Sp.chkE qs.xs ps.xs all := by unfold Sp.askE; rw [if_neg e]
   simpa [Xr, e2, e] using h
noncomputable def Xip : PC Try.prog := ⟨40, Xbl, [(false, [.bool])], fun _ => True, Xr, Xlf⟩
theorem Xh4 {n : Int} (h : WfC (.int .u8) (.i n)) : 0 <= n /\ n <= 255 := by
 cases h with
 | int _ _ h => simp [Lit.wf, IntKind.min, IntKind.max, IntKind.signed, IntKind.bits] at h; omega
theorem WfL.head {t : Ty} {ts : List Ty} {c : Cl} {cs : List Cl} (h : WfL (t :: ts) (c :: cs)) : WfC t c /\ WfL ts cs := by
 cases h with
 | cons h hs => exact ⟨h, hs⟩
theorem WfD.head {a : AT} {ats : List AT} {d : List Cl} {ds : DS} (h : WfD (a :: ats) (d :: ds)) : WfA a d /\ WfD ats ds := by
 obtain ⟨d', ds', e, h1, h2⟩ := h;cases e;exact ⟨h1, h2⟩
namespace Sp
theorem ocA_ok {qs ps sh : Dt} {all : Int} (e : askE qs ps all sh = 0) : ocA qs ps all sh = ocV qs ps all sh := by unfold ocA; rw [if_pos e]
end Sp
namespace Sp
theorem rds_with {v : Int} (hv : v = 0 \/ v = 1) (p : Nat × Nat) : ∀ n s, (pos s).length = n -> ∀ r ∈ rds s, withD r p.1 p.2 v ∈ rds (withD s p.1 p.2 v)
 | 0, s, hl, r, hr => by
  have e := List.length_eq_zero_iff.1 hl;rw [rds_nil e, List.mem_singleton] at hr;subst hr;rw [rds_nil (by rw [pos_with (by omega), e]; rfl)];exact List.mem_singleton.2 rfl
 | n + 1, s, hl, r, hr => by
  cases e : pos s with
  | nil => rw [e] at hl; simp at hl
  | cons q qs =>
   have step : ∀ w : Int, w = 0 \/ w = 1 -> r ∈ rds (withD s q.1 q.2 w) -> withD r p.1 p.2 v ∈ rds (withD s p.1 p.2 v) := by
    intro w hw hr;have ih := rds_with hv p n _ (by rw [pos_with_tl (by omega) e]; rw [e] at hl; simpa using hl) r hr
    by_cases c : q = p
    ·subst c; rw [withD_same] at ih; exact ih
    ·rw [withD_comm _ _ _ _ _ c] at ih;have hp : pos (withD s p.1 p.2 v) = q :: qs.filter (fun x => decide (x ≠ (p.1, p.2))) := by
      rw [pos_with (by omega), e, List.filter_cons_of_pos (by simpa using c)]
     rw [rds_cons hp, List.mem_append];rcases hw with rfl | rfl
     ·exact .inl ih
     ·exact .inr ih
   rw [rds_cons e, List.mem_append] at hr;exact hr.elim (step 0 (.inl rfl)) (step 1 (.inr rfl))
theorem rds_of_with {v : Int} (hv : v = 0 \/ v = 1) (p : Nat × Nat) : ∀ n s, (pos s).length = n -> p ∈ pos s -> ∀ r ∈ rds (withD s p.1 p.2 v), r ∈ rds s
 | 0, s, hl, hp, r, hr => by rw [List.length_eq_zero_iff.1 hl] at hp; cases hp
 | n + 1, s, hl, hp, r, hr => by
  cases e : pos s with
  | nil => rw [e] at hl; simp at hl
  | cons q qs =>
   rw [rds_cons e, List.mem_append]
   by_cases c : q = p
   ·subst c;rcases hv with rfl | rfl
    ·exact .inl hr
    ·exact .inr hr
   ·have hp' : pos (withD s p.1 p.2 v) = q :: qs.filter (fun x => decide (x ≠ (p.1, p.2))) := by
     rw [pos_with (by omega), e, List.filter_cons_of_pos (by simpa using c)]
    have hq : p ∈ qs := by rw [e] at hp; exact (List.mem_cons.1 hp).resolve_left fun h => c h.symm
    have step : ∀ w : Int, w = 0 \/ w = 1 -> r ∈ rds (withD (withD s p.1 p.2 v) q.1 q.2 w) -> r ∈ rds (withD s q.1 q.2 w) := by
     intro w hw hr;rw [withD_comm _ _ _ _ _ (fun h => c h.symm)] at hr;exact rds_of_with hv p n _ (by rw [pos_with_tl (by omega) e]; rw [e] at hl; simpa using hl) (by rw [pos_with_tl (by omega) e]; exact hq) r hr
    rw [rds_cons hp', List.mem_append] at hr;exact hr.elim (fun h => .inl (step 0 (.inl rfl) h)) fun h => .inr (step 1 (.inr rfl) h)
structure Same (a b : Dt) : Prop where
 len : a.length = b.length
 rlen : ∀ i, (row a i).length = (row b i).length
 val : ∀ i j, i < a.length -> j < (row a i).length -> bx (row a i) j = bx (row b i) j
theorem Same.symm {a b : Dt} (h : Same a b) : Same b a := ⟨h.len.symm, fun i => (h.rlen i).symm, fun i j h1 h2 => (h.val i j (by rw [h.len]; exact h1) (by rw [h.rlen]; exact h2)).symm⟩
theorem Same.trans {a b c : Dt} (h : Same a b) (h' : Same b c) : Same a c := ⟨h.len.trans h'.len, fun i => (h.rlen i).trans (h'.rlen i), fun i j h1 h2 => (h.val i j h1 h2).trans (h'.val i j (by rw [<- h.len]; exact h1) (by rw [<- h.rlen]; exact h2))⟩
theorem ansD_same {d d' : Dt} : ∀ n i a, (∀ j, i <= j -> j < i + n -> bx d j = bx d' j) -> ansD d i n a = ansD d' i n a
 | 0, _, _, _ => rfl
 | n + 1, i, a, h => by
  unfold ansD;rw [h i (by omega) (by omega), ansD_same n (i + 1) i fun j a b => h j (by omega) (by omega), ansD_same n (i + 1) a fun j a b => h j (by omega) (by omega)]
theorem ansL_same {d d' : Dt} : ∀ n i a, (∀ j, i <= j -> j < i + n -> bx d j = bx d' j) -> ansL d i n a = ansL d' i n a
 | 0, _, _, _ => rfl
 | n + 1, i, a, h => by
  unfold ansL;rw [h i (by omega) (by omega), ansL_same n (i + 1) i fun j a b => h j (by omega) (by omega), ansL_same n (i + 1) a fun j a b => h j (by omega) (by omega)]
theorem ansOf_same {d d' : Dt} (hl : d.length = d'.length) (h : ∀ j, j < d.length -> bx d j = bx d' j) : ansOf d = ansOf d' := by
 unfold ansOf;rw [<- hl, ansD_same _ _ _ fun j _ b => h j (by omega), ansL_same _ _ _ fun j _ b => h j (by omega)]
theorem Same.ans {a b : Dt} (h : Same a b) {i : Nat} (hi : i < a.length) : ansOf (row a i) = ansOf (row b i) := ansOf_same (h.rlen i) fun j hj => h.val i j hi hj
theorem addG_same {qs a b : Dt} : ∀ n i l, (∀ k, i <= k -> k < i + n -> ansOf (row a k) = ansOf (row b k)) -> addG qs a i n l = addG qs b i n l
 | 0, _, _, _ => rfl
 | n + 1, i, l, h => by
  unfold addG;rw [show ptsQ qs a i = ptsQ qs b i by unfold ptsQ ptsV; rw [h i (by omega) (by omega)], addG_same n (i + 1) _ fun k x y => h k (by omega) (by omega)]
theorem Same.mk_eq {a b : Dt} (h : Same a b) (qs ps : Dt) : Sp.mk qs ps a = Sp.mk qs ps b := by
 unfold Sp.mk;rw [<- h.len, addG_same _ _ _ fun k _ y => h.ans (by omega)]
theorem Same.ps {a b : Dt} (h : Same a b) (qs ps : Dt) (all : Int) : psS qs ps all a = psS qs ps all b := by unfold psS; rw [h.mk_eq]
theorem with_same {r : Dt} {p : Nat × Nat} {v : Int} (h1 : p.1 < r.length) (h2 : p.2 < (row r p.1).length) (h3 : bx (row r p.1) p.2 = v) : Same (withD r p.1 p.2 v) r := by
 refine ⟨withD_len _ _ _ _, fun i => withD_rlen _ _ _ _ _, fun i j hi hj => ?_⟩;rw [withD_len] at hi;rw [withD_rlen] at hj;rw [withD_bx _ _ _ _ _ _ hi hj]
 split
 ·rename_i e;cases e;exact h3.symm
 ·rfl
theorem in_pos {s r : Dt} (hr : r ∈ rds s) {p : Nat × Nat} (hp : p ∈ pos s) : p.1 < r.length /\ p.2 < (row r p.1).length := by
 have h1 := mem_pos.1 hp;have h2 := rds_shape r hr;rw [h2.1, h2.2];exact ⟨h1.1, h1.2.1⟩
theorem rds_01 {qs s : Dt} (hs : ShOk qs s) {r : Dt} (hr : r ∈ rds s) {i j : Nat} (hi : i < r.length) (hj : j < (row r i).length) : bx (row r i) j = 0 \/ bx (row r i) j = 1 := by
 have h1 := rds_shok hs r hr;have h2 := h1.val i j (by rw [<- h1.n]; exact hi) hj;have h3 : bx (row r i) j ≠ 2 := fun e => by
  have : (i, j) ∈ pos r := mem_pos.2 ⟨hi, hj, e⟩;rw [rds_sure r hr] at this;cases this
 omega
theorem uns_at {sh : Dt} {k : Nat} (hk : k < (uns sh).length) : ∃ p ∈ pos sh, cA (uns sh) k = p.1 /\ cB (uns sh) k = p.2 := uns_cel hk
def dcS (qs ps : Dt) (all : Int) (sh : Dt) : Dt := dcL qs ps all sh (uns sh) 0 (uns sh).length
end Sp
namespace Sp
def bA (u : Dt) (k : Nat) : Nat := (cA u k).toNat
def bB (u : Dt) (k : Nat) : Nat := (cB u k).toNat
def inL (l u : Dt) (k : Nat) : Bool := hasB l (cA u k) (cB u k)
def outL (u l : Dt) (k : Nat) : Bool := !hasB u (cA l k) (cB l k)
def at_ (r u : Dt) (k : Nat) : Int := bx (row r (bA u k)) (bB u k)
def seenF (l r u : Dt) : Nat -> Nat -> Dt -> Dt
 | _, 0, s => s
 | i, n + 1, s => seenF l r u (i + 1) n (if inL l u i = true then withD s (bA u i) (bB u i) (at_ r u i) else s)
theorem uns_ab {sh : Dt} {k : Nat} (hk : k < (uns sh).length) : (bA (uns sh) k, bB (uns sh) k) ∈ pos sh /\ cA (uns sh) k = bA (uns sh) k /\ cB (uns sh) k = bB (uns sh) k := by
 obtain ⟨p, hp, a, b⟩ := uns_at hk;have e1 : bA (uns sh) k = p.1 := by unfold bA; rw [a, Int.toNat_natCast]
 have e2 : bB (uns sh) k = p.2 := by unfold bB; rw [b, Int.toNat_natCast]
 rw [e1, e2, a, b];exact ⟨hp, rfl, rfl⟩
structure SeenOk (qs ps : Dt) (all : Int) (sh r s : Dt) (i : Nat) : Prop where
 ok : ShOk qs s
 sub : ∀ t ∈ rds s, t ∈ rds sh
 pos_ : ∀ p ∈ pos s, p ∈ pos sh /\ ∀ k, k < i -> inL (dcS qs ps all sh) (uns sh) k = true -> p ≠ (bA (uns sh) k, bB (uns sh) k)
 has_ : ∃ r' ∈ rds s, Same r' r
theorem SeenOk.go {qs ps sh r : Dt} {all : Int} (hs : ShOk qs sh) (hr : r ∈ rds sh) : ∀ n i s, i + n = (uns sh).length -> (∀ k, i <= k -> k < (uns sh).length -> (bA (uns sh) k, bB (uns sh) k) ∈ pos s) -> SeenOk qs ps all sh r s i -> SeenOk qs ps all sh r (seenF (dcS qs ps all sh) r (uns sh) i n s) (uns sh).length
 | 0, i, s, e, _, h => by rw [<- show i = (uns sh).length by omega]; exact h
 | n + 1, i, s, e, hp, h => by
  have hi : i < (uns sh).length := by omega
  have hnd : ∀ k, k < (uns sh).length -> k ≠ i -> (bA (uns sh) k, bB (uns sh) k) ≠ (bA (uns sh) i, bB (uns sh) i) := fun k hk hne e => by
   have hl := uns_len sh;have g : ∀ j (hj : j < (uns sh).length), (bA (uns sh) j, bB (uns sh) j) = (pos sh)[j]'(by omega) := fun j hj => by
    unfold bA bB;have := prC_cel (pos sh) j (by omega);rw [<- uns_pos] at this;rw [this.1, this.2, Int.toNat_natCast, Int.toNat_natCast]
   rw [g k hk, g i hi] at e;exact hne ((List.getElem_inj (pos_nd sh)).1 e)
  unfold seenF
  by_cases c : inL (dcS qs ps all sh) (uns sh) i = true
  ·rw [if_pos c];have hpi := hp i (Nat.le_refl _) hi;have hm := in_pos hr (uns_ab hi).1;have hv : at_ r (uns sh) i = 0 \/ at_ r (uns sh) i = 1 := rds_01 hs hr hm.1 hm.2;obtain ⟨r', hr', hsame⟩ := h.has_;have hposw : ∀ p, p ∈ pos (withD s (bA (uns sh) i) (bB (uns sh) i) (at_ r (uns sh) i)) ↔ p ∈ pos s /\ p ≠ (bA (uns sh) i, bB (uns sh) i) := fun p => by
    rw [pos_with (by omega), List.mem_filter, decide_eq_true_eq]
   refine SeenOk.go hs hr n (i + 1) _ (by omega) (fun k a b => (hposw _).2 ⟨hp k (by omega) b, hnd k b (by omega)⟩) ⟨h.ok.withD hv, fun t ht => h.sub t (rds_of_with hv (bA (uns sh) i, bB (uns sh) i) _ _ rfl hpi t ht), fun p hpp => ?_, ?_⟩
   ·obtain ⟨a, b⟩ := (hposw p).1 hpp;refine ⟨(h.pos_ p a).1, fun k hk hc => ?_⟩;rcases Nat.lt_or_ge k i with d | d
    ·exact (h.pos_ p a).2 k d hc
    ·rw [show k = i by omega]; exact b
   ·refine ⟨_, rds_with hv (bA (uns sh) i, bB (uns sh) i) _ _ rfl r' hr', ?_⟩;have hm' := in_pos hr' hpi;refine Same.trans (with_same (p := (bA (uns sh) i, bB (uns sh) i)) hm'.1 hm'.2 ?_) hsame;exact hsame.val _ _ hm'.1 hm'.2
  ·rw [if_neg c];refine SeenOk.go hs hr n (i + 1) s (by omega) (fun k a b => hp k (by omega) b) ⟨h.ok, h.sub, fun p hpp => ⟨(h.pos_ p hpp).1, fun k hk hc => ?_⟩, h.has_⟩;rcases Nat.lt_or_ge k i with d | d
   ·exact (h.pos_ p hpp).2 k d hc
   ·rw [show k = i by omega] at hc; exact absurd hc c
end Sp
namespace Sp
structure MoreK (ps ps' : Dt) (all all' : Int) : Prop where
 len : ps'.length = ps.length
 all_ : all <= all'
 parts : ∀ p, p < ps.length -> num ps p <= num ps' p
theorem MoreK.ps {qs ps ps' r : Dt} {all all' : Int} (h : MoreK ps ps' all all') (hl : (Sp.mk qs ps r).length = ps.length) (hp : psS qs ps' all' r = true) : psS qs ps all r = true := by
 unfold psS passOf at hp ⊢;rw [show Sp.mk qs ps' r = Sp.mk qs ps r by unfold Sp.mk; rw [h.len]] at hp;rw [Bool.and_eq_true, decide_eq_true_eq] at hp ⊢;refine ⟨Int.le_trans h.all_ hp.1, ?_⟩;have h2 := hp.2;unfold partsOk at h2 ⊢;rw [allF_0] at h2 ⊢;intro k hk;have h3 := of_decide_eq_true (h2 k hk);exact decide_eq_true (Int.le_trans (h.parts k (by omega)) h3)
theorem mk_len (qs ps sh : Dt) : (mk qs ps sh).length = ps.length := by unfold mk; rw [addG_len, List.length_replicate]
theorem MoreK.oc {qs ps ps' sh : Dt} {all all' : Int} (h : MoreK ps ps' all all') : (ocV qs ps all sh = 0 -> ocV qs ps' all' sh = 0) /\ (ocV qs ps all sh = 2 -> ocV qs ps' all' sh ≠ 1) := by
 constructor
 ·intro o;rw [oc0] at o ⊢;intro r hr;cases c : psS qs ps' all' r with
  | false => rfl
  | true => have := h.ps (mk_len _ _ _) c; rw [o r hr] at this; cases this
 ·intro o c;rw [oc1] at c;have : ocV qs ps all sh = 1 := oc1.2 fun r hr => h.ps (mk_len _ _ _) (c r hr);omega
theorem moreK {qs ps : Dt} {all : Int} (hk : KeyOk qs ps all) {p : Nat} (hp : p < ps.length) {d e : Int} (hd : 0 <= d) (he : 0 <= e) : MoreK ps (ps.set p [.i (min 240 ((cel ps p 0).int + d))]) all (min 240 (all + e)) /\ KeyOk qs (ps.set p [.i (min 240 ((cel ps p 0).int + d))]) (min 240 (all + e)) := by
 have ha := hk.all_;have hn := fun q (hq : q < ps.length) => hk.need q hq;have hs : ∀ q, q < ps.length -> num (ps.set p [.i (min 240 ((cel ps p 0).int + d))]) q = if p = q then min 240 ((cel ps p 0).int + d) else num ps q := fun q _ => num_set hp q
 have hnum : ∀ q, num ps q = (cel ps q 0).int := fun q => rfl;refine ⟨⟨List.length_set, by omega, fun q hq => ?_⟩, ⟨hk.n1, hk.n2, by rw [List.length_set]; exact hk.p1, by rw [List.length_set]; exact hk.p2, fun i hi => by rw [List.length_set]; exact hk.part i hi, hk.boxes, hk.right, hk.pts, hk.minus, fun q hq => ?_, by omega⟩⟩
 ·rw [hs q hq];have h1 := hn q hq
  split
  ·rename_i e; subst e; rw [hnum]; omega
  ·omega
 ·rw [List.length_set] at hq;have h1 := hn q hq;have h2 := hn p hp
  show -240 <= num _ q /\ num _ q <= 240
  rw [hs q hq]
  split
  ·omega
  ·exact h1
theorem box_two {qs ps sh : Dt} {all : Int} (hk : KeyOk qs ps all) (hs : ShOk qs sh) {q j : Nat} (hq : q < sh.length) (hj : j < (row sh q).length) (h7 : (uns sh).length < 7) :
  askE qs ps all (withD sh q j 2) = 0 /\ (ocA qs ps all (withD sh q j 2) = ocA qs ps all sh \/ ocA qs ps all (withD sh q j 2) = 2) := by
 have hpos : (q, j) ∈ pos (withD sh q j 2) := by
  refine mem_pos.2 ⟨by rw [withD_len]; exact hq, by rw [withD_rlen]; exact hj, ?_⟩;rw [withD_bx _ _ _ _ _ _ hq hj, if_pos rfl]
 have hl := pos_with_len (v := 0) (by decide) hpos;rw [withD_same, pos_with (by decide)] at hl;have hle := List.length_filter_le (fun x => decide (x ≠ (q, j))) (pos sh);rw [uns_len] at h7;have hsw : ShOk qs (withD sh q j 2) := ⟨hs.toShapeOk.withD (by decide), by rw [uns_len]; omega⟩;have e := ask_of hk hsw;refine ⟨e, ?_⟩;rw [ocA_ok e, ocA_ok (ask_of hk hs)];have key : ∀ r ∈ rds sh, ∃ t ∈ rds (withD sh q j 2), psS qs ps all t = psS qs ps all r := fun r hr => by
  have hsh := rds_shape r hr;have h1 : q < r.length := by omega
  have h2 : j < (row r q).length := by rw [hsh.2]; exact hj
  have hv := rds_01 hs hr h1 h2;refine ⟨withD r q j (bx (row r q) j), ?_, (with_same (p := (q, j)) h1 h2 rfl).ps _ _ _⟩;have h3 := rds_with hv (q, j) _ _ rfl r hr;refine rds_of_with hv (q, j) _ _ rfl hpos _ ?_
  show withD r q j _ ∈ rds (withD (withD sh q j 2) q j _)
  rw [withD_same];exact h3
 have hin := oc_in qs ps all (withD sh q j 2);rcases (by omega : ocV qs ps all (withD sh q j 2) = 0 \/ ocV qs ps all (withD sh q j 2) = 1 \/ ocV qs ps all (withD sh q j 2) = 2) with o | o | o
 ·left;rw [o];refine (oc0.2 fun r hr => ?_).symm;obtain ⟨t, ht, e⟩ := key r hr;rw [<- e]; exact oc0.1 o t ht
 ·left;rw [o];refine (oc1.2 fun r hr => ?_).symm;obtain ⟨t, ht, e⟩ := key r hr;rw [<- e]; exact oc1.1 o t ht
 ·exact .inr o
end Sp
noncomputable def TL15 : Tab Try.prog := ⟨[Xg7, Xip, Xjx, Xk8, Xiv], [], []⟩
def Zfe [W : InW] (kP : Ro Jc) := (↑(kP.xs.length) : Int)
def Zff := (240 : Int)
def Zfd [W : InW] (sh : Ro Jb) := (↑(sh.xs.length) : Int)
def Zfc [W : InW] (kQ : Ro Iv5) (kP : Ro Jc) (kA : Int) (sh : Ro Jb) (x_c x_d : Int) (Q : DS -> Prop) := Pre (Sp.Few sh.xs) (Vif (decide ((7 : Int) <= (↑(List.length (Sp.uns sh.xs)) : Int))) (Pre True (Q [[Cl.b true]])) (Ar .i64 x_d fun z => Need (!decide ((Zfd sh) = 0)) (Ar .i64 x_c fun z_4 => Need (decide (0 <= z.tmod (Zfd sh)) && decide (z.tmod (Zfd sh) < (Zfd sh))) (Need (decide ((z.tmod (Zfd sh)).toNat < sh.xs.length)) (Need (!decide ((↑(List.length (cel sh.xs (z.tmod (Zfd sh)).toNat Zc).lst) : Int) = 0)) (Pre (Sp.Few sh.xs /\ (0 <= z.tmod (Zfd sh) /\ z.tmod (Zfd sh) < (Zfd sh)) /\ 0 <= z_4.tmod (↑(List.length (cel sh.xs (z.tmod (Zfd sh)).toNat Zc).lst) : Int) /\ z_4.tmod (↑(List.length (cel sh.xs (z.tmod (Zfd sh)).toNat Zc).lst) : Int) < (↑(List.length (Sp.row sh.xs (z.tmod (Zfd sh)).toNat)) : Int)) (Pre True (Vif (decide (Sp.askE kQ.xs kP.xs kA (Sp.withD sh.xs (z.tmod (Zfd sh)).toNat (z_4.tmod (↑(List.length (cel sh.xs (z.tmod (Zfd sh)).toNat Zc).lst) : Int)).toNat (2 : Int)) = 0)) (Vif (decide (Sp.ocA kQ.xs kP.xs kA (Sp.withD sh.xs (z.tmod (Zfd sh)).toNat (z_4.tmod (↑(List.length (cel sh.xs (z.tmod (Zfd sh)).toNat Zc).lst) : Int)).toNat (2 : Int)) = Sp.ocA kQ.xs kP.xs kA sh.xs)) (Pre True (Q [[Cl.b true]])) (Vif (decide (Sp.ocA kQ.xs kP.xs kA (Sp.withD sh.xs (z.tmod (Zfd sh)).toNat (z_4.tmod (↑(List.length (cel sh.xs (z.tmod (Zfd sh)).toNat Zc).lst) : Int)).toNat (2 : Int)) = 2)) (Pre True (Q [[Cl.b true]])) (Q Zey))) (Q Zey)))))))))
def Xcj [W : InW] (kQ : Ro Iv5) (kP : Ro Jc) (kA : Int) (sh : Ro Jb) (x_a x_b x_c x_d : Int) (Q : DS -> Prop) : Prop :=
 Pre True (Pre True (Vif (!decide (Sp.askE kQ.xs kP.xs kA sh.xs = 0)) (Vif (!decide (Sp.askE kQ.xs kP.xs kA sh.xs = 0)) (Vif (decide (Sp.ocA kQ.xs kP.xs kA sh.xs = 0)) (Pre True (Q [[Cl.b true]])) (Q Zey)) (Q Zey)) (Need (decide ((Zc + kP.xs.length) * 8 <= 140737488355328)) (Ar .i64 x_a fun z => Ar .i64 (kA + z.tmod (16 : Int)) fun z => Ar .i64 x_b fun z_1 => Need (!decide ((Zfe kP) = 0)) (Need (decide (0 <= z_1.tmod (Zfe kP)) && decide (z_1.tmod (Zfe kP) < (Zfe kP))) (Need (decide ((z_1.tmod (Zfe kP)).toNat < kP.xs.length)) (Ar .i64 x_c fun z_2 => Ar .i64 ((cel kP.xs (z_1.tmod (Zfe kP)).toNat Zc).int + z_2.tmod (16 : Int)) fun z_3 => Need (decide (0 <= z_1.tmod (Zfe kP)) && decide (z_1.tmod (Zfe kP) < (Zfe kP))) (Need (decide ((z_1.tmod (Zfe kP)).toNat < kP.xs.length)) (Pre True (Vif (!decide (Sp.askE kQ.xs kP.xs kA sh.xs = 0)) (Q Zey) (Vif (!decide (Sp.askE kQ.xs (List.set kP.xs (z_1.tmod (Zfe kP)).toNat [Cl.i (min Zff z_3)]) (min Zff z) sh.xs = 0)) (Q Zey) (Vif (decide (Sp.ocA kQ.xs kP.xs kA sh.xs = 0)) (Vif (!decide (Sp.ocA kQ.xs (List.set kP.xs (z_1.tmod (Zfe kP)).toNat [Cl.i (min Zff z_3)]) (min Zff z) sh.xs = 0)) (Q Zey) (Vif (decide (Sp.ocA kQ.xs kP.xs kA sh.xs = 2)) (Vif (decide (Sp.ocA kQ.xs (List.set kP.xs (z_1.tmod (Zfe kP)).toNat [Cl.i (min Zff z_3)]) (min Zff z) sh.xs = 1)) (Q Zey) (Zfc kQ kP kA sh x_c x_d Q)) (Zfc kQ kP kA sh x_c x_d Q))) (Vif (decide (Sp.ocA kQ.xs kP.xs kA sh.xs = 2)) (Vif (decide (Sp.ocA kQ.xs (List.set kP.xs (z_1.tmod (Zfe kP)).toNat [Cl.i (min Zff z_3)]) (min Zff z) sh.xs = 1)) (Q Zey) (Zfc kQ kP kA sh x_c x_d Q)) (Zfc kQ kP kA sh x_c x_d Q))))))))))))))
theorem Xig (W : InW) (kQ kP kA sh x_a x_b x_c x_d Q) : Ywt (cxT Try.prog TT TL15 1000 50) 1000 15 [.agg [.rs _ kQ, .rs _ kP, .si .i64 kA], .rs _ sh, .agg [.si .u8 x_a, .si .u8 x_b, .si .u8 x_c, .si .u8 x_d]] [] 0 (Y02 [(false, [.bool])] Q) (fun _ _ _ _ => Stuck 421) = Xcj kQ kP kA sh x_a x_b x_c x_d Q := by kernel_rfl
abbrev Xbo : List AT := [.agg [.sl Iv5, .sl Jc, .int .i64], .one (.sl Jb), .agg [.int .u8, .int .u8, .int .u8, .int .u8]]
theorem Xjb {pre : DS -> Prop} {res : DS -> DS} (hyp_ : ∀ (W : InW) (kQ : Ro Iv5) (kP : Ro Jc) (kA : Int) (sh : Ro Jb) (x_a x_b x_c x_d : Int), pre [[.l kQ.xs, .l kP.xs, .i kA], [.l sh.xs], [.i x_a, .i x_b, .i x_c, .i x_d]] -> ∀ Q : DS -> Prop, Q (res [[.l kQ.xs, .l kP.xs, .i kA], [.l sh.xs], [.i x_a, .i x_b, .i x_c, .i x_d]]) -> Xcj kQ kP kA sh x_a x_b x_c x_d Q) : PureOk Try.prog 15 Xbo [(false, [.bool])] pre res :=
 PureOk.of' (fun W => @TT W) (fun W => @Xf W) Xa TL15 1000 50 fun W kQ kP kA sh x_a x_b x_c x_d hp =>
  (Xig W kQ kP kA sh x_a x_b x_c x_d (fun o => o = res [[.l kQ.xs, .l kP.xs, .i kA], [.l sh.xs], [.i x_a, .i x_b, .i x_c, .i x_d]])).mpr (hyp_ W kQ kP kA sh x_a x_b x_c x_d hp _ rfl)
theorem Xhm : PureOk Try.prog 15 Xbo [(false, [.bool])] (WfD Xbo) fun _ => [[.b true]] :=
 Xjb fun W qs ps all sh x1 x2 x3 x4 hp Q h => by
  have hx := WfL.head (WfD.head (WfD.head (WfD.head hp).2).2).1;unfold Xcj;delta Zfc Zey Zc Zfd Zff Zfe;have w1 := Xh4 hx.1;have w2 := Xh4 (WfL.head hx.2).1;have w3 := Xh4 (WfL.head (WfL.head hx.2).2).1;have w4 := Xh4 (WfL.head (WfL.head (WfL.head hx.2).2).2).1
  by_cases e : Sp.askE qs.xs ps.xs all sh.xs = 0
  ·obtain ⟨hk, hs⟩ := Sp.askE_ok e;have hf := hs.toShapeOk.few hk;have k1 := hk.n1;have k2 := hk.p1;have k3 := hk.p2;have k4 := hk.all_;have k5 := hs.n;have md : ∀ (y n : Int), 0 <= y -> 0 < n -> 0 <= y.tmod n /\ y.tmod n < n := fun y n h1 h2 => by
    rw [Int.tmod_eq_emod_of_nonneg h1];exact ⟨Int.emod_nonneg _ (by omega), Int.emod_lt_of_pos _ h2⟩
   have nz : ∀ n : Nat, 0 < n -> (!decide ((n : Int) = 0)) = true := fun n hn => by rw [decide_eq_false (by omega)]; rfl
   have a1 := md x1 16 w1.1 (by decide);have a3 := md x3 16 w3.1 (by decide);have t0 := md x2 ps.xs.length w2.1 (by omega);have s0 := md x4 sh.xs.length w4.1 (by omega);have hnd := hk.need (x2.tmod ps.xs.length).toNat (by omega);have hrow : 0 < (Sp.row sh.xs (x4.tmod sh.xs.length).toNat).length := by
    have h1 := hs.row_ (x4.tmod sh.xs.length).toNat (by omega);have h2 := hk.boxes (x4.tmod sh.xs.length).toNat (by omega);omega
   have r0 := md x3 (Sp.row sh.xs (x4.tmod sh.xs.length).toNat).length w3.1 (by omega);obtain ⟨mk_, mk2⟩ := Sp.moreK hk (p := (x2.tmod ps.xs.length).toNat) (by omega) a3.1 a1.1;have e2 := Sp.ask_of mk2 hs;obtain ⟨m0, m2⟩ := mk_.oc (qs := qs.xs) (sh := sh.xs);rw [<- Sp.ocA_ok e, <- Sp.ocA_ok e2] at m0;rw [<- Sp.ocA_ok e, <- Sp.ocA_ok e2] at m2;have bx := Sp.box_two hk hs (q := (x4.tmod sh.xs.length).toNat) (j := (x3.tmod (Sp.row sh.xs (x4.tmod sh.xs.length).toNat).length).toNat) (by omega) (by omega);refine Xb trivial (Xb trivial (vifn (fun c => absurd e c) fun _ => nedd (by omega) (ar64 (by omega) (ar64 (by omega) (ar64 (by omega) (ned (nz _ (by omega)) (ned2 t0 (nedd (by omega) (ar64 (by omega) (ar64 (by omega) (ned2 t0 (nedd (by omega) (Xb trivial (vifn (fun c => absurd e c) fun _ => vifn (fun c => absurd e2 c) fun _ => ?_))))))))))))));refine vifd (fun o0 => vifn (fun c => absurd (m0 o0) c) fun _ => vifd (fun o2 => by omega) fun _ => ?_) fun o0 => vifd (fun o2 => vifd (fun c => absurd c (m2 o2)) fun _ => ?_) fun _ => ?_
   all_goals
    refine Xb hf (vifd (fun _ => Xb trivial h) fun c7 => ar64 (by omega) (ned (nz _ (by omega)) (ar64 (by omega) (ned2 s0 (nedd (by omega) (ned (nz _ hrow) (Xb ⟨hf, s0, r0⟩ (Xb trivial ?_))))))));obtain ⟨b1, b2⟩ := bx (by omega);refine vifd (fun _ => vifd (fun _ => Xb trivial h) fun c1 => vifd (fun _ => Xb trivial h) fun c2 => ?_) fun c => absurd b1 c;exact (b2.elim (fun x => absurd x c1) fun x => absurd x c2)
  ·simp [Vif_iff, Pre_iff, e, h, Sp.ocA]
end Go.Proofs.Ytifhdbgciehicaa
namespace Go.Proofs.Ytifhdbgciehicaa.answerMore
open Go.ChangeShapes Go.WideShapes Go.ChangeAt Go.RowKit
set_option maxRecDepth 100000
theorem own : ownKnob Try.prog.godebug = none := by kernel_rfl
theorem laid : laidOutB Try.prog = true := by kernel_rfl
theorem lifted (os : Os) (started : os.Started) (H : Type) (enc : TypeId × Value -> H) :
  ReturnsInHanded {} Try.checked os 15 .any (Rows.answerMoreSpec.pre6 enc Try.prog Try.f15 Rows.answerMoreRow.domain false) (Rows.answerMoreSpec.post enc Try.prog Try.f15 false true false false) := by
 refine returnsInHanded_of_change (C := Try.checked) own started (by kernel_rfl) Try.func15
  (ChangeSpec.witness6 (enc := enc) (C := Try.checked) false ⟨#[], #[(.agg #[.slice none 0 0, .slice none 0 0, .int .i64 0]), (.slice none 0 0), (.agg #[.int .u8 0, .int .u8 0, .int .u8 0, .int .u8 0])], []⟩ 8 (by kernel_rfl) (by kernel_rfl) (by kernel_rfl) (by kernel_rfl)) ?_
 intro W base args ds gs before hval hW _ _;exact law_end (f := Try.f15) (s := Rows.answerMoreSpec) (by kernel_rfl) Try.underlying4 (by kernel_rfl) rfl laid (by kernel_rfl)
  (fun ds h => by match ds, (show ds.length = 3 from h) with | [_, _, _], _ => exact ⟨rfl, rfl, rfl⟩) Xhm hval hW
theorem over : Rows.answerMoreRow.holds Try.pinned (OpenSpec.ofChange Rows.answerMoreSpec) :=
 OpenClaim.holds_of_wide 15 Try.f15 rfl rfl rfl rfl rfl rfl rfl ⟨rfl, rfl, rfl, rfl, rfl⟩ rfl rfl rfl rfl rfl (by kernel_rfl) Try.func15 (by kernel_rfl)
  (of_decide_eq_true (by kernel_rfl)) (by unfold Func.isWrapper; first | (rw [if_pos (by decide +kernel)]; kernel_rfl) | (rw [if_neg (by decide +kernel)]; exact ⟨rfl, rfl⟩))
  (fun os started H enc _ => lifted os started H enc)
theorem proved : Rows.AnswerMoreSaid := over
end Go.Proofs.Ytifhdbgciehicaa.answerMore
