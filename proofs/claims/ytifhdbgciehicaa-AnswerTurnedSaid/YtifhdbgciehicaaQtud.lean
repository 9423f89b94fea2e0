/-
  'AnswerTurned': for every input the law returns true, and what is handed in reads as before. No condition.
-/
import Derived.Test.YtifhdbgciehicaaQtuc
import Derived.Test.YtifhdbgciehicaaRows
import Derived.WalkKit
import Derived.ProofKit
set_option linter.unusedVariables false
set_option linter.unusedSectionVars false
set_option linter.unusedSimpArgs false
noncomputable section
namespace Go.Proofs.Ytifhdbgciehicaa
open Go.RowKit
set_option maxRecDepth 100000
theorem vif_t [InW] {b : Bool} {A B : Prop} (hb : b = true) (ha : A) : Vif b A B := Vif_iff.2 ⟨fun _ => ha, fun h => absurd (hb.symm.trans h) (by decide)⟩
theorem Xjp [W : InW] (Q : DS -> Prop) (h : Q [[.b true]]) : Xba Q := by
 unfold Xba;delta Zbn Zbj Zbk Zbl Zbm Zbp Zbo Zbi Zb
 repeat first | refine vif_t (by kernel_rfl) ?_ | refine Pre_iff.2 ⟨trivial, ?_⟩ | refine Pre_iff.2 ⟨by kernel_rfl, ?_⟩ | refine Pre_iff.2 ⟨⟨by kernel_rfl, by kernel_rfl, by kernel_rfl⟩, ?_⟩
 exact (congrArg Q (by kernel_rfl)).mpr h
def Xiv : PC Try.prog := ⟨22, [], [(false, [.bool])], fun _ => True, fun _ => [[.b true]], Xjd fun W hp Q h => Xjp Q h⟩
set_option maxHeartbeats 1600000
namespace Sp
def bitN (x : Int) (i : Nat) : Int := x / 2 ^ i % 2
def rdgF (u : Dt) (x : Int) : Nat -> Nat -> Dt -> Dt
 | _, 0, sh => sh
 | i, n + 1, sh => rdgF u x (i + 1) n (withD sh (cA u i).toNat (cB u i).toNat (bitN x i))
def rdgV (x : Int) (sh : Dt) : Dt := rdgF (uns sh) x 0 (uns sh).length sh
theorem bitN_nat (x i : Nat) : bitN (x : Int) i = ((x / 2 ^ i % 2 : Nat) : Int) := by
 unfold bitN;rw [Int.natCast_emod, Int.natCast_ediv, Int.natCast_pow]; rfl
theorem rdgF_it (us : List (Nat × Nat)) (x : Nat) : ∀ n i s, i + n = us.length -> rdgF (us.map prC) x i n s = itW (us.drop i) (x / 2 ^ i) s
 | 0, i, s, h => by rw [List.drop_eq_nil_of_le (by omega)]; rfl
 | n + 1, i, s, h => by
  have hi : i < us.length := by omega
  rw [List.drop_eq_getElem_cons hi];unfold rdgF itW;rw [(prC_cel us i hi).1, (prC_cel us i hi).2, bitN_nat, Int.toNat_natCast, Int.toNat_natCast, rdgF_it us x n (i + 1) _ (by omega), Nat.pow_succ, Nat.div_div_eq_div_mul]
theorem rdgV_it {x : Int} (h : 0 <= x) (sh : Dt) : rdgV x sh = itW (pos sh) x.toNat sh := by
 obtain ⟨n, rfl⟩ := Int.eq_ofNat_of_zero_le h;unfold rdgV;rw [uns_pos, show (List.map prC (pos sh)).length = (pos sh).length by simp];have := rdgF_it (pos sh) n (pos sh).length 0 sh (by omega);simpa using this
theorem itW_mod : ∀ (ps : List (Nat × Nat)) (b : Nat) (s : Dt), itW ps b s = itW ps (b % 2 ^ ps.length) s
 | [], _, _ => rfl
 | p :: ps, b, s => by
  simp only [itW, List.length_cons];rw [itW_mod ps (b / 2), itW_mod ps (b % 2 ^ (ps.length + 1) / 2), Nat.pow_succ];have h1 : b % (2 ^ ps.length * 2) % 2 = b % 2 := Nat.mod_mul_left_mod b _ 2;have h2 : b % (2 ^ ps.length * 2) / 2 % 2 ^ ps.length = b / 2 % 2 ^ ps.length := by
   rw [Nat.mul_comm, Nat.mod_mul_right_div_self, Nat.mod_mod]
  rw [h1, h2]
theorem rdgV_mem {x : Int} (h : 0 <= x) (sh : Dt) : rdgV x sh ∈ rds sh := by
 rw [rdgV_it h, rds_it _ _ _ rfl, itW_mod];exact ⟨_, Nat.mod_lt _ (Nat.pow_pos (by decide)), rfl⟩
theorem rds_shok {qs sh : Dt} (h : ShOk qs sh) : ∀ r ∈ rds sh, ShOk qs r :=
 rds_ind (P := fun r => ShOk qs r) h fun s q j v hs _ hv => hs.withD hv
theorem ask_of {qs ps sh : Dt} {all : Int} (hk : KeyOk qs ps all) (hs : ShOk qs sh) : askE qs ps all sh = 0 := by
 unfold askE;rw [if_pos (chkE_iff.2 hk), shE_iff.2 hs]
theorem oc_any {qs ps s : Dt} {all : Int} : anyP qs ps all (rdD s) = true ↔ ∃ r ∈ rds s, psS qs ps all r = true := by
 unfold anyP;rw [anyF_0];constructor
 ·rintro ⟨k, hk, h⟩;exact ⟨_, rds_ix.2 ⟨k, hk, rfl⟩, h⟩
 ·rintro ⟨r, hr, h⟩;obtain ⟨k, hk, rfl⟩ := rds_ix.1 hr;exact ⟨k, hk, h⟩
theorem oc_all {qs ps s : Dt} {all : Int} : allP qs ps all (rdD s) = true ↔ ∀ r ∈ rds s, psS qs ps all r = true := by
 unfold allP;rw [allF_0];constructor
 ·intro h r hr;obtain ⟨k, hk, rfl⟩ := rds_ix.1 hr;exact h k hk
 ·intro h k hk;exact h _ (rds_ix.2 ⟨k, hk, rfl⟩)
theorem oc1 {qs ps s : Dt} {all : Int} : ocV qs ps all s = 1 ↔ ∀ r ∈ rds s, psS qs ps all r = true := by
 rw [<- oc_all];unfold ocV
 by_cases h : allP qs ps all (rdD s) = true
 ·rw [if_pos h]; exact ⟨fun _ => h, fun _ => rfl⟩
 ·rw [if_neg h];constructor
  ·intro e; split at e <;> simp at e
  ·intro e; exact absurd e h
theorem rds_ne (s : Dt) : ∃ r, r ∈ rds s := ⟨_, rdgV_mem (x := 0) (by decide) s⟩
theorem oc0 {qs ps s : Dt} {all : Int} : ocV qs ps all s = 0 ↔ ∀ r ∈ rds s, psS qs ps all r = false := by
 have ha : ocV qs ps all s = 0 ↔ ¬ (allP qs ps all (rdD s) = true) /\ ¬ (anyP qs ps all (rdD s) = true) := by
  unfold ocV
  by_cases h : allP qs ps all (rdD s) = true
  ·simp [h]
  ·by_cases h2 : anyP qs ps all (rdD s) = true <;> simp [h, h2]
 rw [ha, oc_any];constructor
 ·rintro ⟨_, h⟩ r hr;cases e : psS qs ps all r with
  | false => rfl
  | true => exact absurd ⟨r, hr, e⟩ h
 ·intro h;refine ⟨fun c => ?_, fun ⟨r, hr, e⟩ => by rw [h r hr] at e; cases e⟩;obtain ⟨r, hr⟩ := rds_ne s;have := oc_all.1 c r hr;rw [h r hr] at this; cases this
theorem oc_in (qs ps : Dt) (all : Int) (s : Dt) : 0 <= ocV qs ps all s /\ ocV qs ps all s <= 2 := by
 unfold ocV; repeat' split <;> omega
theorem sc_asc (qs ps sh : Dt) : Asc (scV qs ps sh) /\ ∀ y, memD (scV qs ps sh) y ↔ ∃ r ∈ rds sh, total (mk qs ps r) = y := by
 obtain ⟨h1, h2⟩ := insA_asc (f := ttl qs ps (rdD sh)) (rdD sh).length 0 [] asc_nil;refine ⟨h1, fun y => ?_⟩;unfold scV;rw [h2];constructor
 ·rintro (⟨p, hp, _⟩ | ⟨k, _, hk, e⟩)
  ·simp at hp
  ·exact ⟨_, rds_ix.2 ⟨k, by omega, rfl⟩, e⟩
 ·rintro ⟨r, hr, e⟩;obtain ⟨k, hk, rfl⟩ := rds_ix.1 hr;exact .inr ⟨k, Nat.zero_le _, by omega, e⟩
def boxV (u : Dt) (a b : Int) (i : Nat) : Bool := decide (cA u i = a) && decide (cB u i = b)
def hasB (u : Dt) (a b : Int) : Bool := anyF (boxV u a b) 0 u.length
end Sp
def TN1 : Tab Try.prog := ⟨[Xg4, Xir], [], []⟩
def Xce [W : InW] (kQ : Ro Iv5) (kP : Ro Jc) (kA : Int) (sh : Ro Jb) (Q : DS -> Prop) : Prop :=
 Pre True (Vif (decide (Sp.chkE kQ.xs kP.xs kA = 0)) (Pre (Sp.KeyOk kQ.xs kP.xs kA) (Q [[Cl.b (decide (Sp.shE kQ.xs sh.xs = 0))]])) (Q [[Cl.b false]]))
theorem Xib (W : InW) (kQ kP kA sh Q) : Ywx (cxT Try.prog TT TN1 1000 50) 1000 40 [.agg [.rs _ kQ, .rs _ kP, .si .i64 kA], .rs _ sh] [] 0 (Y04 [(false, [.bool])] Q) (fun _ _ _ _ => Stuck 421) = Xce kQ kP kA sh Q := by kernel_rfl
abbrev Xbk : List AT := [.agg [.sl Iv5, .sl Jc, .int .i64], .one (.sl Jb)]
theorem Xi7 {pre : DS -> Prop} {res : DS -> DS} (hyp_ : ∀ (W : InW) (kQ : Ro Iv5) (kP : Ro Jc) (kA : Int) (sh : Ro Jb), pre [[.l kQ.xs, .l kP.xs, .i kA], [.l sh.xs]] -> ∀ Q : DS -> Prop, Q (res [[.l kQ.xs, .l kP.xs, .i kA], [.l sh.xs]]) -> Xce kQ kP kA sh Q) : PureOk Try.prog 40 Xbk [(false, [.bool])] pre res :=
 PureOk.of' (fun W => @TT W) (fun W => @Xe W) Xa TN1 1000 50 fun W kQ kP kA sh hp =>
  (Xib W kQ kP kA sh (fun o => o = res [[.l kQ.xs, .l kP.xs, .i kA], [.l sh.xs]])).mpr (hyp_ W kQ kP kA sh hp _ rfl)
abbrev Xq (ds : DS) : DS := match ds with | [[.l qs, .l ps, .i all], [.l sh]] => [[.b (decide (Sp.askE qs ps all sh = 0))]] | _ => []
theorem Xlc : PureOk Try.prog 40 Xbk [(false, [.bool])] (fun _ => True) Xq :=
 Xi7 fun W qs ps all sh hp Q h => by
  unfold Xce;refine ⟨trivial, vifd (fun e => ⟨Sp.chkE_iff.1 e, ?_⟩) fun e => ?_⟩
  ·have e2 : Sp.askE qs.xs ps.xs all sh.xs = Sp.shE qs.xs sh.xs := by unfold Sp.askE; rw [if_pos e]
   simpa [Xq, e2] using h
  ·have e2 : Sp.askE qs.xs ps.xs all sh.xs = Sp.chkE qs.xs ps.xs all := by unfold Sp.askE; rw [if_neg e]
   simpa [Xq, e2, e] using h
def Xip : PC Try.prog := ⟨40, Xbk, [(false, [.bool])], fun _ => True, Xq, Xlc⟩
theorem wf_u8 {n : Int} (h : WfC (.int .u8) (.i n)) : 0 <= n /\ n <= 255 := by
 cases h with
 | int _ _ h => simp [Lit.wf, IntKind.min, IntKind.max, IntKind.signed, IntKind.bits] at h; omega
theorem WfL.head {t : Ty} {ts : List Ty} {c : Cl} {cs : List Cl} (h : WfL (t :: ts) (c :: cs)) : WfC t c /\ WfL ts cs := by
 cases h with
 | cons h hs => exact ⟨h, hs⟩
theorem WfD.head {a : AT} {ats : List AT} {d : List Cl} {ds : DS} (h : WfD (a :: ats) (d :: ds)) : WfA a d /\ WfD ats ds := by
 obtain ⟨d', ds', e, h1, h2⟩ := h;cases e;exact ⟨h1, h2⟩
theorem Xc1 {ts : List Ty} {xs : Dt} (h : WfC (.sl ts) (.l xs)) (i : Nat) (hi : i < xs.length) {t : Ty} {k : Nat} (ht : ts[k]? = some t) : WfC t (cel xs i k) := by
 cases h with
 | sl _ _ _ _ h => exact h i k t hi ht
namespace Sp
theorem ocA_ok {qs ps sh : Dt} {all : Int} (e : askE qs ps all sh = 0) : ocA qs ps all sh = ocV qs ps all sh := by unfold ocA; rw [if_pos e]
theorem scA_ok {qs ps sh : Dt} {all : Int} (e : askE qs ps all sh = 0) : scA qs ps all sh = scV qs ps sh := by unfold scA; rw [if_pos e]
end Sp
namespace Sp
theorem rds_with {v : Int} (hv : v = 0 \/ v = 1) (p : Nat × Nat) : ∀ n s, (pos s).length = n -> ∀ r ∈ rds s, withD r p.1 p.2 v ∈ rds (withD s p.1 p.2 v)
 | 0, s, hl, r, hr => by
  have e := List.length_eq_zero_iff.1 hl;rw [rds_nil e, List.mem_singleton] at hr;subst hr;rw [rds_nil (by rw [pos_with (by omega), e]; rfl)];exact List.mem_singleton.2 rfl
 | n + 1, s, hl, r, hr => by
  cases e : pos s with
  | nil => rw [e] at hl; simp at hl
  | cons q qs =>
   have step : ∀ w : Int, w = 0 \/ w = 1 -> r ∈ rds (withD s q.1 q.2 w) -> withD r p.1 p.2 v ∈ rds (withD s p.1 p.2 v) := by
    intro w hw hr;have ih := rds_with hv p n _ (by rw [pos_with_tl (by omega) e]; rw [e] at hl; simpa using hl) r hr
    by_cases c : q = p
    ·subst c; rw [withD_same] at ih; exact ih
    ·rw [withD_comm _ _ _ _ _ c] at ih;have hp : pos (withD s p.1 p.2 v) = q :: qs.filter (fun x => decide (x ≠ (p.1, p.2))) := by
      rw [pos_with (by omega), e, List.filter_cons_of_pos (by simpa using c)]
     rw [rds_cons hp, List.mem_append];rcases hw with rfl | rfl
     ·exact .inl ih
     ·exact .inr ih
   rw [rds_cons e, List.mem_append] at hr;exact hr.elim (step 0 (.inl rfl)) (step 1 (.inr rfl))
theorem rds_of_with {v : Int} (hv : v = 0 \/ v = 1) (p : Nat × Nat) : ∀ n s, (pos s).length = n -> p ∈ pos s -> ∀ r ∈ rds (withD s p.1 p.2 v), r ∈ rds s
 | 0, s, hl, hp, r, hr => by rw [List.length_eq_zero_iff.1 hl] at hp; cases hp
 | n + 1, s, hl, hp, r, hr => by
  cases e : pos s with
  | nil => rw [e] at hl; simp at hl
  | cons q qs =>
   rw [rds_cons e, List.mem_append]
   by_cases c : q = p
   ·subst c;rcases hv with rfl | rfl
    ·exact .inl hr
    ·exact .inr hr
   ·have hp' : pos (withD s p.1 p.2 v) = q :: qs.filter (fun x => decide (x ≠ (p.1, p.2))) := by
     rw [pos_with (by omega), e, List.filter_cons_of_pos (by simpa using c)]
    have hq : p ∈ qs := by rw [e] at hp; exact (List.mem_cons.1 hp).resolve_left fun h => c h.symm
    have step : ∀ w : Int, w = 0 \/ w = 1 -> r ∈ rds (withD (withD s p.1 p.2 v) q.1 q.2 w) -> r ∈ rds (withD s q.1 q.2 w) := by
     intro w hw hr;rw [withD_comm _ _ _ _ _ (fun h => c h.symm)] at hr;exact rds_of_with hv p n _ (by rw [pos_with_tl (by omega) e]; rw [e] at hl; simpa using hl) (by rw [pos_with_tl (by omega) e]; exact hq) r hr
    rw [rds_cons hp', List.mem_append] at hr;exact hr.elim (fun h => .inl (step 0 (.inl rfl) h)) fun h => .inr (step 1 (.inr rfl) h)
structure Same (a b : Dt) : Prop where
 len : a.length = b.length
 rlen : ∀ i, (row a i).length = (row b i).length
 val : ∀ i j, i < a.length -> j < (row a i).length -> bx (row a i) j = bx (row b i) j
theorem Same.symm {a b : Dt} (h : Same a b) : Same b a := ⟨h.len.symm, fun i => (h.rlen i).symm, fun i j h1 h2 => (h.val i j (by rw [h.len]; exact h1) (by rw [h.rlen]; exact h2)).symm⟩
theorem Same.trans {a b c : Dt} (h : Same a b) (h' : Same b c) : Same a c := ⟨h.len.trans h'.len, fun i => (h.rlen i).trans (h'.rlen i), fun i j h1 h2 => (h.val i j h1 h2).trans (h'.val i j (by rw [<- h.len]; exact h1) (by rw [<- h.rlen]; exact h2))⟩
theorem ansD_same {d d' : Dt} : ∀ n i a, (∀ j, i <= j -> j < i + n -> bx d j = bx d' j) -> ansD d i n a = ansD d' i n a
 | 0, _, _, _ => rfl
 | n + 1, i, a, h => by
  unfold ansD;rw [h i (by omega) (by omega), ansD_same n (i + 1) i fun j a b => h j (by omega) (by omega), ansD_same n (i + 1) a fun j a b => h j (by omega) (by omega)]
theorem ansL_same {d d' : Dt} : ∀ n i a, (∀ j, i <= j -> j < i + n -> bx d j = bx d' j) -> ansL d i n a = ansL d' i n a
 | 0, _, _, _ => rfl
 | n + 1, i, a, h => by
  unfold ansL;rw [h i (by omega) (by omega), ansL_same n (i + 1) i fun j a b => h j (by omega) (by omega), ansL_same n (i + 1) a fun j a b => h j (by omega) (by omega)]
theorem ansOf_same {d d' : Dt} (hl : d.length = d'.length) (h : ∀ j, j < d.length -> bx d j = bx d' j) : ansOf d = ansOf d' := by
 unfold ansOf;rw [<- hl, ansD_same _ _ _ fun j _ b => h j (by omega), ansL_same _ _ _ fun j _ b => h j (by omega)]
theorem Same.ans {a b : Dt} (h : Same a b) {i : Nat} (hi : i < a.length) : ansOf (row a i) = ansOf (row b i) := ansOf_same (h.rlen i) fun j hj => h.val i j hi hj
theorem addG_same {qs a b : Dt} : ∀ n i l, (∀ k, i <= k -> k < i + n -> ansOf (row a k) = ansOf (row b k)) -> addG qs a i n l = addG qs b i n l
 | 0, _, _, _ => rfl
 | n + 1, i, l, h => by
  unfold addG;rw [show ptsQ qs a i = ptsQ qs b i by unfold ptsQ ptsV; rw [h i (by omega) (by omega)], addG_same n (i + 1) _ fun k x y => h k (by omega) (by omega)]
theorem Same.mk_eq {a b : Dt} (h : Same a b) (qs ps : Dt) : Sp.mk qs ps a = Sp.mk qs ps b := by
 unfold Sp.mk;rw [<- h.len, addG_same _ _ _ fun k _ y => h.ans (by omega)]
theorem Same.ps {a b : Dt} (h : Same a b) (qs ps : Dt) (all : Int) : psS qs ps all a = psS qs ps all b := by unfold psS; rw [h.mk_eq]
theorem with_same {r : Dt} {p : Nat × Nat} {v : Int} (h1 : p.1 < r.length) (h2 : p.2 < (row r p.1).length) (h3 : bx (row r p.1) p.2 = v) : Same (withD r p.1 p.2 v) r := by
 refine ⟨withD_len _ _ _ _, fun i => withD_rlen _ _ _ _ _, fun i j hi hj => ?_⟩;rw [withD_len] at hi;rw [withD_rlen] at hj;rw [withD_bx _ _ _ _ _ _ hi hj]
 split
 ·rename_i e;cases e;exact h3.symm
 ·rfl
theorem rds_bx {s : Dt} {p : Nat × Nat} (h1 : p.1 < s.length) (h2 : p.2 < (row s p.1).length) (hp : p ∉ pos s) : ∀ r ∈ rds s, bx (row r p.1) p.2 = bx (row s p.1) p.2 := by
 have key := rds_ind (sh := s) (P := fun t => t.length = s.length /\ (∀ i, (row t i).length = (row s i).length) /\ bx (row t p.1) p.2 = bx (row s p.1) p.2 /\ p ∉ pos t) ⟨rfl, fun _ => rfl, rfl, hp⟩ fun t q j v ⟨a, b, c, d⟩ hm hv => by
  refine ⟨by rw [withD_len]; exact a, fun i => by rw [withD_rlen]; exact b i, ?_, ?_⟩
  ·rw [withD_bx _ _ _ _ _ _ (by omega) (by rw [b]; exact h2), if_neg, c];intro e;exact d (by rw [show p = (q, j) from e]; exact hm)
  ·rw [pos_with (by omega)];exact fun h => d (List.mem_filter.1 h).1
 exact fun r hr => (key r hr).2.2.1
theorem in_pos {s r : Dt} (hr : r ∈ rds s) {p : Nat × Nat} (hp : p ∈ pos s) : p.1 < r.length /\ p.2 < (row r p.1).length := by
 have h1 := mem_pos.1 hp;have h2 := rds_shape r hr;rw [h2.1, h2.2];exact ⟨h1.1, h1.2.1⟩
theorem rds_01 {qs s : Dt} (hs : ShOk qs s) {r : Dt} (hr : r ∈ rds s) {i j : Nat} (hi : i < r.length) (hj : j < (row r i).length) : bx (row r i) j = 0 \/ bx (row r i) j = 1 := by
 have h1 := rds_shok hs r hr;have h2 := h1.val i j (by rw [<- h1.n]; exact hi) hj;have h3 : bx (row r i) j ≠ 2 := fun e => by
  have : (i, j) ∈ pos r := mem_pos.2 ⟨hi, hj, e⟩;rw [rds_sure r hr] at this;cases this
 omega
theorem uns_at {sh : Dt} {k : Nat} (hk : k < (uns sh).length) : ∃ p ∈ pos sh, cA (uns sh) k = p.1 /\ cB (uns sh) k = p.2 := uns_cel hk
def dcS (qs ps : Dt) (all : Int) (sh : Dt) : Dt := dcL qs ps all sh (uns sh) 0 (uns sh).length
end Sp
namespace Sp
def bA (u : Dt) (k : Nat) : Nat := (cA u k).toNat
def bB (u : Dt) (k : Nat) : Nat := (cB u k).toNat
def inL (l u : Dt) (k : Nat) : Bool := hasB l (cA u k) (cB u k)
def outL (u l : Dt) (k : Nat) : Bool := !hasB u (cA l k) (cB l k)
def at_ (r u : Dt) (k : Nat) : Int := bx (row r (bA u k)) (bB u k)
def seenF (l r u : Dt) : Nat -> Nat -> Dt -> Dt
 | _, 0, s => s
 | i, n + 1, s => seenF l r u (i + 1) n (if inL l u i = true then withD s (bA u i) (bB u i) (at_ r u i) else s)
theorem uns_ab {sh : Dt} {k : Nat} (hk : k < (uns sh).length) : (bA (uns sh) k, bB (uns sh) k) ∈ pos sh /\ cA (uns sh) k = bA (uns sh) k /\ cB (uns sh) k = bB (uns sh) k := by
 obtain ⟨p, hp, a, b⟩ := uns_at hk;have e1 : bA (uns sh) k = p.1 := by unfold bA; rw [a, Int.toNat_natCast]
 have e2 : bB (uns sh) k = p.2 := by unfold bB; rw [b, Int.toNat_natCast]
 rw [e1, e2, a, b];exact ⟨hp, rfl, rfl⟩
structure SeenOk (qs ps : Dt) (all : Int) (sh r s : Dt) (i : Nat) : Prop where
 ok : ShOk qs s
 sub : ∀ t ∈ rds s, t ∈ rds sh
 pos_ : ∀ p ∈ pos s, p ∈ pos sh /\ ∀ k, k < i -> inL (dcS qs ps all sh) (uns sh) k = true -> p ≠ (bA (uns sh) k, bB (uns sh) k)
 has_ : ∃ r' ∈ rds s, Same r' r
theorem SeenOk.go {qs ps sh r : Dt} {all : Int} (hs : ShOk qs sh) (hr : r ∈ rds sh) : ∀ n i s, i + n = (uns sh).length -> (∀ k, i <= k -> k < (uns sh).length -> (bA (uns sh) k, bB (uns sh) k) ∈ pos s) -> SeenOk qs ps all sh r s i -> SeenOk qs ps all sh r (seenF (dcS qs ps all sh) r (uns sh) i n s) (uns sh).length
 | 0, i, s, e, _, h => by rw [<- show i = (uns sh).length by omega]; exact h
 | n + 1, i, s, e, hp, h => by
  have hi : i < (uns sh).length := by omega
  have hnd : ∀ k, k < (uns sh).length -> k ≠ i -> (bA (uns sh) k, bB (uns sh) k) ≠ (bA (uns sh) i, bB (uns sh) i) := fun k hk hne e => by
   have hl := uns_len sh;have g : ∀ j (hj : j < (uns sh).length), (bA (uns sh) j, bB (uns sh) j) = (pos sh)[j]'(by omega) := fun j hj => by
    unfold bA bB;have := prC_cel (pos sh) j (by omega);rw [<- uns_pos] at this;rw [this.1, this.2, Int.toNat_natCast, Int.toNat_natCast]
   rw [g k hk, g i hi] at e;exact hne ((List.getElem_inj (pos_nd sh)).1 e)
  unfold seenF
  by_cases c : inL (dcS qs ps all sh) (uns sh) i = true
  ·rw [if_pos c];have hpi := hp i (Nat.le_refl _) hi;have hm := in_pos hr (uns_ab hi).1;have hv : at_ r (uns sh) i = 0 \/ at_ r (uns sh) i = 1 := rds_01 hs hr hm.1 hm.2;obtain ⟨r', hr', hsame⟩ := h.has_;have hposw : ∀ p, p ∈ pos (withD s (bA (uns sh) i) (bB (uns sh) i) (at_ r (uns sh) i)) ↔ p ∈ pos s /\ p ≠ (bA (uns sh) i, bB (uns sh) i) := fun p => by
    rw [pos_with (by omega), List.mem_filter, decide_eq_true_eq]
   refine SeenOk.go hs hr n (i + 1) _ (by omega) (fun k a b => (hposw _).2 ⟨hp k (by omega) b, hnd k b (by omega)⟩) ⟨h.ok.withD hv, fun t ht => h.sub t (rds_of_with hv (bA (uns sh) i, bB (uns sh) i) _ _ rfl hpi t ht), fun p hpp => ?_, ?_⟩
   ·obtain ⟨a, b⟩ := (hposw p).1 hpp;refine ⟨(h.pos_ p a).1, fun k hk hc => ?_⟩;rcases Nat.lt_or_ge k i with d | d
    ·exact (h.pos_ p a).2 k d hc
    ·rw [show k = i by omega]; exact b
   ·refine ⟨_, rds_with hv (bA (uns sh) i, bB (uns sh) i) _ _ rfl r' hr', ?_⟩;have hm' := in_pos hr' hpi;refine Same.trans (with_same (p := (bA (uns sh) i, bB (uns sh) i)) hm'.1 hm'.2 ?_) hsame;exact hsame.val _ _ hm'.1 hm'.2
  ·rw [if_neg c];refine SeenOk.go hs hr n (i + 1) s (by omega) (fun k a b => hp k (by omega) b) ⟨h.ok, h.sub, fun p hpp => ⟨(h.pos_ p hpp).1, fun k hk hc => ?_⟩, h.has_⟩;rcases Nat.lt_or_ge k i with d | d
   ·exact (h.pos_ p hpp).2 k d hc
   ·rw [show k = i by omega] at hc; exact absurd hc c
end Sp
namespace Sp
structure MoreK (ps ps' : Dt) (all all' : Int) : Prop where
 len : ps'.length = ps.length
 all_ : all <= all'
 parts : ∀ p, p < ps.length -> num ps p <= num ps' p
theorem MoreK.ps {qs ps ps' r : Dt} {all all' : Int} (h : MoreK ps ps' all all') (hl : (Sp.mk qs ps r).length = ps.length) (hp : psS qs ps' all' r = true) : psS qs ps all r = true := by
 unfold psS passOf at hp ⊢;rw [show Sp.mk qs ps' r = Sp.mk qs ps r by unfold Sp.mk; rw [h.len]] at hp;rw [Bool.and_eq_true, decide_eq_true_eq] at hp ⊢;refine ⟨Int.le_trans h.all_ hp.1, ?_⟩;have h2 := hp.2;unfold partsOk at h2 ⊢;rw [allF_0] at h2 ⊢;intro k hk;have h3 := of_decide_eq_true (h2 k hk);exact decide_eq_true (Int.le_trans (h.parts k (by omega)) h3)
theorem mk_len (qs ps sh : Dt) : (mk qs ps sh).length = ps.length := by unfold mk; rw [addG_len, List.length_replicate]
end Sp
namespace Sp
def sm (f : Nat -> Int) : Nat -> Nat -> Int
 | _, 0 => 0
 | i, n + 1 => f i + sm f (i + 1) n
theorem sumF_sm (f : Nat -> Int) : ∀ n i a, sumF f i n a = a + sm f i n
 | 0, _, a => by simp [sumF, sm]
 | n + 1, i, a => by rw [sumF, sumF_sm f n, sm]; omega
theorem sm_congr {f g : Nat -> Int} : ∀ n i, (∀ k, i <= k -> k < i + n -> f k = g k) -> sm f i n = sm g i n
 | 0, _, _ => rfl
 | n + 1, i, h => by rw [sm, sm, h i (by omega) (by omega), sm_congr n (i + 1) fun k a b => h k (by omega) (by omega)]
theorem sm_shift (f : Nat -> Int) : ∀ n i, sm (fun k => f (k + 1)) i n = sm f (i + 1) n
 | 0, _ => rfl
 | n + 1, i => by rw [sm, sm, sm_shift f n (i + 1)]
theorem sm_set (f : Nat -> Int) (p : Nat) (v : Int) : ∀ n i, sm (fun k => if p = k then v else f k) i n = sm f i n + if i <= p /\ p < i + n then v - f p else 0
 | 0, i => by rw [if_neg (by omega)]; simp [sm]
 | n + 1, i => by
  rw [sm, sm, sm_set f p v n (i + 1)]
  by_cases h : p = i
  ·subst h;rw [if_pos rfl, if_neg (by omega), if_pos (by omega)]; omega
  ·rw [if_neg h]
   by_cases h2 : i <= p /\ p < i + (n + 1)
   ·rw [if_pos (by omega), if_pos h2]; omega
   ·rw [if_neg (by omega), if_neg h2]; omega
theorem total_sm (l : Dt) : total l = sm (num l) 0 l.length := by unfold total; rw [sumF_sm]; omega
theorem total_set {l : Dt} {p : Nat} {v : Int} (hp : p < l.length) : total (l.set p [.i v]) = total l + (v - num l p) := by
 rw [total_sm, total_sm, List.length_set, sm_congr (g := fun k => if p = k then v else num l k) _ _ fun k _ _ => num_set hp k, sm_set, if_pos ⟨Nat.zero_le _, by omega⟩]
def ptP (qs sh : Dt) (p k : Nat) : Int := if (qPart qs k).toNat = p then ptsQ qs sh k else 0
theorem addG_num {qs sh : Dt} {p : Nat} : ∀ n i l, (∀ k, i <= k -> k < i + n -> (qPart qs k).toNat < l.length) -> num (addG qs sh i n l) p = num l p + sm (ptP qs sh p) i n
 | 0, _, _, _ => by simp [addG, sm]
 | n + 1, i, l, h => by
  have hi := h i (by omega) (by omega);rw [addG, addG_num n (i + 1) _ fun k a b => by rw [List.length_set]; exact h k (by omega) (by omega), num_set hi, sm];unfold ptP
  by_cases c : (qPart qs i).toNat = p
  ·rw [if_pos c, if_pos c, c]; omega
  ·rw [if_neg c, if_neg c]; omega
theorem addG_total {qs sh : Dt} : ∀ n i l, (∀ k, i <= k -> k < i + n -> (qPart qs k).toNat < l.length) -> total (addG qs sh i n l) = total l + sm (ptsQ qs sh) i n
 | 0, _, _, _ => by simp [addG, sm]
 | n + 1, i, l, h => by
  have hi := h i (by omega) (by omega);rw [addG, addG_total n (i + 1) _ fun k a b => by rw [List.length_set]; exact h k (by omega) (by omega), total_set hi, sm];omega
theorem total_rep (n : Nat) : total (List.replicate n [.i 0]) = 0 := by
 rw [total_sm, sm_congr (g := fun _ => 0) _ _ fun k _ _ => num_rep _ _];generalize (List.replicate n [Cl.i 0]).length = m;have : ∀ m i, sm (fun _ => 0) i m = 0 := by
  intro m
  induction m with
  | zero => intro i; rfl
  | succ m ih => intro i; rw [sm, ih]; rfl
 exact this m 0
theorem mk_num {qs ps sh : Dt} {all : Int} (hk : KeyOk qs ps all) (hl : sh.length = qs.length) (p : Nat) : num (mk qs ps sh) p = sm (ptP qs sh p) 0 qs.length := by
 unfold mk;rw [addG_num _ _ _ fun k _ h => by rw [List.length_replicate]; have := hk.part k (by omega); omega, num_rep, hl];omega
theorem mk_total {qs ps sh : Dt} {all : Int} (hk : KeyOk qs ps all) (hl : sh.length = qs.length) : total (mk qs ps sh) = sm (ptsQ qs sh) 0 qs.length := by
 unfold mk;rw [addG_total _ _ _ fun k _ h => by rw [List.length_replicate]; have := hk.part k (by omega); omega, total_rep, hl];omega
theorem psS_iff {qs ps sh : Dt} {all : Int} (hk : KeyOk qs ps all) (hl : sh.length = qs.length) : psS qs ps all sh = true ↔ all <= sm (ptsQ qs sh) 0 qs.length /\ ∀ p, p < ps.length -> num ps p <= sm (ptP qs sh p) 0 qs.length := by
 unfold psS passOf partsOk;rw [Bool.and_eq_true, decide_eq_true_eq, mk_total hk hl, allF_0, mk_len];constructor
 ·rintro ⟨a, b⟩;exact ⟨a, fun p hp => by rw [<- mk_num hk hl p]; exact of_decide_eq_true (b p hp)⟩
 ·rintro ⟨a, b⟩;exact ⟨a, fun p hp => decide_eq_true (by rw [mk_num hk hl p]; exact b p hp)⟩
end Sp
namespace Sp
abbrev RP := List Cl × List Cl
theorem perm_lift {α β : Type} {Z Z' : List α} (h : Z.Perm Z') : ∀ R' : List β, R'.length = Z'.length -> ∃ R : List β, R.length = Z.length /\ (Z.zip R).Perm (Z'.zip R') := by
 induction h with
 | nil => intro R' h; exact ⟨[], rfl, by simp⟩
 | cons a _ ih =>
  intro R' h;cases R' with
  | nil => simp at h
  | cons b R' =>
   obtain ⟨R, h1, h2⟩ := ih R' (by simpa using h);exact ⟨b :: R, by simp [h1], by simpa using h2.cons (a, b)⟩
 | swap x y l =>
  intro R' h
  match R', h with
  | b :: c :: R', h => exact ⟨c :: b :: R', by simpa using h, by simpa using List.Perm.swap _ _ _⟩
  | [_], h => simp at h
  | [], h => simp at h
 | trans _ _ ih1 ih2 =>
  intro R' h;obtain ⟨R1, h1, h2⟩ := ih2 R' h;obtain ⟨R, h3, h4⟩ := ih1 R1 h1;exact ⟨R, h3, h4.trans h2⟩
theorem zip_all {Q S : Dt} (hl : S.length = Q.length) {P : RP -> Prop} : (∀ z ∈ Q.zip S, P z) ↔ ∀ k, k < Q.length -> P (Q.getD k [], S.getD k []) := by
 constructor
 ·intro h k hk;have := h ((Q.zip S)[k]'(by simp; omega)) (List.getElem_mem _);rw [List.getElem_zip] at this;rw [List.getD_eq_getElem?_getD, List.getD_eq_getElem?_getD, List.getElem?_eq_getElem hk, List.getElem?_eq_getElem (by omega)];exact this
 ·intro h z hz;obtain ⟨k, hk, rfl⟩ := List.mem_iff_getElem.1 hz;have hk2 : k < Q.length := by simp at hk; omega
  have := h k hk2;rw [List.getD_eq_getElem?_getD, List.getD_eq_getElem?_getD, List.getElem?_eq_getElem hk2, List.getElem?_eq_getElem (by omega)] at this;rw [List.getElem_zip];exact this
theorem zip_all3 {Q S R : Dt} (hl : S.length = Q.length) (hr : R.length = Q.length) {P : RP × List Cl -> Prop} : (∀ z ∈ (Q.zip S).zip R, P z) ↔ ∀ k, k < Q.length -> P ((Q.getD k [], S.getD k []), R.getD k []) := by
 constructor
 ·intro h k hk;have := h (((Q.zip S).zip R)[k]'(by simp; omega)) (List.getElem_mem _);rw [List.getElem_zip, List.getElem_zip] at this;rw [List.getD_eq_getElem?_getD, List.getD_eq_getElem?_getD, List.getD_eq_getElem?_getD, List.getElem?_eq_getElem hk, List.getElem?_eq_getElem (by omega), List.getElem?_eq_getElem (by omega)];exact this
 ·intro h z hz;obtain ⟨k, hk, rfl⟩ := List.mem_iff_getElem.1 hz;have hk2 : k < Q.length := by simp at hk; omega
  have := h k hk2;rw [List.getD_eq_getElem?_getD, List.getD_eq_getElem?_getD, List.getD_eq_getElem?_getD, List.getElem?_eq_getElem hk2, List.getElem?_eq_getElem (by omega), List.getElem?_eq_getElem (by omega)] at this;rw [List.getElem_zip, List.getElem_zip];exact this
def sumL {α : Type} (f : α -> Int) : List α -> Int
 | [] => 0
 | a :: l => f a + sumL f l
theorem sumL_perm {α : Type} {f : α -> Int} {A B : List α} (h : A.Perm B) : sumL f A = sumL f B := by
 induction h with
 | nil => rfl
 | cons a _ ih => rw [sumL, sumL, ih]
 | swap a b l => simp only [sumL]; omega
 | trans _ _ h1 h2 => rw [h1, h2]
theorem sm_zip2 {f : RP -> Int} : ∀ (Q S : Dt), S.length = Q.length -> sm (fun k => f (Q.getD k [], S.getD k [])) 0 Q.length = sumL f (Q.zip S)
 | [], [], _ => rfl
 | q :: Q, s :: S, h => by
  have ih := sm_zip2 (f := f) Q S (by simpa using h);rw [List.length_cons, sm, List.zip_cons_cons, sumL, <- ih, <- sm_shift];rfl
 | [], _ :: _, h => by simp at h
 | _ :: _, [], h => by simp at h
theorem sm_zip3 {f : RP × List Cl -> Int} : ∀ (Q S R : Dt), S.length = Q.length -> R.length = Q.length -> sm (fun k => f ((Q.getD k [], S.getD k []), R.getD k [])) 0 Q.length = sumL f ((Q.zip S).zip R)
 | [], [], [], _, _ => rfl
 | q :: Q, s :: S, r :: R, h, h2 => by
  have ih := sm_zip3 (f := f) Q S R (by simpa using h) (by simpa using h2);rw [List.length_cons, sm, List.zip_cons_cons, List.zip_cons_cons, sumL, <- ih, <- sm_shift];rfl
 | [], _ :: _, _, h, _ => by simp at h
 | _ :: _, [], _, h, _ => by simp at h
 | [], _, _ :: _, _, h => by simp at h
 | _ :: _, _, [], _, h => by simp at h
structure Rd (s r : Dt) : Prop where
 len : r.length = s.length
 rlen : ∀ i, i < s.length -> (row r i).length = (row s i).length
 val : ∀ i j, i < s.length -> j < (row s i).length -> (bx (row s i) j = 2 -> bx (row r i) j = 0 \/ bx (row r i) j = 1) /\ (bx (row s i) j ≠ 2 -> bx (row r i) j = bx (row s i) j)
theorem rd_of {qs s r : Dt} (hs : ShOk qs s) (hr : r ∈ rds s) : Rd s r := by
 obtain ⟨a, b⟩ := rds_shape r hr;refine ⟨a, fun i _ => b i, fun i j hi hj => ⟨fun _ => rds_01 hs hr (by omega) (by rw [b]; exact hj), fun h => ?_⟩⟩;exact rds_bx (p := (i, j)) hi hj (fun hp => h (mem_pos.1 hp).2.2) r hr
theorem of_rd : ∀ (n : Nat) (s r : Dt), (pos s).length = n -> Rd s r -> ∃ t ∈ rds s, Same t r
 | 0, s, r, hl, h => by
  have e := List.length_eq_zero_iff.1 hl;have hr2 : ∀ i, (row s i).length = (row r i).length := fun i => by
   rcases Nat.lt_or_ge i s.length with hi | hi
   ·exact (h.rlen i hi).symm
   ·rw [row_out hi, row_out (by rw [h.len]; exact hi)]
  refine ⟨s, by rw [rds_nil e]; exact List.mem_singleton.2 rfl, h.len.symm, hr2, fun i j hi hj => ((h.val i j hi hj).2 fun c => ?_).symm⟩;have : (i, j) ∈ pos s := mem_pos.2 ⟨hi, hj, c⟩;rw [e] at this; cases this
 | n + 1, s, r, hl, h => by
  cases e : pos s with
  | nil => rw [e] at hl; simp at hl
  | cons q qs =>
   have hq : q ∈ pos s := by rw [e]; exact List.mem_cons_self
   obtain ⟨a, b, c⟩ := mem_pos.1 hq;have hv := (h.val _ _ a b).1 c;have hw : Rd (withD s q.1 q.2 (bx (row r q.1) q.2)) r := by
    refine ⟨by rw [withD_len]; exact h.len, fun i hi => by rw [withD_rlen]; exact h.rlen i (by rw [withD_len] at hi; exact hi), fun i j hi hj => ?_⟩;rw [withD_len] at hi;rw [withD_rlen] at hj;rw [withD_bx _ _ _ _ _ _ hi hj]
    split
    ·rename_i e; cases e;exact ⟨fun x => by omega, fun _ => rfl⟩
    ·exact h.val i j hi hj
   obtain ⟨t, ht, hsame⟩ := of_rd n _ r (by rw [pos_with_tl (by omega) e]; rw [e] at hl; simpa using hl) hw;exact ⟨t, rds_of_with hv q _ _ rfl hq t ht, hsame⟩
structure Turn (qs sh qs' sh' : Dt) : Prop where
 l1 : sh.length = qs.length
 l2 : sh'.length = qs'.length
 perm : (qs'.zip sh').Perm (qs.zip sh)
theorem Turn.symm {qs sh qs' sh' : Dt} (h : Turn qs sh qs' sh') : Turn qs' sh' qs sh := ⟨h.l2, h.l1, h.perm.symm⟩
theorem Turn.len {qs sh qs' sh' : Dt} (h : Turn qs sh qs' sh') : qs'.length = qs.length := by
 have h1 := h.perm.length_eq;have a := h.l1;have b := h.l2;rw [List.length_zip, List.length_zip] at h1;omega
theorem Turn.all {qs sh qs' sh' : Dt} (h : Turn qs sh qs' sh') {P : RP -> Prop} (hp : ∀ k, k < qs.length -> P (qs.getD k [], sh.getD k [])) : ∀ k, k < qs'.length -> P (qs'.getD k [], sh'.getD k []) :=
 (zip_all h.l2).1 fun z hz => (zip_all h.l1).2 hp z (h.perm.mem_iff.1 hz)
def c0 (c : List Cl) (k : Nat) : Int := (c.getD k .z).int
def rw0 (c : List Cl) : Dt := (c.getD 0 .z).lst
theorem Turn.key {qs sh qs' sh' ps : Dt} {all : Int} (h : Turn qs sh qs' sh') (hk : KeyOk qs ps all) : KeyOk qs' ps all := by
 have hl := h.len;have n1 := hk.n1;have n2 := hk.n2;refine ⟨by omega, by omega, hk.p1, hk.p2, ?_, ?_, ?_, ?_, ?_, hk.need, hk.all_⟩
 ·exact h.all (P := fun z => 0 <= c0 z.1 0 /\ c0 z.1 0 < ps.length) hk.part
 ·exact h.all (P := fun z => 2 <= c0 z.1 1 /\ c0 z.1 1 <= 4) hk.boxes
 ·exact h.all (P := fun z => 0 <= c0 z.1 2 /\ c0 z.1 2 < c0 z.1 1) hk.right
 ·exact h.all (P := fun z => 0 <= c0 z.1 3 /\ c0 z.1 3 <= 20) hk.pts
 ·exact h.all (P := fun z => 0 <= c0 z.1 4 /\ c0 z.1 4 <= 20) hk.minus
theorem prow_len (d : Dt) (i i' : Nat) : ∀ n j, (prow d i j n).length = (prow d i' j n).length
 | 0, _ => rfl
 | n + 1, j => by simp only [prow, List.length_append, prow_len d i i' n]; split <;> rfl
theorem pall_sm (sh : Dt) : ∀ n i, ((pall sh i n).length : Int) = sm (fun k => ((prow (row sh k) 0 0 (row sh k).length).length : Int)) i n
 | 0, _ => rfl
 | n + 1, i => by rw [pall, sm, List.length_append, <- pall_sm sh n, prow_len _ i 0]; omega
theorem Turn.pos_ {qs sh qs' sh' : Dt} (h : Turn qs sh qs' sh') : (pos sh').length = (pos sh).length := by
 have e : ∀ q s : Dt, s.length = q.length -> ((pos s).length : Int) = sumL (fun z : RP => ((prow (rw0 z.2) 0 0 (rw0 z.2).length).length : Int)) (q.zip s) := fun q s hl => by
  unfold pos;rw [pall_sm, hl, <- sm_zip2 q s hl];rfl
 have h1 := e _ _ h.l1;have h2 := e _ _ h.l2;rw [sumL_perm h.perm] at h2;omega
theorem Turn.sheet {qs sh qs' sh' : Dt} (h : Turn qs sh qs' sh') (hs : ShOk qs sh) : ShOk qs' sh' := by
 have hl := h.len;have hr := h.all (P := fun z => ((rw0 z.2).length : Int) = c0 z.1 1) hs.row_;have hv := h.all (P := fun z => ∀ j, j < (rw0 z.2).length -> 0 <= bx (rw0 z.2) j /\ bx (rw0 z.2) j <= 2) fun k hk j => hs.val k j hk;have h7 := hs.seven;refine ⟨⟨h.l2, hr, fun i j hi => hv i hi j⟩, ?_⟩;rw [uns_len] at h7 ⊢;rw [h.pos_];exact h7
theorem Turn.rd {qs sh qs' sh' ps : Dt} {all : Int} (h : Turn qs sh qs' sh') (hk : KeyOk qs ps all) (hs : ShOk qs sh) : ∀ r ∈ rds sh, ∃ t ∈ rds sh', psS qs' ps all t = psS qs ps all r /\ total (Sp.mk qs' ps t) = total (Sp.mk qs ps r) := fun r hr => by
 have hl := h.len;have a := h.l1;have b := h.l2;have hd := rd_of hs hr;have hlr := hd.len;obtain ⟨R, hR, hp⟩ := perm_lift h.perm r (by rw [List.length_zip]; omega);have hR : R.length = qs'.length := by rw [hR, List.length_zip]; omega
 have tr : ∀ {P : RP × List Cl -> Prop}, (∀ k, k < qs.length -> P ((qs.getD k [], sh.getD k []), r.getD k [])) -> ∀ k, k < qs'.length -> P ((qs'.getD k [], sh'.getD k []), R.getD k []) := fun hP =>
  (zip_all3 b hR).1 fun z hz => (zip_all3 a (by omega)).2 hP z (hp.mem_iff.1 hz)
 have hd' : Rd sh' R := by
  refine ⟨by omega, fun i hi => ?_, fun i j hi => ?_⟩
  ·exact tr (P := fun z => (rw0 z.2).length = (rw0 z.1.2).length) (fun k hk => hd.rlen k (by omega)) i (by omega)
  ·exact tr (P := fun z => ∀ j, j < (rw0 z.1.2).length -> (bx (rw0 z.1.2) j = 2 -> bx (rw0 z.2) j = 0 \/ bx (rw0 z.2) j = 1) /\ (bx (rw0 z.1.2) j ≠ 2 -> bx (rw0 z.2) j = bx (rw0 z.1.2) j)) (fun k hk j => hd.val k j (by omega)) i (by omega) j
 obtain ⟨t, ht, hsame⟩ := of_rd _ sh' R rfl hd';have hk' := h.key hk;have e1 : sm (ptsQ qs' R) 0 qs'.length = sm (ptsQ qs r) 0 qs.length := by
  have f1 := sm_zip3 (f := fun z => ptsV (c0 z.1.1 2) (c0 z.1.1 3) (c0 z.1.1 4) (rw0 z.2)) qs' sh' R b hR;have f2 := sm_zip3 (f := fun z => ptsV (c0 z.1.1 2) (c0 z.1.1 3) (c0 z.1.1 4) (rw0 z.2)) qs sh r a (by omega);rw [sumL_perm hp, <- f2] at f1;exact f1
 have e2 : ∀ p, sm (ptP qs' R p) 0 qs'.length = sm (ptP qs r p) 0 qs.length := fun p => by
  have f1 := sm_zip3 (f := fun z => if (c0 z.1.1 0).toNat = p then ptsV (c0 z.1.1 2) (c0 z.1.1 3) (c0 z.1.1 4) (rw0 z.2) else 0) qs' sh' R b hR;have f2 := sm_zip3 (f := fun z => if (c0 z.1.1 0).toNat = p then ptsV (c0 z.1.1 2) (c0 z.1.1 3) (c0 z.1.1 4) (rw0 z.2) else 0) qs sh r a (by omega);rw [sumL_perm hp, <- f2] at f1;exact f1
 refine ⟨t, ht, ?_, ?_⟩
 ·rw [hsame.ps];apply bool_iff;rw [psS_iff hk' hR, psS_iff hk (by omega), e1];constructor
  ·rintro ⟨x, y⟩; exact ⟨x, fun p hp => by rw [<- e2 p]; exact y p hp⟩
  ·rintro ⟨x, y⟩; exact ⟨x, fun p hp => by rw [e2 p]; exact y p hp⟩
 ·rw [hsame.mk_eq, mk_total hk' hR, mk_total hk (by omega), e1]
theorem Turn.same {qs sh qs' sh' ps : Dt} {all : Int} (h : Turn qs sh qs' sh') (hk : KeyOk qs ps all) (hs : ShOk qs sh) : ocV qs' ps all sh' = ocV qs ps all sh /\ scV qs' ps sh' = scV qs ps sh := by
 have f := h.rd hk hs;have g := h.symm.rd (h.key hk) (h.sheet hs);constructor
 ·rcases (by have := oc_in qs ps all sh; omega : ocV qs ps all sh = 0 \/ ocV qs ps all sh = 1 \/ ocV qs ps all sh = 2) with o | o | o
  ·rw [o];refine oc0.2 fun r hr => ?_;obtain ⟨t, ht, e, _⟩ := g r hr;rw [<- e]; exact oc0.1 o t ht
  ·rw [o];refine oc1.2 fun r hr => ?_;obtain ⟨t, ht, e, _⟩ := g r hr;rw [<- e]; exact oc1.1 o t ht
  ·rw [o];obtain ⟨⟨r, hr, e⟩, r2, hr2, e2⟩ := oc2.1 o;obtain ⟨t, ht, e3, _⟩ := f r hr;obtain ⟨t2, ht2, e4, _⟩ := f r2 hr2;exact oc2.2 ⟨⟨t, ht, by rw [e3, e]⟩, t2, ht2, by rw [e4, e2]⟩
 ·obtain ⟨a1, a2⟩ := sc_asc qs ps sh;obtain ⟨b1, b2⟩ := sc_asc qs' ps sh';refine asc_eq b1 a1 fun x => ?_;rw [a2, b2];constructor
  ·rintro ⟨r, hr, e⟩;obtain ⟨t, ht, _, e2⟩ := g r hr;exact ⟨t, ht, by rw [e2, e]⟩
  ·rintro ⟨r, hr, e⟩;obtain ⟨t, ht, _, e2⟩ := f r hr;exact ⟨t, ht, by rw [e2, e]⟩
def putL (a : Nat) (v : List Cl) (l : Dt) : Dt := l.take a ++ [v] ++ l.drop a
def atX (x : Dt) (i : Nat) : Nat := if x.length = 0 then 0 else (cel x (i % x.length) 0).int.toNat % (i + 1)
def tuL (x : Dt) (f : Nat -> List Cl) : Nat -> Nat -> Dt -> Dt
 | _, 0, l => l
 | i, n + 1, l => tuL x f (i + 1) n (putL (atX x i) (f i) l)
def nQ (qs : Dt) (i : Nat) : List Cl := [.i (cel qs i 0).int, .i (cel qs i 1).int, .i (cel qs i 2).int, .i (cel qs i 3).int, .i (cel qs i 4).int]
def nS (sh : Dt) (i : Nat) : List Cl := [.l (row sh i)]
theorem putL_len (a : Nat) (v : List Cl) (l : Dt) : (putL a v l).length = l.length + 1 := by unfold putL; simp; omega
theorem zip_take : ∀ (a : Nat) (Q S : Dt), (Q.take a).zip (S.take a) = (Q.zip S).take a
 | 0, _, _ => by simp
 | a + 1, [], _ => by simp
 | a + 1, _ :: _, [] => by simp
 | a + 1, q :: Q, s :: S => by simp [zip_take a Q S]
theorem zip_drop : ∀ (a : Nat) (Q S : Dt), (Q.drop a).zip (S.drop a) = (Q.zip S).drop a
 | 0, _, _ => by simp
 | a + 1, [], _ => by simp
 | a + 1, _ :: _, [] => by simp
 | a + 1, q :: Q, s :: S => by simp [zip_drop a Q S]
theorem putL_zip {a : Nat} {u v : List Cl} {Q S : Dt} (h : S.length = Q.length) : ((putL a u Q).zip (putL a v S)).Perm ((u, v) :: Q.zip S) := by
 unfold putL;rw [List.zip_append (by simp [h]), List.zip_append (by simp [h]), zip_take, zip_drop];have : List.take a (Q.zip S) ++ [u].zip [v] ++ List.drop a (Q.zip S) = List.take a (Q.zip S) ++ (u, v) :: List.drop a (Q.zip S) := by simp
 rw [this];refine List.perm_middle.trans ?_;rw [List.take_append_drop]
theorem tuL_len (x : Dt) (f : Nat -> List Cl) : ∀ n i l, (tuL x f i n l).length = l.length + n
 | 0, _, _ => rfl
 | n + 1, i, l => by rw [tuL, tuL_len x f n, putL_len]; omega
theorem tuL_zip (x : Dt) {f g : Nat -> List Cl} {A B : Dt} (hl : B.length = A.length) (hA : ∀ k, k < A.length -> A.getD k [] = f k) (hB : ∀ k, k < B.length -> B.getD k [] = g k) : ∀ n i Q S, i + n = A.length -> Q.length = i -> S.length = i -> (Q.zip S).Perm ((A.zip B).take i) -> ((tuL x f i n Q).zip (tuL x g i n S)).Perm (A.zip B)
 | 0, i, Q, S, h, _, _, hp => by
  rw [List.take_of_length_le (by simp; omega)] at hp;exact hp
 | n + 1, i, Q, S, h, h1, h2, hp => by
  rw [tuL, tuL];refine tuL_zip x hl hA hB n (i + 1) _ _ (by omega) (by rw [putL_len]; omega) (by rw [putL_len]; omega) ?_;refine (putL_zip (by omega)).trans ?_;have hi : i < (A.zip B).length := by simp; omega
  rw [List.take_succ_eq_append_getElem hi];have e : (A.zip B)[i] = (f i, g i) := by
   have a := hA i (by omega);have b := hB i (by omega);rw [List.getD_eq_getElem?_getD, List.getElem?_eq_getElem (by omega)] at a b;rw [List.getElem_zip];exact Prod.ext a b
  rw [e];exact (List.Perm.cons _ hp).trans (List.perm_append_singleton _ _).symm
theorem turned {x qs sh : Dt} (hl : sh.length = qs.length) (hq : ∀ k, k < qs.length -> qs.getD k [] = nQ qs k) (hs : ∀ k, k < sh.length -> sh.getD k [] = nS sh k) : Turn qs sh (tuL x (nQ qs) 0 sh.length []) (tuL x (nS sh) 0 sh.length []) :=
 ⟨hl, by rw [tuL_len, tuL_len], tuL_zip x hl hq hs _ 0 [] [] (by omega) rfl rfl (by simp)⟩
theorem cl_int {c : Cl} {k : IntKind} (h : WfC (.int k) c) : c = .i c.int := by cases h; rfl
theorem cl_lst {c : Cl} {ts : List Ty} (h : WfC (.sl ts) c) : c = .l c.lst := by cases h; rfl
theorem wf_q {xs : Dt} (h : WfC (.sl Iv5) (.l xs)) (k : Nat) (hk : k < xs.length) : xs.getD k [] = nQ xs k := by
 have c0 := cl_int (Xc1 h k hk (k := 0) rfl);have c1 := cl_int (Xc1 h k hk (k := 1) rfl);have c2 := cl_int (Xc1 h k hk (k := 2) rfl);have c3 := cl_int (Xc1 h k hk (k := 3) rfl);have c4 := cl_int (Xc1 h k hk (k := 4) rfl);have hl : (xs.getD k []).length = 5 := by
  cases h with
  | sl _ _ _ hl _ =>
   rw [List.getD_eq_getElem?_getD, List.getElem?_eq_getElem hk];exact hl _ (List.getElem_mem hk)
 unfold nQ;rw [<- c0, <- c1, <- c2, <- c3, <- c4];unfold cel;generalize xs.getD k [] = r at *
 match r, hl with
 | [a, b, c, d, e], _ => rfl
theorem wf_s {xs : Dt} {ts : List Ty} (h : WfC (.sl [.sl ts]) (.l xs)) (k : Nat) (hk : k < xs.length) : xs.getD k [] = nS xs k := by
 have c0 := cl_lst (Xc1 h k hk (k := 0) rfl);have hl : (xs.getD k []).length = 1 := by
  cases h with
  | sl _ _ _ hl _ =>
   rw [List.getD_eq_getElem?_getD, List.getElem?_eq_getElem hk];exact hl _ (List.getElem_mem hk)
 unfold nS row;rw [<- c0];unfold cel;generalize xs.getD k [] = r at *
 match r, hl with
 | [a], _ => rfl
end Sp
namespace Sp
def xOk8 (x : Dt) : Prop := ∀ i, i < x.length -> 0 <= (cel x i 0).int /\ (cel x i 0).int <= 255
end Sp
def Xii [InW] (e : List Ed) (K : Nat -> List Ed -> Prop) : Prop := match e with
 | [.ro _ sh, .ro _ x, .i o, .i er, .i f, .i i, .ro _ qs, .ro _ ps, .i all, .l l, .ro _ p2, .i a2, .l q2, .l s2] => Pre (0 <= i /\ i <= sh.xs.length /\ (sh.xs.length = qs.xs.length /\ sh.xs.length <= 12) /\ (q2.length = i /\ s2.length = i) /\ Sp.xOk8 x.xs) (K 0 [.i o, .i er, .i f, .l l, .ro _ p2, .i a2, .l (Sp.tuL x.xs (Sp.nQ qs.xs) i.toNat (sh.xs.length - i.toNat) q2), .l (Sp.tuL x.xs (Sp.nS sh.xs) i.toNat (sh.xs.length - i.toNat) s2)])
 | _ => False
def Xo3 : Tab Try.prog := ⟨[], [], []⟩
def Xji : LC where
 len := 138
 T := [(1, .rs Jb), (2, .rs [.int .u8]), (3, (.ptr 7 0)), (7, .int .i64), (8, .int .i64), (9, (.row 1)), (10, .int .i64), (11, (.ptr 13 0)), (12, (.row 6)), (13, .int .i64)]
 H := [(7, .blk 25 [.rs Iv5, .rs Jc, .int .i64]), (1, .arr 3 Jc), (13, .blk 25 [(.row 3), .rs Jc, .int .i64]), (3, .arr 71 Iv5), (6, .nst 23 [.sl Jc])]
 W := ([14] ++ rg 45 54)
 outs := [⟨.exit 0, [(7, .int .i64), (8, .int .i64), (9, (.row 1)), (10, .int .i64), (11, (.ptr 13 0)), (12, (.row 9))], [(1, .arr 3 Jc), (13, .blk 25 [(.row 12), .rs Jc, .int .i64]), (12, .arr 71 Iv5), (9, .nst 23 [.sl Jc])], ([1, 2, 3, 13, 14] ++ rg 45 54)⟩]
 spec := Xii
def Zbr [W : InW] (x : Ro [.int .u8]) := (↑(x.xs.length) : Int)
def Zbq [W : InW] (i : Int) (qs : Ro Iv5) := [Cl.i (cel qs.xs i.toNat Zm).int, Cl.i (cel qs.xs i.toNat (0+1)).int, Cl.i (cel qs.xs i.toNat (Zm + 1 + 1)).int, Cl.i (cel qs.xs i.toNat (Zm + 1 + 1 + 1)).int, Cl.i (cel qs.xs i.toNat (Zm + 1 + 1 + 1 + 1)).int]
def Zbs [W : InW] (sh : Ro Jb) (i : Int) := [Cl.l (cel sh.xs i.toNat Zm).lst]
def Xhy [W : InW] (sh : Ro Jb) (x : Ro [.int .u8]) (o er f i : Int) (qs : Ro Iv5) (ps : Ro Jc) (all : Int) (l : Dt) (p2 : Ro Jc) (a2 : Int) (q2 s2 : Dt) (A : List Ed -> Prop) (K : Nat -> List Ed -> Prop) : Prop :=
 Vif (decide (i < (↑(sh.xs.length) : Int))) (Vif (decide ((0 : Int) < (Zbr x))) (Need (!decide ((Zbr x) = 0)) (Need (decide (0 <= i.tmod (Zbr x)) && decide (i.tmod (Zbr x) < (Zbr x))) (Need (decide ((i.tmod (Zbr x)).toNat < x.xs.length)) (Ar .i64 (cel x.xs (i.tmod (Zbr x)).toNat Zm).int fun z => Ar .i64 (i + 1) fun z_1 => Need (!decide (z_1 = 0)) (Need (decide (0 <= z.tmod z_1)) (Need (decide (Zm <= (z.tmod z_1).toNat) && decide ((z.tmod z_1).toNat <= q2.length)) (Need (decide (Zm + ((z.tmod z_1).toNat - 0) <= q2.length)) (Need (decide ((Zm + (List.take ((z.tmod z_1).toNat - 0) (List.drop Zm q2)).length) * 40 <= 140737488355328)) (Need (decide (0 <= i) && decide (i < (↑(qs.xs.length) : Int))) (Need (decide (i.toNat < qs.xs.length)) (Need (decide (((List.take ((z.tmod z_1).toNat - 0) (List.drop Zm q2)).length + [(Zbq i qs)].length) * 40 <= 140737488355328)) (Need (decide (0 <= z.tmod z_1)) (Need (decide ((z.tmod z_1).toNat <= q2.length) && decide (q2.length <= q2.length)) (Need (decide ((z.tmod z_1).toNat + (q2.length - (z.tmod z_1).toNat) <= q2.length)) (Need (decide ((List.length (List.take ((z.tmod z_1).toNat - 0) (List.drop Zm q2) ++ [(Zbq i qs)]) + (List.take (q2.length - (z.tmod z_1).toNat) (List.drop (z.tmod z_1).toNat q2)).length) * 40 <= 140737488355328)) (Need (decide (0 <= z.tmod z_1)) (Need (decide (Zm <= (z.tmod z_1).toNat) && decide ((z.tmod z_1).toNat <= s2.length)) (Need (decide (Zm + ((z.tmod z_1).toNat - 0) <= s2.length)) (Need (decide ((List.take ((z.tmod z_1).toNat - 0) (List.drop Zm s2)).length * 24 <= 140737488355328)) (Need (decide (0 <= i) && decide (i < (↑(sh.xs.length) : Int))) (Need (decide (i.toNat < sh.xs.length)) (Need (decide (((List.take ((z.tmod z_1).toNat - 0) (List.drop Zm s2)).length + [(Zbs sh i)].length) * 24 <= 140737488355328)) (Need (decide (0 <= z.tmod z_1)) (Need (decide ((z.tmod z_1).toNat <= s2.length) && decide (s2.length <= s2.length)) (Need (decide ((z.tmod z_1).toNat + (s2.length - (z.tmod z_1).toNat) <= s2.length)) (Need (decide ((List.length (List.take ((z.tmod z_1).toNat - 0) (List.drop Zm s2) ++ [(Zbs sh i)]) + (List.take (s2.length - (z.tmod z_1).toNat) (List.drop (z.tmod z_1).toNat s2)).length) * 24 <= 140737488355328)) (Ar .i64 (i + 1) fun z_2 => A [.ro Zi sh, .ro _ x, .i o, .i er, .i f, .i z_2, .ro _ qs, .ro _ ps, .i all, .l l, .ro _ p2, .i a2, .l (List.take ((z.tmod z_1).toNat - 0) (List.drop Zm q2) ++ [(Zbq i qs)] ++ List.take (q2.length - (z.tmod z_1).toNat) (List.drop (z.tmod z_1).toNat q2)), .l (List.take ((z.tmod z_1).toNat - 0) (List.drop Zm s2) ++ [(Zbs sh i)] ++ List.take (s2.length - (z.tmod z_1).toNat) (List.drop (z.tmod z_1).toNat s2))]))))))))))))))))))))))))))) (Need (decide (Zm <= 0) && decide (Zm <= q2.length)) (Need (decide (Zm + (Zm - 0) <= q2.length)) (Need (decide ((Zm + (List.take (Zm - 0) (List.drop Zm q2)).length) * 40 <= 140737488355328)) (Need (decide (0 <= i) && decide (i < (↑(qs.xs.length) : Int))) (Need (decide (i.toNat < qs.xs.length)) (Need (decide (((List.take (Zm - 0) (List.drop Zm q2)).length + [(Zbq i qs)].length) * 40 <= 140737488355328)) (Need (decide (Zm <= q2.length) && decide (q2.length <= q2.length)) (Need (decide (Zm + (q2.length - 0) <= q2.length)) (Need (decide (([(Zbq i qs)].length + (List.take (q2.length - 0) (List.drop (Zm) q2)).length) * 40 <= 140737488355328)) (Need (decide (Zm <= 0) && decide (Zm <= s2.length)) (Need (decide (Zm + (Zm - 0) <= s2.length)) (Need (decide ((List.take (Zm - 0) (List.drop Zm s2)).length * 24 <= 140737488355328)) (Need (decide (0 <= i) && decide (i < (↑(sh.xs.length) : Int))) (Need (decide (i.toNat < sh.xs.length)) (Need (decide (((List.take (Zm - 0) (List.drop Zm s2)).length + [(Zbs sh i)].length) * 24 <= 140737488355328)) (Need (decide (Zm <= s2.length) && decide (s2.length <= s2.length)) (Need (decide (Zm + (s2.length - 0) <= s2.length)) (Need (decide (([(Zbs sh i)].length + (List.take (s2.length - 0) (List.drop (Zm) s2)).length) * 24 <= 140737488355328)) (Ar .i64 (i + 1) fun z => A [.ro Zi sh, .ro _ x, .i o, .i er, .i f, .i z, .ro _ qs, .ro _ ps, .i all, .l l, .ro _ p2, .i a2, .l ((Zbq i qs) :: List.take (q2.length - 0) (List.drop (Zm) q2)), .l ((Zbs sh i) :: List.take (s2.length - 0) (List.drop (Zm) s2))])))))))))))))))))))) (K 0 [.i o, .i er, .i f, .l l, .ro _ p2, .i a2, .l q2, .l s2])
theorem Xmw (W : InW) (sh x o er f i qs ps all l p2 a2 q2 s2 A K) : Yfc { cxT Try.prog TT Xo3 1000 50 with fn := 14 } 1000 (Yn8 Try.prog 14 9) (Yd8 138 [(1, .rs _ sh), (2, .rs _ x), (3, .ptr 7 0), (7, .si .i64 o), (8, .si .i64 er), (9, .rw 1), (10, .si .i64 f), (11, .ptr 13 0), (12, .rw 6), (13, .si .i64 i)] ([14] ++ rg 45 54)) [(7, .blk 25 [.rs _ qs, .rs _ ps, .si .i64 all]), (1, .arr 3 Jc l), (13, .blk 25 [.rw 3, .rs _ p2, .si .i64 a2]), (3, .arr 71 Iv5 q2), (6, .nst 23 [.sl Jc] s2)] (Yug Xji A K) = Xhy sh x o er f i qs ps all l p2 a2 q2 s2 A K := by kernel_rfl
def Xhd : Prop := ∀ (W : InW) (body a : Code), (Try.prog.funcs[14]?).bind (·.body) = some body -> a ∈ Y0 body -> Yfw a = 9 -> @Ymr W Try.prog a (@Yto W Xji)
theorem Xne (meas : [InW] -> List Ed -> Nat) (hyp_ : ∀ (W : InW) sh x o er f i qs ps all l p2 a2 q2 s2 K, Xii [.ro _ sh, .ro _ x, .i o, .i er, .i f, .i i, .ro _ qs, .ro _ ps, .i all, .l l, .ro _ p2, .i a2, .l q2, .l s2] K -> ∀ A : List Ed -> Prop, (∀ e, meas e < meas [.ro _ sh, .ro _ x, .i o, .i er, .i f, .i i, .ro _ qs, .ro _ ps, .i all, .l l, .ro _ p2, .i a2, .l q2, .l s2] -> Xii e K -> A e) -> Xhy sh x o er f i qs ps all l p2 a2 q2 s2 A K) : Xhd :=
 LE.okOf' (fun W => @TT W) (fun W => @Xe W) Xa Xo3 1000 50 (by kernel_rfl) Xji (fun W => @meas W) fun W sh x o er f i qs ps all l p2 a2 q2 s2 K hs =>
  (Xmw W sh x o er f i qs ps all l p2 a2 q2 s2 (fun e => meas e < meas [.ro _ sh, .ro _ x, .i o, .i er, .i f, .i i, .ro _ qs, .ro _ ps, .i all, .l l, .ro _ p2, .i a2, .l q2, .l s2] /\ Xii e K) K).mpr (hyp_ W sh x o er f i qs ps all l p2 a2 q2 s2 K hs _ fun e h1 h2 => ⟨h1, h2⟩)
theorem Xcr (a : Nat) (l : Dt) : List.take (l.length - a) (List.drop a l) = List.drop a l := List.take_of_length_le (by rw [List.length_drop]; exact Nat.le_refl _)
theorem okLtu : Xhd := Xne (fun e => match e with | .ro _ sh :: _ :: _ :: _ :: _ :: .i i :: _ => ((sh.xs.length : Int) - i).toNat | _ => 0) fun W sh x o er f i qs ps all l p2 a2 q2 s2 K hs A hA => by
 obtain ⟨⟨h0, h1, ⟨hl, h12⟩, ⟨hq, hs2⟩, hx⟩, hk⟩ := hs;unfold Xhy;delta Zbs Zbq Zm Zi Zbr;have ez : (i + 1).toNat = i.toNat + 1 := by omega
 by_cases hi : i < sh.xs.length
 ·rw [show sh.xs.length - i.toNat = (sh.xs.length - (i.toNat + 1)) + 1 by omega] at hk;simp only [Sp.tuL] at hk;have go0 := hA [.ro _ sh, .ro _ x, .i o, .i er, .i f, .i (i + 1), .ro _ qs, .ro _ ps, .i all, .l l, .ro _ p2, .i a2, .l (Sp.putL (Sp.atX x.xs i.toNat) (Sp.nQ qs.xs i.toNat) q2), .l (Sp.putL (Sp.atX x.xs i.toNat) (Sp.nS sh.xs i.toNat) s2)] (show ((sh.xs.length : Int) - (i + 1)).toNat < ((sh.xs.length : Int) - i).toNat by omega) ⟨⟨by omega, by omega, ⟨hl, h12⟩, ⟨by rw [Sp.putL_len]; omega, by rw [Sp.putL_len]; omega⟩, hx⟩, by rw [ez]; exact hk⟩;clear hA hk;have go : ∀ q3 s3 : Dt, q3 = Sp.putL (Sp.atX x.xs i.toNat) (Sp.nQ qs.xs i.toNat) q2 -> s3 = Sp.putL (Sp.atX x.xs i.toNat) (Sp.nS sh.xs i.toNat) s2 -> A [.ro _ sh, .ro _ x, .i o, .i er, .i f, .i (i + 1), .ro _ qs, .ro _ ps, .i all, .l l, .ro _ p2, .i a2, .l q3, .l s3] := fun q3 s3 e1 e2 => by
   rw [e1, e2]; exact go0
  clear go0;simp only [Nat.sub_zero, List.drop_zero, Nat.zero_add, Nat.reduceAdd, List.length_append, List.length_take, List.length_drop, List.length_cons, List.length_nil]
  by_cases hx0 : 0 < x.xs.length
  ·have t0 : 0 <= i.tmod x.xs.length /\ i.tmod x.xs.length < x.xs.length := by
    rw [Int.tmod_eq_emod_of_nonneg h0];exact ⟨Int.emod_nonneg _ (by omega), Int.emod_lt_of_pos _ (by omega)⟩
   have hb := hx (i.tmod x.xs.length).toNat (by omega);have hat : ((cel x.xs (i.tmod x.xs.length).toNat 0).int.tmod (i + 1)).toNat = Sp.atX x.xs i.toNat := by
    unfold Sp.atX;rw [if_neg (by omega), show (i.tmod x.xs.length).toNat = i.toNat % x.xs.length by rw [Int.tmod_eq_emod_of_nonneg h0, Int.toNat_emod h0 (by omega), Int.toNat_natCast]] at *;rw [Int.tmod_eq_emod_of_nonneg hb.1, Int.toNat_emod hb.1 (by omega), ez]
   have m0 : 0 <= (cel x.xs (i.tmod x.xs.length).toNat 0).int.tmod (i + 1) /\ (cel x.xs (i.tmod x.xs.length).toNat 0).int.tmod (i + 1) < i + 1 := by
    rw [Int.tmod_eq_emod_of_nonneg hb.1];exact ⟨Int.emod_nonneg _ (by omega), Int.emod_lt_of_pos _ (by omega)⟩
   have hn0 : (!decide ((x.xs.length : Int) = 0)) = true := by rw [decide_eq_false (by omega)]; rfl
   have hn1 : (!decide (i + 1 = 0)) = true := by rw [decide_eq_false (by omega)]; rfl
   repeat' (first | omega|intro _|with_reducible first|apply vifd|apply vifn|apply vifq|apply Xd|apply Xc|apply vifb|apply vif|apply nedd|apply ned2|apply ned|apply ar64|apply Xb|exact True.intro|assumption|rfl|apply And.intro)
   all_goals first | contradiction | skip
   all_goals refine go _ _ ?_ ?_
   ·rw [hat, Xcr]; rfl
   ·rw [hat, Xcr]; rfl
  ·have hat : Sp.atX x.xs i.toNat = 0 := by unfold Sp.atX; rw [if_pos (by omega)]
   repeat' (first | omega|intro _|with_reducible first|apply vifd|apply vifn|apply vifq|apply Xd|apply Xc|apply vifb|apply vif|apply nedd|apply ned2|apply ned|apply ar64|apply Xb|exact True.intro|assumption|rfl|apply And.intro)
   all_goals first | contradiction | skip
   all_goals refine go _ _ ?_ ?_
   ·rw [hat, List.take_length]; rfl
   ·rw [hat, List.take_length]; rfl
 ·rw [show sh.xs.length - i.toNat = 0 by omega] at hk;refine vifd (fun c => by omega) fun _ => hk
def le_tu : LE Try.prog := ⟨14, 9, fun W => @Yto W Xji, okLtu⟩
def TL14 : Tab Try.prog := ⟨[Xg6, Xg5, Xip, Xb1, Xiv], [le_tu], []⟩
def Zbt [W : InW] (sh : Ro Jb) := sh.xs.length - Int.toNat Zb
def Xci [W : InW] (kQ : Ro Iv5) (kP : Ro Jc) (kA : Int) (sh : Ro Jb) (x : Ro [.int .u8]) (Q : DS -> Prop) : Prop :=
 Pre True (Pre True (Pre True (Vif (!decide (Sp.askE kQ.xs kP.xs kA sh.xs = 0)) (Vif (!decide (Sp.askE kQ.xs kP.xs kA sh.xs = 0)) (Pre True (Q [[Cl.b true]])) (Q Zbm)) (Pre (Zb <= 0 /\ Zb <= (↑(sh.xs.length) : Int) /\ (sh.xs.length = kQ.xs.length /\ sh.xs.length <= 12) /\ ((↑(0 : Nat) : Int) = 0 /\ (↑(0 : Nat) : Int) = 0) /\ Sp.xOk8 x.xs) (Pre True (Pre True (Vif (decide (Sp.askE kQ.xs kP.xs kA sh.xs = 0)) (Vif (decide (Sp.askE kQ.xs kP.xs kA sh.xs = 0)) (Vif (decide (Sp.askE (Sp.tuL x.xs (Sp.nQ kQ.xs) Za (Zbt sh) []) kP.xs kA (Sp.tuL x.xs (Sp.nS sh.xs) Za (Zbt sh) []) = 0)) (Vif (decide (Sp.askE (Sp.tuL x.xs (Sp.nQ kQ.xs) Za (Zbt sh) []) kP.xs kA (Sp.tuL x.xs (Sp.nS sh.xs) Za (Zbt sh) []) = 0)) (Vif (decide (Sp.ocA kQ.xs kP.xs kA sh.xs = Sp.ocA (Sp.tuL x.xs (Sp.nQ kQ.xs) Za (Zbt sh) []) kP.xs kA (Sp.tuL x.xs (Sp.nS sh.xs) Za (Zbt sh) []))) (Pre (Sp.scA kQ.xs kP.xs kA sh.xs = Sp.scA (Sp.tuL x.xs (Sp.nQ kQ.xs) Za (Zbt sh) []) kP.xs kA (Sp.tuL x.xs (Sp.nS sh.xs) Za (Zbt sh) [])) (Vif true (Pre True (Q [[Cl.b true]])) (Q Zbm))) (Q Zbm)) (Q Zbm)) (Q Zbm)) (Q Zbm)) (Q Zbm))))))))
theorem Xif (W : InW) (kQ kP kA sh x Q) : Ywx (cxT Try.prog TT TL14 1000 50) 1000 14 [.agg [.rs _ kQ, .rs _ kP, .si .i64 kA], .rs _ sh, .rs _ x] [] 0 (Y04 [(false, [.bool])] Q) (fun _ _ _ _ => Stuck 421) = Xci kQ kP kA sh x Q := by kernel_rfl
abbrev Xbn : List AT := [.agg [.sl Iv5, .sl Jc, .int .i64], .one (.sl Jb), .one (.sl [.int .u8])]
theorem Xjb {pre : DS -> Prop} {res : DS -> DS} (hyp_ : ∀ (W : InW) (kQ : Ro Iv5) (kP : Ro Jc) (kA : Int) (sh : Ro Jb) (x : Ro [.int .u8]), pre [[.l kQ.xs, .l kP.xs, .i kA], [.l sh.xs], [.l x.xs]] -> ∀ Q : DS -> Prop, Q (res [[.l kQ.xs, .l kP.xs, .i kA], [.l sh.xs], [.l x.xs]]) -> Xci kQ kP kA sh x Q) : PureOk Try.prog 14 Xbn [(false, [.bool])] pre res :=
 PureOk.of' (fun W => @TT W) (fun W => @Xe W) Xa TL14 1000 50 fun W kQ kP kA sh x hp =>
  (Xif W kQ kP kA sh x (fun o => o = res [[.l kQ.xs, .l kP.xs, .i kA], [.l sh.xs], [.l x.xs]])).mpr (hyp_ W kQ kP kA sh x hp _ rfl)
theorem Xc2 : PureOk Try.prog 14 Xbn [(false, [.bool])] (WfD Xbn) fun _ => [[.b true]] :=
 Xjb fun W qs ps all sh x hp Q h => by
  have wq := (WfL.head (WfD.head hp).1).1;have ws := (WfL.head (WfD.head (WfD.head hp).2).1).1;have wx := (WfL.head (WfD.head (WfD.head (WfD.head hp).2).2).1).1;have hxo : Sp.xOk8 x.xs := fun i hi => by
   have h1 := Xc1 wx i hi (k := 0) rfl;rw [Sp.cl_int h1] at h1;exact wf_u8 h1
  unfold Xci;delta Zbt Za Zbm Zb;simp only [show Int.toNat 0 = 0 from rfl, Nat.sub_zero]
  by_cases e : Sp.askE qs.xs ps.xs all sh.xs = 0
  ·obtain ⟨hk, hs⟩ := Sp.askE_ok e;have n2 := hk.n2;have hl := hs.n;have T := Sp.turned (x := x.xs) hl (Sp.wf_q wq) (Sp.wf_s ws);obtain ⟨s1, s2⟩ := T.same hk hs;have e2 := Sp.ask_of (T.key hk) (T.sheet hs);rw [<- Sp.ocA_ok e, <- Sp.ocA_ok e2] at s1;rw [<- Sp.scA_ok e, <- Sp.scA_ok e2] at s2;exact Xb trivial (Xb trivial (Xb trivial (vifn (fun c => absurd e c) fun _ => Xb ⟨by omega, by omega, ⟨hl, by omega⟩, ⟨rfl, rfl⟩, hxo⟩ (Xb trivial (Xb trivial (vifd (fun _ => vifd (fun _ => vifd (fun _ => vifd (fun _ => vifd (fun _ => Xb s2.symm (vif (fun _ => Xb trivial h) fun c => by cases c)) fun c => absurd s1.symm c) fun c => absurd e2 c) fun c => absurd e2 c) fun c => absurd e c) fun c => absurd e c))))))
  ·simp [Vif_iff, Pre_iff, e, h]
end Go.Proofs.Ytifhdbgciehicaa
namespace Go.Proofs.Ytifhdbgciehicaa.answerTurned
open Go.ChangeShapes Go.WideShapes Go.ChangeAt Go.RowKit
set_option maxRecDepth 100000
theorem own : ownKnob Try.prog.godebug = none := by kernel_rfl
theorem laid : laidOutB Try.prog = true := by kernel_rfl
theorem lifted (os : Os) (started : os.Started) (H : Type) (enc : TypeId × Value -> H) :
  ReturnsInHanded {} Try.checked os 14 .any (Rows.answerTurnedSpec.pre6 enc Try.prog Try.f14 Rows.answerTurnedRow.domain false) (Rows.answerTurnedSpec.post enc Try.prog Try.f14 false true false false) := by
 refine returnsInHanded_of_change (C := Try.checked) own started (by kernel_rfl) Try.func14
  (ChangeSpec.witness6 (enc := enc) (C := Try.checked) false ⟨#[], #[(.agg #[.slice none 0 0, .slice none 0 0, .int .i64 0]), (.slice none 0 0), (.slice none 0 0)], []⟩ 8 (by kernel_rfl) (by kernel_rfl) (by kernel_rfl) (by kernel_rfl)) ?_
 intro W base args ds gs before hval hW _ _;exact law_end (f := Try.f14) (s := Rows.answerTurnedSpec) (by kernel_rfl) Try.underlying4 (by kernel_rfl) rfl laid (by kernel_rfl)
  (fun ds h => by match ds, (show ds.length = 3 from h) with | [_, _, _], _ => exact ⟨rfl, rfl, rfl⟩) Xc2 hval hW
theorem over : Rows.answerTurnedRow.holds Try.pinned (OpenSpec.ofChange Rows.answerTurnedSpec) :=
 OpenClaim.holds_of_wide 14 Try.f14 rfl rfl rfl rfl rfl rfl rfl ⟨rfl, rfl, rfl, rfl, rfl⟩ rfl rfl rfl rfl rfl (by kernel_rfl) Try.func14 (by kernel_rfl)
  (of_decide_eq_true (by kernel_rfl)) (by unfold Func.isWrapper; first | (rw [if_pos (by decide +kernel)]; kernel_rfl) | (rw [if_neg (by decide +kernel)]; exact ⟨rfl, rfl⟩))
  (fun os started H enc _ => lifted os started H enc)
theorem proved : Rows.AnswerTurnedSaid := over
end Go.Proofs.Ytifhdbgciehicaa.answerTurned
