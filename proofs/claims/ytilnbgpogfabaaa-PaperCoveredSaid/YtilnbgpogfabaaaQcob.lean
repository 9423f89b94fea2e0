/-
  'PaperCovered': for every input the law returns true, and what is handed in reads as before. No condition.
-/
import Derived.Test.YtilnbgpogfabaaaQcoa
import Derived.Shelf.Sort.AssemblyIn
import Derived.Sort.EveryDepth
import Derived.Sort.OwnSortedInts
set_option linter.unusedVariables false
set_option linter.unusedSectionVars false
set_option linter.unusedSimpArgs false
namespace Go.Proofs.Ytilnbgpogfabaaa
open Go.RowKit
abbrev Jc : List Ty := [.sl [.int .i64]]
set_option maxRecDepth 100000
namespace Sp
def norm (xs : Dt) : Dt := xs.map fun r => [.i (r.getD 0 .z).int]
theorem length_norm (xs : Dt) : (norm xs).length = xs.length := by simp [norm]
theorem cel_norm (xs : Dt) (k : Nat) : (cel (norm xs) k 0).int = (cel xs k 0).int := by
 by_cases h : k < xs.length
 ·simp [cel, norm, h, Cl.int, List.getD_eq_getElem?_getD]
 ·rw [cel_out (by rw [length_norm]; omega), cel_out (by omega)]
theorem norm_norm (xs : Dt) : norm (norm xs) = norm xs := by simp [norm, Cl.int]
theorem px_norm (qs xs : Dt) : px qs (norm xs) = px qs xs := by simp [px, norm, Cl.int]
theorem isP_norm (qs ws : Dt) (lo hi : Int) (xs : Dt) : isP qs ws lo hi (norm xs) = isP qs ws lo hi xs := by
 have e1 : isF qs (norm xs) = isF qs xs := by funext i; unfold isF; simp only [cel_norm]
 have e2 : isM qs ws (norm xs) = isM qs ws xs := by funext i; unfold isM; rw [px_norm, length_norm]
 have e3 : lvf qs (norm xs) = lvf qs xs := by funext i; unfold lvf; simp only [cel_norm]
 unfold isP lvl;rw [e1, e2, e3, length_norm]
theorem folS_norm (qs : Dt) (lo hi : Int) : ∀ (xs : Dt) (r : FolR), folS qs lo hi (norm xs) r = folS qs lo hi xs r
 | [], r => rfl
 | x :: xs, r => by
  show folS qs lo hi ([Cl.i (x.getD 0 .z).int] :: norm xs) r = _
  rw [folS, folS, folS_norm qs lo hi xs];rfl
theorem eqI_iff {a b : Dt} : eqI a b = true ↔ norm a = norm b := by
 unfold eqI;simp only [Bool.and_eq_true, decide_eq_true_eq, allF_iff, eqA];constructor
 ·rintro ⟨hl, h⟩;refine List.ext_getElem (by rw [length_norm, length_norm, hl]) fun k h1 h2 => ?_;rw [length_norm] at h1 h2;have := h k (by omega) (by omega);simp [cel, List.getD_eq_getElem?_getD, h1, h2] at this;simp [norm, List.getD_eq_getElem?_getD, this]
 ·intro h;have hl : a.length = b.length := by rw [<- length_norm, h, length_norm]
  refine ⟨hl, fun k _ hk => ?_⟩;rw [<- cel_norm a, <- cel_norm b, h]
theorem gen_norm (qs : Dt) (lo hi : Int) : ∀ m s v p, p ∈ gen qs lo hi m s v -> norm p = p
 | 0, s, v, p, h => by
  rw [gen] at h
  split at h
  ·simp only [List.mem_singleton] at h; subst h; rfl
  ·cases h
 | m + 1, s, v, p, h => by
  cases hv : V4.nil v with
  | true =>
   rw [gen_nil hv] at h
   split at h
   ·simp only [List.mem_singleton] at h; subst h; rfl
   ·cases h
  | false =>
   rw [gen, if_neg (by simp [hv]), List.mem_append] at h;rcases h with h | h
   ·split at h
    ·simp only [List.mem_map] at h;obtain ⟨a, ha, rfl⟩ := h
     show [Cl.i _] :: norm a = _
     rw [gen_norm qs lo hi m _ _ a ha];rfl
    ·cases h
   ·exact gen_norm qs lo hi m s v p h
def lat : Dt -> Dt -> Bool
 | x :: xs, y :: ys => if (x.getD 0 .z).int = (y.getD 0 .z).int then lat xs ys else decide ((x.getD 0 .z).int < (y.getD 0 .z).int)
 | _, _ => false
theorem lat_irr : ∀ xs, lat xs xs = false
 | [] => rfl
 | x :: xs => by simp [lat, lat_irr xs]
theorem gen_head (qs : Dt) (lo hi : Int) : ∀ m s v p, V4.nil v = false -> m <= qs.length -> p ∈ gen qs lo hi m s v -> ∃ (i : Nat) (q : Dt), p = [Cl.i (i : Int)] :: q /\ qs.length <= i + m
 | 0, s, v, p, hv, hm, h => by rw [gen_zero hv] at h; cases h
 | m + 1, s, v, p, hv, hm, h => by
  rw [gen, if_neg (by simp [hv]), List.mem_append] at h;rcases h with h | h
  ·split at h
   ·simp only [List.mem_map] at h;obtain ⟨a, ha, rfl⟩ := h;exact ⟨_, a, rfl, by omega⟩
   ·cases h
  ·obtain ⟨i, q, e, hi'⟩ := gen_head qs lo hi m s v p hv (by omega) h;exact ⟨i, q, e, by omega⟩
theorem gen_lat (qs : Dt) (lo hi : Int) : ∀ m s v, m <= qs.length -> List.Pairwise (fun a b => lat a b = true) (gen qs lo hi m s v)
 | 0, s, v, hm => by
  rw [gen]; split
  ·exact List.pairwise_singleton _ _
  ·exact List.Pairwise.nil
 | m + 1, s, v, hm => by
  cases hv : V4.nil v with
  | true =>
   rw [gen_nil hv]; split
   ·exact List.pairwise_singleton _ _
   ·exact List.Pairwise.nil
  | false =>
   rw [gen, if_neg (by simp [hv]), List.pairwise_append];refine ⟨?_, gen_lat qs lo hi m s v (by omega), ?_⟩
   ·split
    ·rw [List.pairwise_map];refine (gen_lat qs lo hi m _ _ (by omega)).imp fun {a b} h => ?_;simpa [lat] using h
    ·exact List.Pairwise.nil
   ·intro a ha b hb
    split at ha
    ·simp only [List.mem_map] at ha;obtain ⟨a, ha, rfl⟩ := ha;obtain ⟨i, q, rfl, hi'⟩ := gen_head qs lo hi m s v b hv (by omega) hb;simp only [lat, List.getD_cons_zero, Cl.int];rw [if_neg (by omega)];exact decide_eq_true (by omega)
    ·cases ha
theorem gen_cut {qs : Dt} {lo hi s : Int} {v : V4} (hv : V4.nil v = false) : ∀ (d : Nat) (t : Int), 0 <= t -> t + d <= qs.length -> ∃ A : List Dt, gen qs lo hi (qs.length - t.toNat) s v = A ++ gen qs lo hi (qs.length - (t + d).toNat) s v
 | 0, t, h0, h1 => ⟨[], by simp⟩
 | d + 1, t, h0, h1 => by
  obtain ⟨A, hA⟩ := gen_cut (qs := qs) (lo := lo) (hi := hi) (s := s) hv d (t + 1) (by omega) (by omega);rw [gen_at (qs := qs) (lo := lo) (hi := hi) (s := s) hv h0 (show t < qs.length by omega), hA, show t + 1 + (d : Int) = t + ((d + 1 : Nat) : Int) by omega, <- List.append_assoc];exact ⟨_, rfl⟩
theorem nil_get {v : V4} {p : Int} (h : 1 <= V4.get v p) : V4.nil v = false := by
 rw [<- Bool.not_eq_true]; intro h2;rw [V4.get_nil h2] at h; omega
theorem folS_ix {qs : Dt} {lo hi : Int} : ∀ (zs : Dt) (n t s : Int) (v : V4) (r : FolR), norm zs = zs -> 0 <= t -> t <= qs.length -> folS qs lo hi zs ⟨n, t, s, v⟩ = some r -> V4.nil r.v = true -> inr r.s lo hi = true ->
  ∃ k : Nat, r.n = n + k /\ (gen qs lo hi (qs.length - t.toNat) s v)[k]? = some zs
 | [], n, t, s, v, r, hn, h0, h1, hf, hz, hs => by
  simp only [folS, Option.some.injEq] at hf;subst hf;exact ⟨0, by simp, by rw [gen_nil hz, if_pos hs]; rfl⟩
 | z :: zs, n, t, s, v, r, hn, h0, h1, hf, hz, hs => by
  have hn2 : [Cl.i (z.getD 0 .z).int] = z /\ norm zs = zs := by simpa [norm] using hn
  obtain ⟨e1, hn2⟩ := hn2;simp only [folS] at hf
  split at hf
  ·rename_i hc;obtain ⟨hc, hg⟩ := hc;generalize (z.getD 0 .z).int = x at *;subst e1;rw [inr_iff] at hc;obtain ⟨k, hk, hk2⟩ := folS_ix zs _ (x + 1) _ _ r hn2 (by omega) (by omega) hf hz hs;have hv := nil_get hg;obtain ⟨A, hA⟩ := gen_cut (qs := qs) (lo := lo) (hi := hi) (s := s) hv (x - t).toNat t h0 (by omega);rw [show t + ((x - t).toNat : Int) = x by omega] at hA;have hl : (A.length : Int) = cnt qs lo hi (qs.length - t.toNat) s v - cnt qs lo hi (qs.length - x.toNat) s v := by
    unfold cnt; rw [hA, List.length_append]; push_cast; omega
   refine ⟨A.length + k, by rw [hk]; push_cast; omega, ?_⟩;rw [hA, List.getElem?_append_right (by omega), show A.length + k - A.length = k by omega, gen_at hv (by omega) (by omega), if_pos hg];have hlt : k < (gen qs lo hi (qs.length - (x + 1).toNat) (s + wt qs x.toNat) (V4.dec v (qPart qs x.toNat))).length := by
    rw [List.getElem?_eq_some_iff] at hk2; exact hk2.1
   rw [List.getElem?_append_left (by simpa using hlt), List.getElem?_map, hk2];rfl
  ·cases hf
theorem gen_fol {qs : Dt} {lo hi : Int} : ∀ (m i : Nat) (n t s : Int) (v : V4) (p : Dt), i + m = qs.length -> t <= i -> p ∈ gen qs lo hi m s v ->
  ∃ r, folS qs lo hi p ⟨n, t, s, v⟩ = some r /\ V4.nil r.v = true /\ inr r.s lo hi = true
 | 0, i, n, t, s, v, p, hm, ht, h => by
  rw [gen] at h
  split at h
  ·rename_i hc;simp only [Bool.and_eq_true] at hc;simp only [List.mem_singleton] at h; subst h;exact ⟨_, rfl, hc.1, hc.2⟩
  ·cases h
 | m + 1, i, n, t, s, v, p, hm, ht, h => by
  cases hv : V4.nil v with
  | true =>
   rw [gen_nil hv] at h
   split at h
   ·rename_i hc;simp only [List.mem_singleton] at h; subst h;exact ⟨_, rfl, hv, hc⟩
   ·cases h
  | false =>
   rw [gen_succ hv (i := i) (by omega), List.mem_append] at h;rcases h with h | h
   ·split at h
    ·rename_i hg;simp only [List.mem_map] at h;obtain ⟨a, ha, rfl⟩ := h;obtain ⟨r, h1, h2, h3⟩ := gen_fol m (i + 1) (n + (cnt qs lo hi (qs.length - t.toNat) s v - cnt qs lo hi (qs.length - i) s v)) ((i : Int) + 1) _ _ a (by omega) (by omega) ha;refine ⟨r, ?_, h2, h3⟩;simp only [folS, List.getD_cons_zero, Cl.int, Int.toNat_natCast];rw [if_pos ⟨inr_iff.2 (by omega), hg⟩];exact h1
    ·cases h
   ·exact gen_fol m (i + 1) n t s v p (by omega) (by omega) h
theorem many_left {a b : Dt} {p : Int} : ∀ {n : Nat}, n <= a.length -> many (a ++ b) p n = many a p n
 | 0, _ => rfl
 | n + 1, h => by
  have : cel (a ++ b) n 0 = cel a n 0 := by
   unfold cel;rw [List.getD_eq_getElem?_getD (l := a ++ b), List.getElem?_append_left h, <- List.getD_eq_getElem?_getD]
  rw [many_succ, many_succ, many_left (by omega), this]
theorem isP_len {qs ws xs : Dt} {lo hi : Int} (bv : BankV qs ws lo hi) (h : PreOk qs ws xs) (hp : isP qs ws lo hi xs = true) : (xs.length : Int) = wan ws := by
 unfold isP at hp;simp only [Bool.and_eq_true] at hp;rw [<- sum_many (h.px bv)];exact sumN_ext fun k a b => of_decide_eq_true (allF_iff.1 hp.2.1 k a b)
theorem folS_is {qs ws : Dt} {lo hi : Int} (bv : BankV qs ws lo hi) : ∀ (zs pre : Dt) (n : Int), norm zs = zs -> PreOk qs ws pre ->
  (match folS qs lo hi zs ⟨n, fstQ pre, lvl qs pre, vOf qs ws pre⟩ with | none => false | some r => V4.nil r.v && inr r.s lo hi) = isP qs ws lo hi (pre ++ zs)
 | [], pre, n, hn, po => by
  simp only [folS, List.append_nil]
  by_cases he : (pre.length : Int) = wan ws
  ·rw [isP_full bv po he, (nil_iff bv po).2 he, Bool.true_and]
  ·rw [Bool.eq_false_iff.2 fun h => he ((nil_iff bv po).1 h), Bool.false_and, Bool.eq_false_iff.2 fun h => he (isP_len bv po h)]
 | z :: zs, pre, n, hn, po => by
  have hn2 : [Cl.i (z.getD 0 .z).int] = z /\ norm zs = zs := by simpa [norm] using hn
  obtain ⟨e1, hn2⟩ := hn2;have fb := fst_bound po;simp only [folS];generalize (z.getD 0 .z).int = x at *;subst e1
  by_cases hc : inr x (fstQ pre) ((qs.length : Int) - 1) = true /\ 1 <= V4.get (vOf qs ws pre) (qPart qs x.toNat)
  ·rw [if_pos hc];obtain ⟨hc, hg⟩ := hc;rw [inr_iff] at hc;have hp := bv.part x.toNat (by omega);have hw := bv.w2;have ih := folS_is bv zs (pre ++ [[Cl.i x]]) (n + (cnt qs lo hi (qs.length - (fstQ pre).toNat) (lvl qs pre) (vOf qs ws pre) - cnt qs lo hi (qs.length - x.toNat) (lvl qs pre) (vOf qs ws pre))) hn2 (po.snoc hc.1 (by omega) hp.1 (by omega) hg);rw [fst_snoc, lvl_snoc, vOf_snoc hp.1 (by omega), List.append_assoc] at ih;exact ih
  ·rw [if_neg hc]
   show false = _
   symm;rw [Bool.eq_false_iff];intro hp;unfold isP at hp;simp only [Bool.and_eq_true] at hp;obtain ⟨h1, h2, h3⟩ := hp;have hl : (pre ++ [Cl.i x] :: zs).length = pre.length + 1 + zs.length := by simp; omega
   have g1 := allF_iff.1 h1 pre.length (Nat.zero_le _) (by omega);have ec : ∀ k, k <= pre.length -> cel (pre ++ [Cl.i x] :: zs) k 0 = cel (pre ++ [[Cl.i x]]) k 0 := fun k hk => by
    unfold cel;rw [show pre ++ [Cl.i x] :: zs = (pre ++ [[Cl.i x]]) ++ zs by simp, List.getD_eq_getElem?_getD (l := (pre ++ [[Cl.i x]]) ++ zs), List.getElem?_append_left (by simp; omega), <- List.getD_eq_getElem?_getD]
   unfold isF at g1;rw [ec _ (Nat.le_refl _), ec _ (by omega), cel_last] at g1;simp only [Bool.and_eq_true, inr_iff, Bool.or_eq_true, decide_eq_true_eq, List.getD_cons_zero, Cl.int] at g1;have hx : fstQ pre <= x := by
    unfold fstQ
    split
    ·omega
    ·rename_i hz;have h7 : (cel (pre ++ [[Cl.i x]]) (pre.length - 1) 0).int < x := g1.2.resolve_left hz;rw [cel_snoc (by omega)] at h7;omega
   have hp := bv.part x.toNat (by omega);have hw := bv.w2;have g2 := of_decide_eq_true (allF_iff.1 h2 (qPart qs x.toNat).toNat (Nat.zero_le _) (by omega));have g3 := many_mono (l := px qs (pre ++ [Cl.i x] :: zs)) (p := qPart qs x.toNat) (n := pre.length + 1) zs.length;rw [<- hl] at g3;rw [Int.toNat_of_nonneg hp.1] at g2;have g4 : many (px qs (pre ++ [Cl.i x] :: zs)) (qPart qs x.toNat) (pre.length + 1) = many (px qs pre) (qPart qs x.toNat) pre.length + 1 := by
    have h5 := many_px_snoc qs pre x (qPart qs x.toNat);rw [if_pos rfl, List.length_append] at h5;rw [show px qs (pre ++ [Cl.i x] :: zs) = px qs (pre ++ [[Cl.i x]]) ++ px qs zs by simp [px], many_left (by rw [length_px]; simp)];exact h5
   refine hc ⟨inr_iff.2 (by omega), ?_⟩;rw [V4.get_vOf hp.1 (by omega)];omega
theorem fol_is {qs ws : Dt} {lo hi : Int} (bv : BankV qs ws lo hi) (xs : Dt) : (fol qs ws lo hi xs).2 = isP qs ws lo hi xs := by
 have e : vOf qs ws [] = v0 ws := by simp [vOf, v0, many]
 have h := folS_is bv (norm xs) [] 0 (norm_norm xs) (PreOk_nil bv);rw [e, folS_norm] at h;rw [show fstQ [] = 0 from rfl, show lvl qs [] = 0 from rfl, List.nil_append, isP_norm] at h;rw [<- h];unfold fol;cases folS qs lo hi xs ⟨0, 0, 0, v0 ws⟩ with
 | none => rfl
 | some r => rfl
theorem fol_ix {qs ws : Dt} {lo hi : Int} {xs : Dt} (h : (fol qs ws lo hi xs).2 = true) : ∃ k : Nat, (fol qs ws lo hi xs).1 = k /\ (paps qs ws lo hi)[k]? = some (norm xs) := by
 have e := folS_norm qs lo hi xs ⟨0, 0, 0, v0 ws⟩;unfold fol at h ⊢;generalize folS qs lo hi xs ⟨0, 0, 0, v0 ws⟩ = R at *;cases R with
 | none => cases h
 | some r =>
  have h : (V4.nil r.v && inr r.s lo hi) = true := h;simp only [Bool.and_eq_true] at h;obtain ⟨k, h1, h2⟩ := folS_ix (norm xs) 0 0 0 (v0 ws) r (norm_norm xs) (by omega) (by omega) e h.1 h.2;exact ⟨k, by show r.n = _; rw [h1]; omega, by simpa [paps] using h2⟩
theorem paps_inj {qs ws : Dt} {lo hi : Int} {i k : Nat} (h : (paps qs ws lo hi).getD i [] = (paps qs ws lo hi).getD k []) (h1 : i < (paps qs ws lo hi).length) (h2 : k < (paps qs ws lo hi).length) : i = k := by
 have hp := List.pairwise_iff_getElem.1 (gen_lat qs lo hi qs.length 0 (v0 ws) (Nat.le_refl _));have hx : ∀ i, (h1 : i < (paps qs ws lo hi).length) -> (paps qs ws lo hi).getD i [] = (gen qs lo hi qs.length 0 (v0 ws))[i]'h1 := fun i h1 => by
  rw [List.getD_eq_getElem?_getD, List.getElem?_eq_getElem h1]; rfl
 rw [hx i h1, hx k h2] at h;rcases Nat.lt_trichotomy i k with e | e | e
 ·have := hp i k h1 h2 e;rw [h, lat_irr] at this; cases this
 ·exact e
 ·have := hp k i h2 h1 e;rw [h, lat_irr] at this; cases this
theorem paps_norm {qs ws : Dt} {lo hi : Int} {i : Nat} (h1 : i < (paps qs ws lo hi).length) : norm ((paps qs ws lo hi).getD i []) = (paps qs ws lo hi).getD i [] := by
 refine gen_norm qs lo hi qs.length 0 (v0 ws) _ ?_;rw [List.getD_eq_getElem?_getD, List.getElem?_eq_getElem h1];exact List.getElem_mem h1
theorem num_ok {qs ws : Dt} {lo hi : Int} {xs : Dt} (h : (fol qs ws lo hi xs).2 = true) : 0 <= (fol qs ws lo hi xs).1 /\ (fol qs ws lo hi xs).1 < (paps qs ws lo hi).length /\ ∀ i : Nat, i < (paps qs ws lo hi).length -> (eqI ((paps qs ws lo hi).getD i []) xs = true ↔ (i : Int) = (fol qs ws lo hi xs).1) := by
 obtain ⟨k, h1, h2⟩ := fol_ix h;obtain ⟨h3, h4⟩ := List.getElem?_eq_some_iff.1 h2;have h5 : (paps qs ws lo hi).getD k [] = norm xs := by rw [List.getD_eq_getElem?_getD, h2]; rfl
 refine ⟨by omega, by omega, fun i hi' => ?_⟩;rw [eqI_iff, paps_norm hi', <- h5, h1];constructor
 ·exact fun e => by rw [paps_inj e hi' h3]
 ·exact fun e => by rw [Int.ofNat_inj.1 e]
theorem paps_fol {qs ws : Dt} {lo hi : Int} {i : Nat} (h : i < (paps qs ws lo hi).length) : fol qs ws lo hi ((paps qs ws lo hi).getD i []) = ((i : Int), true) := by
 have hm : (paps qs ws lo hi).getD i [] ∈ paps qs ws lo hi := by
  rw [List.getD_eq_getElem?_getD, List.getElem?_eq_getElem h];exact List.getElem_mem h
 obtain ⟨r, h1, h2, h3⟩ := gen_fol qs.length 0 0 0 0 (v0 ws) _ (by omega) (by omega) hm;have h4 : (fol qs ws lo hi ((paps qs ws lo hi).getD i [])).2 = true := by
  unfold fol; rw [h1]; simp only [h2, h3]; rfl
 have h5 := (num_ok h4).2.2 i h;rw [eqI_iff] at h5;exact Prod.ext (h5.1 rfl).symm h4
theorem paps_is {qs ws : Dt} {lo hi : Int} (bv : BankV qs ws lo hi) {i : Nat} (h : i < (paps qs ws lo hi).length) : isP qs ws lo hi ((paps qs ws lo hi).getD i []) = true := by
 rw [<- fol_is bv, paps_fol h]
end Sp
set_option maxHeartbeats 1600000
namespace Sp
structure PpsOk (qs rs : Dt) : Prop where
 ok : ∀ i, i < rs.length -> In qs (cel rs i 0).lst
def levD (qs ws : Dt) (lo hi : Int) : Dt := (paps qs ws lo hi).map fun p => [.i (lvl qs p)]
theorem paps_in {qs ws : Dt} {lo hi : Int} (bv : BankV qs ws lo hi) : PpsOk qs (papD qs ws lo hi) := ⟨fun i h => by
 have h5 : i < (paps qs ws lo hi).length := by simpa [papD] using h
 have h6 := paps_is bv h5;rw [cel_papD h];unfold isP at h6;simp only [Bool.and_eq_true] at h6;exact isF_in bv.n2 h6.1⟩
end Sp
open Go.RowKit Go.Shelf
set_option maxRecDepth 1000000
set_option maxHeartbeats 4000000
def Xhy : Ren := ⟨fun i => match i with
  | 125 => 66
  | 128 => 81
  | 129 => 82
  | 189 => 54
  | 215 => 90
  | 216 => 78
  | 257 => 65
  | 294 => 72
  | 295 => 73
  | 296 => 74
  | 297 => 75
  | 298 => 76
  | 299 => 77
  | 300 => 79
  | 301 => 80
  | 328 => 85
  | 329 => 86
  | 330 => 87
  | 331 => 88
  | 332 => 89
  | 343 => 92
  | _ => 0, fun i => match i with
  | 0 => 0
  | 3 => 3
  | 4 => 4
  | 5 => 5
  | 9 => 9
  | 28 => 23
  | 46 => 108
  | 51 => 123
  | 53 => 125
  | 131 => 91
  | 182 => 115
  | 183 => 116
  | 218 => 127
  | 222 => 131
  | 228 => 134
  | 229 => 135
  | _ => 0, fun i => i⟩
theorem Xbs : Lays.n189 Try.prog Xhy := {
  mixed := Xa
  f125 := by kernel_rfl
  f128 := by kernel_rfl
  f129 := by kernel_rfl
  f189 := by kernel_rfl
  f215 := by kernel_rfl
  f216 := by kernel_rfl
  f257 := by kernel_rfl
  f294 := by kernel_rfl
  f295 := by kernel_rfl
  f296 := by kernel_rfl
  f297 := by kernel_rfl
  f298 := by kernel_rfl
  f299 := by kernel_rfl
  f300 := by kernel_rfl
  f301 := by kernel_rfl
  f328 := by kernel_rfl
  f329 := by kernel_rfl
  f330 := by kernel_rfl
  f331 := by kernel_rfl
  f332 := by kernel_rfl
  f343 := by kernel_rfl
  t0 := by kernel_rfl
  a0 := fun w => by kernel_rfl
  z0 := fun w => by kernel_rfl
  v0 := fun w => by kernel_rfl
  t3 := by kernel_rfl
  a3 := fun w => by kernel_rfl
  z3 := fun w => by kernel_rfl
  v3 := fun w => by kernel_rfl
  t4 := by kernel_rfl
  a4 := fun w => by kernel_rfl
  z4 := fun w => by kernel_rfl
  v4 := fun w => by kernel_rfl
  t5 := by kernel_rfl
  a5 := fun w => by kernel_rfl
  z5 := fun w => by kernel_rfl
  v5 := fun w => by kernel_rfl
  t9 := by kernel_rfl
  a9 := fun w => by kernel_rfl
  z9 := fun w => by kernel_rfl
  v9 := fun w => by kernel_rfl
  t28 := by kernel_rfl
  a28 := fun w => by kernel_rfl
  z28 := fun w => by kernel_rfl
  v28 := fun w => by kernel_rfl
  t46 := by kernel_rfl
  a46 := fun w => by kernel_rfl
  z46 := fun w => by kernel_rfl
  v46 := fun w => by kernel_rfl
  t51 := by kernel_rfl
  a51 := fun w => by kernel_rfl
  z51 := fun w => by kernel_rfl
  v51 := fun w => by kernel_rfl
  t53 := by kernel_rfl
  a53 := fun w => by kernel_rfl
  z53 := fun w => by kernel_rfl
  v53 := fun w => by kernel_rfl
  t131 := by kernel_rfl
  a131 := fun w => by kernel_rfl
  z131 := fun w => by kernel_rfl
  v131 := fun w => by kernel_rfl
  t182 := by kernel_rfl
  a182 := fun w => by kernel_rfl
  z182 := fun w => by kernel_rfl
  v182 := fun w => by kernel_rfl
  t183 := by kernel_rfl
  a183 := fun w => by kernel_rfl
  z183 := fun w => by kernel_rfl
  v183 := fun w => by kernel_rfl
  t218 := by kernel_rfl
  a218 := fun w => by kernel_rfl
  z218 := fun w => by kernel_rfl
  v218 := fun w => by kernel_rfl
  t222 := by kernel_rfl
  a222 := fun w => by kernel_rfl
  z222 := fun w => by kernel_rfl
  v222 := fun w => by kernel_rfl
  t228 := by kernel_rfl
  a228 := fun w => by kernel_rfl
  z228 := fun w => by kernel_rfl
  v228 := fun w => by kernel_rfl
  t229 := by kernel_rfl
  a229 := fun w => by kernel_rfl
  z229 := fun w => by kernel_rfl
  v229 := fun w => by kernel_rfl }
def Sp.numsOf (l : Dt) : List Int := l.map fun r => (r.getD 0 .z).int
def Sp.sortD (l : Dt) : Dt := ((Sp.numsOf l).mergeSort fun x y => decide (x <= y)).map fun n => [.i n]
theorem Xbt (l : Dt) : Yi [.int .i64] l = (Sp.numsOf l).map (Value.int .i64) := by
 induction l with
 | nil => rfl
 | cons r l ih =>
  unfold Sp.numsOf at ih ⊢;simp only [Yi, List.map_cons, ih];cases r <;> rfl
theorem X5 (l : Dt) : Sp.numsOf (Sp.sortD l) = (Sp.numsOf l).mergeSort fun x y => decide (x <= y) := by
 unfold Sp.sortD Sp.numsOf;rw [List.map_map];exact List.map_id'' (fun _ => rfl) _
theorem Xc (l : Dt) : (Sp.numsOf l).length = l.length := by unfold Sp.numsOf; rw [List.length_map]
theorem Xs (l : Dt) : (Sp.sortD l).length = l.length := by unfold Sp.sortD; rw [List.length_map, List.length_mergeSort, Xc]
def Xhx [InW] (e : List Ed) (K : Nat -> List Ed -> Prop) : Prop := match e with
 | [.l l] => Pre (0 < l.length /\ l.length <= 65536) (K 0 [.l (Sp.sortD l)])
 | _ => False
noncomputable def Xfh : CC where
 g := 54
 args := [.row 4]
 H := [(4, .arr 3 Jb)]
 outs := [⟨false, .tup [], [(4, .arr 3 Jb)], false⟩]
 spec := Xhx
theorem Xi4 : ∀ W : InW, @CallC W Try.prog Xfh := fun W xs ys e1 e2 h1 h2 K hs => by
 obtain ⟨x1, xs', a1, a2, rfl, rfl, ⟨rfl, rfl⟩, rfl, rfl⟩ := h1;obtain ⟨it, h', b1, b2, rfl, rfl, ⟨l, rfl, rfl⟩, rfl, rfl⟩ := h2;obtain ⟨⟨hl0, hl1⟩, hk⟩ : Pre (0 < l.length /\ l.length <= 65536) (K 0 [.l (Sp.sortD l)]) := hs;refine ⟨0, _, _, .tup [], _, [(4, .arr 3 Jb (Sp.sortD l))], hk, rfl, rfl, rfl, ?_⟩;intro φ w0 M R w hnd hS;have hS' : St w0 M ((It.arr 3 Jb l).conc φ 4 :: R) w := hS;have hfn := Y2w (by decide) hS';have hnil := Yda (by decide) hl0 hS';have hrow : w.ownsRow 0 3 1 (.slice (some ⟨(φ 4).b, 0, none⟩) (φ 4).fn (φ 4).c) (φ 4).fn (Yi [.int .i64] l) := by
  have := hS'.row (v := .slice (if (φ 4).nil then none else some ⟨(φ 4).b, 0, none⟩) (φ 4).fn (φ 4).c) Look.head;rw [hnil] at this;exact this
 rcases hrow.2 with ⟨h0, _⟩ | ⟨g, cap, cur, hv, hb, hg, hnc, hcm, hcs, ht⟩
 ·cases h0
 injection hv with v1 v2 v3
 injection v1 with v1
 injection v1 with v1
 have hzl := Xc l;have ht' : cur.toList.take (Sp.numsOf l).length = (Sp.numsOf l).map (Value.int .i64) := by
  rw [hzl, <- hfn, <- Xbt, <- ht, Nat.mul_one]
 have hH := holds_of_blockI hg ht';have hsz : g < w.heap.size := (Array.getElem?_eq_some_iff.1 hg).1;have hc := calls_of_every_depth fun D => AnyS.slices_Sort_int_in Xbs D g 0 cap (Sp.numsOf l) w hH hsz (by rw [hzl]; omega);have hx : (AV.concL φ [.rw 4]).toArray = #[Value.slice (some ⟨g, 0, none⟩) (Sp.numsOf l).length cap] := by
  simp [AV.concL, AV.conc, hnil, <- v1, v3, hfn, hzl]
 rw [hx];refine hc.mono ?_;rintro e w' ⟨rfl, n, os, rfl⟩;have hml : ((Sp.numsOf l).mergeSort fun x y => decide (x <= y)).length = (Sp.numsOf l).length := List.length_mergeSort _;have hown := ownsRow_sortedI (n := n) (os := os) (base := 0) hml (Nat.zero_le _) hg (by rw [hzl, <- hfn]; exact hnc) hcm hcs;have hgr := grownBy_sortedI (w := w) (g := g) (n := n) (os := os) ((Sp.numsOf l).mergeSort fun x y => decide (x <= y)).toArray;refine ⟨φ, fun _ => rfl, rfl, by simp [keys], ?_⟩;have hsl := Xs l;have hfl : Yi [.int .i64] (Sp.sortD l) = ((Sp.numsOf l).mergeSort fun x y => decide (x <= y)).map (Value.int .i64) := by rw [Xbt, X5]
 have e1 : (It.arr 3 Jb l).conc φ 4 = .row (.slice (some ⟨g, 0, none⟩) (φ 4).fn cap) 3 1 (φ 4).fn (Yi [.int .i64] l) := by
  simp only [It.conc, hnil, <- v1, v3];rfl
 have e2 : (It.arr 3 Jb (Sp.sortD l)).conc φ 4 = .row (.slice (some ⟨g, 0, none⟩) (φ 4).fn cap) 3 1 (φ 4).fn (Yi [.int .i64] (Sp.sortD l)) := by
  simp only [It.conc, hnil, <- v1, v3];rfl
 rw [e1] at hS'
 change St w0 M ((It.arr 3 Jb (Sp.sortD l)).conc φ 4 :: R) _
 rw [e2];refine hS'.upd .head ⟨hgr.os, hgr.tape, hgr.output, hgr.size, fun k hk hm => hgr.block k hk (fun x => hm ?_)⟩ ?_ fun b hb => .inl hb
 ·injection x with x
  subst x;simp [Res.foot, Value.ownBlock]
 ·show World.ownsRow _ 0 3 1 _ _ _
  rw [hfl, hfn, <- hzl];exact hown
end Go.Proofs.Ytilnbgpogfabaaa
namespace Go.Proofs.Ytilnbgpogfabaaa
open Go.RowKit
set_option maxRecDepth 100000
namespace Sp
def lvG (qs : Dt) (lo hi : Int) : Nat -> Int -> V4 -> Dt
 | 0, s, v => if V4.nil v && inr s lo hi then [[.i s]] else []
 | m + 1, s, v => if V4.nil v then (if inr s lo hi then [[.i s]] else [])
  else (if 1 <= V4.get v (qPart qs (qs.length - (m + 1))) then lvG qs lo hi m (s + wt qs (qs.length - (m + 1))) (V4.dec v (qPart qs (qs.length - (m + 1)))) else []) ++ lvG qs lo hi m s v
theorem lvG_nil {qs : Dt} {lo hi : Int} {v : V4} (h : V4.nil v = true) : ∀ m s, lvG qs lo hi m s v = if inr s lo hi then [[.i s]] else []
 | 0, s => by rw [lvG, h]; simp
 | m + 1, s => by rw [lvG, if_pos h]
theorem lvG_zero {qs : Dt} {lo hi : Int} {v : V4} (h : V4.nil v = false) (s : Int) : lvG qs lo hi 0 s v = [] := by rw [lvG, h]; simp
theorem lvG_at {qs : Dt} {lo hi s : Int} {v : V4} (h : V4.nil v = false) {i : Int} (h0 : 0 <= i) (h1 : i < qs.length) :
  lvG qs lo hi (qs.length - i.toNat) s v = (if 1 <= V4.get v (qPart qs i.toNat) then lvG qs lo hi (qs.length - (i + 1).toNat) (s + wt qs i.toNat) (V4.dec v (qPart qs i.toNat)) else []) ++ lvG qs lo hi (qs.length - (i + 1).toNat) s v := by
 have e : qs.length - i.toNat = (qs.length - (i + 1).toNat) + 1 := by omega
 have e2 : qs.length - ((qs.length - (i + 1).toNat) + 1) = i.toNat := by omega
 rw [e, lvG, if_neg (by simp [h]), e2]
theorem sumN_shift {f g : Nat -> Int} : ∀ {n i : Nat}, (∀ k, i <= k -> k < i + n -> f (k + 1) = g k) -> sumN f (i + 1) n = sumN g i n
 | 0, _, _ => rfl
 | n + 1, i, h => by rw [sumN, sumN, h i (by omega) (by omega), sumN_shift fun k a b => h k (by omega) (by omega)]
theorem lvl_cons (qs : Dt) (i : Nat) (p : Dt) : lvl qs ([Cl.i (i : Int)] :: p) = wt qs i + lvl qs p := by
 unfold lvl;rw [List.length_cons, sumN, sumN_shift (g := lvf qs p) fun k _ _ => ?_]
 ·rfl
 ·unfold lvf cel;rw [List.getD_cons_succ]
theorem lvG_gen (qs : Dt) (lo hi : Int) : ∀ m s v, lvG qs lo hi m s v = (gen qs lo hi m s v).map fun p => [.i (s + lvl qs p)]
 | 0, s, v => by
  rw [lvG, gen]; split
  ·simp [lvl, sumN]
  ·rfl
 | m + 1, s, v => by
  cases hv : V4.nil v with
  | true =>
   rw [lvG_nil hv, gen_nil hv]; split
   ·simp [lvl, sumN]
   ·rfl
  | false =>
   have hv2 : ¬ V4.nil v = true := by simp [hv]
   rw [lvG, gen, if_neg hv2, if_neg hv2, List.map_append, lvG_gen qs lo hi m s v]
   congr 1
   split
   ·rw [lvG_gen qs lo hi m, List.map_map];refine List.map_congr_left fun p _ => ?_;simp only [Function.comp, lvl_cons, Int.add_assoc]
   ·rfl
theorem length_lvG (qs : Dt) (lo hi : Int) (m : Nat) (s : Int) (v : V4) : ((lvG qs lo hi m s v).length : Int) = cnt qs lo hi m s v := by
 rw [lvG_gen, List.length_map]; rfl
theorem lvG_all (qs ws : Dt) (lo hi : Int) : lvG qs lo hi qs.length 0 (v0 ws) = levD qs ws lo hi := by
 rw [lvG_gen];unfold levD paps;refine List.map_congr_left fun p _ => ?_;rw [Int.zero_add]
theorem length_levD (qs ws : Dt) (lo hi : Int) : ((levD qs ws lo hi).length : Int) = total qs ws lo hi := by
 rw [<- lvG_all, length_lvG]; rfl
end Sp
set_option maxHeartbeats 1600000
def Xc8 (m : Nat) [InW] (e : List Ed) (K : Nat -> List Ed -> Prop) : Prop := match e with
 | [.i t, .i s, .i a, .i b, .i c, .i d, .ro _ qs, .ro _ ws, .i lo, .i hi, .l w, .l xs, .l l] => Pre (Sp.BkOk qs.xs ws.xs lo hi w /\ Sp.StOk qs.xs t s ⟨a, b, c, d⟩ /\ Sp.MemoOk qs.xs lo hi xs /\ qs.xs.length - t.toNat < m /\ l.length + Sp.cnt qs.xs lo hi (qs.xs.length - t.toNat) s ⟨a, b, c, d⟩ <= 65536)
   (Sp.FaM (Sp.MemoOk qs.xs lo hi) fun ys => K 0 [.ro _ qs, .ro _ ws, .i lo, .i hi, .l w, .l ys, .l (l ++ Sp.lvG qs.xs lo hi (qs.xs.length - t.toNat) s ⟨a, b, c, d⟩)])
 | _ => False
noncomputable def X6 (m : Nat) : CC where
 g := 52
 args := [.agg [.int .i64, .int .i64, .int .i64, .int .i64, .int .i64, .int .i64], (.ptr 16 0), (.ptr 19 0), (.ptr 22 0)]
 H := [(16, .blk 77 [(.ptr 4 0)]), (22, .blk 93 [(.fn (.func 52) [] [(.ptr 16 0), (.ptr 19 0), (.ptr 22 0)])]), (4, .blk 82 [.rs Ja, .rs Jb, .int .i64, .int .i64, (.row 7), (.mp 10)]), (7, .arr 3 Jb), (10, .mpP), (19, .blk 23 [(.row 30)]), (30, .arr 3 Jb)]
 outs := [⟨false, .tup [], [(16, .blk 77 [(.ptr 4 0)]), (22, .blk 93 [(.fn (.func 52) [] [(.ptr 16 0), (.ptr 19 0), (.ptr 22 0)])]), (4, .blk 82 [.rs Ja, .rs Jb, .int .i64, .int .i64, (.row 7), (.mp 10)]), (7, .arr 3 Jb), (10, .mpP), (19, .blk 23 [(.row 33)]), (33, .arr 3 Jb)], false⟩]
 spec := Xc8 m
def Xc9 (m : Nat) [InW] (e : List Ed) (K : Nat -> List Ed -> Prop) : Prop := match e with
 | [.i i, .ro _ qs, .ro _ ws, .i lo, .i hi, .l w, .l xs, .l l, .i t, .i s, .i a, .i b, .i c, .i d] => Pre (Sp.BkOk qs.xs ws.xs lo hi w /\ Sp.StOk qs.xs t s ⟨a, b, c, d⟩ /\ Sp.V4.nil ⟨a, b, c, d⟩ = false /\ Sp.MemoOk qs.xs lo hi xs /\ qs.xs.length - t.toNat < m + 1 /\ t <= i /\ i <= qs.xs.length /\ l.length + Sp.cnt qs.xs lo hi (qs.xs.length - i.toNat) s ⟨a, b, c, d⟩ <= 65536)
   (Sp.FaM (Sp.MemoOk qs.xs lo hi) fun ys => K 0 [.ro _ qs, .ro _ ws, .i lo, .i hi, .l w, .l ys, .l (l ++ Sp.lvG qs.xs lo hi (qs.xs.length - i.toNat) s ⟨a, b, c, d⟩)])
 | _ => False
noncomputable def Xbq (m : Nat) : LC where
 len := 44
 T := [(1, (.ptr 16 0)), (2, (.ptr 19 0)), (3, (.ptr 22 0)), (4, (.ptr 13 0)), (5, .int .i64)]
 H := [(16, .blk 77 [(.ptr 4 0)]), (22, .blk 93 [(.fn (.func 52) [] [(.ptr 16 0), (.ptr 19 0), (.ptr 22 0)])]), (4, .blk 82 [.rs Ja, .rs Jb, .int .i64, .int .i64, (.row 7), (.mp 10)]), (7, .arr 3 Jb), (10, .mpP), (19, .blk 23 [(.row 30)]), (30, .arr 3 Jb), (13, .blk 86 [.int .i64, .int .i64, .int .i64, .int .i64, .int .i64, .int .i64])]
 W := ([6, 7] ++ rg 23 21)
 outs := [⟨.exit 0, [(1, (.ptr 16 0)), (2, (.ptr 19 0)), (3, (.ptr 22 0))], [(16, .blk 77 [(.ptr 4 0)]), (22, .blk 93 [(.fn (.func 52) [] [(.ptr 16 0), (.ptr 19 0), (.ptr 22 0)])]), (4, .blk 82 [.rs Ja, .rs Jb, .int .i64, .int .i64, (.row 7), (.mp 10)]), (7, .arr 3 Jb), (10, .mpP), (19, .blk 23 [(.row 33)]), (33, .arr 3 Jb)], (rg 4 4 ++ rg 23 21)⟩]
 spec := Xc9 m
def Zbn [W : InW] (i : Int) (qs : Ro Ja) (a b c d : Int) := Sp.V4.dec { a := a, b := b, c := c, d := d } (Sp.qPart qs.xs i.toNat)
def Xch [W : InW] (m : Nat) (i : Int) (qs : Ro Ja) (ws : Ro Jb) (lo hi : Int) (w xs l : Dt) (t s a b c d : Int) (A : List Ed -> Prop) (K : Nat -> List Ed -> Prop) : Prop :=
 Vif (decide (i < (↑(qs.xs.length) : Int))) (Pre (Sp.BkOk qs.xs ws.xs lo hi w /\ Sp.StOk qs.xs t s { a := a, b := b, c := c, d := d } /\ t <= i /\ i < (↑(qs.xs.length) : Int)) (Vif (decide ((1 : Int) <= Sp.V4.get { a := a, b := b, c := c, d := d } (Sp.qPart qs.xs i.toNat))) (Pre (Sp.BkOk qs.xs ws.xs lo hi w /\ Sp.StOk qs.xs (i + 1) (s + Sp.wt qs.xs i.toNat) { a := (Zbn i qs a b c d).1, b := (Zbn i qs a b c d).2, c := (Zbn i qs a b c d).3, d := (Zbn i qs a b c d).4 } /\ Sp.MemoOk qs.xs lo hi xs /\ qs.xs.length - (i + 1).toNat < m /\ (↑(l.length) : Int) + Sp.cnt qs.xs lo hi (qs.xs.length - (i + 1).toNat) (s + Sp.wt qs.xs i.toNat) { a := (Zbn i qs a b c d).1, b := (Zbn i qs a b c d).2, c := (Zbn i qs a b c d).3, d := (Zbn i qs a b c d).4 } <= (65536 : Int)) (Sp.FaM (Sp.MemoOk qs.xs lo hi) fun ys => Ar .i64 (i + 1) fun z => A [.i z, .ro _ qs, .ro _ ws, .i lo, .i hi, .l w, .l ys, .l (l ++ Sp.lvG qs.xs lo hi (qs.xs.length - (i + 1).toNat) (s + Sp.wt qs.xs i.toNat) { a := (Zbn i qs a b c d).1, b := (Zbn i qs a b c d).2, c := (Zbn i qs a b c d).3, d := (Zbn i qs a b c d).4 }), .i t, .i s, .i a, .i b, .i c, .i d])) (Ar .i64 (i + 1) fun z => A [.i z, .ro _ qs, .ro _ ws, .i lo, .i hi, .l w, .l xs, .l l, .i t, .i s, .i a, .i b, .i c, .i d]))) (K 0 [.ro _ qs, .ro _ ws, .i lo, .i hi, .l w, .l xs, .l l])
theorem Xg0 (W : InW) (m h i qs ws lo hi w xs l t s a b c d A K) : Yff { cxT Try.prog TT (⟨[], [], [ceOf (X6 m) h, ceOf Xd Xl]⟩) 1000 50 with fn := 52 } 1000 (Yob Try.prog 52 6) (Yd6 44 [(1, .ptr 16 0), (2, .ptr 19 0), (3, .ptr 22 0), (4, .ptr 13 0), (5, .si .i64 i)] ([6, 7] ++ rg 23 21)) [(16, .blk 77 [.ptr 4 0]), (22, .blk 93 [.fn (.func 52) [] [.ptr 16 0, .ptr 19 0, .ptr 22 0]]), (4, .blk 82 [.rs _ qs, .rs _ ws, .si .i64 lo, .si .i64 hi, .rw 7, .mp 10]), (7, .arr 3 Jb w), (10, .obj (.mpP xs)), (19, .blk 23 [.rw 30]), (30, .arr 3 Jb l), (13, .blk 86 [.si .i64 t, .si .i64 s, .si .i64 a, .si .i64 b, .si .i64 c, .si .i64 d])] (Yut (Xbq m) A K) = Xch m i qs ws lo hi w xs l t s a b c d A K := by kernel_rfl
def Xu (m : Nat) : Prop := ∀ (W : InW) (body a : Code), (Try.prog.funcs[52]?).bind (·.body) = some body -> a ∈ Yy body -> Yf0 a = 6 -> @Yms W Try.prog a (@Ytz W (Xbq m))
theorem Xh6 (m : Nat) (h : ∀ W : InW, @CallC W Try.prog (X6 m)) (meas : [InW] -> List Ed -> Nat) (hyp_ : ∀ (W : InW) i qs ws lo hi w xs l t s a b c d K, Xc9 m [.i i, .ro _ qs, .ro _ ws, .i lo, .i hi, .l w, .l xs, .l l, .i t, .i s, .i a, .i b, .i c, .i d] K -> ∀ A : List Ed -> Prop, (∀ e, meas e < meas [.i i, .ro _ qs, .ro _ ws, .i lo, .i hi, .l w, .l xs, .l l, .i t, .i s, .i a, .i b, .i c, .i d] -> Xc9 m e K -> A e) -> Xch m i qs ws lo hi w xs l t s a b c d A K) : Xu m :=
 LE.okOf' (fun W => @TT W) (fun W => @Xb W) Xa (⟨[], [], [ceOf (X6 m) h, ceOf Xd Xl]⟩) 1000 50 (by kernel_rfl) (Xbq m) (fun W => @meas W) fun W i qs ws lo hi w xs l t s a b c d K hs =>
  (Xg0 W m h i qs ws lo hi w xs l t s a b c d (fun e => meas e < meas [.i i, .ro _ qs, .ro _ ws, .i lo, .i hi, .l w, .l xs, .l l, .i t, .i s, .i a, .i b, .i c, .i d] /\ Xc9 m e K) K).mpr (hyp_ W i qs ws lo hi w xs l t s a b c d K hs _ fun e h1 h2 => ⟨h1, h2⟩)
def Xgl (m : Nat) [InW] (e : List Ed) (K : Nat -> List Ed -> Prop) : Prop := Xc8 (m + 1) e K
noncomputable def Xz (m : Nat) : CC where
 g := 52
 args := [.agg [.int .i64, .int .i64, .int .i64, .int .i64, .int .i64, .int .i64], (.ptr 16 0), (.ptr 19 0), (.ptr 22 0)]
 H := [(16, .blk 77 [(.ptr 4 0)]), (22, .blk 93 [(.fn (.func 52) [] [(.ptr 16 0), (.ptr 19 0), (.ptr 22 0)])]), (4, .blk 82 [.rs Ja, .rs Jb, .int .i64, .int .i64, (.row 7), (.mp 10)]), (7, .arr 3 Jb), (10, .mpP), (19, .blk 23 [(.row 30)]), (30, .arr 3 Jb)]
 outs := [⟨false, .tup [], [(16, .blk 77 [(.ptr 4 0)]), (22, .blk 93 [(.fn (.func 52) [] [(.ptr 16 0), (.ptr 19 0), (.ptr 22 0)])]), (4, .blk 82 [.rs Ja, .rs Jb, .int .i64, .int .i64, (.row 7), (.mp 10)]), (7, .arr 3 Jb), (10, .mpP), (19, .blk 23 [(.row 33)]), (33, .arr 3 Jb)], false⟩]
 spec := Xgl m
def Xcz [W : InW] (m : Nat) (t s a b c d : Int) (qs : Ro Ja) (ws : Ro Jb) (lo hi : Int) (w xs l : Dt) (K : Nat -> List Ed -> Prop) : Prop :=
 Pre (Sp.BkOk qs.xs ws.xs lo hi w /\ Sp.StOk qs.xs t s { a := a, b := b, c := c, d := d } /\ Sp.MemoOk qs.xs lo hi xs /\ qs.xs.length - t.toNat < 17) (Sp.FaM (Sp.MemoOk qs.xs lo hi) fun ys => Vif (decide (Sp.cnt qs.xs lo hi (qs.xs.length - t.toNat) s { a := a, b := b, c := c, d := d } = (0 : Int))) (K 0 [.ro _ qs, .ro _ ws, .i lo, .i hi, .l w, .l ys, .l l]) (Vif (decide (a = 0) && (decide (b = 0) && (decide (c = 0) && (decide (d = 0) && true)))) (Need (decide ((l.length + [[Cl.i s]].length) * 8 <= 140737488355328)) (K 0 [.ro _ qs, .ro _ ws, .i lo, .i hi, .l w, .l ys, .l (l ++ [[Cl.i s]])])) (Pre (Sp.BkOk qs.xs ws.xs lo hi w /\ Sp.StOk qs.xs t s { a := a, b := b, c := c, d := d } /\ Sp.V4.nil { a := a, b := b, c := c, d := d } = false /\ Sp.MemoOk qs.xs lo hi ys /\ qs.xs.length - t.toNat < m + 1 /\ t <= t /\ t <= (↑(qs.xs.length) : Int) /\ (↑(l.length) : Int) + Sp.cnt qs.xs lo hi (qs.xs.length - t.toNat) s { a := a, b := b, c := c, d := d } <= (65536 : Int)) (Sp.FaM (Sp.MemoOk qs.xs lo hi) fun ys => K 0 [.ro _ qs, .ro _ ws, .i lo, .i hi, .l w, .l ys, .l (l ++ Sp.lvG qs.xs lo hi (qs.xs.length - t.toNat) s { a := a, b := b, c := c, d := d })]))))
theorem Xhi (W : InW) (m h t s a b c d qs ws lo hi w xs l K) : Yw2 (cxT Try.prog TT (⟨[], [⟨52, 6, fun W => @Ytz W (Xbq m), h⟩], [ceOf (Xf 17) (Xj 17)]⟩) 1000 50) 1000 52 [.agg [.si .i64 t, .si .i64 s, .si .i64 a, .si .i64 b, .si .i64 c, .si .i64 d], .ptr 16 0, .ptr 19 0, .ptr 22 0] [(16, .blk 77 [.ptr 4 0]), (22, .blk 93 [.fn (.func 52) [] [.ptr 16 0, .ptr 19 0, .ptr 22 0]]), (4, .blk 82 [.rs _ qs, .rs _ ws, .si .i64 lo, .si .i64 hi, .rw 7, .mp 10]), (7, .arr 3 Jb w), (10, .obj (.mpP xs)), (19, .blk 23 [.rw 30]), (30, .arr 3 Jb l)] (fun v h => outC (Xz m).H [.ro _ qs, .ro _ ws, .i lo, .i hi, .l w, .l xs, .l l] (Xz m).outs 0 false v h K) (fun v h => outC (Xz m).H [.ro _ qs, .ro _ ws, .i lo, .i hi, .l w, .l xs, .l l] (Xz m).outs 0 true v h K) = Xcz m t s a b c d qs ws lo hi w xs l K := by kernel_rfl
theorem Xio (m : Nat) (h : Xu m) (hyp_ : ∀ (W : InW) t s a b c d qs ws lo hi w xs l K, Xgl m [.i t, .i s, .i a, .i b, .i c, .i d, .ro _ qs, .ro _ ws, .i lo, .i hi, .l w, .l xs, .l l] K -> Xcz m t s a b c d qs ws lo hi w xs l K) : ∀ W : InW, @CallC W Try.prog (Xz m) :=
 CC.okOf (fun W => @TT W) (fun W => @Xb W) Xa (⟨[], [⟨52, 6, fun W => @Ytz W (Xbq m), h⟩], [ceOf (Xf 17) (Xj 17)]⟩) 1000 50 (Xz m) fun W t s a b c d qs ws lo hi w xs l K hs => (Xhi W m h t s a b c d qs ws lo hi w xs l K).mpr (hyp_ W t s a b c d qs ws lo hi w xs l K hs)
theorem Xj3 (m : Nat) (hc : ∀ W : InW, @CallC W Try.prog (X6 m)) : Xu m := Xh6 m hc (fun e => match e with | .i i :: .ro _ qs :: _ => ((qs.xs.length : Int) - i).toNat | _ => 0) fun W i qs ws lo hi w xs l t s a b c d K hs A hA => by
 obtain ⟨⟨bk, st, hv, mo, fu, h0, h1, hb⟩, ⟨hk⟩⟩ := hs;unfold Xch;delta Zbn;have hf := bk.few;have ht := st.a0
 by_cases hi' : i < qs.xs.length
 ·have hc := Sp.cnt_at (qs := qs.xs) (lo := lo) (hi := hi) (s := s) hv (by omega) hi';have hl : ((qs.xs.length : Int) - (i + 1)).toNat < ((qs.xs.length : Int) - i).toNat := by omega
  have b1 := Sp.cnt_pos (qs := qs.xs) (lo := lo) (hi := hi) (m := qs.xs.length - (i + 1).toNat) (s := s) (v := ⟨a, b, c, d⟩);rw [Sp.lvG_at hv (by omega) hi'] at hk;refine vifd (fun _ => ?_) (fun h => absurd hi' h);refine ⟨⟨bk, st, h0, hi'⟩, vifd (fun hg => ?_) (fun hg => ?_)⟩
  ·rw [if_pos hg] at hc hk;have h2 := Sp.length_lvG qs.xs lo hi (qs.xs.length - (i + 1).toNat) (s + Sp.wt qs.xs i.toNat) (Sp.V4.dec ⟨a, b, c, d⟩ (Sp.qPart qs.xs i.toNat));refine ⟨⟨bk, st.step bk h0 hi' hg, mo, by omega, by show (l.length : Int) + Sp.cnt qs.xs lo hi (qs.xs.length - (i + 1).toNat) (s + Sp.wt qs.xs i.toNat) (Sp.V4.dec ⟨a, b, c, d⟩ (Sp.qPart qs.xs i.toNat)) <= 65536; omega⟩, ⟨fun ys hy => ?_⟩⟩;refine ar64 (by omega) (hA _ hl ⟨⟨bk, st, hv, hy, fu, by omega, by omega, by rw [List.length_append]; show ((l.length + (Sp.lvG qs.xs lo hi (qs.xs.length - (i + 1).toNat) (s + Sp.wt qs.xs i.toNat) (Sp.V4.dec ⟨a, b, c, d⟩ (Sp.qPart qs.xs i.toNat))).length : Nat) : Int) + _ <= 65536; omega⟩, ⟨fun zs hz => ?_⟩⟩);have := hk zs hz;rw [<- List.append_assoc] at this;exact this
  ·rw [if_neg hg] at hc hk;exact ar64 (by omega) (hA _ hl ⟨⟨bk, st, hv, mo, fu, by omega, by omega, by omega⟩, ⟨hk⟩⟩)
 ·refine vifd (fun h => absurd h hi') (fun _ => ?_);have := hk xs mo;rw [show qs.xs.length - i.toNat = 0 by omega, Sp.lvG_zero hv, List.append_nil] at this;exact this
theorem Xkl (m : Nat) (h : Xu m) : ∀ W : InW, @CallC W Try.prog (Xz m) := Xio m h fun W t s a b c d qs ws lo hi w xs l K hs => by
 obtain ⟨⟨bk, st, mo, fu, hb⟩, ⟨hk⟩⟩ := hs;unfold Xcz;have hf := bk.few;have h2 := Sp.length_lvG qs.xs lo hi (qs.xs.length - t.toNat) s ⟨a, b, c, d⟩;have b0 := Sp.cnt_pos (qs := qs.xs) (lo := lo) (hi := hi) (m := qs.xs.length - t.toNat) (s := s) (v := ⟨a, b, c, d⟩);refine ⟨⟨bk, st, mo, by omega⟩, ⟨fun ys hy => vifd (fun hz => ?_) (fun hz => vif (fun hv => ?_) (fun hv => ?_))⟩⟩
 ·have := hk ys hy;rw [List.length_eq_zero_iff.1 (show (Sp.lvG qs.xs lo hi (qs.xs.length - t.toNat) s ⟨a, b, c, d⟩).length = 0 by omega), List.append_nil] at this;exact this
 ·have hv : Sp.V4.nil ⟨a, b, c, d⟩ = true := by simpa [Sp.V4.nil, and_assoc] using hv
  have := hk ys hy;rw [Sp.cnt_nil hv] at hz
  by_cases hr : Sp.inr s lo hi = true
  ·rw [Sp.lvG_nil hv, if_pos hr] at this;exact nedd (by simp; omega) this
  ·rw [if_neg hr] at hz;exact absurd rfl hz
 ·have hv : Sp.V4.nil ⟨a, b, c, d⟩ = false := by
   rw [<- Bool.not_eq_true] at hv ⊢;intro h2;exact hv (by simpa [Sp.V4.nil, and_assoc] using h2)
  exact ⟨⟨bk, st, hv, hy, fu, by omega, st.a1, hb⟩, ⟨hk⟩⟩
theorem Xgv : ∀ (m : Nat) (W : InW), @CallC W Try.prog (X6 m)
 | 0, W => fun xs ys e1 e2 m1 n1 K hs => by
  have hs : Xc8 0 (e1 ++ e2) K := hs;unfold Xc8 at hs
  split at hs
  ·obtain ⟨⟨_, _, _, h, _⟩, _⟩ := hs;exact absurd h (Nat.not_lt_zero _)
  ·exact hs.elim
 | m + 1, W => Xkl m (Xj3 m (Xgv m)) W
namespace Sp
theorem ins_pw {L : List Int} {k : Nat} {x : Int} (h : L.Pairwise (· <= ·)) (h1 : ∀ j, j < k -> (hj : j < L.length) -> L[j] <= x) (h2 : (hk : k < L.length) -> x < L[k]) : (L.take k ++ x :: L.drop k).Pairwise (· <= ·) := by
 have hd : ∀ b, b ∈ L.drop k -> x <= b := fun b hb => by
  obtain ⟨j, hj, rfl⟩ := List.mem_iff_getElem.1 hb;rw [List.length_drop] at hj;rw [List.getElem_drop];have h3 := h2 (by omega)
  by_cases hz : j = 0
  ·subst hz; simp only [Nat.add_zero]; omega
  ·have := List.pairwise_iff_getElem.1 h k (k + j) (by omega) (by omega) (by omega);omega
 have ht : ∀ a, a ∈ L.take k -> a <= x := fun a ha => by
  obtain ⟨j, hj, rfl⟩ := List.mem_iff_getElem.1 ha;rw [List.length_take] at hj;rw [List.getElem_take];exact h1 j (by omega) (by omega)
 rw [List.pairwise_append, List.pairwise_cons];refine ⟨h.sublist (List.take_sublist _ _), ⟨hd, h.sublist (List.drop_sublist _ _)⟩, fun a ha b hb => ?_⟩;have h3 := ht a ha;rcases List.mem_cons.1 hb with rfl | hb
 ·exact h3
 ·have := hd b hb; omega
theorem ins_perm (L : List Int) (k : Nat) (x : Int) : (L.take k ++ x :: L.drop k).Perm (x :: L) := by
 have := List.perm_middle (a := x) (l₁ := L.take k) (l₂ := L.drop k);rwa [List.take_append_drop] at this
theorem fstF_none {f : Nat -> Bool} : ∀ {n i : Nat}, anyF f i n = false -> fstF f i n = i + n
 | 0, i, _ => rfl
 | n + 1, i, h => by
  simp only [anyF, Bool.or_eq_false_iff] at h;rw [fstF, if_neg (by rw [h.1]; decide), fstF_none h.2]; omega
def insF (o : Dt) (x : Int) (j : Nat) : Bool := !decide ((cel o j 0).int <= x)
def insK (o : Dt) (x : Int) : Nat := fstF (insF o x) 0 o.length
def insD (o : Dt) (x : Int) : Dt := o.take (insK o x) ++ [[.i x]] ++ o.drop (insK o x)
def srtD (xs : Dt) : Nat -> Dt
 | 0 => []
 | n + 1 => insD (srtD xs n) (cel xs n 0).int
theorem nums_get {l : Dt} {j : Nat} (h : j < (numsOf l).length) : (numsOf l)[j] = (cel l j 0).int := by
 have h2 : j < l.length := by rwa [Xc] at h
 simp [numsOf, cel, List.getD_eq_getElem?_getD, h2]
theorem nums_insD (o : Dt) (x : Int) : numsOf (insD o x) = (numsOf o).take (insK o x) ++ x :: (numsOf o).drop (insK o x) := by
 unfold insD numsOf;rw [List.map_append, List.map_append, List.map_take, List.map_drop];simp [Cl.int]
theorem srtD_pw (xs : Dt) : ∀ n, (numsOf (srtD xs n)).Pairwise (· <= ·)
 | 0 => List.Pairwise.nil
 | n + 1 => by
  rw [srtD, nums_insD];have hl := Xc (srtD xs n);refine ins_pw (srtD_pw xs n) (fun j hj hj2 => ?_) fun hk => ?_
  ·rw [nums_get hj2];unfold insK at hj;cases h : anyF (insF (srtD xs n) (cel xs n 0).int) 0 (srtD xs n).length with
   | true =>
    have := (fstF_spec h).2.2.2 j (Nat.zero_le _) hj;simpa [insF] using this
   | false =>
    by_cases hc : (cel (srtD xs n) j 0).int <= (cel xs n 0).int
    ·exact hc
    ·rw [<- Bool.not_eq_true, anyF_iff] at h;exact absurd ⟨j, Nat.zero_le _, by omega, by simpa [insF] using hc⟩ h
  ·rw [nums_get hk];cases h : anyF (insF (srtD xs n) (cel xs n 0).int) 0 (srtD xs n).length with
   | true =>
    have := (fstF_spec h).2.2.1;simpa [insF, insK] using this
   | false =>
    unfold insK at hk;rw [fstF_none h] at hk; omega
theorem srtD_perm {xs : Dt} : ∀ n, n <= xs.length -> (numsOf (srtD xs n)).Perm ((numsOf xs).take n)
 | 0, _ => by simp [srtD, numsOf]
 | n + 1, h => by
  rw [srtD, nums_insD];have hn : n < (numsOf xs).length := by rw [Xc]; omega
  refine (ins_perm _ _ _).trans ?_;rw [List.take_succ_eq_append_getElem hn, nums_get hn];exact ((srtD_perm n (by omega)).cons _).trans (List.perm_append_singleton _ _).symm
theorem srtD_norm (xs : Dt) : ∀ n, norm (srtD xs n) = srtD xs n
 | 0 => rfl
 | n + 1 => by
  have ih := srtD_norm xs n;have h1 : ∀ k, norm ((srtD xs n).take k) = (srtD xs n).take k := fun k => by unfold norm at ih ⊢; rw [List.map_take, ih]
  have h2 : ∀ k, norm ((srtD xs n).drop k) = (srtD xs n).drop k := fun k => by unfold norm at ih ⊢; rw [List.map_drop, ih]
  have h3 : norm (insD (srtD xs n) (cel xs n 0).int) = norm ((srtD xs n).take (insK (srtD xs n) (cel xs n 0).int)) ++ [[Cl.i (cel xs n 0).int]] ++ norm ((srtD xs n).drop (insK (srtD xs n) (cel xs n 0).int)) := by
   unfold insD norm;rw [List.map_append, List.map_append];rfl
  rw [srtD, h3, h1, h2];rfl
theorem norm_nums (l : Dt) : norm l = (numsOf l).map fun n => [.i n] := by simp [norm, numsOf]
theorem srt_same (xs : Dt) : srtD xs xs.length = sortD xs := by
 have h1 : numsOf (srtD xs xs.length) = (numsOf xs).mergeSort fun x y => decide (x <= y) := by
  refine List.Perm.eq_of_pairwise (le := (· <= ·)) (fun a b _ _ h1 h2 => by omega) (srtD_pw _ _) ?_ ?_
  ·have := List.pairwise_mergeSort (le := fun x y : Int => decide (x <= y)) (fun a b c h1 h2 => by simp at *; omega) (fun a b => by simp; omega) (numsOf xs);exact this.imp fun h => of_decide_eq_true h
  ·have := srtD_perm (xs := xs) xs.length (Nat.le_refl _);rw [<- Xc xs, List.take_length, Xc] at this;exact this.trans (List.mergeSort_perm _ _).symm
 rw [<- srtD_norm, norm_nums, h1];rfl
structure Rg where
 lo : Int
 hi : Int
def narF (L : Dt) (k : Int) : Nat -> Nat -> Rg -> Rg
 | _, 0, b => b
 | i, n + 1, b => narF L k (i + 1) n (if (cel L ((i : Int) + k - 1).toNat 0).int - (cel L i 0).int < b.hi - b.lo then ⟨(cel L i 0).int, (cel L ((i : Int) + k - 1).toNat 0).int⟩ else b)
def nar (L : Dt) (k : Int) : Rg := narF L k 0 (L.length - k.toNat + 1) ⟨0, 16001⟩
structure LvOk (L : Dt) : Prop where
 ok : ∀ i, i < L.length -> 0 <= (cel L i 0).int /\ (cel L i 0).int <= 16000
theorem mem_nums {l : Dt} {x : Int} : x ∈ numsOf l ↔ ∃ i, i < l.length /\ (cel l i 0).int = x := by
 rw [List.mem_iff_getElem];constructor
 ·rintro ⟨i, hi, rfl⟩;exact ⟨i, by rwa [Xc] at hi, (nums_get hi).symm⟩
 ·rintro ⟨i, hi, rfl⟩;have hi2 : i < (numsOf l).length := by rwa [Xc]
  exact ⟨i, hi2, nums_get hi2⟩
theorem LvOk.sort {L : Dt} (h : LvOk L) : LvOk (sortD L) := ⟨fun i hi => by
 have h1 := (mem_nums (l := sortD L) (x := (cel (sortD L) i 0).int)).2 ⟨i, hi, rfl⟩;rw [X5, List.mem_mergeSort, mem_nums] at h1;obtain ⟨j, hj, e⟩ := h1;rw [<- e];exact h.ok j hj⟩
theorem levD_ok {qs ws : Dt} {lo hi : Int} (bv : BankV qs ws lo hi) : LvOk (levD qs ws lo hi) := ⟨fun i hi' => by
 have h1 : i < (paps qs ws lo hi).length := by simpa [levD] using hi'
 have h2 := paps_is bv h1;unfold isP at h2;simp only [Bool.and_eq_true, inr_iff] at h2;have e : (cel (levD qs ws lo hi) i 0).int = lvl qs ((paps qs ws lo hi).getD i []) := by
  simp [levD, cel, List.getD_eq_getElem?_getD, h1, Cl.int]
 have := bv.l0;have := bv.hh;rw [e]; omega⟩
end Sp
namespace Sp
def fairE (qs ws : Dt) (lo hi k : Int) : Int := if chkE qs ws lo hi = 0 then (if 1 <= k then (if k <= total qs ws lo hi then 0 else 9) else 7) else chkE qs ws lo hi
def fairR (qs ws : Dt) (lo hi k : Int) : Rg := if fairE qs ws lo hi k = 0 then nar (srtD (levD qs ws lo hi) (levD qs ws lo hi).length) k else ⟨0, 0⟩
end Sp
abbrev Xt (ds : DS) : DS := match ds with | [[.l qs, .l ws, .i lo, .i hi], [.i k]] => [[.i (Sp.fairR qs ws lo hi k).lo, .i (Sp.fairR qs ws lo hi k).hi], [.i (Sp.fairE qs ws lo hi k)]] | _ => []
def Xdc [InW] (e : List Ed) (K : Nat -> List Ed -> Prop) : Prop := match e with
 | [.i k, .i u, .i n, .i z, .i i, .i a, .i b, .l L] => Pre (Sp.LvOk L /\ L.length <= 65536 /\ 1 <= k /\ k <= L.length /\ u = 0 /\ n = z /\ z = L.length - k + 1 /\ 0 <= i /\ i <= z /\ 0 <= a /\ a <= 16001 /\ 0 <= b /\ b <= 16001)
   (K 0 [.i (Sp.narF L k i.toNat (z - i).toNat (if i = 0 then ⟨0, 16001⟩ else ⟨a, b⟩)).lo, .i (Sp.narF L k i.toNat (z - i).toNat (if i = 0 then ⟨0, 16001⟩ else ⟨a, b⟩)).hi])
 | _ => False
noncomputable def Xee : LC where
 len := 78
 T := [(1, .int .i64), (4, (.ptr 16 0)), (7, (.ptr 19 0)), (44, (.rwp 31 1)), (45, .int .i64), (46, .int .i64)]
 H := [(16, .blk 25 [.int .i64, .int .i64]), (19, .blk 23 [(.row 31)]), (31, .arr 3 Jb)]
 W := ([9, 10, 11] ++ rg 47 30)
 outs := [⟨.exit 1, [(4, (.ptr 16 0))], [(16, .blk 25 [.int .i64, .int .i64])], ([1, 7, 9, 10, 11] ++ rg 44 33)⟩]
 spec := Xdc
def Xck [W : InW] (k : Int) (u n : Nat) (z i a b : Int) (l : Dt) (A : List Ed -> Prop) (K : Nat -> List Ed -> Prop) : Prop :=
 Vif (decide (i < z)) (Need (decide (0 <= i) && decide (i < (↑n : Int)) && decide (u + n <= l.length)) (Need (decide (u + i.toNat < l.length)) (Ar .i64 (i + k) fun z_1 => Ar .i64 (z_1 - 1) fun z_2 => Need (decide (0 <= z_2) && decide (z_2 < (↑(l.length) : Int))) (Need (decide (z_2.toNat < l.length)) (Vif (decide (i = 0)) (Ar .i64 (i + 1) fun z_3 => A [.i k, .i (↑u : Int), .i (↑n : Int), .i z, .i z_3, .i (cel l (u + i.toNat) Zbc).int, .i (cel l z_2.toNat Zbc).int, .l l]) (Ar .i64 ((cel l z_2.toNat Zbc).int - (cel l (u + i.toNat) Zbc).int) fun z_3 => Ar .i64 (b - a) fun z_4 => Vif (decide (z_3 < z_4)) (Ar .i64 (i + 1) fun z_5 => A [.i k, .i (↑u : Int), .i (↑n : Int), .i z, .i z_5, .i (cel l (u + i.toNat) Zbc).int, .i (cel l z_2.toNat Zbc).int, .l l]) (Ar .i64 (i + 1) fun z_5 => A [.i k, .i (↑u : Int), .i (↑n : Int), .i z, .i z_5, .i a, .i b, .l l]))))))) (K 0 [.i a, .i b])
theorem Xg3 (W : InW) (k u n z i a b l A K) : Yff { cxT Try.prog TT T0 1000 50 with fn := 28 } 1000 (Yob Try.prog 28 15) (Yd6 78 [(1, .si .i64 k), (4, .ptr 16 0), (7, .ptr 19 0), (44, .rwp 31 1 u n), (45, .si .i64 z), (46, .si .i64 i)] ([9, 10, 11] ++ rg 47 30)) [(16, .blk 25 [.si .i64 a, .si .i64 b]), (19, .blk 23 [.rw 31]), (31, .arr 3 Jb l)] (Yut Xee A K) = Xck k u n z i a b l A K := by kernel_rfl
def Xdx : Prop := ∀ (W : InW) (body a : Code), (Try.prog.funcs[28]?).bind (·.body) = some body -> a ∈ Yy body -> Yf0 a = 15 -> @Yms W Try.prog a (@Ytz W Xee)
theorem Xh9 (meas : [InW] -> List Ed -> Nat) (hyp_ : ∀ (W : InW) k (u n : Nat) z i a b l K, Xdc [.i k, .i u, .i n, .i z, .i i, .i a, .i b, .l l] K -> ∀ A : List Ed -> Prop, (∀ e, meas e < meas [.i k, .i u, .i n, .i z, .i i, .i a, .i b, .l l] -> Xdc e K -> A e) -> Xck k u n z i a b l A K) : Xdx :=
 LE.okOf' (fun W => @TT W) (fun W => @Xb W) Xa T0 1000 50 (by kernel_rfl) Xee (fun W => @meas W) fun W k u n z i a b l K hs =>
  (Xg3 W k u n z i a b l (fun e => meas e < meas [.i k, .i u, .i n, .i z, .i i, .i a, .i b, .l l] /\ Xdc e K) K).mpr (hyp_ W k u n z i a b l K hs _ fun e h1 h2 => ⟨h1, h2⟩)
theorem Xj6 : Xdx := Xh9 (fun e => match e with | _ :: _ :: _ :: .i z :: .i i :: _ => (z - i).toNat | _ => 0) fun W k u n z i a b L K hs A hA => by
 obtain ⟨⟨lv, hL, k1, k2, hu, hn, hz, h0, h1, a0, a1, b0, b1⟩, hk⟩ := hs;unfold Xck;delta Zbc;have hu0 : u = 0 := by omega
 subst hu0
 by_cases hi' : i < z
 ·have v0 := lv.ok i.toNat (by omega);have v1 := lv.ok (i + k - 1).toNat (by omega);have en : (z - i).toNat = (z - (i + 1)).toNat + 1 := by omega
  have lt : (z - (i + 1)).toNat < (z - i).toNat := by omega
  rw [en] at hk;simp only [Sp.narF, Int.toNat_of_nonneg h0, show i.toNat + 1 = (i + 1).toNat by omega] at hk;have hz1 : i + 1 ≠ 0 := by omega
  refine vifd (fun _ => ?_) (fun h => absurd hi' h);simp only [Nat.zero_add];refine ned (by simp; omega) (nedd (by omega) (ar64 (by omega) (ar64 (by omega) (ned (by simp; omega) (nedd (by omega) ?_)))));refine vifd (fun hi0 => ?_) (fun hi0 => ar64 (by omega) (ar64 (by omega) (vifd (fun hlt => ?_) (fun hlt => ?_))))
  ·rw [if_pos hi0, if_pos (show (cel L (i + k - 1).toNat 0).int - (cel L i.toNat 0).int < 16001 - 0 by omega)] at hk;exact ar64 (by omega) (hA _ lt ⟨⟨lv, hL, k1, k2, hu, hn, hz, by omega, by omega, by omega, by omega, by omega, by omega⟩, by rw [if_neg hz1]; exact hk⟩)
  ·rw [if_neg hi0, if_pos hlt] at hk;exact ar64 (by omega) (hA _ lt ⟨⟨lv, hL, k1, k2, hu, hn, hz, by omega, by omega, by omega, by omega, by omega, by omega⟩, by rw [if_neg hz1]; exact hk⟩)
  ·rw [if_neg hi0, if_neg hlt] at hk;exact ar64 (by omega) (hA _ lt ⟨⟨lv, hL, k1, k2, hu, hn, hz, by omega, by omega, a0, a1, b0, b1⟩, by rw [if_neg hz1]; exact hk⟩)
 ·refine vifd (fun h => absurd h hi') (fun _ => ?_);have hi0 : i ≠ 0 := by omega
  rw [show (z - i).toNat = 0 by omega, if_neg hi0] at hk;exact hk
noncomputable def Xkr : LE Try.prog := ⟨28, 15, fun W => @Ytz W Xee, Xj6⟩
noncomputable def T31 : Tab Try.prog := ⟨[], [Xkr], [ceOf Xg Xb3, ceOf Xe Xr, ceOf (X6 17) (Xgv 17), ceOf Xfh Xi4]⟩
def Zbo [W : InW] (kQ : Ro Ja) (k_Ws : Ro Jb) (k_Lo k_Hi : Int) := Sp.lvG kQ.xs k_Lo k_Hi (kQ.xs.length - Int.toNat Zk) Zk { a := (cel k_Ws.xs Zbc Zbc).int, b := (cel k_Ws.xs (1 : Nat) Zbc).int, c := (cel k_Ws.xs (2 : Nat) Zbc).int, d := (cel k_Ws.xs (3 : Nat) Zbc).int }
def Xbk [W : InW] (kQ : Ro Ja) (k_Ws : Ro Jb) (k_Lo k_Hi n : Int) (Q : DS -> Prop) : Prop :=
 Vif (decide (Sp.chkE kQ.xs k_Ws.xs k_Lo k_Hi = 0)) (Vif (decide (n < 1)) (Q [[Cl.i 0, Cl.i 0], [Cl.i 7]]) (Pre (Sp.BkOk kQ.xs k_Ws.xs k_Lo k_Hi (Sp.wts kQ.xs (kQ.xs.length)) /\ Sp.StOk kQ.xs Zk Zk { a := (cel k_Ws.xs Zbc Zbc).int, b := (cel k_Ws.xs (1 : Nat) Zbc).int, c := (cel k_Ws.xs (2 : Nat) Zbc).int, d := (cel k_Ws.xs (3 : Nat) Zbc).int } /\ Sp.MemoOk kQ.xs k_Lo k_Hi [] /\ kQ.xs.length - Int.toNat Zk < 17 /\ (↑Zbc : Int) + Sp.cnt kQ.xs k_Lo k_Hi (kQ.xs.length - Int.toNat Zk) Zk { a := (cel k_Ws.xs Zbc Zbc).int, b := (cel k_Ws.xs (1 : Nat) Zbc).int, c := (cel k_Ws.xs (2 : Nat) Zbc).int, d := (cel k_Ws.xs (3 : Nat) Zbc).int } <= (65536 : Int)) (Sp.FaM (Sp.MemoOk kQ.xs k_Lo k_Hi) fun ys => Vif (decide ((↑(List.length (Zbo kQ k_Ws k_Lo k_Hi)) : Int) < n)) (Q [[Cl.i 0, Cl.i 0], [Cl.i 9]]) (Pre (Zbc < List.length (Zbo kQ k_Ws k_Lo k_Hi) /\ List.length (Zbo kQ k_Ws k_Lo k_Hi) <= 65536) (Ar .i64 ((↑(List.length (Sp.sortD (Zbo kQ k_Ws k_Lo k_Hi))) : Int) - n) fun z => Ar .i64 (z + 1) fun z => Need (decide (0 <= z)) (Need (decide (Zbc <= z.toNat) && decide (z.toNat <= List.length (Sp.sortD (Zbo kQ k_Ws k_Lo k_Hi)))) (Pre (Sp.LvOk (Sp.sortD (Zbo kQ k_Ws k_Lo k_Hi)) /\ List.length (Sp.sortD (Zbo kQ k_Ws k_Lo k_Hi)) <= 65536 /\ 1 <= n /\ n <= (↑(List.length (Sp.sortD (Zbo kQ k_Ws k_Lo k_Hi))) : Int) /\ (↑Zbc : Int) = 0 /\ (↑(z.toNat - 0) : Int) = (↑(z.toNat - 0) : Int) /\ (↑(z.toNat - 0) : Int) = (↑(List.length (Sp.sortD (Zbo kQ k_Ws k_Lo k_Hi))) : Int) - n + 1 /\ Zk <= 0 /\ Zk <= (↑(z.toNat - 0) : Int) /\ Zk <= 0 /\ Zk <= 16001 /\ Zk <= 0 /\ Zk <= 16001) (Q [[Cl.i (Sp.narF (Sp.sortD (Zbo kQ k_Ws k_Lo k_Hi)) n Zl ((↑(z.toNat - 0) : Int) - 0).toNat { lo := Zk, hi := (16001 : Int) }).lo, Cl.i (Sp.narF (Sp.sortD (Zbo kQ k_Ws k_Lo k_Hi)) n Zl ((↑(z.toNat - 0) : Int) - 0).toNat { lo := Zk, hi := (16001 : Int) }).hi], [Cl.i 0]])))))))) (Vif (!decide (Sp.chkE kQ.xs k_Ws.xs k_Lo k_Hi = 0)) (Q [[Cl.i 0, Cl.i 0], [Cl.i (Sp.chkE kQ.xs k_Ws.xs k_Lo k_Hi)]]) (Vif (decide (n < 1)) (Q [[Cl.i 0, Cl.i 0], [Cl.i 7]]) ((16 : Nat) = 16 + 1)))
theorem Xfy (W : InW) (kQ k_Ws k_Lo k_Hi n Q) : Yw5 (cxT Try.prog TT T31 1000 50) 1000 28 [.agg [.rs _ kQ, .rs _ k_Ws, .si .i64 k_Lo, .si .i64 k_Hi], .si .i64 n] [] 0 (Y1i [(true, [.int .i64, .int .i64]), (false, [.int .i64])] Q) (fun _ _ _ _ => Stuck 421) = Xbk kQ k_Ws k_Lo k_Hi n Q := by kernel_rfl
abbrev X1 : List AT := [.agg [.sl Ja, .sl Jb, .int .i64, .int .i64], .one (.int .i64)]
theorem Xgc {pre : DS -> Prop} {res : DS -> DS} (hyp_ : ∀ (W : InW) (kQ : Ro Ja) (k_Ws : Ro Jb) (k_Lo k_Hi n : Int), pre [[.l kQ.xs, .l k_Ws.xs, .i k_Lo, .i k_Hi], [.i n]] -> ∀ Q : DS -> Prop, Q (res [[.l kQ.xs, .l k_Ws.xs, .i k_Lo, .i k_Hi], [.i n]]) -> Xbk kQ k_Ws k_Lo k_Hi n Q) : PureOk Try.prog 28 X1 [(true, [.int .i64, .int .i64]), (false, [.int .i64])] pre res :=
 PureOk.of' (fun W => @TT W) (fun W => @Xb W) Xa T31 1000 50 fun W kQ k_Ws k_Lo k_Hi n hp =>
  (Xfy W kQ k_Ws k_Lo k_Hi n (fun o => o = res [[.l kQ.xs, .l k_Ws.xs, .i k_Lo, .i k_Hi], [.i n]])).mpr (hyp_ W kQ k_Ws k_Lo k_Hi n hp _ rfl)
theorem Xh3 : PureOk Try.prog 28 X1 [(true, [.int .i64, .int .i64]), (false, [.int .i64])] (fun _ => True) Xt :=
 Xgc fun W qs ws lo hi k hp Q h => by
  unfold Xbk;delta Zl Zbo Zk Zbc;refine vifd (fun e => ?_) (fun e => vifn (fun _ => ?_) (fun e2 => absurd e2 e))
  ·have bv := Sp.chkE_iff.1 e;have hl := Sp.length_levD qs.xs ws.xs lo hi;have hs := Xs (Sp.levD qs.xs ws.xs lo hi);have hn := bv.n2;have b2 : 0 <= Sp.total qs.xs ws.xs lo hi /\ Sp.total qs.xs ws.xs lo hi <= 65536 := Sp.cnt_16 bv.n2 0 (Sp.v0 ws.xs);have eL : Sp.lvG qs.xs lo hi (qs.xs.length - Int.toNat 0) 0 ⟨(cel ws.xs 0 0).int, (cel ws.xs 1 0).int, (cel ws.xs 2 0).int, (cel ws.xs 3 0).int⟩ = Sp.levD qs.xs ws.xs lo hi := Sp.lvG_all qs.xs ws.xs lo hi;simp only [Xt, Sp.fairR, Sp.fairE, if_pos e] at h;refine vifd (fun h1 => ?_) (fun h1 => ⟨⟨bv.bk, bv.st, Sp.memo_nil, by omega, ?_⟩, ⟨fun ys hy => ?_⟩⟩)
   ·rw [if_neg (show ¬ 1 <= k by omega), if_neg (by decide)] at h; exact h
   ·show ((0 : Nat) : Int) + Sp.total qs.xs ws.xs lo hi <= 65536
    omega
   ·rw [eL];rw [if_pos (show 1 <= k by omega)] at h;refine vifd (fun h2 => ?_) (fun h2 => ?_)
    ·rw [if_neg (show ¬ k <= Sp.total qs.xs ws.xs lo hi by omega), if_neg (by decide)] at h; exact h
    ·rw [if_pos (show k <= Sp.total qs.xs ws.xs lo hi by omega), if_pos rfl] at h;rw [Sp.srt_same] at h;unfold Sp.nar at h;refine ⟨by omega, ar64 (by omega) (ar64 (by omega) (nedd (by omega) (ned (by simp; omega) ⟨⟨(Sp.levD_ok bv).sort, by omega, by omega, by omega, by omega, by omega, by omega, by omega, by omega, by omega, by omega, by omega, by omega⟩, ?_⟩)))⟩;rw [show ((((List.length (Sp.sortD (Sp.levD qs.xs ws.xs lo hi)) : Int) - k + 1).toNat - 0 : Nat) - 0 : Int).toNat = (Sp.sortD (Sp.levD qs.xs ws.xs lo hi)).length - k.toNat + 1 by omega];exact h
  ·simp only [Xt, Sp.fairR, Sp.fairE, if_neg e] at h; exact h
noncomputable def Xf6 : PC Try.prog := ⟨28, X1, [(true, [.int .i64, .int .i64]), (false, [.int .i64])], fun _ => True, Xt, Xh3⟩
namespace Sp
def hasF (b : Dt) (x : Int) (k : Nat) : Bool := decide (x = (cel b k 0).int)
def hasK (b : Dt) (x : Int) (k : Nat) : Bool := anyF (hasF b x) 0 k
def idxOf (b : Dt) (x : Int) : Int := if hasK b x b.length = true then (fstF (hasF b x) 0 b.length : Nat) else -1
def cmF (a b : Dt) (i : Nat) : Int := if hasK b (cel a i 0).int b.length = true then 1 else 0
def cmn (a b : Dt) : Int := sumN (cmF a b) 0 a.length
structure NoD (b : Dt) : Prop where
 ok : ∀ i k, i < k -> k < b.length -> (cel b i 0).int ≠ (cel b k 0).int
theorem cmF_b (a b : Dt) : ∀ n, 0 <= sumN (cmF a b) 0 n /\ sumN (cmF a b) 0 n <= n
 | 0 => by simp [sumN]
 | n + 1 => by
  have := cmF_b a b n;rw [sumN_last];have h2 : cmF a b (0 + n) = 1 \/ cmF a b (0 + n) = 0 := by
   unfold cmF; split
   ·exact .inl rfl
   ·exact .inr rfl
  omega
def bfD (S seat : Int) : Dt := (if S <= seat then [[.i (seat - S)]] else []) ++ (if 0 < seat.tmod S then [[.i (seat - 1)]] else [])
def apF (ps p l : Dt) (c : Int) (j : Nat) : Bool := decide (cmn (cel ps (cel l j 0).int.toNat 0).lst p <= c)
def apP (ps p : Dt) (S seat c : Int) : Bool := allF (apF ps p (bfD S seat) c) 0 (bfD S seat).length
structure ApOk (S seat : Int) (ps p : Dt) : Prop where
 s1 : 1 <= S
 s6 : S <= 6
 t0 : 0 <= seat
 t1 : seat <= ps.length
 nod : NoD p
end Sp
def Xf3 [InW] (e : List Ed) (K : Nat -> List Ed -> Prop) : Prop := match e with
 | [.ro _ xs, .i x, .i n, .i i] => Pre (n = xs.xs.length /\ 0 <= i /\ i <= n) (Vif (Sp.anyF (Sp.hasF xs.xs x) i.toNat (xs.xs.length - i.toNat)) (K 1 [.i ((Sp.fstF (Sp.hasF xs.xs x) i.toNat (xs.xs.length - i.toNat) : Nat) : Int)]) (K 0 []))
 | _ => False
noncomputable def Xgh : LC where
 len := 19
 T := [(0, .rs Jb), (1, .int .i64), (7, .int .i64), (8, .int .i64)]
 H := []
 W := ([4, 5] ++ rg 9 10)
 outs := [⟨.exit 0, [], [], ([0, 1, 4, 5] ++ rg 7 12)⟩, ⟨.ret, [(4, .int .i64)], [], ([0, 1, 5] ++ rg 7 12)⟩]
 spec := Xf3
def Xft [W : InW] (xs : Ro Jb) (x n i : Int) (A : List Ed -> Prop) (K : Nat -> List Ed -> Prop) : Prop :=
 Vif (decide (i < n)) (Need (decide (0 <= i) && decide (i < (↑(xs.xs.length) : Int))) (Need (decide (i.toNat < xs.xs.length)) (Vif (decide (x = (cel xs.xs i.toNat (0 : Nat)).int)) (K (0+1) [.i i]) (Ar .i64 (i + 1) fun z => A [.ro _ xs, .i x, .i n, .i z])))) (K 0 [])
theorem Xjb (W : InW) (xs x n i A K) : Yff { cxT Try.prog TT T0 1000 50 with fn := 91 } 1000 (Yob Try.prog 91 3) (Yd6 19 [(0, .rs _ xs), (1, .si .i64 x), (7, .si .i64 n), (8, .si .i64 i)] ([4, 5] ++ rg 9 10)) [] (Yut Xgh A K) = Xft xs x n i A K := by kernel_rfl
def Xfc : Prop := ∀ (W : InW) (body a : Code), (Try.prog.funcs[91]?).bind (·.body) = some body -> a ∈ Yy body -> Yf0 a = 3 -> @Yms W Try.prog a (@Ytz W Xgh)
theorem Xju (meas : [InW] -> List Ed -> Nat) (hyp_ : ∀ (W : InW) xs x n i K, Xf3 [.ro _ xs, .i x, .i n, .i i] K -> ∀ A : List Ed -> Prop, (∀ e, meas e < meas [.ro _ xs, .i x, .i n, .i i] -> Xf3 e K -> A e) -> Xft xs x n i A K) : Xfc :=
 LE.okOf' (fun W => @TT W) (fun W => @Xb W) Xa T0 1000 50 (by kernel_rfl) Xgh (fun W => @meas W) fun W xs x n i K hs =>
  (Xjb W xs x n i (fun e => meas e < meas [.ro _ xs, .i x, .i n, .i i] /\ Xf3 e K) K).mpr (hyp_ W xs x n i K hs _ fun e h1 h2 => ⟨h1, h2⟩)
theorem okLix : Xfc := Xju (fun e => match e with | [_, _, .i n, .i i] => (n - i).toNat | _ => 0) fun W xs x n i K hs A hA => by
 obtain ⟨⟨rfl, h0, h1⟩, hk⟩ := hs;unfold Xft;have hm := xs.len;simp only [maxLen] at hm
 by_cases hi' : i < xs.xs.length
 ·rw [show xs.xs.length - i.toNat = (xs.xs.length - (i + 1).toNat) + 1 by omega] at hk;obtain ⟨g1, g2⟩ := Xev (K1 := fun j => K 1 [.i (j : Int)]) hk;rw [show i.toNat + 1 = (i + 1).toNat by omega] at g2;refine vifd (fun _ => ?_) (fun h => absurd hi' h);refine ned (by simp; omega) (nedd (by omega) (vifd (fun e => ?_) (fun e => ?_)))
  ·have := g1 (decide_eq_true e);rw [Int.toNat_of_nonneg h0] at this;exact this
  ·exact ar64 (by omega) (hA _ (by show ((xs.xs.length : Int) - (i + 1)).toNat < ((xs.xs.length : Int) - i).toNat; omega) ⟨⟨rfl, by omega, by omega⟩, g2 (decide_eq_false e)⟩)
 ·refine vifd (fun h => absurd h hi') (fun _ => ?_);rw [show xs.xs.length - i.toNat = 0 by omega] at hk;exact hk.2 rfl
noncomputable def le_ix : LE Try.prog := ⟨91, 3, fun W => @Ytz W Xgh, okLix⟩
noncomputable def T32 : Tab Try.prog := ⟨[], [le_ix], []⟩
def Xi6 [W : InW] (xs : Ro Jb) (x : Int) (Q : DS -> Prop) : Prop :=
 Pre ((↑(xs.xs.length) : Int) = (↑(xs.xs.length) : Int) /\ Zk <= 0 /\ Zk <= (↑(xs.xs.length) : Int)) (Vif (Sp.anyF (Sp.hasF xs.xs x) Zl (xs.xs.length - Int.toNat Zk)) (Q [[Cl.i (↑(Sp.fstF (Sp.hasF xs.xs x) Zl (xs.xs.length - Int.toNat Zk)) : Int)]]) (Q [[Cl.i (-1 : Int)]]))
theorem vc_ix (W : InW) (xs x Q) : Yw5 (cxT Try.prog TT T32 1000 50) 1000 91 [.rs _ xs, .si .i64 x] [] 0 (Y1i [(false, [.int .i64])] Q) (fun _ _ _ _ => Stuck 421) = Xi6 xs x Q := by kernel_rfl
abbrev Xfi : List AT := [.one (.sl Jb), .one (.int .i64)]
theorem ok_ix {pre : DS -> Prop} {res : DS -> DS} (hyp_ : ∀ (W : InW) (xs : Ro Jb) (x : Int), pre [[.l xs.xs], [.i x]] -> ∀ Q : DS -> Prop, Q (res [[.l xs.xs], [.i x]]) -> Xi6 xs x Q) : PureOk Try.prog 91 Xfi [(false, [.int .i64])] pre res :=
 PureOk.of' (fun W => @TT W) (fun W => @Xb W) Xa T32 1000 50 fun W xs x hp =>
  (vc_ix W xs x (fun o => o = res [[.l xs.xs], [.i x]])).mpr (hyp_ W xs x hp _ rfl)
abbrev Xez (ds : DS) : DS := match ds with | [[.l xs], [.i x]] => [[.i (Sp.idxOf xs x)]] | _ => []
theorem okix : PureOk Try.prog 91 Xfi [(false, [.int .i64])] (fun _ => True) Xez :=
 ok_ix fun W xs x hp Q h => by
  unfold Xi6;delta Zl Zk;simp only [Xez, Sp.idxOf] at h;simp only [show Int.toNat 0 = 0 from rfl, Nat.sub_zero];refine ⟨⟨trivial, by omega, by omega⟩, vif (fun e => ?_) fun e => ?_⟩
  ·rw [if_pos (show Sp.hasK xs.xs x xs.xs.length = true from e)] at h; exact h
  ·rw [if_neg (show ¬ Sp.hasK xs.xs x xs.xs.length = true by unfold Sp.hasK; rw [e]; decide)] at h; exact h
noncomputable def pc_ix : PC Try.prog := ⟨91, Xfi, [(false, [.int .i64])], fun _ => True, Xez, okix⟩
noncomputable def T33 : Tab Try.prog := ⟨[pc_ix], [], []⟩
def Xf5 [InW] (e : List Ed) (K : Nat -> List Ed -> Prop) : Prop := match e with
 | [.ro _ b, .i n, .ro _ a, .i z, .i i] => Pre (z = a.xs.length /\ 0 <= i /\ i <= z /\ n = Sp.sumN (Sp.cmF a.xs b.xs) 0 i.toNat) (K 0 [.i (Sp.cmn a.xs b.xs)])
 | _ => False
noncomputable def Xgj : LC where
 len := 20
 T := [(1, .rs Jb), (4, .int .i64), (7, .rs Jb), (8, .int .i64), (9, .int .i64)]
 H := []
 W := ([6] ++ rg 10 9)
 outs := [⟨.exit 0, [(4, .int .i64)], [], ([1] ++ rg 6 13)⟩]
 spec := Xf5
def Xfv [W : InW] (b : Ro Jb) (n : Int) (a : Ro Jb) (z i : Int) (A : List Ed -> Prop) (K : Nat -> List Ed -> Prop) : Prop :=
 Vif (decide (i < z)) (Need (decide (0 <= i) && decide (i < (↑(a.xs.length) : Int))) (Need (decide (i.toNat < a.xs.length)) (Pre True (Vif (decide ((0 : Int) <= Sp.idxOf b.xs (cel a.xs i.toNat (0 : Nat)).int)) (Ar .i64 (n + 1) fun z_1 => Ar .i64 (i + 1) fun z_2 => A [.ro _ b, .i z_1, .ro _ a, .i z, .i z_2]) (Ar .i64 (i + 1) fun z_1 => A [.ro _ b, .i n, .ro _ a, .i z, .i z_1]))))) (K 0 [.i n])
theorem Xjd (W : InW) (b n a z i A K) : Yff { cxT Try.prog TT T33 1000 50 with fn := 68 } 1000 (Yob Try.prog 68 3) (Yd6 20 [(1, .rs _ b), (4, .si .i64 n), (7, .rs _ a), (8, .si .i64 z), (9, .si .i64 i)] ([6] ++ rg 10 9)) [] (Yut Xgj A K) = Xfv b n a z i A K := by kernel_rfl
def Xfe : Prop := ∀ (W : InW) (body a : Code), (Try.prog.funcs[68]?).bind (·.body) = some body -> a ∈ Yy body -> Yf0 a = 3 -> @Yms W Try.prog a (@Ytz W Xgj)
theorem Xjw (meas : [InW] -> List Ed -> Nat) (hyp_ : ∀ (W : InW) b n a z i K, Xf5 [.ro _ b, .i n, .ro _ a, .i z, .i i] K -> ∀ A : List Ed -> Prop, (∀ e, meas e < meas [.ro _ b, .i n, .ro _ a, .i z, .i i] -> Xf5 e K -> A e) -> Xfv b n a z i A K) : Xfe :=
 LE.okOf' (fun W => @TT W) (fun W => @Xb W) Xa T33 1000 50 (by kernel_rfl) Xgj (fun W => @meas W) fun W b n a z i K hs =>
  (Xjd W b n a z i (fun e => meas e < meas [.ro _ b, .i n, .ro _ a, .i z, .i i] /\ Xf5 e K) K).mpr (hyp_ W b n a z i K hs _ fun e h1 h2 => ⟨h1, h2⟩)
theorem Sp.idxOf_iff (b : Dt) (x : Int) : decide (0 <= Sp.idxOf b x) = Sp.hasK b x b.length := by
 unfold Sp.idxOf
 split
 ·rename_i h; rw [h]; exact decide_eq_true (by omega)
 ·rename_i h; rw [Bool.eq_false_iff.2 h]; rfl
theorem okLcm : Xfe := Xjw (fun e => match e with | [_, _, _, .i z, .i i] => (z - i).toNat | _ => 0) fun W b n a z i K hs A hA => by
 obtain ⟨⟨hz, h0, h1, hn⟩, hk⟩ := hs;unfold Xfv;have hm := a.len;simp only [maxLen] at hm;have hb := Sp.cmF_b a.xs b.xs i.toNat
 by_cases hi' : i < z
 ·have e2 : Sp.sumN (Sp.cmF a.xs b.xs) 0 (i + 1).toNat = n + Sp.cmF a.xs b.xs i.toNat := by
   rw [show (i + 1).toNat = i.toNat + 1 by omega, Sp.sumN_last, <- hn, Nat.zero_add]
  have lt : (z - (i + 1)).toNat < (z - i).toNat := by omega
  refine vifd (fun _ => ?_) (fun h => absurd hi' h);rw [Sp.idxOf_iff];refine ned (by simp; omega) (nedd (by omega) ⟨trivial, vif (fun e => ?_) (fun e => ?_)⟩)
  ·rw [Sp.cmF, if_pos e] at e2;exact ar64 (by omega) (ar64 (by omega) (hA _ lt ⟨⟨hz, by omega, by omega, e2.symm⟩, hk⟩))
  ·rw [Sp.cmF, if_neg (by rw [e]; decide)] at e2;exact ar64 (by omega) (hA _ lt ⟨⟨hz, by omega, by omega, by omega⟩, hk⟩)
 ·refine vifd (fun h => absurd h hi') (fun _ => ?_);rw [hn, show i.toNat = a.xs.length by omega];exact hk
noncomputable def le_cm : LE Try.prog := ⟨68, 3, fun W => @Ytz W Xgj, okLcm⟩
noncomputable def T34 : Tab Try.prog := ⟨[], [le_cm], []⟩
abbrev Xgs (ds : DS) : DS := match ds with | [[.l a], [.l b]] => [[.i (Sp.cmn a b)]] | _ => []
def Xi8 [W : InW] (a b : Ro Jb) (Q : DS -> Prop) : Prop :=
 Pre ((↑(a.xs.length) : Int) = (↑(a.xs.length) : Int) /\ (0 : Int) <= 0 /\ (0 : Int) <= (↑(a.xs.length) : Int) /\ (0 : Int) = Sp.sumN (Sp.cmF a.xs b.xs) (0 : Nat) (Int.toNat (0 : Int))) (Q [[Cl.i (Sp.cmn a.xs b.xs)]])
theorem vc_cm (W : InW) (a b Q) : Yw5 (cxT Try.prog TT T34 1000 50) 1000 68 [.rs _ a, .rs _ b] [] 0 (Y1i [(false, [.int .i64])] Q) (fun _ _ _ _ => Stuck 421) = Xi8 a b Q := by kernel_rfl
abbrev Xfl : List AT := [.one (.sl Jb), .one (.sl Jb)]
theorem ok_cm {pre : DS -> Prop} {res : DS -> DS} (hyp_ : ∀ (W : InW) (a b : Ro Jb), pre [[.l a.xs], [.l b.xs]] -> ∀ Q : DS -> Prop, Q (res [[.l a.xs], [.l b.xs]]) -> Xi8 a b Q) : PureOk Try.prog 68 Xfl [(false, [.int .i64])] pre res :=
 PureOk.of' (fun W => @TT W) (fun W => @Xb W) Xa T34 1000 50 fun W a b hp =>
  (vc_cm W a b (fun o => o = res [[.l a.xs], [.l b.xs]])).mpr (hyp_ W a b hp _ rfl)
theorem okcm : PureOk Try.prog 68 Xfl [(false, [.int .i64])] (fun _ => True) Xgs :=
 ok_cm fun W a b hp Q h => by
  unfold Xi8;exact ⟨⟨rfl, by omega, by omega, rfl⟩, h⟩
noncomputable def pc_cm : PC Try.prog := ⟨68, Xfl, [(false, [.int .i64])], fun _ => True, Xgs, okcm⟩
abbrev Xgu (ds : DS) : Prop := match ds with | [[.i r, .i S, .i c], [.l ps], [.i s], [.l p]] => Sp.ApOk S s ps p /\ s <= 65536 | _ => False
abbrev Xe1 (ds : DS) : DS := match ds with | [[.i r, .i S, .i c], [.l ps], [.i s], [.l p]] => [[.b (Sp.apP ps p S s c)]] | _ => []
noncomputable def T39 : Tab Try.prog := ⟨[pc_cm], [], []⟩
def Zbp [W : InW] (h_Seats h_Com : Int) (ps : Ro Jc) (s : Int) (p : Ro Jb) (Q : DS -> Prop) := Need (!decide (h_Seats = 0)) (Vif (decide (0 < s.tmod h_Seats)) (Ar .i64 (s - 1) fun z => Need (decide (0 <= z) && decide (z < (↑(ps.xs.length) : Int))) (Need (decide (z.toNat < ps.xs.length)) (Pre True (Vif (decide (h_Com < Sp.cmn (cel ps.xs z.toNat (0 : Nat)).lst p.xs)) (Q [[Cl.b false]]) (Q [[Cl.b true]]))))) (Q [[Cl.b true]]))
def Xcc [W : InW] (h_Rows h_Seats h_Com : Int) (ps : Ro Jc) (s : Int) (p : Ro Jb) (Q : DS -> Prop) : Prop :=
 Vif (decide (h_Seats <= s)) (Ar .i64 (s - h_Seats) fun z => Need (decide (0 <= z) && decide (z < (↑(ps.xs.length) : Int))) (Need (decide (z.toNat < ps.xs.length)) (Pre True (Vif (decide (h_Com < Sp.cmn (cel ps.xs z.toNat (0 : Nat)).lst p.xs)) (Q [[Cl.b false]]) (Zbp h_Seats h_Com ps s p Q))))) (Zbp h_Seats h_Com ps s p Q)
theorem Xht (W : InW) (h_Rows h_Seats h_Com ps s p Q) : Yw5 (cxT Try.prog TT T39 1000 50) 1000 57 [.agg [.si .i64 h_Rows, .si .i64 h_Seats, .si .i64 h_Com], .rs _ ps, .si .i64 s, .rs _ p] [] 0 (Y1i [(false, [.bool])] Q) (fun _ _ _ _ => Stuck 421) = Xcc h_Rows h_Seats h_Com ps s p Q := by kernel_rfl
abbrev Xbg : List AT := [.agg [.int .i64, .int .i64, .int .i64], .one (.sl Jc), .one (.int .i64), .one (.sl Jb)]
theorem Xiz {pre : DS -> Prop} {res : DS -> DS} (hyp_ : ∀ (W : InW) (h_Rows h_Seats h_Com : Int) (ps : Ro Jc) (s : Int) (p : Ro Jb), pre [[.i h_Rows, .i h_Seats, .i h_Com], [.l ps.xs], [.i s], [.l p.xs]] -> ∀ Q : DS -> Prop, Q (res [[.i h_Rows, .i h_Seats, .i h_Com], [.l ps.xs], [.i s], [.l p.xs]]) -> Xcc h_Rows h_Seats h_Com ps s p Q) : PureOk Try.prog 57 Xbg [(false, [.bool])] pre res :=
 PureOk.of' (fun W => @TT W) (fun W => @Xb W) Xa T39 1000 50 fun W h_Rows h_Seats h_Com ps s p hp =>
  (Xht W h_Rows h_Seats h_Com ps s p (fun o => o = res [[.i h_Rows, .i h_Seats, .i h_Com], [.l ps.xs], [.i s], [.l p.xs]])).mpr (hyp_ W h_Rows h_Seats h_Com ps s p hp _ rfl)
theorem Sp.apP_eq (ps p : Dt) (S s c : Int) : Sp.apP ps p S s c = ((if S <= s then decide (Sp.cmn (cel ps (s - S).toNat 0).lst p <= c) else true) && (if 0 < s.tmod S then decide (Sp.cmn (cel ps (s - 1).toNat 0).lst p <= c) else true)) := by
 unfold Sp.apP Sp.bfD
 split
 ·split
  ·show (decide _ && (decide _ && true)) = _
   rw [Bool.and_true]; rfl
  ·rfl
 ·split
  ·show (decide _ && true) = _
   rw [Bool.and_true, Bool.true_and]; rfl
  ·rfl
theorem Xjq : PureOk Try.prog 57 Xbg [(false, [.bool])] Xgu Xe1 :=
 Xiz fun W r S c ps s p hp Q h => by
  obtain ⟨ao, hs⟩ := hp;unfold Xcc;delta Zbp;obtain ⟨s1, s6, t0, t1, _⟩ := ao;have hm : 0 < s.tmod S -> 1 <= s := fun h => by
   by_cases hz : s = 0
   ·rw [hz, Int.zero_tmod] at h; omega
   ·omega
  simp only [Xe1, Sp.apP_eq] at h;refine vifd (fun h1 => ar64 (by omega) (ned (by simp; omega) (nedd (by omega) ⟨trivial, vifd (fun h2 => ?_) (fun h2 => ned (by simp; omega) (vifd (fun h3 => ?_) (fun h3 => ?_)))⟩))) (fun h1 => ned (by simp; omega) (vifd (fun h3 => ?_) (fun h3 => ?_)))
  ·rw [if_pos h1, decide_eq_false (by omega)] at h; exact h
  ·have := hm h3;rw [if_pos h1, decide_eq_true (by omega), if_pos h3, Bool.true_and] at h;refine ar64 (by omega) (ned (by simp; omega) (nedd (by omega) ⟨trivial, vifd (fun h4 => ?_) (fun h4 => ?_)⟩))
   ·rw [decide_eq_false (by omega)] at h; exact h
   ·rw [decide_eq_true (by omega)] at h; exact h
  ·rw [if_pos h1, decide_eq_true (by omega), if_neg h3] at h; exact h
  ·have := hm h3;rw [if_neg h1, if_pos h3, Bool.true_and] at h;refine ar64 (by omega) (ned (by simp; omega) (nedd (by omega) ⟨trivial, vifd (fun h4 => ?_) (fun h4 => ?_)⟩))
   ·rw [decide_eq_false (by omega)] at h; exact h
   ·rw [decide_eq_true (by omega)] at h; exact h
  ·rw [if_neg h1, if_neg h3] at h; exact h
noncomputable def Xe5 : PC Try.prog := ⟨57, Xbg, [(false, [.bool])], Xgu, Xe1, Xjq⟩
namespace Sp
def hallE (qs ws : Dt) (lo hi r S c n : Int) : Int := if chkE qs ws lo hi = 0 then (if (inr r 1 5 && (inr S 1 6 && inr c 0 16)) = true then (if n = r * S then 0 else 3) else 7) else chkE qs ws lo hi
end Sp
noncomputable def T41 : Tab Try.prog := ⟨[Xe6], [], []⟩
namespace Sp
def eqF (a b : Dt) (i : Nat) : Bool := eqI (cel a i 0).lst (cel b i 0).lst
def eqL (a b : Dt) : Bool := decide (a.length = b.length) && allF (eqF a b) 0 a.length
end Sp
def Xf4 [InW] (e : List Ed) (K : Nat -> List Ed -> Prop) : Prop := match e with
 | [.ro _ a, .ro _ b, .i i] => Pre (0 <= i /\ i <= a.xs.length /\ a.xs.length = b.xs.length) (Vif (Sp.allF (Sp.eqF a.xs b.xs) i.toNat (a.xs.length - i.toNat)) (K 0 []) (K 1 []))
 | _ => False
noncomputable def Xgi : LC where
 len := 27
 T := [(0, .rs Jc), (1, .rs Jc), (5, .int .i64)]
 H := []
 W := ([4] ++ rg 11 16)
 outs := [⟨.exit 0, [], [], ([0, 1, 4, 5] ++ rg 11 16)⟩, ⟨.ret, [(4, (.lit (.bool false)))], [], ([0, 1, 5] ++ rg 11 16)⟩]
 spec := Xf4
def Xfu [W : InW] (a b : Ro Jc) (i : Int) (A : List Ed -> Prop) (K : Nat -> List Ed -> Prop) : Prop :=
 Vif (decide (i < (↑(a.xs.length) : Int))) (Need (decide (0 <= i) && decide (i < (↑(a.xs.length) : Int))) (Need (decide (i.toNat < a.xs.length)) (Need (decide (0 <= i) && decide (i < (↑(b.xs.length) : Int))) (Need (decide (i.toNat < b.xs.length)) (Pre True (Vif (!Sp.eqI (cel a.xs i.toNat (0 : Nat)).lst (cel b.xs i.toNat (0 : Nat)).lst) (K (0+1) []) (Ar .i64 (i + 1) fun z => A [.ro [Ty.sl [Ty.int IntKind.i64]] a, .ro [Ty.sl [Ty.int IntKind.i64]] b, .i z]))))))) (K 0 [])
theorem Xjc (W : InW) (a b i A K) : Yff { cxT Try.prog TT T41 1000 50 with fn := 32 } 1000 (Yob Try.prog 32 5) (Yd6 27 [(0, .rs _ a), (1, .rs _ b), (5, .si .i64 i)] ([4] ++ rg 11 16)) [] (Yut Xgi A K) = Xfu a b i A K := by kernel_rfl
def Xfd : Prop := ∀ (W : InW) (body a : Code), (Try.prog.funcs[32]?).bind (·.body) = some body -> a ∈ Yy body -> Yf0 a = 5 -> @Yms W Try.prog a (@Ytz W Xgi)
theorem Xjv (meas : [InW] -> List Ed -> Nat) (hyp_ : ∀ (W : InW) a b i K, Xf4 [.ro _ a, .ro _ b, .i i] K -> ∀ A : List Ed -> Prop, (∀ e, meas e < meas [.ro _ a, .ro _ b, .i i] -> Xf4 e K -> A e) -> Xfu a b i A K) : Xfd :=
 LE.okOf' (fun W => @TT W) (fun W => @Xb W) Xa T41 1000 50 (by kernel_rfl) Xgi (fun W => @meas W) fun W a b i K hs =>
  (Xjc W a b i (fun e => meas e < meas [.ro _ a, .ro _ b, .i i] /\ Xf4 e K) K).mpr (hyp_ W a b i K hs _ fun e h1 h2 => ⟨h1, h2⟩)
theorem okLeq : Xfd := Xjv (fun e => match e with | [.ro _ a, _, .i i] => ((a.xs.length : Int) - i).toNat | _ => 0) fun W a b i K hs A hA => by
 obtain ⟨⟨h0, h1, h2⟩, hk⟩ := hs;unfold Xfu;have hm := a.len;simp only [maxLen] at hm
 by_cases hi' : i < a.xs.length
 ·have lt : ((a.xs.length : Int) - (i + 1)).toNat < ((a.xs.length : Int) - i).toNat := by omega
  rw [show a.xs.length - i.toNat = (a.xs.length - (i + 1).toNat) + 1 by omega] at hk;obtain ⟨g1, g2⟩ := Xew hk;rw [show i.toNat + 1 = (i + 1).toNat by omega] at g1;refine vifd (fun _ => ?_) (fun h => absurd hi' h);refine ned (by simp; omega) (nedd (by omega) (ned (by simp; omega) (nedd (by omega) ⟨trivial, vif (fun e => ?_) (fun e => ?_)⟩)))
  ·exact g2 (by simpa [Sp.eqF] using e)
  ·exact ar64 (by omega) (hA _ lt ⟨⟨by omega, by omega, h2⟩, g1 (by simpa [Sp.eqF] using e)⟩)
 ·refine vifd (fun h => absurd h hi') (fun _ => ?_);rw [show a.xs.length - i.toNat = 0 by omega] at hk;exact hk.1 rfl
noncomputable def le_eq : LE Try.prog := ⟨32, 5, fun W => @Ytz W Xgi, okLeq⟩
noncomputable def T42 : Tab Try.prog := ⟨[], [le_eq], []⟩
abbrev Xbz (ds : DS) : DS := match ds with | [[.l a], [.l b]] => [[.b (Sp.eqL a b)]] | _ => []
def Xfq [W : InW] (a b : Ro Jc) (Q : DS -> Prop) : Prop :=
 Vif (!decide ((↑(a.xs.length) : Int) = (↑(b.xs.length) : Int))) (Q [[Cl.b false]]) (Pre (Zk <= 0 /\ Zk <= (↑(a.xs.length) : Int) /\ a.xs.length = b.xs.length) (Vif (Sp.allF (Sp.eqF a.xs b.xs) (Int.toNat Zk) (a.xs.length - Int.toNat Zk)) (Q [[Cl.b true]]) (Q [[Cl.b false]])))
theorem Xjh (W : InW) (a b Q) : Yw5 (cxT Try.prog TT T42 1000 50) 1000 32 [.rs _ a, .rs _ b] [] 0 (Y1i [(false, [.bool])] Q) (fun _ _ _ _ => Stuck 421) = Xfq a b Q := by kernel_rfl
abbrev Xb7 : List AT := [.one (.sl Jc), .one (.sl Jc)]
theorem Xj1 {pre : DS -> Prop} {res : DS -> DS} (hyp_ : ∀ (W : InW) (a b : Ro Jc), pre [[.l a.xs], [.l b.xs]] -> ∀ Q : DS -> Prop, Q (res [[.l a.xs], [.l b.xs]]) -> Xfq a b Q) : PureOk Try.prog 32 Xb7 [(false, [.bool])] pre res :=
 PureOk.of' (fun W => @TT W) (fun W => @Xb W) Xa T42 1000 50 fun W a b hp =>
  (Xjh W a b (fun o => o = res [[.l a.xs], [.l b.xs]])).mpr (hyp_ W a b hp _ rfl)
theorem okeql : PureOk Try.prog 32 Xb7 [(false, [.bool])] (fun _ => True) Xbz :=
 Xj1 fun W a b hp Q h => by
  unfold Xfq;delta Zk;simp only [Xbz, Sp.eqL] at h;refine vifn (fun e => ?_) (fun e => ⟨⟨by omega, by omega, by omega⟩, vif (fun f => ?_) (fun f => ?_)⟩)
  ·rw [decide_eq_false (by omega), Bool.false_and] at h; exact h
  ·rw [decide_eq_true (by omega), Bool.true_and, show Sp.allF (Sp.eqF a.xs b.xs) 0 a.xs.length = true from f] at h; exact h
  ·rw [decide_eq_true (by omega), Bool.true_and, show Sp.allF (Sp.eqF a.xs b.xs) 0 a.xs.length = false from f] at h; exact h
noncomputable def Xjl : PC Try.prog := ⟨32, Xb7, [(false, [.bool])], fun _ => True, Xbz, okeql⟩
noncomputable def T43 : Tab Try.prog := ⟨[Xh], [], [ceOf Xg Xb3]⟩
def Xgp [InW] (e : List Ed) (K : Nat -> List Ed -> Prop) : Prop := match e with
 | [.ro _ qs, .ro _ ws, .i lo, .i hi, .i r, .i S, .i c, .i n] => Vif (decide (Sp.hallE qs.xs ws.xs lo hi r S c n = 0)) (K 1 [.ro _ qs, .ro _ ws, .i lo, .i hi, .l (Sp.wts qs.xs qs.xs.length), .l []]) (K 0 [.i (Sp.hallE qs.xs ws.xs lo hi r S c n)])
 | _ => False
noncomputable def Xo : CC where
 g := 56
 args := [.agg [.rs Ja, .rs Jb, .int .i64, .int .i64], .agg [.int .i64, .int .i64, .int .i64], .int .i64]
 H := []
 outs := [⟨false, .tup [(.lit (.pointer none)), .int .i64], [], false⟩, ⟨false, .tup [(.ptr 6 0), (.lit (.int .i64 0))], [(6, .blk 82 [.rs Ja, .rs Jb, .int .i64, .int .i64, (.row 12), (.mp 18)]), (12, .arr 3 Jb), (18, .mpP)], false⟩]
 spec := Xgp
def Zbq [W : InW] : List Ed := [.i (7 : Int)]
def Xc3 [W : InW] (qs : Ro Ja) (ws : Ro Jb) (lo hi r s c n : Int) (K : Nat -> List Ed -> Prop) : Prop :=
 Vif (decide (Sp.chkE qs.xs ws.xs lo hi = 0)) (Pre True (Vif (Sp.out (1 : Int) (5 : Int) [[Cl.i r]]) (K 0 Zbq) (Pre True (Vif (Sp.out (1 : Int) (6 : Int) [[Cl.i s]]) (K 0 Zbq) (Pre True (Vif (Sp.out Zk (16 : Int) [[Cl.i c]]) (K 0 Zbq) (Ar .i64 (r * s) fun z => Vif (!decide (n = z)) (K 0 [.i (3 : Int)]) (K (0+1) [.ro _ qs, .ro _ ws, .i lo, .i hi, .l (Sp.wts qs.xs (qs.xs.length)), .l []])))))))) (Vif (!decide (Sp.chkE qs.xs ws.xs lo hi = 0)) (K 0 [.i (Sp.chkE qs.xs ws.xs lo hi)]) (Pre True (Vif (Sp.out (1 : Int) (5 : Int) [[Cl.i r]]) (K 0 Zbq) (Pre True (Vif (Sp.out (1 : Int) (6 : Int) [[Cl.i s]]) (K 0 Zbq) (Pre True (Vif (Sp.out Zk (16 : Int) [[Cl.i c]]) (K 0 Zbq) (Ar .i64 (r * s) fun z => Vif (!decide (n = z)) (K 0 [.i (3 : Int)]) (K 0 [.i Zk])))))))))
theorem Xhm (W : InW) (qs ws lo hi r s c n K) : Yw2 (cxT Try.prog TT T43 1000 50) 1000 56 [.agg [.rs _ qs, .rs _ ws, .si .i64 lo, .si .i64 hi], .agg [.si .i64 r, .si .i64 s, .si .i64 c], .si .i64 n] [] (fun v h => outC Xo.H [] Xo.outs 0 false v h K) (fun v h => outC Xo.H [] Xo.outs 0 true v h K) = Xc3 qs ws lo hi r s c n K := by kernel_rfl
theorem Xis (hyp_ : ∀ (W : InW) qs ws lo hi r s c n K, Xgp [.ro _ qs, .ro _ ws, .i lo, .i hi, .i r, .i s, .i c, .i n] K -> Xc3 qs ws lo hi r s c n K) : ∀ W : InW, @CallC W Try.prog Xo :=
 CC.okOf (fun W => @TT W) (fun W => @Xb W) Xa T43 1000 50 Xo fun W qs ws lo hi r s c n K hs => (Xhm W qs ws lo hi r s c n K).mpr (hyp_ W qs ws lo hi r s c n K hs)
theorem Xgy : ∀ W : InW, @CallC W Try.prog Xo := Xis fun W qs ws lo hi r S c n K hs => by
 unfold Xc3;delta Zk Zbq;have hs : Vif (decide (Sp.hallE qs.xs ws.xs lo hi r S c n = 0)) (K 1 [.ro _ qs, .ro _ ws, .i lo, .i hi, .l (Sp.wts qs.xs qs.xs.length), .l []]) (K 0 [.i (Sp.hallE qs.xs ws.xs lo hi r S c n)]) := hs;simp only [out1];have hb : Sp.hallE qs.xs ws.xs lo hi r S c n ≠ 0 -> K 0 [.i (Sp.hallE qs.xs ws.xs lo hi r S c n)] := fun e => hs.2 (decide_eq_false e);have hg : Sp.hallE qs.xs ws.xs lo hi r S c n = 0 -> _ := fun e => hs.1 (decide_eq_true e);unfold Sp.hallE at hb hg;clear hs;refine vifd (fun e => ⟨trivial, vifb (fun a => ?_) (fun a => ⟨trivial, vifb (fun b => ?_) (fun b => ⟨trivial, vifb (fun d => ?_) (fun d => ?_)⟩)⟩)⟩) (fun e => vifn (fun _ => ?_) (fun e2 => absurd e2 e))
 ·rw [if_pos e, a, Bool.false_and, if_neg (by decide)] at hb; exact hb (by decide)
 ·rw [if_pos e, a, b, Bool.false_and, Bool.and_false, if_neg (by decide)] at hb; exact hb (by decide)
 ·rw [if_pos e, a, b, d, Bool.and_false, Bool.and_false, if_neg (by decide)] at hb; exact hb (by decide)
 ·rw [if_pos e, a, b, d, Bool.and_self, Bool.and_self, if_pos rfl] at hb hg;have a2 := Sp.inr_iff.1 a;have b2 := Sp.inr_iff.1 b;have m1 : 0 <= r * S := Int.mul_nonneg (by omega) (by omega);have m2 : r * S <= 5 * 6 := Int.mul_le_mul a2.2 b2.2 (by omega) (by omega);refine ar64 (by omega) (vifn (fun f => ?_) (fun f => ?_))
  ·rw [if_neg f] at hb; exact hb (by decide)
  ·rw [if_pos f] at hg; exact hg rfl
 ·rw [if_neg e] at hb; exact hb e
namespace Sp
def accF (qs ws : Dt) (lo hi S c : Int) (ps : Dt) (i : Nat) : Int := if isP qs ws lo hi (cel ps i 0).lst = true then (if apP ps (cel ps i 0).lst S i c = true then 0 else 5) else 6
def accB (qs ws : Dt) (lo hi S c : Int) (ps : Dt) : Bool := hasE (accF qs ws lo hi S c ps) 0 ps.length
def accE (qs ws : Dt) (lo hi r S c : Int) (ps : Dt) : Int := if hallE qs ws lo hi r S c ps.length = 0 then (if accB qs ws lo hi S c ps = true then accF qs ws lo hi S c ps (idxE (accF qs ws lo hi S c ps) 0 ps.length) else 0) else hallE qs ws lo hi r S c ps.length
def accI (qs ws : Dt) (lo hi r S c : Int) (ps : Dt) : Int := if hallE qs ws lo hi r S c ps.length = 0 then (if accB qs ws lo hi S c ps = true then (idxE (accF qs ws lo hi S c ps) 0 ps.length : Nat) else 0) else 0
structure HallOk (r S c n : Int) : Prop where
 r1 : 1 <= r
 r5 : r <= 5
 s1 : 1 <= S
 s6 : S <= 6
 c0 : 0 <= c
 c16 : c <= 16
 n : n = r * S
theorem hallE_iff {qs ws : Dt} {lo hi r S c n : Int} : hallE qs ws lo hi r S c n = 0 ↔ BankV qs ws lo hi /\ HallOk r S c n := by
 unfold hallE;constructor
 ·intro h
  split at h
  ·rename_i h1
   split at h
   ·rename_i h2;simp only [Bool.and_eq_true, inr_iff] at h2
    split at h
    ·rename_i h3;exact ⟨chkE_iff.1 h1, by omega, by omega, by omega, by omega, by omega, by omega, h3⟩
    ·omega
   ·omega
  ·rename_i h1; exact absurd h h1
 ·rintro ⟨h1, h2⟩;obtain ⟨a1, a2, a3, a4, a5, a6, a7⟩ := h2;rw [if_pos (chkE_iff.2 h1), if_pos (by simp only [Bool.and_eq_true, inr_iff]; omega), if_pos a7]
theorem HallOk.few {r S c n : Int} (h : HallOk r S c n) : 0 <= n /\ n <= 30 := by
 obtain ⟨a1, a2, a3, a4, a5, a6, a7⟩ := h;have m1 : 0 <= r * S := Int.mul_nonneg (by omega) (by omega);have m2 : r * S <= 5 * 6 := Int.mul_le_mul a2 a4 (by omega) (by omega);omega
theorem isF_lt {qs xs : Dt} {n : Nat} (h : ∀ k, k < n -> isF qs xs k = true) : ∀ (d i : Nat), i + d + 1 < n -> (cel xs i 0).int < (cel xs (i + d + 1) 0).int
 | 0, i, hd => by
  have := h (i + 1) (by omega);simp only [isF, Bool.and_eq_true, inr_iff, Bool.or_eq_true, decide_eq_true_eq, Nat.add_sub_cancel] at this;exact this.2.resolve_left (by omega)
 | d + 1, i, hd => by
  have h1 := isF_lt h d i (by omega);have := h (i + (d + 1) + 1) (by omega);simp only [isF, Bool.and_eq_true, inr_iff, Bool.or_eq_true, decide_eq_true_eq, Nat.add_sub_cancel] at this;have h2 := this.2.resolve_left (by omega);rw [show i + (d + 1) = i + d + 1 by omega] at h2;rw [show i + (d + 1) + 1 = i + d + 1 + 1 by omega] at *;omega
theorem isP_nod {qs ws : Dt} {lo hi : Int} {xs : Dt} (h : isP qs ws lo hi xs = true) : NoD xs := ⟨fun i k h1 h2 => by
 unfold isP at h;simp only [Bool.and_eq_true] at h;have h3 := isF_lt (fun k hk => allF_iff.1 h.1 k (Nat.zero_le _) (by omega : k < 0 + xs.length)) (k - i - 1) i (by omega);rw [show i + (k - i - 1) + 1 = k by omega] at h3;omega⟩
end Sp
noncomputable def T44 : Tab Try.prog := ⟨[Xe5], [], [ceOf Xn Xgx]⟩
def Xdf [InW] (e : List Ed) (K : Nat -> List Ed -> Prop) : Prop := match e with
 | [.ro _ ps, .ro _ p2, .i z, .i i, .i r, .i S, .i c, .ro _ qs, .ro _ ws, .i lo, .i hi, .l w, .l xs] => Pre (Sp.BankV qs.xs ws.xs lo hi /\ Sp.BkOk qs.xs ws.xs lo hi w /\ Sp.MemoOk qs.xs lo hi xs /\ Sp.HallOk r S c z /\ p2.xs = ps.xs /\ z = ps.xs.length /\ 0 <= i /\ i <= z)
   (Vif (Sp.hasE (Sp.accF qs.xs ws.xs lo hi S c ps.xs) i.toNat (ps.xs.length - i.toNat)) (K 1 [.i (Sp.idxE (Sp.accF qs.xs ws.xs lo hi S c ps.xs) i.toNat (ps.xs.length - i.toNat) : Nat), .i (Sp.accF qs.xs ws.xs lo hi S c ps.xs (Sp.idxE (Sp.accF qs.xs ws.xs lo hi S c ps.xs) i.toNat (ps.xs.length - i.toNat)))]) (K 0 []))
 | _ => False
noncomputable def Xeh : LC where
 len := 48
 T := [(2, .rs Jc), (4, (.ptr 13 0)), (8, (.ptr 4 0)), (24, .rs Jc), (25, .int .i64), (26, .int .i64)]
 H := [(13, .blk 44 [.int .i64, .int .i64, .int .i64]), (4, .blk 82 [.rs Ja, .rs Jb, .int .i64, .int .i64, (.row 7), (.mp 10)]), (7, .arr 3 Jb), (10, .mpP)]
 W := ([6, 7] ++ rg 9 4 ++ rg 27 21)
 outs := [⟨.exit 0, [], [], ([2, 4] ++ rg 6 7 ++ rg 24 24)⟩, ⟨.ret, [(6, .int .i64), (7, .int .i64)], [], ([2, 4] ++ rg 8 5 ++ rg 24 24)⟩]
 spec := Xdf
def Xcn [W : InW] (ps q2 : Ro Jc) (z i r s c : Int) (qs : Ro Ja) (ws : Ro Jb) (lo hi : Int) (w xs : Dt) (A : List Ed -> Prop) (K : Nat -> List Ed -> Prop) : Prop :=
 Vif (decide (i < z)) (Need (decide (0 <= i) && decide (i < (↑(q2.xs.length) : Int))) (Need (decide (i.toNat < q2.xs.length)) (Pre (Sp.BkOk qs.xs ws.xs lo hi w /\ Sp.StOk qs.xs (0 : Int) (0 : Int) (Sp.v0 ws.xs) /\ Sp.MemoOk qs.xs lo hi xs) (Sp.FaM (Sp.MemoOk qs.xs lo hi) fun ys => Vif (!(Sp.fol qs.xs ws.xs lo hi ((cel q2.xs i.toNat Zbc).lst)).2) (K (0+1) [.i i, .i (6 : Int)]) (Pre (Sp.ApOk s i ps.xs (cel q2.xs i.toNat Zbc).lst /\ i <= 65536) (Vif (!Sp.apP ps.xs (cel q2.xs i.toNat Zbc).lst s i c) (K (0+1) [.i i, .i (5 : Int)]) (Ar .i64 (i + 1) fun z_1 => A [.ro [Ty.sl [Ty.int IntKind.i64]] ps, .ro [Ty.sl [Ty.int IntKind.i64]] q2, .i z, .i z_1, .i r, .i s, .i c, .ro _ qs, .ro _ ws, .i lo, .i hi, .l w, .l ys]))))))) (K 0 [])
theorem Xg6 (W : InW) (ps q2 z i r s c qs ws lo hi w xs A K) : Yff { cxT Try.prog TT T44 1000 50 with fn := 33 } 1000 (Yob Try.prog 33 6) (Yd6 48 [(2, .rs _ ps), (4, .ptr 13 0), (8, .ptr 4 0), (24, .rs _ q2), (25, .si .i64 z), (26, .si .i64 i)] ([6, 7] ++ rg 9 4 ++ rg 27 21)) [(13, .blk 44 [.si .i64 r, .si .i64 s, .si .i64 c]), (4, .blk 82 [.rs _ qs, .rs _ ws, .si .i64 lo, .si .i64 hi, .rw 7, .mp 10]), (7, .arr 3 Jb w), (10, .obj (.mpP xs))] (Yut Xeh A K) = Xcn ps q2 z i r s c qs ws lo hi w xs A K := by kernel_rfl
def Xd0 : Prop := ∀ (W : InW) (body a : Code), (Try.prog.funcs[33]?).bind (·.body) = some body -> a ∈ Yy body -> Yf0 a = 6 -> @Yms W Try.prog a (@Ytz W Xeh)
theorem Xic (meas : [InW] -> List Ed -> Nat) (hyp_ : ∀ (W : InW) ps q2 z i r s c qs ws lo hi w xs K, Xdf [.ro _ ps, .ro _ q2, .i z, .i i, .i r, .i s, .i c, .ro _ qs, .ro _ ws, .i lo, .i hi, .l w, .l xs] K -> ∀ A : List Ed -> Prop, (∀ e, meas e < meas [.ro _ ps, .ro _ q2, .i z, .i i, .i r, .i s, .i c, .ro _ qs, .ro _ ws, .i lo, .i hi, .l w, .l xs] -> Xdf e K -> A e) -> Xcn ps q2 z i r s c qs ws lo hi w xs A K) : Xd0 :=
 LE.okOf' (fun W => @TT W) (fun W => @Xb W) Xa T44 1000 50 (by kernel_rfl) Xeh (fun W => @meas W) fun W ps q2 z i r s c qs ws lo hi w xs K hs =>
  (Xg6 W ps q2 z i r s c qs ws lo hi w xs (fun e => meas e < meas [.ro _ ps, .ro _ q2, .i z, .i i, .i r, .i s, .i c, .ro _ qs, .ro _ ws, .i lo, .i hi, .l w, .l xs] /\ Xdf e K) K).mpr (hyp_ W ps q2 z i r s c qs ws lo hi w xs K hs _ fun e h1 h2 => ⟨h1, h2⟩)
theorem Xj9 : Xd0 := Xic (fun e => match e with | _ :: _ :: .i z :: .i i :: _ => (z - i).toNat | _ => 0) fun W ps p2 z i r S c qs ws lo hi w xs K hs A hA => by
 obtain ⟨⟨bv, bk, mo, ho, hp, hz, h0, h1⟩, hk⟩ := hs;unfold Xcn;delta Zbc;have hf := ho.few;have s1 := ho.s1;have s6 := ho.s6;have hq : p2.xs.length = ps.xs.length := by rw [hp]
 by_cases hi' : i < z
 ·have lt : (z - (i + 1)).toNat < (z - i).toNat := by omega
  rw [show ps.xs.length - i.toNat = (ps.xs.length - (i + 1).toNat) + 1 by omega] at hk;obtain ⟨g1, g2⟩ := Xeu (K1 := fun j e => K 1 [.i (j : Nat), .i e]) hk;rw [show i.toNat + 1 = (i + 1).toNat by omega] at g2;simp only [hp, Sp.fol_is bv];refine vifd (fun _ => ?_) (fun h => absurd hi' h);refine ned (by simp; omega) (nedd (by omega) ⟨⟨bk, bv.st, mo⟩, ⟨fun ys hy => vifb (fun e => ?_) (fun e => ⟨⟨⟨s1, s6, h0, by omega, Sp.isP_nod e⟩, by omega⟩, vifb (fun f => ?_) (fun f => ?_)⟩)⟩⟩)
  ·have e1 : Sp.accF qs.xs ws.xs lo hi S c ps.xs i.toNat = 6 := by unfold Sp.accF; rw [e, if_neg (by decide)]
   have := g1 (by omega);rw [e1, Int.toNat_of_nonneg h0] at this;exact this
  ·have e1 : Sp.accF qs.xs ws.xs lo hi S c ps.xs i.toNat = 5 := by unfold Sp.accF; rw [e, if_pos rfl, Int.toNat_of_nonneg h0, f, if_neg (by decide)]
   have := g1 (by omega);rw [e1, Int.toNat_of_nonneg h0] at this;exact this
  ·have e1 : Sp.accF qs.xs ws.xs lo hi S c ps.xs i.toNat = 0 := by unfold Sp.accF; rw [e, if_pos rfl, Int.toNat_of_nonneg h0, f, if_pos rfl]
   exact ar64 (by omega) (hA _ lt ⟨⟨bv, bk, hy, ho, hp, hz, by omega, by omega⟩, g2 e1⟩)
 ·refine vifd (fun h => absurd h hi') (fun _ => ?_);rw [show ps.xs.length - i.toNat = 0 by omega] at hk;exact hk.2 rfl
noncomputable def Xku : LE Try.prog := ⟨33, 6, fun W => @Ytz W Xeh, Xj9⟩
noncomputable def T45 : Tab Try.prog := ⟨[], [Xku], [ceOf Xo Xgy]⟩
abbrev Xb1 (ds : DS) : DS := match ds with | [[.l qs, .l ws, .i lo, .i hi], [.i r, .i S, .i c], [.l ps]] => [[.i (Sp.accI qs ws lo hi r S c ps)], [.i (Sp.accE qs ws lo hi r S c ps)]] | _ => []
def Zbr [W : InW] (ps : Ro Jc) := (↑(ps.xs.length) : Int)
def Xcd [W : InW] (kQ : Ro Ja) (k_Ws : Ro Jb) (k_Lo k_Hi h_Rows h_Seats h_Com : Int) (ps : Ro Jc) (Q : DS -> Prop) : Prop :=
 Vif (decide (Sp.hallE kQ.xs k_Ws.xs k_Lo k_Hi h_Rows h_Seats h_Com (Zbr ps) = 0)) (Pre (Sp.BankV kQ.xs k_Ws.xs k_Lo k_Hi /\ Sp.BkOk kQ.xs k_Ws.xs k_Lo k_Hi (Sp.wts kQ.xs (kQ.xs.length)) /\ Sp.MemoOk kQ.xs k_Lo k_Hi [] /\ Sp.HallOk h_Rows h_Seats h_Com (Zbr ps) /\ ps.xs = ps.xs /\ (Zbr ps) = (Zbr ps) /\ Zk <= 0 /\ Zk <= (Zbr ps)) (Vif (Sp.hasE (Sp.accF kQ.xs k_Ws.xs k_Lo k_Hi h_Seats h_Com ps.xs) Zi (ps.xs.length - Int.toNat Zk)) (Q [[Cl.i (↑(Sp.idxE (Sp.accF kQ.xs k_Ws.xs k_Lo k_Hi h_Seats h_Com ps.xs) Zi (ps.xs.length - Int.toNat Zk)) : Int)], [Cl.i (Sp.accF kQ.xs k_Ws.xs k_Lo k_Hi h_Seats h_Com ps.xs (Sp.idxE (Sp.accF kQ.xs k_Ws.xs k_Lo k_Hi h_Seats h_Com ps.xs) Zi (ps.xs.length - Int.toNat Zk)))]]) (Q [[Cl.i 0], [Cl.i 0]]))) (Vif (!decide (Sp.hallE kQ.xs k_Ws.xs k_Lo k_Hi h_Rows h_Seats h_Com (Zbr ps) = 0)) (Q [[Cl.i 0], [Cl.i (Sp.hallE kQ.xs k_Ws.xs k_Lo k_Hi h_Rows h_Seats h_Com (Zbr ps))]]) ((435 : Nat) = 435 + 1))
theorem Xhu (W : InW) (kQ k_Ws k_Lo k_Hi h_Rows h_Seats h_Com ps Q) : Yw5 (cxT Try.prog TT T45 1000 50) 1000 33 [.agg [.rs _ kQ, .rs _ k_Ws, .si .i64 k_Lo, .si .i64 k_Hi], .agg [.si .i64 h_Rows, .si .i64 h_Seats, .si .i64 h_Com], .rs _ ps] [] 0 (Y1i [(false, [.int .i64]), (false, [.int .i64])] Q) (fun _ _ _ _ => Stuck 421) = Xcd kQ k_Ws k_Lo k_Hi h_Rows h_Seats h_Com ps Q := by kernel_rfl
abbrev Xbh : List AT := [.agg [.sl Ja, .sl Jb, .int .i64, .int .i64], .agg [.int .i64, .int .i64, .int .i64], .one (.sl Jc)]
theorem Xi0 {pre : DS -> Prop} {res : DS -> DS} (hyp_ : ∀ (W : InW) (kQ : Ro Ja) (k_Ws : Ro Jb) (k_Lo k_Hi h_Rows h_Seats h_Com : Int) (ps : Ro Jc), pre [[.l kQ.xs, .l k_Ws.xs, .i k_Lo, .i k_Hi], [.i h_Rows, .i h_Seats, .i h_Com], [.l ps.xs]] -> ∀ Q : DS -> Prop, Q (res [[.l kQ.xs, .l k_Ws.xs, .i k_Lo, .i k_Hi], [.i h_Rows, .i h_Seats, .i h_Com], [.l ps.xs]]) -> Xcd kQ k_Ws k_Lo k_Hi h_Rows h_Seats h_Com ps Q) : PureOk Try.prog 33 Xbh [(false, [.int .i64]), (false, [.int .i64])] pre res :=
 PureOk.of' (fun W => @TT W) (fun W => @Xb W) Xa T45 1000 50 fun W kQ k_Ws k_Lo k_Hi h_Rows h_Seats h_Com ps hp =>
  (Xhu W kQ k_Ws k_Lo k_Hi h_Rows h_Seats h_Com ps (fun o => o = res [[.l kQ.xs, .l k_Ws.xs, .i k_Lo, .i k_Hi], [.i h_Rows, .i h_Seats, .i h_Com], [.l ps.xs]])).mpr (hyp_ W kQ k_Ws k_Lo k_Hi h_Rows h_Seats h_Com ps hp _ rfl)
theorem Xjr : PureOk Try.prog 33 Xbh [(false, [.int .i64]), (false, [.int .i64])] (fun _ => True) Xb1 :=
 Xi0 fun W qs ws lo hi r S c ps hp Q h => by
  unfold Xcd;delta Zi Zbr Zk;simp only [Xb1, Sp.accI, Sp.accE] at h;refine vifd (fun e => ?_) (fun e => vifn (fun _ => ?_) (fun e2 => absurd e2 e))
  ·have e2 := Sp.hallE_iff.1 e;rw [if_pos e, if_pos e] at h;refine ⟨⟨e2.1, e2.1.bk, Sp.memo_nil, e2.2, rfl, rfl, by omega, by omega⟩, vif (fun f => ?_) (fun f => ?_)⟩
   ·rw [if_pos (show Sp.accB qs.xs ws.xs lo hi S c ps.xs = true from f), if_pos (show Sp.accB qs.xs ws.xs lo hi S c ps.xs = true from f)] at h; exact h
   ·have f2 : ¬ Sp.accB qs.xs ws.xs lo hi S c ps.xs = true := by rw [show Sp.accB qs.xs ws.xs lo hi S c ps.xs = false from f]; decide
    rw [if_neg f2, if_neg f2] at h; exact h
  ·rw [if_neg e, if_neg e] at h; exact h
noncomputable def Xh2 : PC Try.prog := ⟨33, Xbh, [(false, [.int .i64]), (false, [.int .i64])], fun _ => True, Xb1, Xjr⟩
namespace Sp
def pickP (rs : Dt) (n : Int) (k : Nat) : Dt := (cel rs ((n + k).tmod rs.length).toNat 0).lst
def fitF (rs ps : Dt) (S c seat n : Int) (k : Nat) : Bool := apP ps (pickP rs n k) S seat c
def fitB (rs ps : Dt) (S c seat n : Int) (k : Nat) : Bool := anyF (fitF rs ps S c seat n) k (rs.length - k)
def fitR (rs ps : Dt) (S c seat n : Int) (k : Nat) : Dt := ps ++ [[.l (pickP rs n (fstF (fitF rs ps S c seat n) k (rs.length - k)))]]
structure Dw where
 ok : Bool
 ps : Dt
def drw (rs nums : Dt) (S c : Int) : Nat -> Nat -> Dt -> Dw
 | _, 0, ps => ⟨true, ps⟩
 | i, m + 1, ps => if fitB rs ps S c i (cel nums i 0).int 0 = true then drw rs nums S c (i + 1) m (fitR rs ps S c i (cel nums i 0).int 0) else ⟨false, []⟩
structure RsOk (rs : Dt) : Prop where
 n1 : 1 <= rs.length
 n2 : rs.length <= 65536
 nod : ∀ i, i < rs.length -> NoD (cel rs i 0).lst
 few : ∀ i, i < rs.length -> (cel rs i 0).lst.length <= 16
structure NuOk (nums : Dt) : Prop where
 few : nums.length <= 30
 ok : ∀ i, i < nums.length -> 0 <= (cel nums i 0).int /\ (cel nums i 0).int <= 1000000000
theorem tmod_in {n : Int} {m : Nat} (h : 0 <= n) (h1 : 1 <= m) : 0 <= n.tmod m /\ n.tmod m < m := by
 rw [Int.tmod_eq_emod_of_nonneg h];exact ⟨Int.emod_nonneg _ (by omega), Int.emod_lt_of_pos _ (by omega)⟩
theorem rs_ok {qs ws : Dt} {lo hi : Int} (bv : BankV qs ws lo hi) (h : total qs ws lo hi ≠ 0) : RsOk (papD qs ws lo hi) := by
 have hl := length_papD qs ws lo hi;have b2 : 0 <= total qs ws lo hi /\ total qs ws lo hi <= 65536 := cnt_16 bv.n2 0 (v0 ws);refine ⟨by omega, by omega, fun i hi' => ?_, fun i hi' => ?_⟩
 ·rw [cel_papD hi'];exact isP_nod (paps_is bv (by simpa [papD] using hi'))
 ·have := ((paps_in bv).ok i hi').few;have := bv.n2;omega
def drawE (qs ws : Dt) (lo hi r S c : Int) (nums : Dt) : Int := if hallE qs ws lo hi r S c nums.length = 0 then (if out 0 1000000000 nums = true then 7 else (if total qs ws lo hi = 0 then 4 else (if (drw (papD qs ws lo hi) nums S c 0 nums.length []).ok = true then 0 else 9))) else hallE qs ws lo hi r S c nums.length
def drawL (qs ws : Dt) (lo hi r S c : Int) (nums : Dt) : Dt := if drawE qs ws lo hi r S c nums = 0 then (drw (papD qs ws lo hi) nums S c 0 nums.length []).ps else []
theorem drawL_no {qs ws : Dt} {lo hi r S c : Int} {nums : Dt} (h : drawE qs ws lo hi r S c nums ≠ 0) : drawL qs ws lo hi r S c nums = [] := by unfold drawL; rw [if_neg h]
theorem drawL_ok {qs ws : Dt} {lo hi r S c : Int} {nums : Dt} (h : drawE qs ws lo hi r S c nums = 0) : drawL qs ws lo hi r S c nums = (drw (papD qs ws lo hi) nums S c 0 nums.length []).ps := by unfold drawL; rw [if_pos h]
theorem outs_no {lo hi : Int} {xs : Dt} : ∀ {n i : Nat}, outs lo hi xs i n = false -> ∀ k, i <= k -> k < i + n -> inr (cel xs k 0).int lo hi = true
 | 0, i, _, k, a, b => by omega
 | n + 1, i, h, k, a, b => by
  simp only [outs, Bool.or_eq_false_iff, Bool.not_eq_false'] at h;rcases Nat.eq_or_lt_of_le a with e | e
  ·exact e ▸ h.1
  ·exact outs_no h.2 k (by omega) (by omega)
theorem nu_ok {nums : Dt} (h : out 0 1000000000 nums = false) (h30 : nums.length <= 30) : NuOk nums := ⟨h30, fun i hi => by
 have := outs_no h i (Nat.zero_le _) (by omega);rw [inr_iff] at this;exact this⟩
end Sp
abbrev X9 (ds : DS) : DS := match ds with | [[.l qs, .l ws, .i lo, .i hi], [.i r, .i S, .i c], [.l nums]] => [[.l (Sp.drawL qs ws lo hi r S c nums)], [.i (Sp.drawE qs ws lo hi r S c nums)]] | _ => []
noncomputable def T52 : Tab Try.prog := ⟨[Xe5], [], [ceOf Xm Xgw]⟩
def Xf1 [InW] (e : List Ed) (K : Nat -> List Ed -> Prop) : Prop := match e with
  | [.i many, .i seat, .i n, .ro _ nums, .i z, .i j, .i m2, .i k, .i r, .i S, .i c, .ro _ qs, .ro _ ws, .i lo, .i hi, .l w, .l xs, .l ps] => Pre (Sp.BankV qs.xs ws.xs lo hi /\ Sp.BkOk qs.xs ws.xs lo hi w /\ Sp.MemoOk qs.xs lo hi xs /\ Sp.RsOk (Sp.papD qs.xs ws.xs lo hi) /\ many = Sp.total qs.xs ws.xs lo hi /\ m2 = many /\ 1 <= S /\ S <= 6 /\ 0 <= seat /\ seat <= 30 /\ ps.length = seat /\ 0 <= n /\ n <= 1000000000 /\ 0 <= k /\ k <= many)
     (Vif (Sp.fitB (Sp.papD qs.xs ws.xs lo hi) ps S c seat n k.toNat) (Sp.FaM (Sp.MemoOk qs.xs lo hi) fun ys => K 0 [.i many, .ro _ nums, .i z, .i j, .i r, .i S, .i c, .ro _ qs, .ro _ ws, .i lo, .i hi, .l w, .l ys, .l (Sp.fitR (Sp.papD qs.xs ws.xs lo hi) ps S c seat n k.toNat)]) (K 1 []))
  | _ => False
noncomputable def Xgf : LC where
 len := 65
 T := [(4, (.ptr 13 0)), (6, (.row 15)), (8, (.ptr 4 0)), (9, .int .i64), (10, .int .i64), (11, .int .i64), (35, .rs Jb), (36, .int .i64), (37, .int .i64), (42, .int .i64), (43, .int .i64)]
 H := [(13, .blk 44 [.int .i64, .int .i64, .int .i64]), (4, .blk 82 [.rs Ja, .rs Jb, .int .i64, .int .i64, (.row 7), (.mp 10)]), (7, .arr 3 Jb), (10, .mpP), (15, .nst 23 [.sl Jb])]
 W := ([12, 13] ++ rg 44 19)
 outs := [⟨.exit 2, [(4, (.ptr 13 0)), (6, (.row 6)), (8, (.ptr 4 0)), (9, .int .i64), (35, .rs Jb), (36, .int .i64), (37, .int .i64)], [(13, .blk 44 [.int .i64, .int .i64, .int .i64]), (4, .blk 82 [.rs Ja, .rs Jb, .int .i64, .int .i64, (.row 7), (.mp 10)]), (7, .arr 3 Jb), (10, .mpP), (6, .nst 23 [.sl Jb])], (rg 10 4 ++ rg 42 21)⟩, ⟨.exit 3, [], [], ([4, 6] ++ rg 8 6 ++ [35, 36, 37] ++ rg 42 21)⟩]
 spec := Xf1
def Xfr [W : InW] (many seat n : Int) (nums : Ro Jb) (z j m2 k r s c : Int) (qs : Ro Ja) (ws : Ro Jb) (lo hi : Int) (w xs ps : Dt) (A : List Ed -> Prop) (K : Nat -> List Ed -> Prop) : Prop :=
 Vif (decide (k < m2)) (Ar .i64 (n + k) fun z_1 => Need (!decide (many = 0)) (Pre (Sp.BkOk qs.xs ws.xs lo hi w /\ Sp.StOk qs.xs Zk Zk (Sp.v0 ws.xs) /\ Sp.MemoOk qs.xs lo hi xs /\ 0 <= z_1.tmod many /\ z_1.tmod many < Sp.cnt qs.xs lo hi (qs.xs.length) Zk (Sp.v0 ws.xs)) (Sp.FaM (Sp.MemoOk qs.xs lo hi) fun ys => Pre (Sp.ApOk s seat ps (Sp.nthD qs.xs lo hi (qs.xs.length) Zk (Sp.v0 ws.xs) (z_1.tmod many)) /\ seat <= 65536) (Vif (Sp.apP ps (Sp.nthD qs.xs lo hi (qs.xs.length) Zk (Sp.v0 ws.xs) (z_1.tmod many)) s seat c) (Need (decide ((ps.length + [[Cl.l (Sp.nthD qs.xs lo hi (qs.xs.length) Zk (Sp.v0 ws.xs) (z_1.tmod many))]].length) * 24 <= 140737488355328)) (K 0 [.i many, .ro _ nums, .i z, .i j, .i r, .i s, .i c, .ro _ qs, .ro _ ws, .i lo, .i hi, .l w, .l ys, .l (ps ++ [[Cl.l (Sp.nthD qs.xs lo hi (qs.xs.length) Zk (Sp.v0 ws.xs) (z_1.tmod many))]])])) (Ar .i64 (k + 1) fun z_2 => A [.i many, .i seat, .i n, .ro _ nums, .i z, .i j, .i m2, .i z_2, .i r, .i s, .i c, .ro _ qs, .ro _ ws, .i lo, .i hi, .l w, .l ys, .l ps]))))) (K (0+1) [])
theorem Xi9 (W : InW) (many seat n nums z j m2 k r s c qs ws lo hi w xs ps A K) : Yff { cxT Try.prog TT T52 1000 50 with fn := 30 } 1000 (Yob Try.prog 30 14) (Yd6 65 [(4, .ptr 13 0), (6, .rw 15), (8, .ptr 4 0), (9, .si .i64 many), (10, .si .i64 seat), (11, .si .i64 n), (35, .rs _ nums), (36, .si .i64 z), (37, .si .i64 j), (42, .si .i64 m2), (43, .si .i64 k)] ([12, 13] ++ rg 44 19)) [(13, .blk 44 [.si .i64 r, .si .i64 s, .si .i64 c]), (4, .blk 82 [.rs _ qs, .rs _ ws, .si .i64 lo, .si .i64 hi, .rw 7, .mp 10]), (7, .arr 3 Jb w), (10, .obj (.mpP xs)), (15, .nst 23 [.sl Jb] ps)] (Yut Xgf A K) = Xfr many seat n nums z j m2 k r s c qs ws lo hi w xs ps A K := by kernel_rfl
def Xfa : Prop := ∀ (W : InW) (body a : Code), (Try.prog.funcs[30]?).bind (·.body) = some body -> a ∈ Yy body -> Yf0 a = 14 -> @Yms W Try.prog a (@Ytz W Xgf)
theorem Xjs (meas : [InW] -> List Ed -> Nat) (hyp_ : ∀ (W : InW) many seat n nums z j m2 k r s c qs ws lo hi w xs ps K, Xf1 [.i many, .i seat, .i n, .ro _ nums, .i z, .i j, .i m2, .i k, .i r, .i s, .i c, .ro _ qs, .ro _ ws, .i lo, .i hi, .l w, .l xs, .l ps] K -> ∀ A : List Ed -> Prop, (∀ e, meas e < meas [.i many, .i seat, .i n, .ro _ nums, .i z, .i j, .i m2, .i k, .i r, .i s, .i c, .ro _ qs, .ro _ ws, .i lo, .i hi, .l w, .l xs, .l ps] -> Xf1 e K -> A e) -> Xfr many seat n nums z j m2 k r s c qs ws lo hi w xs ps A K) : Xfa :=
 LE.okOf' (fun W => @TT W) (fun W => @Xb W) Xa T52 1000 50 (by kernel_rfl) Xgf (fun W => @meas W) fun W many seat n nums z j m2 k r s c qs ws lo hi w xs ps K hs =>
  (Xi9 W many seat n nums z j m2 k r s c qs ws lo hi w xs ps (fun e => meas e < meas [.i many, .i seat, .i n, .ro _ nums, .i z, .i j, .i m2, .i k, .i r, .i s, .i c, .ro _ qs, .ro _ ws, .i lo, .i hi, .l w, .l xs, .l ps] /\ Xf1 e K) K).mpr (hyp_ W many seat n nums z j m2 k r s c qs ws lo hi w xs ps K hs _ fun e h1 h2 => ⟨h1, h2⟩)
theorem okLpk : Xfa := Xjs (fun e => match e with | [.i many, _, _, _, _, _, _, .i k, _, _, _, _, _, _, _, _, _, _] => (many - k).toNat | _ => 0) fun W many seat n nums z j m2 k r S c qs ws lo hi w xs ps K hs A hA => by
 obtain ⟨⟨bv, bk, mo, ro, hm, h2, s1, s6, t0, t1, hl, n0, n1, k0, k1⟩, hk⟩ := hs;unfold Xfr;delta Zk;have hlp := Sp.length_papD qs.xs ws.xs lo hi;have hn1 := ro.n1;have hn2 := ro.n2;have hlm : ((Sp.papD qs.xs ws.xs lo hi).length : Int) = many := by omega
 by_cases hi' : k < m2
 ·have lt : (many - (k + 1)).toNat < (many - k).toNat := by omega
  have ht := Sp.tmod_in (n := n + k) (m := (Sp.papD qs.xs ws.xs lo hi).length) (by omega) hn1;rw [hlm] at ht;have ep : (cel (Sp.papD qs.xs ws.xs lo hi) ((n + k).tmod many).toNat 0).lst = Sp.nthD qs.xs lo hi qs.xs.length 0 (Sp.v0 ws.xs) ((n + k).tmod many) := Sp.cel_papD (by omega);have ek : Sp.pickP (Sp.papD qs.xs ws.xs lo hi) n k.toNat = Sp.nthD qs.xs lo hi qs.xs.length 0 (Sp.v0 ws.xs) ((n + k).tmod many) := by
   unfold Sp.pickP;rw [Int.toNat_of_nonneg k0, hlm, ep]
  have hnd := ro.nod ((n + k).tmod many).toNat (by omega);rw [ep] at hnd;have hct : Sp.cnt qs.xs lo hi qs.xs.length 0 (Sp.v0 ws.xs) = many := hm.symm;unfold Sp.fitB Sp.fitR at hk;rw [show (Sp.papD qs.xs ws.xs lo hi).length - k.toNat = ((Sp.papD qs.xs ws.xs lo hi).length - (k + 1).toNat) + 1 by omega] at hk;obtain ⟨g1, g2⟩ := Xev (K1 := fun q => Sp.FaM (Sp.MemoOk qs.xs lo hi) fun ys => K 0 [.i many, .ro _ nums, .i z, .i j, .i r, .i S, .i c, .ro _ qs, .ro _ ws, .i lo, .i hi, .l w, .l ys, .l (ps ++ [[.l (Sp.pickP (Sp.papD qs.xs ws.xs lo hi) n q)]])]) hk;rw [show k.toNat + 1 = (k + 1).toNat by omega] at g2;simp only [ek] at g1;rw [show Sp.fitF (Sp.papD qs.xs ws.xs lo hi) ps S c seat n k.toNat = Sp.apP ps (Sp.nthD qs.xs lo hi qs.xs.length 0 (Sp.v0 ws.xs) ((n + k).tmod many)) S seat c by unfold Sp.fitF; rw [ek]] at g1 g2;refine vifd (fun _ => ?_) (fun h => absurd hi' h);refine ar64 (by omega) (ned (by rw [decide_eq_false (by omega)]; rfl) ⟨⟨bk, bv.st, mo, by omega, by omega⟩, ⟨fun ys hy => ⟨⟨⟨s1, s6, t0, by omega, hnd⟩, by omega⟩, vif (fun e => ?_) (fun e => ?_)⟩⟩⟩)
  ·obtain ⟨g1⟩ := g1 e;exact nedd (by simp; omega) (g1 ys hy)
  ·exact ar64 (by omega) (hA _ lt ⟨⟨bv, bk, hy, ro, hm, h2, s1, s6, t0, t1, hl, n0, n1, by omega, by omega⟩, g2 e⟩)
 ·refine vifd (fun h => absurd h hi') (fun _ => ?_);unfold Sp.fitB at hk;rw [show (Sp.papD qs.xs ws.xs lo hi).length - k.toNat = 0 by omega] at hk;exact hk.2 rfl
noncomputable def le_pk : LE Try.prog := ⟨30, 14, fun W => @Ytz W Xgf, okLpk⟩
noncomputable def T53 : Tab Try.prog := ⟨[], [le_pk], []⟩
def Xf2 [InW] (e : List Ed) (K : Nat -> List Ed -> Prop) : Prop := match e with
  | [.i many, .ro _ nums, .i z, .i j, .i r, .i S, .i c, .ro _ qs, .ro _ ws, .i lo, .i hi, .l w, .l xs, .l ps] => Pre (Sp.BankV qs.xs ws.xs lo hi /\ Sp.BkOk qs.xs ws.xs lo hi w /\ Sp.MemoOk qs.xs lo hi xs /\ Sp.RsOk (Sp.papD qs.xs ws.xs lo hi) /\ Sp.NuOk nums.xs /\ many = Sp.total qs.xs ws.xs lo hi /\ 1 <= S /\ S <= 6 /\ z = nums.xs.length /\ 0 <= j /\ j <= z /\ ps.length = j)
     (Vif (Sp.drw (Sp.papD qs.xs ws.xs lo hi) nums.xs S c j.toNat (nums.xs.length - j.toNat) ps).ok (K 0 [.l (Sp.drw (Sp.papD qs.xs ws.xs lo hi) nums.xs S c j.toNat (nums.xs.length - j.toNat) ps).ps]) (K 1 []))
  | _ => False
noncomputable def Xgg : LC where
 len := 65
 T := [(4, (.ptr 13 0)), (6, (.row 15)), (8, (.ptr 4 0)), (9, .int .i64), (35, .rs Jb), (36, .int .i64), (37, .int .i64)]
 H := [(13, .blk 44 [.int .i64, .int .i64, .int .i64]), (4, .blk 82 [.rs Ja, .rs Jb, .int .i64, .int .i64, (.row 7), (.mp 10)]), (7, .arr 3 Jb), (10, .mpP), (15, .nst 23 [.sl Jb])]
 W := ([7] ++ rg 10 4 ++ rg 38 26)
 outs := [⟨.exit 1, [(6, (.row 6))], [(6, .nst 23 [.sl Jb])], ([4] ++ rg 7 7 ++ rg 35 29)⟩, ⟨.ret, [(6, (.lit (.slice none 0 0))), (7, (.lit (.int .i64 9)))], [], ([4] ++ rg 8 6 ++ rg 35 29)⟩]
 spec := Xf2
def Xfs [W : InW] (many : Int) (nums : Ro Jb) (z j r s c : Int) (qs : Ro Ja) (ws : Ro Jb) (lo hi : Int) (w xs ps : Dt) (A : List Ed -> Prop) (K : Nat -> List Ed -> Prop) : Prop :=
 Vif (decide (j < z)) (Need (decide (0 <= j) && decide (j < (↑(nums.xs.length) : Int))) (Need (decide (j.toNat < nums.xs.length)) (Pre (Sp.BankV qs.xs ws.xs lo hi /\ Sp.BkOk qs.xs ws.xs lo hi w /\ Sp.MemoOk qs.xs lo hi xs /\ Sp.RsOk (Sp.papD qs.xs ws.xs lo hi) /\ many = Sp.total qs.xs ws.xs lo hi /\ many = many /\ 1 <= s /\ s <= 6 /\ 0 <= j /\ j <= 30 /\ (↑(ps.length) : Int) = j /\ (0 : Int) <= (cel nums.xs j.toNat Zbc).int /\ (cel nums.xs j.toNat Zbc).int <= 1000000000 /\ (0 : Int) <= 0 /\ 0 <= many) (Vif (Sp.fitB (Sp.papD qs.xs ws.xs lo hi) ps s c j (cel nums.xs j.toNat Zbc).int Zi) (Sp.FaM (Sp.MemoOk qs.xs lo hi) fun ys => Ar .i64 (j + 1) fun z_1 => A [.i many, .ro _ nums, .i z, .i z_1, .i r, .i s, .i c, .ro _ qs, .ro _ ws, .i lo, .i hi, .l w, .l ys, .l (Sp.fitR (Sp.papD qs.xs ws.xs lo hi) ps s c j (cel nums.xs j.toNat Zbc).int Zi)]) (K (0+1) []))))) (K 0 [.l ps])
theorem Xja (W : InW) (many nums z j r s c qs ws lo hi w xs ps A K) : Yff { cxT Try.prog TT T53 1000 50 with fn := 30 } 1000 (Yob Try.prog 30 11) (Yd6 65 [(4, .ptr 13 0), (6, .rw 15), (8, .ptr 4 0), (9, .si .i64 many), (35, .rs _ nums), (36, .si .i64 z), (37, .si .i64 j)] ([7] ++ rg 10 4 ++ rg 38 26)) [(13, .blk 44 [.si .i64 r, .si .i64 s, .si .i64 c]), (4, .blk 82 [.rs _ qs, .rs _ ws, .si .i64 lo, .si .i64 hi, .rw 7, .mp 10]), (7, .arr 3 Jb w), (10, .obj (.mpP xs)), (15, .nst 23 [.sl Jb] ps)] (Yut Xgg A K) = Xfs many nums z j r s c qs ws lo hi w xs ps A K := by kernel_rfl
def Xfb : Prop := ∀ (W : InW) (body a : Code), (Try.prog.funcs[30]?).bind (·.body) = some body -> a ∈ Yy body -> Yf0 a = 11 -> @Yms W Try.prog a (@Ytz W Xgg)
theorem Xjt (meas : [InW] -> List Ed -> Nat) (hyp_ : ∀ (W : InW) many nums z j r s c qs ws lo hi w xs ps K, Xf2 [.i many, .ro _ nums, .i z, .i j, .i r, .i s, .i c, .ro _ qs, .ro _ ws, .i lo, .i hi, .l w, .l xs, .l ps] K -> ∀ A : List Ed -> Prop, (∀ e, meas e < meas [.i many, .ro _ nums, .i z, .i j, .i r, .i s, .i c, .ro _ qs, .ro _ ws, .i lo, .i hi, .l w, .l xs, .l ps] -> Xf2 e K -> A e) -> Xfs many nums z j r s c qs ws lo hi w xs ps A K) : Xfb :=
 LE.okOf' (fun W => @TT W) (fun W => @Xb W) Xa T53 1000 50 (by kernel_rfl) Xgg (fun W => @meas W) fun W many nums z j r s c qs ws lo hi w xs ps K hs =>
  (Xja W many nums z j r s c qs ws lo hi w xs ps (fun e => meas e < meas [.i many, .ro _ nums, .i z, .i j, .i r, .i s, .i c, .ro _ qs, .ro _ ws, .i lo, .i hi, .l w, .l xs, .l ps] /\ Xf2 e K) K).mpr (hyp_ W many nums z j r s c qs ws lo hi w xs ps K hs _ fun e h1 h2 => ⟨h1, h2⟩)
theorem okLpd : Xfb := Xjt (fun e => match e with | _ :: _ :: .i z :: .i j :: _ => (z - j).toNat | _ => 0) fun W many nums z j r S c qs ws lo hi w xs ps K hs A hA => by
 obtain ⟨⟨bv, bk, mo, ro, nu, hm, s1, s6, hz, h0, h1, hl⟩, hk⟩ := hs;unfold Xfs;delta Zi Zk Zbc;have hf := nu.few;have hn1 := ro.n1;have hlp := Sp.length_papD qs.xs ws.xs lo hi
 by_cases hi' : j < z
 ·have lt : (z - (j + 1)).toNat < (z - j).toNat := by omega
  have hn := nu.ok j.toNat (by omega);rw [show nums.xs.length - j.toNat = (nums.xs.length - (j + 1).toNat) + 1 by omega] at hk;simp only [Sp.drw, Int.toNat_of_nonneg h0, show j.toNat + 1 = (j + 1).toNat by omega] at hk;refine vifd (fun _ => ?_) (fun h => absurd hi' h);refine ned (by simp; omega) (nedd (by omega) ⟨⟨bv, bk, mo, ro, hm, rfl, s1, s6, h0, by omega, hl, hn.1, hn.2, by omega, by omega⟩, vif (fun e => ⟨fun ys hy => ?_⟩) (fun e => ?_)⟩)
  ·rw [if_pos (show Sp.fitB (Sp.papD qs.xs ws.xs lo hi) ps S c j (cel nums.xs j.toNat 0).int 0 = true from e)] at hk;refine ar64 (by omega) (hA _ lt ⟨⟨bv, bk, hy, ro, nu, hm, s1, s6, hz, by omega, by omega, ?_⟩, hk⟩);unfold Sp.fitR;rw [List.length_append]; simp; omega
  ·rw [if_neg (Bool.eq_false_iff.1 (show Sp.fitB (Sp.papD qs.xs ws.xs lo hi) ps S c j (cel nums.xs j.toNat 0).int 0 = false from e))] at hk;exact hk.2 rfl
 ·refine vifd (fun h => absurd h hi') (fun _ => ?_);rw [show nums.xs.length - j.toNat = 0 by omega] at hk;exact hk.1 rfl
noncomputable def le_pd : LE Try.prog := ⟨30, 11, fun W => @Ytz W Xgg, okLpd⟩
noncomputable def T54 : Tab Try.prog := ⟨[Xh], [le_pd], [ceOf Xo Xgy, ceOf Xe Xr, ceOf (Xf 17) (Xj 17)]⟩
def Zbs [W : InW] (nums : Ro Jb) := (↑(nums.xs.length) : Int)
def Xbl [W : InW] (kQ : Ro Ja) (k_Ws : Ro Jb) (k_Lo k_Hi h_Rows h_Seats h_Com : Int) (nums : Ro Jb) (Q : DS -> Prop) : Prop :=
 Vif (decide (Sp.hallE kQ.xs k_Ws.xs k_Lo k_Hi h_Rows h_Seats h_Com (Zbs nums) = 0)) (Pre True (Vif (Sp.out Zk (1000000000 : Int) nums.xs) (Q [[Cl.l []], [Cl.i 7]]) (Pre (Sp.BkOk kQ.xs k_Ws.xs k_Lo k_Hi (Sp.wts kQ.xs (kQ.xs.length)) /\ Sp.StOk kQ.xs Zk Zk { a := (cel k_Ws.xs Zbc Zbc).int, b := (cel k_Ws.xs (1 : Nat) Zbc).int, c := (cel k_Ws.xs (2 : Nat) Zbc).int, d := (cel k_Ws.xs (3 : Nat) Zbc).int } /\ Sp.MemoOk kQ.xs k_Lo k_Hi [] /\ kQ.xs.length - Int.toNat Zk < 17) (Sp.FaM (Sp.MemoOk kQ.xs k_Lo k_Hi) fun ys => Vif (decide (Sp.cnt kQ.xs k_Lo k_Hi (kQ.xs.length - Int.toNat Zk) Zk { a := (cel k_Ws.xs Zbc Zbc).int, b := (cel k_Ws.xs (1 : Nat) Zbc).int, c := (cel k_Ws.xs (2 : Nat) Zbc).int, d := (cel k_Ws.xs (3 : Nat) Zbc).int } = Zk)) (Q [[Cl.l []], [Cl.i 4]]) (Pre (Sp.BankV kQ.xs k_Ws.xs k_Lo k_Hi /\ Sp.BkOk kQ.xs k_Ws.xs k_Lo k_Hi (Sp.wts kQ.xs (kQ.xs.length)) /\ Sp.MemoOk kQ.xs k_Lo k_Hi ys /\ Sp.RsOk (Sp.papD kQ.xs k_Ws.xs k_Lo k_Hi) /\ Sp.NuOk nums.xs /\ Sp.cnt kQ.xs k_Lo k_Hi (kQ.xs.length - Int.toNat Zk) Zk { a := (cel k_Ws.xs Zbc Zbc).int, b := (cel k_Ws.xs (1 : Nat) Zbc).int, c := (cel k_Ws.xs (2 : Nat) Zbc).int, d := (cel k_Ws.xs (3 : Nat) Zbc).int } = Sp.total kQ.xs k_Ws.xs k_Lo k_Hi /\ 1 <= h_Seats /\ h_Seats <= 6 /\ (Zbs nums) = (Zbs nums) /\ Zk <= 0 /\ Zk <= (Zbs nums) /\ (↑Zbc : Int) = 0) (Vif (Sp.drw (Sp.papD kQ.xs k_Ws.xs k_Lo k_Hi) nums.xs h_Seats h_Com Zl (nums.xs.length - Int.toNat Zk) []).ok (Q [[Cl.l (Sp.drw (Sp.papD kQ.xs k_Ws.xs k_Lo k_Hi) nums.xs h_Seats h_Com Zl (nums.xs.length - Int.toNat Zk) []).ps], [Cl.i 0]]) (Q [[Cl.l []], [Cl.i 9]]))))))) (Vif (!decide (Sp.hallE kQ.xs k_Ws.xs k_Lo k_Hi h_Rows h_Seats h_Com (Zbs nums) = 0)) (Q [[Cl.l []], [Cl.i (Sp.hallE kQ.xs k_Ws.xs k_Lo k_Hi h_Rows h_Seats h_Com (Zbs nums))]]) (Pre True (Vif (Sp.out Zk (1000000000 : Int) nums.xs) (Q [[Cl.l []], [Cl.i 7]]) ((16 : Nat) = 16 + 1))))
theorem Xfz (W : InW) (kQ k_Ws k_Lo k_Hi h_Rows h_Seats h_Com nums Q) : Yw5 (cxT Try.prog TT T54 1000 50) 1000 30 [.agg [.rs _ kQ, .rs _ k_Ws, .si .i64 k_Lo, .si .i64 k_Hi], .agg [.si .i64 h_Rows, .si .i64 h_Seats, .si .i64 h_Com], .rs _ nums] [] 0 (Y1i [(false, [.nst 23 [.sl Jb]]), (false, [.int .i64])] Q) (fun _ _ _ _ => Stuck 421) = Xbl kQ k_Ws k_Lo k_Hi h_Rows h_Seats h_Com nums Q := by kernel_rfl
abbrev X2 : List AT := [.agg [.sl Ja, .sl Jb, .int .i64, .int .i64], .agg [.int .i64, .int .i64, .int .i64], .one (.sl Jb)]
theorem Xgd {pre : DS -> Prop} {res : DS -> DS} (hyp_ : ∀ (W : InW) (kQ : Ro Ja) (k_Ws : Ro Jb) (k_Lo k_Hi h_Rows h_Seats h_Com : Int) (nums : Ro Jb), pre [[.l kQ.xs, .l k_Ws.xs, .i k_Lo, .i k_Hi], [.i h_Rows, .i h_Seats, .i h_Com], [.l nums.xs]] -> ∀ Q : DS -> Prop, Q (res [[.l kQ.xs, .l k_Ws.xs, .i k_Lo, .i k_Hi], [.i h_Rows, .i h_Seats, .i h_Com], [.l nums.xs]]) -> Xbl kQ k_Ws k_Lo k_Hi h_Rows h_Seats h_Com nums Q) : PureOk Try.prog 30 X2 [(false, [.nst 23 [.sl Jb]]), (false, [.int .i64])] pre res :=
 PureOk.of' (fun W => @TT W) (fun W => @Xb W) Xa T54 1000 50 fun W kQ k_Ws k_Lo k_Hi h_Rows h_Seats h_Com nums hp =>
  (Xfz W kQ k_Ws k_Lo k_Hi h_Rows h_Seats h_Com nums (fun o => o = res [[.l kQ.xs, .l k_Ws.xs, .i k_Lo, .i k_Hi], [.i h_Rows, .i h_Seats, .i h_Com], [.l nums.xs]])).mpr (hyp_ W kQ k_Ws k_Lo k_Hi h_Rows h_Seats h_Com nums hp _ rfl)
theorem Xh4 : PureOk Try.prog 30 X2 [(false, [.nst 23 [.sl Jb]]), (false, [.int .i64])] (fun _ => True) X9 :=
 Xgd fun W qs ws lo hi r S c nums hp Q h => by
  unfold Xbl;delta Zl Zk Zbs Zbc;simp only [X9] at h;refine vifd (fun e => ?_) (fun e => vifn (fun _ => ?_) (fun e2 => absurd e2 e))
  ·obtain ⟨bv, ho⟩ := Sp.hallE_iff.1 e;have hl := Sp.length_papD qs.xs ws.xs lo hi;have hf := ho.few;have hn := bv.n2;refine ⟨trivial, vif (fun f => ?_) (fun f => ⟨⟨bv.bk, bv.st, Sp.memo_nil, by omega⟩, ⟨fun ys hy => ?_⟩⟩)⟩
   ·have hE : Sp.drawE qs.xs ws.xs lo hi r S c nums.xs = 7 := by unfold Sp.drawE; rw [if_pos e, if_pos f]
    rw [Sp.drawL_no (by rw [hE]; decide), hE] at h;exact h
   ·have nu := Sp.nu_ok f (by omega);have f2 := Bool.eq_false_iff.1 f
    change Vif (decide (Sp.total qs.xs ws.xs lo hi = 0)) _ _
    refine vifd (fun g => ?_) (fun g => ⟨⟨bv, bv.bk, hy, Sp.rs_ok bv g, nu, rfl, ho.s1, ho.s6, rfl, by omega, by omega, rfl⟩, vif (fun d => ?_) (fun d => ?_)⟩)
    ·have hE : Sp.drawE qs.xs ws.xs lo hi r S c nums.xs = 4 := by unfold Sp.drawE; rw [if_pos e, if_neg f2, if_pos g]
     rw [Sp.drawL_no (by rw [hE]; decide), hE] at h; exact h
    ·have hE : Sp.drawE qs.xs ws.xs lo hi r S c nums.xs = 0 := by unfold Sp.drawE; rw [if_pos e, if_neg f2, if_neg g]; exact if_pos d
     rw [Sp.drawL_ok hE, hE] at h; exact h
    ·have hE : Sp.drawE qs.xs ws.xs lo hi r S c nums.xs = 9 := by unfold Sp.drawE; rw [if_pos e, if_neg f2, if_neg g]; exact if_neg (Bool.eq_false_iff.1 d)
     rw [Sp.drawL_no (by rw [hE]; decide), hE] at h; exact h
  ·have hE : Sp.drawE qs.xs ws.xs lo hi r S c nums.xs = Sp.hallE qs.xs ws.xs lo hi r S c nums.xs.length := by unfold Sp.drawE; rw [if_neg e]
   rw [Sp.drawL_no (by rw [hE]; exact e), hE] at h;exact h
noncomputable def Xdt : PC Try.prog := ⟨30, X2, [(false, [.nst 23 [.sl Jb]]), (false, [.int .i64])], fun _ => True, X9, Xh4⟩
end Go.Proofs.Ytilnbgpogfabaaa
