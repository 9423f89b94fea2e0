/-
  A machine over abstract states, proved sound: the help of the proof of a law.
-/
import Derived.Test.YtdokbocmgdhmmaaQf
set_option linter.unusedVariables false
set_option linter.unusedSectionVars false
set_option linter.unusedSimpArgs false
namespace Go.Proofs.Ytdokbocmgdhmmaa
open Go.RowKit
set_option linter.unusedVariables false
set_option maxRecDepth 100000
set_option maxHeartbeats 1600000
def sp_filA [InW] (e : List Ed) (K : Nat → List Ed → Prop) : Prop := match e with
  | [.i k, .i left, .i n, .l p, .ro _ sk, .ro _ is, .ro _ ts, .i al, .ro _ rg, .i parts] => sp_fil (sk.xs.length - k.toNat) [.i k, .i left, .i n, .l p, .ro _ sk, .ro _ is, .ro _ ts, .i al, .ro _ rg, .i parts] K
  | _ => False
noncomputable def cc_filA : CC := { cc_fil 0 with spec := fun e K => sp_filA e K }
namespace Sp
def feF (ok : Dt → Bool) (n : Nat) : Nat → Int → Bool × Dt
  | 0, _ => (false, [])
  | r + 1, i => if (fiF ok n n 0 i (List.replicate n [.i 0])).1 then fiF ok n n 0 i (List.replicate n [.i 0]) else feF ok n r (i + 1)
end Sp
theorem okCfilA : ∀ W : InW, @CallC W Try.prog cc_filA := fun W xs ys e1 e2 h1 h2 K hs => by
  have hs : sp_filA (e1 ++ e2) K := hs
  unfold sp_filA at hs
  split at hs
  · rename_i k left n p _ sk _ is _ ts al _ rg parts he
    have m1 : 1 ≤ sk.xs.length - k.toNat := by
      obtain ⟨⟨_, _, hF⟩, _⟩ := hs
      exact hF.mm
    exact fil_all (sk.xs.length - k.toNat) m1 W xs ys e1 e2 h1 h2 K (by rw [he]; exact hs)
  · exact hs.elim
noncomputable def TZb : Tab Try.prog := ⟨[], [], [ceOf cc_filA okCfilA]⟩
noncomputable def le_few : LE Try.prog := LE.unroll (fun W => @TT W) (fun W => @TT_ok W) mixed_ok TZb 1000 50 42 34 6 (by kernel_rfl)
noncomputable def TZc : Tab Try.prog := ⟨[pc_ready], [le_few], []⟩
def VR_pFewest [W : InW] (s_Skills : Ro [.str, .int .i64, .int .i64, .int .i64, .int .i64]) (s_Instrs : Ro [.str, .int .i64, .int .i64]) (t_Tasks : Ro [.int .i64, .int .i64]) (t_Allowed : Int) (rg : Ro [.int .i64, .int .i64]) (parts z : Int) (Q : DS → Prop) : Nat → Nat → Prop
  | 0, _ => Stuck 45
  | r + 1, j => Vif (decide (Int.ofNat j < z)) (Need (decide (((s_Skills.xs.length : Nat) : Int) = ((s_Skills.xs.length : Nat) : Int)) && decide (0 ≤ ((s_Skills.xs.length : Nat) : Int)) && decide (8 * ((s_Skills.xs.length : Nat) : Int).toNat ≤ 281474976710656)) (PreL LPfw LPfw (PreL LPfw LPfw (Pre ((0 : Int) ≤ 0 ∧ ((s_Skills.xs.length : Nat) : Int) = ((s_Skills.xs.length : Nat) : Int) ∧ Sp.Fi s_Skills.xs s_Instrs.xs rg.xs t_Tasks.xs t_Allowed parts (List.length s_Skills.xs) (Int.toNat 0) (List.length s_Skills.xs - Int.toNat 0) (Int.ofNat j) (List.replicate ((s_Skills.xs.length : Nat) : Int).toNat (zeroCls [Ty.int IntKind.i64])))
    (Vif (Sp.fiF (Sp.okQ s_Skills.xs rg.xs t_Tasks.xs t_Allowed parts) (List.length s_Skills.xs) (List.length s_Skills.xs - Int.toNat 0) (Int.toNat 0) (Int.ofNat j) (List.replicate ((s_Skills.xs.length : Nat) : Int).toNat (zeroCls [Ty.int IntKind.i64]))).1 (Q [[.l (Sp.fiF (Sp.okQ s_Skills.xs rg.xs t_Tasks.xs t_Allowed parts) (List.length s_Skills.xs) (List.length s_Skills.xs - Int.toNat 0) (Int.toNat 0) (Int.ofNat j) (List.replicate ((s_Skills.xs.length : Nat) : Int).toNat (zeroCls [Ty.int IntKind.i64]))).2], [.i 0]]) (VR_pFewest s_Skills s_Instrs t_Tasks t_Allowed rg parts z Q r (j + 1))))))) (Q [[.l []], [.i 9]])
def VC_pFewest [W : InW] (s_Skills : Ro [.str, .int .i64, .int .i64, .int .i64, .int .i64]) (s_Instrs : Ro [.str, .int .i64, .int .i64]) (t_Tasks : Ro [.int .i64, .int .i64]) (t_Allowed : Int) (rg : Ro [.int .i64, .int .i64]) (w : Int) (Q : DS → Prop) : Prop :=
  Pre True (Vif (!decide (Sp.readyE s_Skills.xs s_Instrs.xs t_Tasks.xs t_Allowed rg.xs w = 0)) (Q [[.l []], [.i (Sp.readyE s_Skills.xs s_Instrs.xs t_Tasks.xs t_Allowed rg.xs w)]]) (Ar .i64 (((s_Skills.xs.length : Nat) : Int) * 8) fun z => Ar .i64 (z + 1) fun z => VR_pFewest s_Skills s_Instrs t_Tasks t_Allowed rg (Sp.readyP s_Skills.xs s_Instrs.xs t_Tasks.xs t_Allowed rg.xs w) z Q 42 0))
theorem vc_pFewest (W : InW) (s_Skills s_Instrs t_Tasks t_Allowed rg w Q) : bodyK (cxT Try.prog TT TZc 1000 50) 1000 34 [.agg [.rs _ s_Skills, .rs _ s_Instrs], .agg [.rs _ t_Tasks, .si .i64 t_Allowed], .rs _ rg, .si .i64 w] [] 0 (leafK [(false, [.row 3 [.int .i64]]), (false, [.int .i64])] Q) (fun _ _ _ _ => Stuck 421) = VC_pFewest s_Skills s_Instrs t_Tasks t_Allowed rg w Q := by kernel_rfl
abbrev ats_pFewest : List AT := [.agg [.sl [.str, .int .i64, .int .i64, .int .i64, .int .i64], .sl [.str, .int .i64, .int .i64]], .agg [.sl [.int .i64, .int .i64], .int .i64], .one (.sl [.int .i64, .int .i64]), .one (.int .i64)]
theorem ok_pFewest {pre : DS → Prop} {res : DS → DS} (hyp_ : ∀ (W : InW) (s_Skills : Ro [.str, .int .i64, .int .i64, .int .i64, .int .i64]) (s_Instrs : Ro [.str, .int .i64, .int .i64]) (t_Tasks : Ro [.int .i64, .int .i64]) (t_Allowed : Int) (rg : Ro [.int .i64, .int .i64]) (w : Int), pre [[.l s_Skills.xs, .l s_Instrs.xs], [.l t_Tasks.xs, .i t_Allowed], [.l rg.xs], [.i w]] → ∀ Q : DS → Prop, Q (res [[.l s_Skills.xs, .l s_Instrs.xs], [.l t_Tasks.xs, .i t_Allowed], [.l rg.xs], [.i w]]) → VC_pFewest s_Skills s_Instrs t_Tasks t_Allowed rg w Q) : PureOk Try.prog 34 ats_pFewest [(false, [.row 3 [.int .i64]]), (false, [.int .i64])] pre res :=
  PureOk.of' (fun W => @TT W) (fun W => @TT_ok W) mixed_ok TZc 1000 50 fun W s_Skills s_Instrs t_Tasks t_Allowed rg w hp =>
    (vc_pFewest W s_Skills s_Instrs t_Tasks t_Allowed rg w (fun o => o = res [[.l s_Skills.xs, .l s_Instrs.xs], [.l t_Tasks.xs, .i t_Allowed], [.l rg.xs], [.i w]])).mpr (hyp_ W s_Skills s_Instrs t_Tasks t_Allowed rg w hp _ rfl)
end Go.Proofs.Ytdokbocmgdhmmaa
namespace Go.Proofs.Ytdokbocmgdhmmaa
open Go.RowKit
set_option linter.unusedVariables false
set_option maxRecDepth 100000
set_option maxHeartbeats 1600000
namespace Sp
structure Ones (n : Nat) (p : Dt) : Prop where
  len : p.length = n
  one : ∀ i, i < p.length → ∃ a, p.getD i [] = [.i a]
structure Beg (n k : Nat) (left : Int) (p r : Dt) : Prop where
  pl : Plan n r
  eq : ∀ i, i < k → fLv r i = fLv p i
  sm : sumF r k (n - k) = left
structure Fst (ok : Dt → Bool) (n : Nat) (S : Dt → Prop) (x : Bool × Dt) : Prop where
  no : x.1 = false → ∀ t, S t → ok t = false
  yes : x.1 = true → S x.2 ∧ ok x.2 = true ∧ ∀ t, S t → cd n t < cd n x.2 → ok t = false
end Sp
theorem ones_set {n k : Nat} {x : Int} {p : Dt} (h : Sp.Ones n p) : Sp.Ones n (p.set k [.i x]) := ⟨by rw [List.length_set]; exact h.len, fun j hj => by
  rw [getD_set]
  split
  · exact ⟨_, rfl⟩
  · exact h.one j (by simpa using hj)⟩
theorem sumF_nn {p : Dt} (h : Sp.PlOk p) : ∀ (n i : Nat), 0 ≤ Sp.sumF p i n ∧ Sp.sumF p i n ≤ 8 * n
  | 0, _ => by rw [Sp.sumF]; omega
  | n + 1, i => by
    have := sumF_nn h n (i + 1)
    have p8 := h.p8 i
    rw [Sp.sumF]
    omega
theorem cd_lex {k : Nat} {q t : Dt} (hq : Sp.PlOk q) (ht : Sp.PlOk t) (he : ∀ i, i < k → Sp.fLv t i = Sp.fLv q i) (hk : Sp.fLv q k < Sp.fLv t k) : ∀ m, k < m → Sp.cd m q < Sp.cd m t
  | 0, h => by omega
  | m + 1, h => by
    have q8 := hq.p8 m
    have t8 := ht.p8 m
    rw [Sp.cd, Sp.cd]
    by_cases e : k = m
    · subst e
      rw [cd_congr he]
      omega
    · have := cd_lex hq ht he hk m (by omega)
      omega
theorem beg_step {n k : Nat} {left i : Int} {p t : Dt} (hk : k < n) (hp : p.length = n) (h : Sp.Beg n k left p t) (e : Sp.fLv t k = i) : Sp.Beg n (k + 1) (left - i) (p.set k [.i i]) t := by
  refine ⟨h.pl, fun j hj => ?_, ?_⟩
  · rw [fLv_set (by omega)]
    by_cases e2 : k = j
    · subst e2; rw [if_pos rfl]; exact e
    · rw [if_neg (by omega)]; exact h.eq j (by omega)
  · have := h.sm
    rw [show n - k = (n - (k + 1)) + 1 by omega, Sp.sumF] at this
    omega
theorem beg_back {n k : Nat} {left i : Int} {p t : Dt} (hk : k < n) (hp : p.length = n) (h : Sp.Beg n (k + 1) (left - i) (p.set k [.i i]) t) : Sp.Beg n k left p t ∧ Sp.fLv t k = i := by
  have e : Sp.fLv t k = i := by
    rw [h.eq k (by omega), fLv_set (by omega), if_pos rfl]
  refine ⟨⟨h.pl, fun j hj => ?_, ?_⟩, e⟩
  · rw [h.eq j (by omega), fLv_set (by omega), if_neg (by omega)]
  · have := h.sm
    rw [show n - k = (n - (k + 1)) + 1 by omega, Sp.sumF]
    omega
theorem beg_congr {n k : Nat} {left : Int} {p p' t : Dt} (h : ∀ i, i < k → Sp.fLv p' i = Sp.fLv p i) : Sp.Beg n k left p t ↔ Sp.Beg n k left p' t :=
  ⟨fun a => ⟨a.pl, fun i hi => (a.eq i hi).trans (h i hi).symm, a.sm⟩, fun a => ⟨a.pl, fun i hi => (a.eq i hi).trans (h i hi), a.sm⟩⟩
theorem lp_res {ok : Dt → Bool} {n k m : Nat} {left : Int} (hk : k < n)
    (hF : ∀ (i : Int) (p : Dt), Sp.Ones n p → (∀ j, j < k → 0 ≤ Sp.fLv p j ∧ Sp.fLv p j ≤ 8) → 0 ≤ i → i ≤ 8 → i ≤ left → Sp.Ones n (Sp.fiF ok n m (k + 1) (left - i) (p.set k [.i i])).2 ∧ Sp.Fst ok n (Sp.Beg n (k + 1) (left - i) (p.set k [.i i])) (Sp.fiF ok n m (k + 1) (left - i) (p.set k [.i i]))) :
    ∀ (r : Nat) (i : Int) (p : Dt), Sp.Ones n p → (∀ j, j < k → 0 ≤ Sp.fLv p j ∧ Sp.fLv p j ≤ 8) → 0 ≤ i → i + r = min left 8 + 1 → Sp.Ones n (Sp.lpF (Sp.fiF ok n m (k + 1)) k left r i p).2 ∧ Sp.Fst ok n (fun t => Sp.Beg n k left p t ∧ i ≤ Sp.fLv t k) (Sp.lpF (Sp.fiF ok n m (k + 1)) k left r i p)
  | 0, i, p, hp, hq, h0, hr => by
    refine ⟨hp, ⟨fun _ t ⟨ht, hi⟩ => ?_, fun h => by cases h⟩⟩
    have t8 := ht.pl.ok.p8 k
    have hs := ht.sm
    rw [show n - k = (n - (k + 1)) + 1 by omega, Sp.sumF] at hs
    have := sumF_nn ht.pl.ok (n - (k + 1)) (k + 1)
    omega
  | r + 1, i, p, hp, hq, h0, hr => by
    obtain ⟨hO, hf⟩ := hF i p hp hq h0 (by omega) (by omega)
    have hkeep := fi_keep (ok := ok) (n := n) m (k + 1) (left - i) (p.set k [.i i])
    rw [Sp.lpF]
    split
    · rename_i c
      obtain ⟨y1, y2, y3⟩ := hf.yes c
      obtain ⟨b1, b2⟩ := beg_back hk hp.len y1
      refine ⟨hO, ⟨fun h => (by rw [c] at h; cases h), fun _ => ⟨⟨b1, by omega⟩, y2, fun t ⟨ht, hi⟩ hc => ?_⟩⟩⟩
      by_cases e : Sp.fLv t k = i
      · exact y3 t (beg_step hk hp.len ht e) hc
      · exfalso
        have := cd_lex (k := k) b1.pl.ok ht.pl.ok (fun j hj => (ht.eq j hj).trans (b1.eq j hj).symm) (by rw [b2]; omega) n hk
        omega
    · rename_i c
      have c : (Sp.fiF ok n m (k + 1) (left - i) (p.set k [.i i])).1 = false := by simpa using c
      have hpre : ∀ j, j < k → Sp.fLv (Sp.fiF ok n m (k + 1) (left - i) (p.set k [.i i])).2 j = Sp.fLv p j := fun j hj => by
        rw [hkeep j (by omega), set_keep hj]
      have ih := lp_res hk hF r (i + 1) (Sp.fiF ok n m (k + 1) (left - i) (p.set k [.i i])).2 hO (fun j hj => by rw [hpre j hj]; exact hq j hj) (by omega) (by omega)
      refine ⟨ih.1, ⟨fun h t ⟨ht, hi⟩ => ?_, fun h => ?_⟩⟩
      · by_cases e : Sp.fLv t k = i
        · exact hf.no c t (beg_step hk hp.len ht e)
        · exact ih.2.no h t ⟨(beg_congr hpre).1 ht, by omega⟩
      · obtain ⟨⟨y1, y2⟩, y3, y4⟩ := ih.2.yes h
        refine ⟨⟨(beg_congr hpre).2 y1, by omega⟩, y3, fun t ⟨ht, hi⟩ hc => ?_⟩
        by_cases e : Sp.fLv t k = i
        · exact hf.no c t (beg_step hk hp.len ht e)
        · exact y4 t ⟨(beg_congr hpre).1 ht, by omega⟩ hc
theorem fi_res {ok : Dt → Bool} {n : Nat} (n5 : n ≤ 5) : ∀ (m k : Nat) (left : Int) (p : Dt), k + m = n → 1 ≤ m → Sp.Ones n p → (∀ j, j < k → 0 ≤ Sp.fLv p j ∧ Sp.fLv p j ≤ 8) → 0 ≤ left →
    Sp.Ones n (Sp.fiF ok n m k left p).2 ∧ Sp.Fst ok n (Sp.Beg n k left p) (Sp.fiF ok n m k left p)
  | 0, _, _, _, _, h, _, _, _ => by omega
  | m + 1, k, left, p, hm, _, hp, hq, h0 => by
    have hl := hp.len
    rw [Sp.fiF]
    by_cases e : k + 1 = n
    · rw [if_pos e]
      have one : ∀ t, Sp.Beg n k left p t → left ≤ 8 ∧ t = p.set k [.i left] := fun t ht => by
        have hs := ht.sm
        rw [show n - k = 0 + 1 by omega, Sp.sumF, Sp.sumF, Int.add_zero] at hs
        have t8 := ht.pl.ok.p8 k
        refine ⟨by omega, dt_ext (by rw [List.length_set]; exact ht.pl.len.trans hl.symm) fun j hj => ?_⟩
        rw [ht.pl.len] at hj
        rw [one_at ht.pl hj]
        by_cases ek : j = k
        · subst ek
          rw [getD_set, if_pos ⟨rfl, by omega⟩, hs]
        · obtain ⟨a, ha⟩ := hp.one j (by omega)
          rw [getD_set, if_neg (fun h => ek h.1.symm), ht.eq j (by omega), ha]
          show [Cl.i ((p.getD j []).getD 0 .z).int] = _
          rw [ha]
          rfl
      by_cases h8 : 8 < left
      · rw [if_pos h8]
        exact ⟨ones_set hp, ⟨fun _ t ht => by have := (one t ht).1; omega, fun h => by cases h⟩⟩
      · rw [if_neg h8]
        have hpl : Sp.Plan n (p.set k [.i left]) := ⟨(ones_set hp).len, ⟨by rw [List.length_set]; omega, fun j => by
          rw [fLv_set (by omega)]
          split
          · omega
          · by_cases hj : j < k
            · exact hq j hj
            · unfold Sp.fLv; rw [fin_z (by omega)]; omega⟩, (ones_set hp).one⟩
        have hb : Sp.Beg n k left p (p.set k [.i left]) := ⟨hpl, fun i hi => set_keep hi, by
          rw [show n - k = 0 + 1 by omega, Sp.sumF, Sp.sumF, Int.add_zero, fLv_set (by omega), if_pos rfl]⟩
        refine ⟨ones_set hp, ⟨fun h t ht => ?_, fun h => ⟨hb, h, fun t ht hc => ?_⟩⟩⟩
        · rw [(one t ht).2]; exact h
        · rw [(one t ht).2] at hc; exact absurd hc (Nat.lt_irrefl _)
    · rw [if_neg e]
      have key := lp_res (ok := ok) (n := n) (k := k) (m := m) (left := left) (by omega) (fun i p hp hq h0 h8 hi => fi_res n5 m (k + 1) (left - i) (p.set k [.i i]) (by omega) (by omega) (ones_set hp) (fun j hj => by
        rw [fLv_set (by rw [hp.len]; omega)]
        split
        · omega
        · exact hq j (by omega)) (by omega)) (min left 8 + 1).toNat 0 p hp hq (by omega) (by omega)
      exact ⟨key.1, ⟨fun h t ht => key.2.no h t ⟨ht, (ht.pl.ok.p8 k).1⟩, fun h => by
        obtain ⟨y1, y2, y3⟩ := key.2.yes h
        exact ⟨y1.1, y2, fun t ht hc => y3 t ⟨ht, (ht.pl.ok.p8 k).1⟩ hc⟩⟩⟩
theorem rep_ones (n : Nat) : Sp.Ones n (List.replicate n [.i 0]) := ⟨List.length_replicate, fun i hi => ⟨0, by rw [List.length_replicate] at hi; rw [List.getD_eq_getElem?_getD, List.getElem?_replicate, if_pos hi]; rfl⟩⟩
theorem fe_res {ok : Dt → Bool} {n : Nat} (n1 : 1 ≤ n) (n5 : n ≤ 5) : ∀ (r : Nat) (i : Int), 0 ≤ i →
    ((Sp.feF ok n r i).1 = false → (Sp.feF ok n r i).2 = [] ∧ ∀ t, Sp.Plan n t → i ≤ Sp.sumI t → Sp.sumI t < i + r → ok t = false) ∧
    ((Sp.feF ok n r i).1 = true → Sp.Plan n (Sp.feF ok n r i).2 ∧ ok (Sp.feF ok n r i).2 = true ∧ i ≤ Sp.sumI (Sp.feF ok n r i).2 ∧ ∀ t, Sp.Plan n t → i ≤ Sp.sumI t → (Sp.sumI t < Sp.sumI (Sp.feF ok n r i).2 ∨ (Sp.sumI t = Sp.sumI (Sp.feF ok n r i).2 ∧ Sp.cd n t < Sp.cd n (Sp.feF ok n r i).2)) → ok t = false)
  | 0, i, h0 => ⟨fun _ => ⟨rfl, fun t _ h1 h2 => by omega⟩, fun h => by cases h⟩
  | r + 1, i, h0 => by
    have hf := (fi_res (ok := ok) (n := n) n5 n 0 i (List.replicate n [.i 0]) (by omega) n1 (rep_ones n) (fun j hj => by omega) h0).2
    have beg : ∀ t, Sp.Plan n t → Sp.sumI t = i → Sp.Beg n 0 i (List.replicate n [.i 0]) t := fun t ht hs => ⟨ht, fun j hj => by omega, by rw [← hs, Sp.sumI, ht.len]; rfl⟩
    have ih := fe_res (ok := ok) n1 n5 r (i + 1) (by omega)
    rw [Sp.feF]
    split
    · rename_i c
      obtain ⟨y1, y2, y3⟩ := hf.yes c
      have hs : Sp.sumI (Sp.fiF ok n n 0 i (List.replicate n [.i 0])).2 = i := by rw [Sp.sumI, y1.pl.len]; exact y1.sm
      refine ⟨fun h => (by rw [c] at h; cases h), fun _ => ⟨y1.pl, y2, by omega, fun t ht hi hc => ?_⟩⟩
      rcases hc with hc | ⟨h1, h2⟩
      · omega
      · exact y3 t (beg t ht (by omega)) h2
    · rename_i c
      have c : (Sp.fiF ok n n 0 i (List.replicate n [.i 0])).1 = false := by simpa using c
      refine ⟨fun h => ⟨(ih.1 h).1, fun t ht h1 h2 => ?_⟩, fun h => ?_⟩
      · by_cases e : Sp.sumI t = i
        · exact hf.no c t (beg t ht e)
        · exact (ih.1 h).2 t ht (by omega) (by omega)
      · obtain ⟨y1, y2, y3, y4⟩ := ih.2 h
        refine ⟨y1, y2, by omega, fun t ht hi hc => ?_⟩
        by_cases e : Sp.sumI t = i
        · exact hf.no c t (beg t ht e)
        · exact y4 t ht (by omega) hc
theorem fe_best {sk rg ts : Dt} {al w : Int} (n1 : 1 ≤ sk.length) (n5 : sk.length ≤ 5) : Sp.feF (Sp.okP sk rg ts al w) sk.length (8 * sk.length + 1) 0 = (Sp.found sk rg ts al w, if Sp.found sk rg ts al w then Sp.best sk rg ts al w else []) := by
  have h := fe_res (ok := Sp.okP sk rg ts al w) n1 n5 (8 * sk.length + 1) 0 (by omega)
  have hs : ∀ t, Sp.Plan sk.length t → 0 ≤ Sp.sumI t ∧ Sp.sumI t ≤ 8 * sk.length := fun t ht => by
    have := sumF_nn ht.ok sk.length 0
    rw [Sp.sumI, ht.len]
    exact this
  cases c : (Sp.feF (Sp.okP sk rg ts al w) sk.length (8 * sk.length + 1) 0).1 with
  | true =>
    obtain ⟨y1, y2, y3, y4⟩ := h.2 c
    have hb := best_of (sk := sk) (rg := rg) (ts := ts) (al := al) (w := w) (b := (Sp.feF (Sp.okP sk rg ts al w) sk.length (8 * sk.length + 1) 0).2) ⟨y1, y2, cd_lt y1.ok _, fun q hq _ ho => by
      by_cases e : Sp.sumI (Sp.feF (Sp.okP sk rg ts al w) sk.length (8 * sk.length + 1) 0).2 < Sp.sumI q
      · exact .inl e
      · by_cases e2 : Sp.sumI q < Sp.sumI (Sp.feF (Sp.okP sk rg ts al w) sk.length (8 * sk.length + 1) 0).2
        · exact absurd ho (by rw [y4 q hq (hs q hq).1 (.inl e2)]; decide)
        · refine .inr ⟨by omega, Nat.le_of_not_lt fun e3 => ?_⟩
          exact absurd ho (by rw [y4 q hq (hs q hq).1 (.inr ⟨by omega, e3⟩)]; decide)⟩
    rw [hb.1, if_pos rfl, hb.2]
    exact Prod.ext c rfl
  | false =>
    obtain ⟨y1, y2⟩ := h.1 c
    have hb := no_of (sk := sk) (rg := rg) (ts := ts) (al := al) (w := w) ⟨fun q hq _ => y2 q hq (hs q hq).1 (by have := (hs q hq).2; omega)⟩
    rw [hb, if_neg (by decide)]
    exact Prod.ext c y1
end Go.Proofs.Ytdokbocmgdhmmaa
namespace Go.Proofs.Ytdokbocmgdhmmaa
open Go.RowKit
set_option linter.unusedVariables false
set_option maxRecDepth 100000
set_option maxHeartbeats 1600000
theorem vr_ok [W : InW] {sk : Ro [.str, .int .i64, .int .i64, .int .i64, .int .i64]} {is : Ro [.str, .int .i64, .int .i64]} {ts : Ro [.int .i64, .int .i64]} {al : Int} {rg : Ro [.int .i64, .int .i64]} {parts z : Int} {Q : DS → Prop}
    (hS : Sp.SchOk sk.xs is.xs) (hT : Sp.TsIn ts.xs sk.xs.length) (hl : rg.xs.length = sk.xs.length) (hR : Sp.RgOk rg.xs) (a0 : 0 ≤ al) (a1 : al ≤ ts.xs.length) (hz : z ≤ 1000) : ∀ (r j : Nat), (j : Int) ≤ z → z < j + r →
    Q (if (Sp.feF (Sp.okQ sk.xs rg.xs ts.xs al parts) sk.xs.length (z - j).toNat j).1 then [[.l (Sp.feF (Sp.okQ sk.xs rg.xs ts.xs al parts) sk.xs.length (z - j).toNat j).2], [.i 0]] else [[.l []], [.i 9]]) → VR_pFewest sk is ts al rg parts z Q r j
  | 0, j, h1, h2, _ => by omega
  | r + 1, j, h1, h2, hk => by
    have n1 := hS.n1
    have n5 := hS.n5
    unfold VR_pFewest
    rw [show Int.ofNat j = (j : Int) from rfl, show Int.toNat 0 = 0 from rfl, Nat.sub_zero, show zeroCls [Ty.int IntKind.i64] = [.i 0] from rfl, Int.toNat_natCast]
    refine vifd (fun e => ?_) fun e => ?_
    · rw [show (z - j).toNat = (z - ((j + 1 : Nat) : Int)).toNat + 1 by omega, Sp.feF] at hk
      refine ned (by simp; omega) ⟨rfl, ⟨rfl, ⟨⟨by omega, rfl, ⟨hS, hT, hl, hR, a0, a1, rfl, by omega, n1, List.length_replicate, fun i hi => by omega, by omega, by omega⟩⟩, vif (fun f => ?_) fun f => ?_⟩⟩⟩
      · rw [if_pos f, if_pos f] at hk
        exact hk
      · simp only [f, Bool.false_eq_true, if_false] at hk
        exact vr_ok hS hT hl hR a0 a1 hz r (j + 1) (by omega) (by omega) hk
    · rw [show (z - j).toNat = 0 by omega, Sp.feF] at hk
      exact hk
theorem ok_pFew : PureOk Try.prog 34 ats_pFewest [(false, [.row 3 [.int .i64]]), (false, [.int .i64])] (fun _ => True) res_Fewest :=
  ok_pFewest fun W sk is ts al rg w hp Q h => by
    unfold VC_pFewest
    simp only [res_Fewest] at h
    refine ⟨trivial, vifn (fun e => ?_) fun e => ?_⟩
    · rw [Sp.fewD, Sp.fewE, if_neg e, if_neg e] at h; exact h
    · have hF := fw_iff.1 e
      have n1 := hF.str.sch.n1
      have n5 := hF.str.sch.n5
      have a0 := hF.str.a0
      have a1 := hF.str.a1
      have hE : Sp.fewE sk.xs is.xs ts.xs al rg.xs w = if Sp.found sk.xs rg.xs ts.xs al w then 0 else 9 := by rw [Sp.fewE, if_pos e]
      rw [Sp.fewD, hE] at h
      refine ar64 (by omega) (ar64 (by omega) (vr_ok hF.str.sch hF.str.tin hF.len hF.rg a0 (by omega) (by omega) 42 0 (by omega) (by omega) ?_))
      have e2 : Sp.okQ sk.xs rg.xs ts.xs al (Sp.readyP sk.xs is.xs ts.xs al rg.xs w) = Sp.okP sk.xs rg.xs ts.xs al w := funext fun p => by
        rw [Sp.readyP, if_pos e]; rfl
      rw [e2, show ((sk.xs.length : Int) * 8 + 1 - ((0 : Nat) : Int)).toNat = 8 * sk.xs.length + 1 by omega, show (((0 : Nat) : Int)) = 0 from rfl, fe_best n1 n5]
      dsimp only
      cases f : Sp.found sk.xs rg.xs ts.xs al w with
      | true => rw [f, if_pos rfl, if_pos rfl] at h; rw [if_pos rfl, if_pos rfl]; exact h
      | false => rw [f, if_neg (show ¬ false = true by decide), if_neg (show ¬ (9 : Int) = 0 by decide)] at h; rw [if_neg (show ¬ false = true by decide)]; exact h
noncomputable def pc_Fewest : PC Try.prog := ⟨34, ats_pFewest, [(false, [.row 3 [.int .i64]]), (false, [.int .i64])], fun _ => True, res_Fewest, ok_pFew⟩
end Go.Proofs.Ytdokbocmgdhmmaa
