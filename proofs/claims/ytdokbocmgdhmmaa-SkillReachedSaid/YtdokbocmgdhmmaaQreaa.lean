/-
  'SkillReached': for every input the law returns true, and what is handed in reads as before. No condition.
-/
import Derived.Test.YtdokbocmgdhmmaaQf
import Derived.Test.YtdokbocmgdhmmaaRows
import Derived.WalkKit
import Derived.ProofKit
set_option linter.unusedVariables false
set_option linter.unusedSectionVars false
set_option linter.unusedSimpArgs false
namespace Go.Proofs.Ytdokbocmgdhmmaa
open Go.RowKit
set_option linter.unusedVariables false
set_option maxRecDepth 100000
set_option maxHeartbeats 1600000
namespace Sp
def isIn (set : Dt) (j : Nat) : Bool := (cel set j 0).bool
def cnt (set : Dt) : Nat → Int
  | 0 => 0
  | n + 1 => if isIn set n then cnt set n + 1 else cnt set n
def cntD (set : Dt) (n : Nat) : Dt := (List.range (n + 1)).map fun (j : Nat) => [.i (cnt set j)]
def spL (hi : Int) (n : Nat) : Int := max 0 (if (n : Int) = 0 then 0 else n - hi)
def spH (lo : Int) (n : Nat) : Int := min 1000 (if (n : Int) = 1000 then 1000 else n - lo)
def spN (set : Dt) (lo hi : Int) (n : Nat) : Bool := if spL hi n ≤ spH lo n then decide (cnt set (spL hi n).toNat < cnt set (spH lo n + 1).toNat) else false
def sprD (set : Dt) (lo hi : Int) : Dt := (List.range 1001).map fun (n : Nat) => [.b (spN set lo hi n)]
def spB (bef : Dt) (lo hi : Int) (n : Nat) : Bool := if spL hi n ≤ spH lo n then decide ((cel bef (spL hi n).toNat 0).int < (cel bef (spH lo n + 1).toNat 0).int) else false
def outF (bef out : Dt) (lo hi : Int) (n : Nat) : Dt := (List.range 1001).map fun (j : Nat) => if j < n then out.getD j [] else [.b (spB bef lo hi j)]
end Sp
noncomputable def Tx0 : Tab Try.prog := ⟨[], [], []⟩
def sp_bef [InW] (e : List Ed) (K : Nat → List Ed → Prop) : Prop := match e with
  | [.ro _ set, .i n, .l bef] => Pre (0 ≤ n ∧ n ≤ 1001 ∧ set.xs.length = 1001 ∧ bef = Sp.cntD set.xs n.toNat) (K 0 [.l (Sp.cntD set.xs 1001)])
  | _ => False
noncomputable def lc_bef : LC where
  len := 71
  T := [(0, .rs [.bool]), (5, (.row 6)), (6, .int .i64)]
  H := [(6, .arr 3 [.int .i64])]
  W := [7, 13, 14, 15, 16, 17, 18, 19, 20, 21, 22, 23, 24, 25, 26, 27, 28, 29, 30]
  outs := [⟨.exit 0, [(5, (.row 12))], [(12, .arr 3 [.int .i64])], [0, 6, 7, 13, 14, 15, 16, 17, 18, 19, 20, 21, 22, 23, 24, 25, 26, 27, 28, 29, 30]⟩]
  spec := sp_bef
def VCL_bef [W : InW] (set : Ro [.bool]) (n : Int) (bef : Dt) (A : List Ed → Prop) (K : Nat → List Ed → Prop) : Prop :=
  Vif (decide (n ≤ (1000 : Int))) (Need (decide ((0 : Int) ≤ n) && decide (n < (↑(bef.length) : Int))) (Need (decide (n.toNat < bef.length)) (Need (decide ((0 : Int) ≤ n) && decide (n < (↑(set.xs.length) : Int))) (Need (decide (n.toNat < set.xs.length)) (Vif (cel set.xs n.toNat (0 : Nat)).bool (Ar .i64 ((cel bef n.toNat (0 : Nat)).int + (1 : Int)) fun z => Need (decide ((bef.length + [[Cl.i z]].length) * (8 : Nat) ≤ (140737488355328 : Nat))) (Ar .i64 (n + (1 : Int)) fun z_1 => A [.ro _ set, .i z_1, .l (bef ++ [[Cl.i z]])])) (Need (decide ((bef.length + [[Cl.i (cel bef n.toNat (0 : Nat)).int]].length) * (8 : Nat) ≤ (140737488355328 : Nat))) (Ar .i64 (n + (1 : Int)) fun z => A [.ro _ set, .i z, .l (bef ++ [[Cl.i (cel bef n.toNat (0 : Nat)).int]])]))))))) (K (0 : Nat) [.l bef])
theorem vcl_bef (W : InW) (set n bef A K) : vcTop { cxT Try.prog TT Tx0 1000 50 with fn := 45 } 1000 (loopAt Try.prog 45 4) (tmOut 71 [(0, .rs _ set), (5, .rw 6), (6, .si .i64 n)] [7, 13, 14, 15, 16, 17, 18, 19, 20, 21, 22, 23, 24, 25, 26, 27, 28, 29, 30]) [(6, .arr 3 [.int .i64] bef)] (roundL lc_bef A K) = VCL_bef set n bef A K := by kernel_rfl
def okLt_bef : Prop := ∀ (W : InW) (body a : Code), (Try.prog.funcs[45]?).bind (·.body) = some body → a ∈ loopsIn body → keyOf a = 4 → @LoopOk W Try.prog a (@loopRun W lc_bef)
theorem okl_bef (meas : [InW] → List Ed → Nat) (hyp_ : ∀ (W : InW) (set : Ro [.bool]) (n : Int) (bef : Dt) (K : Nat → List Ed → Prop), sp_bef [.ro _ set, .i n, .l bef] K → ∀ A : List Ed → Prop, (∀ e, meas e < meas [.ro _ set, .i n, .l bef] → sp_bef e K → A e) → VCL_bef set n bef A K) : okLt_bef :=
  LE.okOf' (fun W => @TT W) (fun W => @TT_ok W) mixed_ok Tx0 1000 50 (by kernel_rfl) lc_bef (fun W => @meas W) fun W set n bef K hs =>
    (vcl_bef W set n bef (fun e => meas e < meas [.ro _ set, .i n, .l bef] ∧ sp_bef e K) K).mpr (hyp_ W set n bef K hs _ fun e h1 h2 => ⟨h1, h2⟩)
def sp_spr [InW] (e : List Ed) (K : Nat → List Ed → Prop) : Prop := match e with
  | [.i n, .i lo, .i hi, .l bef, .l out] => Pre (0 ≤ n ∧ n ≤ 1001 ∧ -1000 ≤ lo ∧ lo ≤ 1000 ∧ -1000 ≤ hi ∧ hi ≤ 1000 ∧ bef.length = 1002 ∧ out.length = 1001) (K 0 [.l (Sp.outF bef out lo hi n.toNat)])
  | _ => False
noncomputable def lc_spr : LC where
  len := 71
  T := [(3, (.ptr 1 0)), (5, (.row 4)), (8, (.row 6)), (9, .int .i64)]
  H := [(1, .blk 32 [.int .i64, .int .i64]), (4, .arr 3 [.int .i64]), (6, .arr 4 [.bool])]
  W := [10, 11, 32, 33, 34, 35, 36, 37, 38, 39, 40, 41, 42, 43, 44, 45, 46, 47, 48, 49, 50, 51, 52, 53, 54, 55, 56, 57, 58, 59, 60, 61, 62, 63, 64, 65, 66, 67, 68, 69]
  outs := [⟨.exit 2, [(8, (.row 12))], [(12, .arr 4 [.bool])], [3, 5, 9, 10, 11, 32, 33, 34, 35, 36, 37, 38, 39, 40, 41, 42, 43, 44, 45, 46, 47, 48, 49, 50, 51, 52, 53, 54, 55, 56, 57, 58, 59, 60, 61, 62, 63, 64, 65, 66, 67, 68, 69]⟩]
  spec := sp_spr
def VCL_spr [W : InW] (n lo hi : Int) (bef out : Dt) (A : List Ed → Prop) (K : Nat → List Ed → Prop) : Prop :=
  Vif (decide (n ≤ (1000 : Int))) (Ar .i64 (n - hi) fun z => Ar .i64 (n - lo) fun z_1 => Vif (decide (n = (0 : Int))) (Vif (decide (n = (1000 : Int))) (Need (decide ((0 : Int) ≤ Int.ofNat (1000+1 : Nat)) && decide (Int.ofNat (1000+1 : Nat) < (↑(bef.length) : Int))) (Need (decide ((Int.ofNat (1000+1 : Nat)).toNat < bef.length)) (Need (decide ((0 : Int) ≤ Int.ofNat (0 : Nat)) && decide (Int.ofNat (0 : Nat) < (↑(bef.length) : Int))) (Need (decide ((Int.ofNat (0 : Nat)).toNat < bef.length)) (Need (decide ((0 : Int) ≤ n) && decide (n < (↑(out.length) : Int))) (Need (decide (n.toNat < out.length)) (Ar .i64 (n + (1 : Int)) fun z => A [.i z, .i lo, .i hi, .l bef, .l (List.set out n.toNat [Cl.b (decide ((cel bef (Int.ofNat (0 : Nat)).toNat (0 : Nat)).int < (cel bef (Int.ofNat (1000+1 : Nat)).toNat (0 : Nat)).int))])]))))))) (Vif (decide (Int.ofNat (0 : Nat) ≤ min (1000 : Int) z_1)) (Ar .i64 (min (1000 : Int) z_1 + (1 : Int)) fun z => Need (decide ((0 : Int) ≤ z) && decide (z < (↑(bef.length) : Int))) (Need (decide (z.toNat < bef.length)) (Need (decide ((0 : Int) ≤ Int.ofNat (0 : Nat)) && decide (Int.ofNat (0 : Nat) < (↑(bef.length) : Int))) (Need (decide ((Int.ofNat (0 : Nat)).toNat < bef.length)) (Need (decide ((0 : Int) ≤ n) && decide (n < (↑(out.length) : Int))) (Need (decide (n.toNat < out.length)) (Ar .i64 (n + (1 : Int)) fun z_2 => A [.i z_2, .i lo, .i hi, .l bef, .l (List.set out n.toNat [Cl.b (decide ((cel bef (Int.ofNat (0 : Nat)).toNat (0 : Nat)).int < (cel bef z.toNat (0 : Nat)).int))])]))))))) (Need (decide ((0 : Int) ≤ n) && decide (n < (↑(out.length) : Int))) (Need (decide (n.toNat < out.length)) (Ar .i64 (n + (1 : Int)) fun z => A [.i z, .i lo, .i hi, .l bef, .l (List.set out n.toNat [Cl.b false])]))))) (Vif (decide (n = (1000 : Int))) (Vif (decide (max (0 : Int) z ≤ Int.ofNat (999+1 : Nat))) (Need (decide ((0 : Int) ≤ Int.ofNat (1000+1 : Nat)) && decide (Int.ofNat (1000+1 : Nat) < (↑(bef.length) : Int))) (Need (decide ((Int.ofNat (1000+1 : Nat)).toNat < bef.length)) (Need (decide ((0 : Int) ≤ max (0 : Int) z) && decide (max (0 : Int) z < (↑(bef.length) : Int))) (Need (decide ((max (0 : Int) z).toNat < bef.length)) (Need (decide ((0 : Int) ≤ n) && decide (n < (↑(out.length) : Int))) (Need (decide (n.toNat < out.length)) (Ar .i64 (n + (1 : Int)) fun z_2 => A [.i z_2, .i lo, .i hi, .l bef, .l (List.set out n.toNat [Cl.b (decide ((cel bef (max (0 : Int) z).toNat (0 : Nat)).int < (cel bef (Int.ofNat (1000+1 : Nat)).toNat (0 : Nat)).int))])]))))))) (Need (decide ((0 : Int) ≤ n) && decide (n < (↑(out.length) : Int))) (Need (decide (n.toNat < out.length)) (Ar .i64 (n + (1 : Int)) fun z => A [.i z, .i lo, .i hi, .l bef, .l (List.set out n.toNat [Cl.b false])])))) (Vif (decide (max (0 : Int) z ≤ min (1000 : Int) z_1)) (Ar .i64 (min (1000 : Int) z_1 + (1 : Int)) fun z_2 => Need (decide ((0 : Int) ≤ z_2) && decide (z_2 < (↑(bef.length) : Int))) (Need (decide (z_2.toNat < bef.length)) (Need (decide ((0 : Int) ≤ max (0 : Int) z) && decide (max (0 : Int) z < (↑(bef.length) : Int))) (Need (decide ((max (0 : Int) z).toNat < bef.length)) (Need (decide ((0 : Int) ≤ n) && decide (n < (↑(out.length) : Int))) (Need (decide (n.toNat < out.length)) (Ar .i64 (n + (1 : Int)) fun z_3 => A [.i z_3, .i lo, .i hi, .l bef, .l (List.set out n.toNat [Cl.b (decide ((cel bef (max (0 : Int) z).toNat (0 : Nat)).int < (cel bef z_2.toNat (0 : Nat)).int))])]))))))) (Need (decide ((0 : Int) ≤ n) && decide (n < (↑(out.length) : Int))) (Need (decide (n.toNat < out.length)) (Ar .i64 (n + (1 : Int)) fun z => A [.i z, .i lo, .i hi, .l bef, .l (List.set out n.toNat [Cl.b false])])))))) (K (0 : Nat) [.l out])
theorem vcl_spr (W : InW) (n lo hi bef out A K) : vcTop { cxT Try.prog TT Tx0 1000 50 with fn := 45 } 1000 (loopAt Try.prog 45 12) (tmOut 71 [(3, .ptr 1 0), (5, .rw 4), (8, .rw 6), (9, .si .i64 n)] [10, 11, 32, 33, 34, 35, 36, 37, 38, 39, 40, 41, 42, 43, 44, 45, 46, 47, 48, 49, 50, 51, 52, 53, 54, 55, 56, 57, 58, 59, 60, 61, 62, 63, 64, 65, 66, 67, 68, 69]) [(1, .blk 32 [.si .i64 lo, .si .i64 hi]), (4, .arr 3 [.int .i64] bef), (6, .arr 4 [.bool] out)] (roundL lc_spr A K) = VCL_spr n lo hi bef out A K := by kernel_rfl
def okLt_spr : Prop := ∀ (W : InW) (body a : Code), (Try.prog.funcs[45]?).bind (·.body) = some body → a ∈ loopsIn body → keyOf a = 12 → @LoopOk W Try.prog a (@loopRun W lc_spr)
theorem okl_spr (meas : [InW] → List Ed → Nat) (hyp_ : ∀ (W : InW) (n : Int) (lo : Int) (hi : Int) (bef : Dt) (out : Dt) (K : Nat → List Ed → Prop), sp_spr [.i n, .i lo, .i hi, .l bef, .l out] K → ∀ A : List Ed → Prop, (∀ e, meas e < meas [.i n, .i lo, .i hi, .l bef, .l out] → sp_spr e K → A e) → VCL_spr n lo hi bef out A K) : okLt_spr :=
  LE.okOf' (fun W => @TT W) (fun W => @TT_ok W) mixed_ok Tx0 1000 50 (by kernel_rfl) lc_spr (fun W => @meas W) fun W n lo hi bef out K hs =>
    (vcl_spr W n lo hi bef out (fun e => meas e < meas [.i n, .i lo, .i hi, .l bef, .l out] ∧ sp_spr e K) K).mpr (hyp_ W n lo hi bef out K hs _ fun e h1 h2 => ⟨h1, h2⟩)
theorem cnt_succ (set : Dt) (n : Nat) : Sp.cntD set n ++ [[.i (Sp.cnt set (n + 1))]] = Sp.cntD set (n + 1) := by
  unfold Sp.cntD
  rw [List.range_succ (n := n + 1), List.map_append]
  rfl
theorem cntD_len (set : Dt) (n : Nat) : (Sp.cntD set n).length = n + 1 := by simp [Sp.cntD]
theorem cntD_at {set : Dt} {n j : Nat} (h : j ≤ n) : (cel (Sp.cntD set n) j 0).int = Sp.cnt set j := by
  unfold Sp.cntD cel
  simp [List.getD_eq_getElem?_getD, List.getElem?_range (show j < n + 1 by omega), Cl.int]
theorem cnt_in (set : Dt) : ∀ n, 0 ≤ Sp.cnt set n ∧ Sp.cnt set n ≤ n
  | 0 => ⟨Int.le_refl _, Int.le_refl _⟩
  | n + 1 => by
    have := cnt_in set n
    rw [Sp.cnt]
    split <;> omega
theorem okLbef : okLt_bef := okl_bef (fun e => match e with | [_, .i n, _] => (1001 - n).toNat | _ => 0) fun W set n bef K hs A hA => by
  obtain ⟨⟨h0, h1, hl, rfl⟩, hk⟩ := hs
  unfold VCL_bef
  refine vifd (fun e => ?_) fun e => ?_
  · have e1 : (n + 1).toNat = n.toNat + 1 := by omega
    have hc := cntD_len set.xs n.toNat
    have hi := cnt_in set.xs n.toNat
    have ha := cntD_at (set := set.xs) (Nat.le_refl n.toNat)
    have hA' := hA [.ro _ set, .i (n + 1), .l (Sp.cntD set.xs (n.toNat + 1))] (by show (1001 - (n + 1)).toNat < (1001 - n).toNat; omega) ⟨⟨by omega, by omega, hl, by rw [e1]⟩, hk⟩
    rw [← cnt_succ, Sp.cnt] at hA'
    rw [ha]
    simp only [List.length_singleton, hc]
    refine need_in (by omega) (nedd (by omega) (need_in (by omega) (nedd (by omega) (vif (fun c => ?_) fun c => ?_))))
    · rw [if_pos (show Sp.isIn set.xs n.toNat = true from c)] at hA'
      exact ar64 (by omega) (nedd (by omega) (ar64 (by omega) hA'))
    · rw [if_neg (show ¬ Sp.isIn set.xs n.toNat = true by unfold Sp.isIn; rw [c]; decide)] at hA'
      exact nedd (by omega) (ar64 (by omega) hA')
  · rw [show n.toNat = 1001 by omega]
    exact hk
theorem out_len (bef out : Dt) (lo hi : Int) (n : Nat) : (Sp.outF bef out lo hi n).length = 1001 := by simp [Sp.outF]
theorem out_at {bef out : Dt} {lo hi : Int} {n j : Nat} (h : j < 1001) : (Sp.outF bef out lo hi n).getD j [] = if j < n then out.getD j [] else [.b (Sp.spB bef lo hi j)] := by
  simp [Sp.outF, List.getD_eq_getElem?_getD, List.getElem?_range h]
theorem out_end {bef out : Dt} {lo hi : Int} (h : out.length = 1001) : Sp.outF bef out lo hi 1001 = out :=
  dt_ext (by rw [out_len, h]) fun j hj => by
    rw [out_len] at hj
    rw [out_at hj, if_pos hj]
theorem out_step {bef out : Dt} {lo hi : Int} {n : Nat} (h : out.length = 1001) (hn : n < 1001) : Sp.outF bef (out.set n [.b (Sp.spB bef lo hi n)]) lo hi (n + 1) = Sp.outF bef out lo hi n :=
  dt_ext (by rw [out_len, out_len]) fun j hj => by
    rw [out_len] at hj
    rw [out_at hj, out_at hj, getD_set]
    by_cases e : n = j
    · subst e
      rw [if_pos (show n < n + 1 by omega), if_pos ⟨rfl, by omega⟩, if_neg (show ¬ n < n by omega)]
    · rw [if_neg (show ¬ (n = j ∧ n < out.length) from fun x => e x.1)]
      by_cases c : j < n
      · rw [if_pos (show j < n + 1 by omega), if_pos c]
      · rw [if_neg (show ¬ j < n + 1 by omega), if_neg c]
theorem okLspr : okLt_spr := okl_spr (fun e => match e with | .i n :: _ => (1001 - n).toNat | _ => 0) fun W n lo hi bef out K hs A hA => by
  obtain ⟨⟨h0, h1, a0, a1, b0, b1, hb, ho⟩, hk⟩ := hs
  unfold VCL_spr
  simp only [show Int.ofNat 1001 = (1001 : Int) from rfl, show Int.ofNat 0 = (0 : Int) from rfl, show Int.ofNat 1000 = (1000 : Int) from rfl]
  refine vifd (fun e => ?_) fun e => ?_
  · have e1 : (n + 1).toNat = n.toNat + 1 := by omega
    have go : ∀ v, v = Sp.spB bef lo hi n.toNat → A [.i (n + 1), .i lo, .i hi, .l bef, .l (out.set n.toNat [.b v])] := fun v hv => hA _ (by show (1001 - (n + 1)).toNat < (1001 - n).toNat; omega) ⟨⟨by omega, by omega, a0, a1, b0, b1, hb, by rw [List.length_set]; exact ho⟩, by
      rw [hv, e1, out_step ho (by omega)]
      exact hk⟩
    clear hk hA
    have eL : Sp.spL hi n.toNat = max 0 (if n = 0 then 0 else n - hi) := by unfold Sp.spL; rw [Int.toNat_of_nonneg h0]
    have eH : Sp.spH lo n.toNat = min 1000 (if n = 1000 then 1000 else n - lo) := by unfold Sp.spH; rw [Int.toNat_of_nonneg h0]
    unfold Sp.spB at go
    rw [eL, eH] at go
    refine ar64 (by omega) (ar64 (by omega) (vifd (fun c => vifd (fun d => absurd d (by omega)) fun d => ?_) fun c => vifd (fun d => ?_) fun d => ?_))
    · rw [if_pos c, if_neg d, show max (0 : Int) 0 = 0 from rfl] at go
      refine vifd (fun f => ?_) fun f => ?_
      · rw [if_pos f] at go
        exact ar64 (by omega) (need_in (by omega) (nedd (by omega) (need_in (by omega) (nedd (by omega) (need_in (by omega) (nedd (by omega) (ar64 (by omega) (go _ rfl))))))))
      · rw [if_neg f] at go
        exact need_in (by omega) (nedd (by omega) (ar64 (by omega) (go _ rfl)))
    · rw [if_neg c, if_pos d, show min (1000 : Int) 1000 = 1000 from rfl] at go
      refine vifd (fun f => ?_) fun f => ?_
      · rw [if_pos f] at go
        exact need_in (by omega) (nedd (by omega) (need_in (by omega) (nedd (by omega) (need_in (by omega) (nedd (by omega) (ar64 (by omega) (go _ rfl)))))))
      · rw [if_neg f] at go
        exact need_in (by omega) (nedd (by omega) (ar64 (by omega) (go _ rfl)))
    · rw [if_neg c, if_neg d] at go
      refine vifd (fun f => ?_) fun f => ?_
      · rw [if_pos f] at go
        exact ar64 (by omega) (need_in (by omega) (nedd (by omega) (need_in (by omega) (nedd (by omega) (need_in (by omega) (nedd (by omega) (ar64 (by omega) (go _ rfl))))))))
      · rw [if_neg f] at go
        exact need_in (by omega) (nedd (by omega) (ar64 (by omega) (go _ rfl)))
  · rw [show n.toNat = 1001 by omega, out_end ho] at hk
    exact hk
noncomputable def le_bef : LE Try.prog := ⟨45, 4, fun W => @loopRun W lc_bef, okLbef⟩
noncomputable def le_spr : LE Try.prog := ⟨45, 12, fun W => @loopRun W lc_spr, okLspr⟩
noncomputable def Tx1 : Tab Try.prog := ⟨[], [le_bef, le_spr], []⟩
def VC_spread [W : InW] (set : Ro [.bool]) (s_Lo s_Hi : Int) (Q : DS → Prop) : Prop :=
  Pre ((0 : Int) ≤ (0 : Int) ∧ (0 : Int) ≤ (1001 : Int) ∧ set.xs.length = (1001 : Nat) ∧ [[Cl.i (0 : Int)]] = Sp.cntD set.xs (Int.toNat (0 : Int))) (Pre ((0 : Int) ≤ (0 : Int) ∧ (0 : Int) ≤ (1001 : Int) ∧ (-1000 : Int) ≤ s_Lo ∧ s_Lo ≤ (1000 : Int) ∧ (-1000 : Int) ≤ s_Hi ∧ s_Hi ≤ (1000 : Int) ∧ List.length (Sp.cntD set.xs (1001 : Nat)) = (1002 : Nat) ∧ (List.replicate 1001 [Cl.b false]).length = (1001 : Nat)) (Q [[Cl.l (Sp.outF (Sp.cntD set.xs (1001 : Nat)) (List.replicate 1001 [Cl.b false]) s_Lo s_Hi (Int.toNat (0 : Int)))]]))
theorem vc_spread (W : InW) (set s_Lo s_Hi Q) : bodyK (cxT Try.prog TT Tx1 1000 50) 1000 45 [.rs _ set, .agg [.si .i64 s_Lo, .si .i64 s_Hi]] [] 0 (leafK [(false, [.row 4 [.bool]])] Q) (fun _ _ _ _ => Stuck 421) = VC_spread set s_Lo s_Hi Q := by kernel_rfl
abbrev ats_spread : List AT := [.one (.sl [.bool]), .agg [.int .i64, .int .i64]]
theorem ok_spread {pre : DS → Prop} {res : DS → DS} (hyp_ : ∀ (W : InW) (set : Ro [.bool]) (s_Lo : Int) (s_Hi : Int), pre [[.l set.xs], [.i s_Lo, .i s_Hi]] → ∀ Q : DS → Prop, Q (res [[.l set.xs], [.i s_Lo, .i s_Hi]]) → VC_spread set s_Lo s_Hi Q) : PureOk Try.prog 45 ats_spread [(false, [.row 4 [.bool]])] pre res :=
  PureOk.of' (fun W => @TT W) (fun W => @TT_ok W) mixed_ok Tx1 1000 50 fun W set s_Lo s_Hi hp =>
    (vc_spread W set s_Lo s_Hi (fun o => o = res [[.l set.xs], [.i s_Lo, .i s_Hi]])).mpr (hyp_ W set s_Lo s_Hi hp _ rfl)
abbrev pre_spread (ds : DS) : Prop := match ds with | [[.l set], [.i lo, .i hi]] => set.length = 1001 ∧ -1000 ≤ lo ∧ lo ≤ 1000 ∧ -1000 ≤ hi ∧ hi ≤ 1000 | _ => False
abbrev res_spread (ds : DS) : DS := match ds with | [[.l set], [.i lo, .i hi]] => [[.l (Sp.sprD set lo hi)]] | _ => []
theorem out_spr {set out : Dt} {lo hi : Int} : Sp.outF (Sp.cntD set 1001) out lo hi 0 = Sp.sprD set lo hi := by
  unfold Sp.outF Sp.sprD
  refine List.map_congr_left fun j hj => ?_
  have hj := List.mem_range.1 hj
  rw [if_neg (Nat.not_lt_zero j), Sp.spB, Sp.spN]
  by_cases h : Sp.spL hi j ≤ Sp.spH lo j
  · rw [if_pos h, if_pos h, cntD_at (by unfold Sp.spH at h; omega), cntD_at (by unfold Sp.spH; omega)]
  · rw [if_neg h, if_neg h]
theorem okspread : PureOk Try.prog 45 ats_spread [(false, [.row 4 [.bool]])] pre_spread res_spread :=
  ok_spread fun W set lo hi hp Q h => by
    obtain ⟨h1, h2, h3, h4, h5⟩ := hp
    unfold VC_spread
    refine ⟨⟨by omega, by omega, h1, rfl⟩, ⟨by omega, by omega, h2, h3, h4, h5, cntD_len _ _, List.length_replicate⟩, ?_⟩
    simp only [res_spread] at h
    rw [show Int.toNat 0 = 0 from rfl, out_spr]
    exact h
noncomputable def pc_spread : PC Try.prog := ⟨45, ats_spread, [(false, [.row 4 [.bool]])], pre_spread, res_spread, okspread⟩
end Go.Proofs.Ytdokbocmgdhmmaa
namespace Go.Proofs.Ytdokbocmgdhmmaa
open Go.RowKit
set_option linter.unusedVariables false
set_option maxRecDepth 100000
set_option maxHeartbeats 1600000
namespace Sp
def setD (a b : Int) : Dt := (List.range 1001).map fun (n : Nat) => [.b (decide (a ≤ n) && decide ((n : Int) ≤ b))]
def itS (lo hi : Int) : Nat → Dt → Dt
  | 0, set => set
  | n + 1, set => itS lo hi n (sprD set lo hi)
def mskB (blo bhi mark : Int) (j : Nat) : Bool := decide (lev (j + blo) ≤ mark) && decide (mark ≤ lev (j + bhi))
def mskF (set : Dt) (blo bhi mark : Int) (m : Nat) : Dt := (List.range 1001).map fun (j : Nat) => if j < m then set.getD j [] else [.b (isIn set j && mskB blo bhi mark j)]
def finF (sk is ev : Dt) (w : Int) (i : Nat) : Nat → Nat → Int → Dt → Dt
  | 0, _, now, set => itS (-fHi sk i) (-fLo sk i) (w - now).toNat set
  | m + 1, n, now, set => finF sk is ev w i m (n + 1) (evW ev n)
      (if evS ev n = i then (if evK ev n = 0 then sprD (itS (-fHi sk i) (-fLo sk i) (evW ev n - now).toNat set) (gLo sk i) (gHi sk i) else mskF (itS (-fHi sk i) (-fLo sk i) (evW ev n - now).toNat set) (bLo is (evI ev n).toNat) (bHi is (evI ev n).toNat) (evM ev n) 0) else itS (-fHi sk i) (-fLo sk i) (evW ev n - now).toNat set)
def lmF (set : Dt) : Nat → Nat → Int → Int → Int × Int
  | 0, _, a, b => (a, b)
  | m + 1, n, a, b => if isIn set n then lmF set m (n + 1) (if a < 0 then (n : Int) else a) n else lmF set m (n + 1) a b
end Sp
noncomputable def TK9a : Tab Try.prog := ⟨[pc_spread, pc_Within], [], []⟩
def sp_fil [InW] (e : List Ed) (K : Nat → List Ed → Prop) : Prop := match e with
  | [.i i, .i n, .ro _ st, .ro _ ev, .i w, .i ins, .l set] => Pre (0 ≤ i ∧ i < st.xs.length ∧ 0 ≤ n ∧ Sp.rLo st.xs i.toNat ≤ n ∧ n ≤ Sp.rHi st.xs i.toNat + 1 ∧ Sp.rHi st.xs i.toNat ≤ 1000 ∧ set = Sp.setD (Sp.rLo st.xs i.toNat) (n - 1)) (K 0 [.i i, .ro _ st, .ro _ ev, .i w, .i ins, .l (Sp.setD (Sp.rLo st.xs i.toNat) (Sp.rHi st.xs i.toNat))])
  | _ => False
noncomputable def lc_fil : LC where
  len := 285
  T := [(4, (.ptr 4 0)), (11, .int .i64), (12, (.row 6)), (14, .int .i64)]
  H := [(4, .blk 40 [.rs [.int .i64, .int .i64], .rs Iv5, .int .i64, .int .i64]), (6, .arr 4 [.bool])]
  W := [110, 111, 112, 113, 114, 115, 116, 117, 118, 119, 120, 121, 122, 123]
  outs := [⟨.exit 2, [(4, (.ptr 4 0)), (11, .int .i64), (12, (.row 12))], [(4, .blk 40 [.rs [.int .i64, .int .i64], .rs Iv5, .int .i64, .int .i64]), (12, .arr 4 [.bool])], [14, 110, 111, 112, 113, 114, 115, 116, 117, 118, 119, 120, 121, 122, 123]⟩]
  spec := sp_fil
def VCL_fil [W : InW] (i n : Int) (st : Ro [.int .i64, .int .i64]) (ev : Ro Iv5) (w ins : Int) (set : Dt) (A : List Ed → Prop) (K : Nat → List Ed → Prop) : Prop :=
  Need (decide ((0 : Int) ≤ i) && decide (i < (↑(st.xs.length) : Int))) (Need (decide (i.toNat < st.xs.length)) (Vif (decide (n ≤ min (1000 : Int) (cel st.xs i.toNat (0+1 : Nat)).int)) (Need (decide ((0 : Int) ≤ n) && decide (n < (↑(set.length) : Int))) (Need (decide (n.toNat < set.length)) (Ar .i64 (n + (1 : Int)) fun z => A [.i i, .i z, .ro _ st, .ro _ ev, .i w, .i ins, .l (List.set set n.toNat [Cl.b true])]))) (K (0 : Nat) [.i i, .ro _ st, .ro _ ev, .i w, .i ins, .l set])))
theorem vcl_fil (W : InW) (i n st ev w ins set A K) : vcTop { cxT Try.prog TT TK9a 1000 50 with fn := 9 } 1000 (loopAt Try.prog 9 14) (tmOut 285 [(4, .ptr 4 0), (11, .si .i64 i), (12, .rw 6), (14, .si .i64 n)] [110, 111, 112, 113, 114, 115, 116, 117, 118, 119, 120, 121, 122, 123]) [(4, .blk 40 [.rs _ st, .rs _ ev, .si .i64 w, .si .i64 ins]), (6, .arr 4 [.bool] set)] (roundL lc_fil A K) = VCL_fil i n st ev w ins set A K := by kernel_rfl
def okLt_fil : Prop := ∀ (W : InW) (body a : Code), (Try.prog.funcs[9]?).bind (·.body) = some body → a ∈ loopsIn body → keyOf a = 14 → @LoopOk W Try.prog a (@loopRun W lc_fil)
theorem okl_fil (meas : [InW] → List Ed → Nat) (hyp_ : ∀ (W : InW) (i : Int) (n : Int) (st : Ro [.int .i64, .int .i64]) (ev : Ro Iv5) (w : Int) (ins : Int) (set : Dt) (K : Nat → List Ed → Prop), sp_fil [.i i, .i n, .ro _ st, .ro _ ev, .i w, .i ins, .l set] K → ∀ A : List Ed → Prop, (∀ e, meas e < meas [.i i, .i n, .ro _ st, .ro _ ev, .i w, .i ins, .l set] → sp_fil e K → A e) → VCL_fil i n st ev w ins set A K) : okLt_fil :=
  LE.okOf' (fun W => @TT W) (fun W => @TT_ok W) mixed_ok TK9a 1000 50 (by kernel_rfl) lc_fil (fun W => @meas W) fun W i n st ev w ins set K hs =>
    (vcl_fil W i n st ev w ins set (fun e => meas e < meas [.i i, .i n, .ro _ st, .ro _ ev, .i w, .i ins, .l set] ∧ sp_fil e K) K).mpr (hyp_ W i n st ev w ins set K hs _ fun e h1 h2 => ⟨h1, h2⟩)
def sp_wke [InW] (e : List Ed) (K : Nat → List Ed → Prop) : Prop := match e with
  | [.i now, .i w, .i lo, .i hi, .l set] => Pre (0 ≤ now ∧ now ≤ w ∧ w ≤ 200 ∧ set.length = 1001 ∧ -1000 ≤ lo ∧ lo ≤ 1000 ∧ -1000 ≤ hi ∧ hi ≤ 1000) (K 0 [.i w, .i lo, .i hi, .l (Sp.itS lo hi (w - now).toNat set)])
  | _ => False
noncomputable def lc_wke : LC where
  len := 285
  T := [(12, (.row 6)), (13, .int .i64), (16, (.ptr 7 0)), (18, .int .i64)]
  H := [(7, .blk 32 [.int .i64, .int .i64]), (6, .arr 4 [.bool])]
  W := [157, 158, 159, 160, 161, 162, 163, 164, 165, 166, 167, 168]
  outs := [⟨.exit 6, [(12, (.row 12)), (13, .int .i64), (16, (.ptr 7 0))], [(7, .blk 32 [.int .i64, .int .i64]), (12, .arr 4 [.bool])], [18, 157, 158, 159, 160, 161, 162, 163, 164, 165, 166, 167, 168]⟩]
  spec := sp_wke
def VCL_wke [W : InW] (now w lo hi : Int) (set : Dt) (A : List Ed → Prop) (K : Nat → List Ed → Prop) : Prop :=
  Vif (decide (now < w)) (Vif (decide (now < (200 : Int))) (Pre (set.length = (1001 : Nat) ∧ (-1000 : Int) ≤ lo ∧ lo ≤ (1000 : Int) ∧ (-1000 : Int) ≤ hi ∧ hi ≤ (1000 : Int)) (Ar .i64 (now + (1 : Int)) fun z => A [.i z, .i w, .i lo, .i hi, .l (Sp.sprD set lo hi)])) (K (0 : Nat) [.i now, .i lo, .i hi, .l set])) (K (0 : Nat) [.i now, .i lo, .i hi, .l set])
theorem vcl_wke (W : InW) (now w lo hi set A K) : vcTop { cxT Try.prog TT TK9a 1000 50 with fn := 9 } 1000 (loopAt Try.prog 9 25) (tmOut 285 [(12, .rw 6), (13, .si .i64 now), (16, .ptr 7 0), (18, .si .i64 w)] [157, 158, 159, 160, 161, 162, 163, 164, 165, 166, 167, 168]) [(7, .blk 32 [.si .i64 lo, .si .i64 hi]), (6, .arr 4 [.bool] set)] (roundL lc_wke A K) = VCL_wke now w lo hi set A K := by kernel_rfl
def okLt_wke : Prop := ∀ (W : InW) (body a : Code), (Try.prog.funcs[9]?).bind (·.body) = some body → a ∈ loopsIn body → keyOf a = 25 → @LoopOk W Try.prog a (@loopRun W lc_wke)
theorem okl_wke (meas : [InW] → List Ed → Nat) (hyp_ : ∀ (W : InW) (now : Int) (w : Int) (lo : Int) (hi : Int) (set : Dt) (K : Nat → List Ed → Prop), sp_wke [.i now, .i w, .i lo, .i hi, .l set] K → ∀ A : List Ed → Prop, (∀ e, meas e < meas [.i now, .i w, .i lo, .i hi, .l set] → sp_wke e K → A e) → VCL_wke now w lo hi set A K) : okLt_wke :=
  LE.okOf' (fun W => @TT W) (fun W => @TT_ok W) mixed_ok TK9a 1000 50 (by kernel_rfl) lc_wke (fun W => @meas W) fun W now w lo hi set K hs =>
    (vcl_wke W now w lo hi set (fun e => meas e < meas [.i now, .i w, .i lo, .i hi, .l set] ∧ sp_wke e K) K).mpr (hyp_ W now w lo hi set K hs _ fun e h1 h2 => ⟨h1, h2⟩)
def sp_msk [InW] (e : List Ed) (K : Nat → List Ed → Prop) : Prop := match e with
  | [.i n, .i m, .ro _ st, .ro _ ev, .i w, .i ins, .i lo, .i hi, .l set] => Pre (0 ≤ n ∧ n < ev.xs.length ∧ 0 ≤ m ∧ m ≤ 1001 ∧ set.length = 1001 ∧ Sp.Small lo ∧ Sp.Small hi) (K 0 [.i n, .ro _ st, .ro _ ev, .i w, .i ins, .l (Sp.mskF set lo hi (Sp.evM ev.xs n.toNat) m.toNat)])
  | _ => False
noncomputable def lc_msk : LC where
  len := 285
  T := [(4, (.ptr 4 0)), (12, (.row 6)), (17, .int .i64), (19, (.ptr 7 0)), (20, .int .i64)]
  H := [(4, .blk 40 [.rs [.int .i64, .int .i64], .rs Iv5, .int .i64, .int .i64]), (7, .blk 32 [.int .i64, .int .i64]), (6, .arr 4 [.bool])]
  W := [210, 211, 212, 213, 214, 215, 216, 217, 218, 219, 220, 221, 222, 223, 224, 225, 226, 227, 228, 229, 230, 231, 232, 233, 234, 235, 236, 237, 238, 239, 240, 241, 242, 243, 244, 245, 246, 247, 248]
  outs := [⟨.exit 8, [(4, (.ptr 4 0)), (12, (.row 12)), (17, .int .i64)], [(4, .blk 40 [.rs [.int .i64, .int .i64], .rs Iv5, .int .i64, .int .i64]), (12, .arr 4 [.bool])], [19, 20, 210, 211, 212, 213, 214, 215, 216, 217, 218, 219, 220, 221, 222, 223, 224, 225, 226, 227, 228, 229, 230, 231, 232, 233, 234, 235, 236, 237, 238, 239, 240, 241, 242, 243, 244, 245, 246, 247, 248]⟩]
  spec := sp_msk
def VCL_msk [W : InW] (n m : Int) (st : Ro [.int .i64, .int .i64]) (ev : Ro Iv5) (w ins lo hi : Int) (set : Dt) (A : List Ed → Prop) (K : Nat → List Ed → Prop) : Prop :=
  Vif (decide (m ≤ (1000 : Int))) (Need (decide ((0 : Int) ≤ m) && decide (m < (↑(set.length) : Int))) (Need (decide (m.toNat < set.length)) (Vif (cel set m.toNat (0 : Nat)).bool (Ar .i64 (m + lo) fun z => Pre True (Need (decide ((0 : Int) ≤ n) && decide (n < (↑(ev.xs.length) : Int))) (Need (decide (n.toNat < ev.xs.length)) (Vif (decide (Sp.lev z ≤ (cel ev.xs n.toNat (3+1 : Nat)).int)) (Ar .i64 (m + hi) fun z => Pre True (Need (decide ((0 : Int) ≤ n) && decide (n < (↑(ev.xs.length) : Int))) (Need (decide (n.toNat < ev.xs.length)) (Need (decide ((0 : Int) ≤ m) && decide (m < (↑(set.length) : Int))) (Need (decide (m.toNat < set.length)) (Ar .i64 (m + (1 : Int)) fun z_1 => A [.i n, .i z_1, .ro _ st, .ro _ ev, .i w, .i ins, .i lo, .i hi, .l (List.set set m.toNat [Cl.b (decide ((cel ev.xs n.toNat (3+1 : Nat)).int ≤ Sp.lev z))])])))))) (Need (decide ((0 : Int) ≤ m) && decide (m < (↑(set.length) : Int))) (Need (decide (m.toNat < set.length)) (Ar .i64 (m + (1 : Int)) fun z => A [.i n, .i z, .ro _ st, .ro _ ev, .i w, .i ins, .i lo, .i hi, .l (List.set set m.toNat [Cl.b false])]))))))) (Need (decide ((0 : Int) ≤ m) && decide (m < (↑(set.length) : Int))) (Need (decide (m.toNat < set.length)) (Ar .i64 (m + (1 : Int)) fun z => A [.i n, .i z, .ro _ st, .ro _ ev, .i w, .i ins, .i lo, .i hi, .l (List.set set m.toNat [Cl.b false])])))))) (K (0 : Nat) [.i n, .ro _ st, .ro _ ev, .i w, .i ins, .l set])
theorem vcl_msk (W : InW) (n m st ev w ins lo hi set A K) : vcTop { cxT Try.prog TT TK9a 1000 50 with fn := 9 } 1000 (loopAt Try.prog 9 32) (tmOut 285 [(4, .ptr 4 0), (12, .rw 6), (17, .si .i64 n), (19, .ptr 7 0), (20, .si .i64 m)] [210, 211, 212, 213, 214, 215, 216, 217, 218, 219, 220, 221, 222, 223, 224, 225, 226, 227, 228, 229, 230, 231, 232, 233, 234, 235, 236, 237, 238, 239, 240, 241, 242, 243, 244, 245, 246, 247, 248]) [(4, .blk 40 [.rs _ st, .rs _ ev, .si .i64 w, .si .i64 ins]), (7, .blk 32 [.si .i64 lo, .si .i64 hi]), (6, .arr 4 [.bool] set)] (roundL lc_msk A K) = VCL_msk n m st ev w ins lo hi set A K := by kernel_rfl
def okLt_msk : Prop := ∀ (W : InW) (body a : Code), (Try.prog.funcs[9]?).bind (·.body) = some body → a ∈ loopsIn body → keyOf a = 32 → @LoopOk W Try.prog a (@loopRun W lc_msk)
theorem okl_msk (meas : [InW] → List Ed → Nat) (hyp_ : ∀ (W : InW) (n : Int) (m : Int) (st : Ro [.int .i64, .int .i64]) (ev : Ro Iv5) (w : Int) (ins : Int) (lo : Int) (hi : Int) (set : Dt) (K : Nat → List Ed → Prop), sp_msk [.i n, .i m, .ro _ st, .ro _ ev, .i w, .i ins, .i lo, .i hi, .l set] K → ∀ A : List Ed → Prop, (∀ e, meas e < meas [.i n, .i m, .ro _ st, .ro _ ev, .i w, .i ins, .i lo, .i hi, .l set] → sp_msk e K → A e) → VCL_msk n m st ev w ins lo hi set A K) : okLt_msk :=
  LE.okOf' (fun W => @TT W) (fun W => @TT_ok W) mixed_ok TK9a 1000 50 (by kernel_rfl) lc_msk (fun W => @meas W) fun W n m st ev w ins lo hi set K hs =>
    (vcl_msk W n m st ev w ins lo hi set (fun e => meas e < meas [.i n, .i m, .ro _ st, .ro _ ev, .i w, .i ins, .i lo, .i hi, .l set] ∧ sp_msk e K) K).mpr (hyp_ W n m st ev w ins lo hi set K hs _ fun e h1 h2 => ⟨h1, h2⟩)
def sp_lms [InW] (e : List Ed) (K : Nat → List Ed → Prop) : Prop := match e with
  | [.i a, .i b, .i n, .l set] => Pre (0 ≤ n ∧ n ≤ 1001 ∧ set.length = 1001) (K 0 [.i (Sp.lmF set (1001 - n).toNat n.toNat a b).1, .i (Sp.lmF set (1001 - n).toNat n.toNat a b).2])
  | _ => False
noncomputable def lc_lms : LC where
  len := 285
  T := [(12, (.row 1)), (21, .int .i64), (22, .int .i64), (23, .int .i64)]
  H := [(1, .arr 4 [.bool])]
  W := [249, 250, 251, 252, 253, 254, 255, 256, 257, 258, 259, 260]
  outs := [⟨.exit 10, [(21, .int .i64), (22, .int .i64)], [], [12, 23, 249, 250, 251, 252, 253, 254, 255, 256, 257, 258, 259, 260]⟩]
  spec := sp_lms
def VCL_lms [W : InW] (a b n : Int) (set : Dt) (A : List Ed → Prop) (K : Nat → List Ed → Prop) : Prop :=
  Vif (decide (n ≤ (1000 : Int))) (Need (decide ((0 : Int) ≤ n) && decide (n < (↑(set.length) : Int))) (Need (decide (n.toNat < set.length)) (Vif (cel set n.toNat (0 : Nat)).bool (Vif (decide (a < (0 : Int))) (Ar .i64 (n + (1 : Int)) fun z => A [.i n, .i n, .i z, .l set]) (Ar .i64 (n + (1 : Int)) fun z => A [.i a, .i n, .i z, .l set])) (Ar .i64 (n + (1 : Int)) fun z => A [.i a, .i b, .i z, .l set])))) (K (0 : Nat) [.i a, .i b])
theorem vcl_lms (W : InW) (a b n set A K) : vcTop { cxT Try.prog TT TK9a 1000 50 with fn := 9 } 1000 (loopAt Try.prog 9 37) (tmOut 285 [(12, .rw 1), (21, .si .i64 a), (22, .si .i64 b), (23, .si .i64 n)] [249, 250, 251, 252, 253, 254, 255, 256, 257, 258, 259, 260]) [(1, .arr 4 [.bool] set)] (roundL lc_lms A K) = VCL_lms a b n set A K := by kernel_rfl
def okLt_lms : Prop := ∀ (W : InW) (body a : Code), (Try.prog.funcs[9]?).bind (·.body) = some body → a ∈ loopsIn body → keyOf a = 37 → @LoopOk W Try.prog a (@loopRun W lc_lms)
theorem okl_lms (meas : [InW] → List Ed → Nat) (hyp_ : ∀ (W : InW) (a : Int) (b : Int) (n : Int) (set : Dt) (K : Nat → List Ed → Prop), sp_lms [.i a, .i b, .i n, .l set] K → ∀ A : List Ed → Prop, (∀ e, meas e < meas [.i a, .i b, .i n, .l set] → sp_lms e K → A e) → VCL_lms a b n set A K) : okLt_lms :=
  LE.okOf' (fun W => @TT W) (fun W => @TT_ok W) mixed_ok TK9a 1000 50 (by kernel_rfl) lc_lms (fun W => @meas W) fun W a b n set K hs =>
    (vcl_lms W a b n set (fun e => meas e < meas [.i a, .i b, .i n, .l set] ∧ sp_lms e K) K).mpr (hyp_ W a b n set K hs _ fun e h1 h2 => ⟨h1, h2⟩)
theorem set_len (a b : Int) : (Sp.setD a b).length = 1001 := by simp [Sp.setD]
theorem set_at {a b : Int} {j : Nat} (h : j < 1001) : (Sp.setD a b).getD j [] = [.b (decide (a ≤ j) && decide ((j : Int) ≤ b))] := by
  simp [Sp.setD, List.getD_eq_getElem?_getD, List.getElem?_range h]
theorem set_more {a n : Int} (h0 : 0 ≤ n) (h1 : n ≤ 1000) (ha : a ≤ n) : (Sp.setD a (n - 1)).set n.toNat [.b true] = Sp.setD a n :=
  dt_ext (by rw [List.length_set, set_len, set_len]) fun j hj => by
    rw [List.length_set, set_len] at hj
    rw [getD_set, set_at hj, set_at hj, set_len]
    by_cases e : n.toNat = j
    · rw [if_pos ⟨e, by omega⟩, decide_eq_true (show a ≤ (j : Int) by omega), decide_eq_true (show (j : Int) ≤ n by omega)]; rfl
    · rw [if_neg (show ¬ (n.toNat = j ∧ n.toNat < 1001) from fun x => e x.1)]
      by_cases c : (j : Int) ≤ n
      · rw [decide_eq_true (show (j : Int) ≤ n - 1 by omega), decide_eq_true c]
      · rw [decide_eq_false (show ¬ (j : Int) ≤ n - 1 by omega), decide_eq_false c]
theorem okLfil : okLt_fil := okl_fil (fun e => match e with | _ :: .i n :: _ => (1001 - n).toNat | _ => 0) fun W i n st ev w ins set K hs A hA => by
  obtain ⟨⟨h0, h1, n0, ha, hb, hc, rfl⟩, hk⟩ := hs
  unfold VCL_fil
  have hr : (cel st.xs i.toNat 1).int = Sp.rHi st.xs i.toNat := rfl
  simp only [Nat.zero_add]
  rw [hr, set_len]
  refine need_in (by omega) (nedd (by omega) (vifd (fun e => ?_) fun e => ?_))
  · refine need_in (by omega) (nedd (by omega) (ar64 (by omega) (hA _ (by show (1001 - (n + 1)).toNat < (1001 - n).toNat; omega) ⟨⟨h0, h1, by omega, by omega, by omega, hc, ?_⟩, hk⟩)))
    rw [show n + 1 - 1 = n by omega]
    exact set_more n0 (by omega) ha
  · rw [show n - 1 = Sp.rHi st.xs i.toNat by omega]
    exact hk
theorem spr_len (set : Dt) (lo hi : Int) : (Sp.sprD set lo hi).length = 1001 := by simp [Sp.sprD]
theorem it_len (lo hi : Int) : ∀ (n : Nat) (set : Dt), set.length = 1001 → (Sp.itS lo hi n set).length = 1001
  | 0, _, h => h
  | n + 1, set, _ => it_len lo hi n _ (spr_len set lo hi)
theorem okLwke : okLt_wke := okl_wke (fun e => match e with | .i now :: .i w :: _ => (w - now).toNat | _ => 0) fun W now w lo hi set K hs A hA => by
  obtain ⟨⟨h0, h1, h2, hl, a0, a1, b0, b1⟩, hk⟩ := hs
  unfold VCL_wke
  refine vifd (fun e => vifd (fun _ => ?_) fun e2 => absurd (by omega) e2) fun e => ?_
  · rw [show (w - now).toNat = (w - (now + 1)).toNat + 1 by omega, Sp.itS] at hk
    exact ⟨⟨hl, a0, a1, b0, b1⟩, ar64 (by omega) (hA _ (by show (w - (now + 1)).toNat < (w - now).toNat; omega) ⟨⟨by omega, by omega, h2, spr_len _ _ _, a0, a1, b0, b1⟩, hk⟩)⟩
  · rw [show (w - now).toNat = 0 by omega, Sp.itS] at hk
    rw [show now = w by omega]
    exact hk
theorem msk_len (set : Dt) (a b m : Int) (n : Nat) : (Sp.mskF set a b m n).length = 1001 := by simp [Sp.mskF]
theorem msk_at {set : Dt} {a b m : Int} {n j : Nat} (h : j < 1001) : (Sp.mskF set a b m n).getD j [] = if j < n then set.getD j [] else [.b (Sp.isIn set j && Sp.mskB a b m j)] := by
  simp [Sp.mskF, List.getD_eq_getElem?_getD, List.getElem?_range h]
theorem isIn_set {set : Dt} {n j : Nat} {v : Bool} (h : n < set.length) : Sp.isIn (set.set n [.b v]) j = if n = j then v else Sp.isIn set j := by
  unfold Sp.isIn
  rw [cel_set]
  by_cases e : n = j
  · rw [if_pos ⟨e, h⟩, if_pos e]; rfl
  · rw [if_neg (fun x => e x.1), if_neg e]
theorem msk_end {set : Dt} {a b m : Int} (h : set.length = 1001) : Sp.mskF set a b m 1001 = set :=
  dt_ext (by rw [msk_len, h]) fun j hj => by
    rw [msk_len] at hj
    rw [msk_at hj, if_pos hj]
theorem msk_step {set : Dt} {a b m : Int} {n : Nat} (h : set.length = 1001) (hn : n < 1001) : Sp.mskF (set.set n [.b (Sp.isIn set n && Sp.mskB a b m n)]) a b m (n + 1) = Sp.mskF set a b m n :=
  dt_ext (by rw [msk_len, msk_len]) fun j hj => by
    rw [msk_len] at hj
    rw [msk_at hj, msk_at hj, getD_set, isIn_set (by omega)]
    by_cases e : n = j
    · subst e
      rw [if_pos (show n < n + 1 by omega), if_pos ⟨rfl, by omega⟩, if_neg (show ¬ n < n by omega)]
    · rw [if_neg (show ¬ (n = j ∧ n < set.length) from fun x => e x.1), if_neg e]
      by_cases c : j < n
      · rw [if_pos (show j < n + 1 by omega), if_pos c]
      · rw [if_neg (show ¬ j < n + 1 by omega), if_neg c]
theorem okLmsk : okLt_msk := okl_msk (fun e => match e with | _ :: .i m :: _ => (1001 - m).toNat | _ => 0) fun W n m st ev w ins lo hi set K hs A hA => by
  obtain ⟨⟨h0, h1, m0, m1, hl, s1, s2⟩, hk⟩ := hs
  unfold VCL_msk
  unfold Sp.Small at s1 s2
  simp only [Nat.zero_add, Nat.reduceAdd]
  refine vifd (fun e => ?_) fun e => ?_
  · have e1 : (m + 1).toNat = m.toNat + 1 := by omega
    have em : ((m.toNat : Nat) : Int) = m := by omega
    have go : ∀ v, v = (Sp.isIn set m.toNat && Sp.mskB lo hi (Sp.evM ev.xs n.toNat) m.toNat) → A [.i n, .i (m + 1), .ro _ st, .ro _ ev, .i w, .i ins, .i lo, .i hi, .l (set.set m.toNat [.b v])] := fun v hv => hA _ (by show (1001 - (m + 1)).toNat < (1001 - m).toNat; omega) ⟨⟨h0, h1, by omega, by omega, by rw [List.length_set]; exact hl, by unfold Sp.Small; omega, by unfold Sp.Small; omega⟩, by
      rw [hv, e1, msk_step hl (by omega)]
      exact hk⟩
    clear hk hA
    unfold Sp.mskB Sp.evM Sp.isIn at go
    rw [em] at go
    refine need_in (by omega) (nedd (by omega) (vif (fun c => ?_) fun c => need_in (by omega) (nedd (by omega) (ar64 (by omega) (go _ (by rw [c]; rfl))))))
    rw [c] at go
    refine ar64 (by omega) ⟨trivial, need_in (by omega) (nedd (by omega) (vifd (fun d => ?_) fun d => need_in (by omega) (nedd (by omega) (ar64 (by omega) (go _ (by rw [decide_eq_false d]; rfl))))))⟩
    exact ar64 (by omega) ⟨trivial, need_in (by omega) (nedd (by omega) (need_in (by omega) (nedd (by omega) (ar64 (by omega) (go _ (by rw [decide_eq_true d]; rfl))))))⟩
  · rw [show m.toNat = 1001 by omega, msk_end hl] at hk
    exact hk
theorem okLlms : okLt_lms := okl_lms (fun e => match e with | _ :: _ :: .i n :: _ => (1001 - n).toNat | _ => 0) fun W a b n set K hs A hA => by
  obtain ⟨⟨h0, h1, hl⟩, hk⟩ := hs
  unfold VCL_lms
  refine vifd (fun e => ?_) fun e => ?_
  · have e1 : (n + 1).toNat = n.toNat + 1 := by omega
    have en : ((n.toNat : Nat) : Int) = n := by omega
    rw [show (1001 - n).toNat = (1001 - (n + 1)).toNat + 1 by omega, Sp.lmF] at hk
    have go : ∀ a' b', (Sp.lmF set (1001 - (n + 1)).toNat (n.toNat + 1) a' b' = if Sp.isIn set n.toNat then Sp.lmF set (1001 - (n + 1)).toNat (n.toNat + 1) (if a < 0 then (n.toNat : Int) else a) n.toNat else Sp.lmF set (1001 - (n + 1)).toNat (n.toNat + 1) a b) → A [.i a', .i b', .i (n + 1), .l set] := fun a' b' hh => hA _ (by show (1001 - (n + 1)).toNat < (1001 - n).toNat; omega) ⟨⟨by omega, by omega, hl⟩, by
      rw [e1, hh]
      exact hk⟩
    clear hk hA
    rw [en] at go
    refine need_in (by omega) (nedd (by omega) (vif (fun c => vifd (fun d => ?_) fun d => ?_) fun c => ?_))
    · exact ar64 (by omega) (go _ _ (by rw [if_pos (show Sp.isIn set n.toNat = true from c), if_pos d]))
    · exact ar64 (by omega) (go _ _ (by rw [if_pos (show Sp.isIn set n.toNat = true from c), if_neg d]))
    · exact ar64 (by omega) (go _ _ (by rw [if_neg (show ¬ Sp.isIn set n.toNat = true by unfold Sp.isIn; rw [c]; decide)]))
  · rw [show (1001 - n).toNat = 0 by omega] at hk
    exact hk
noncomputable def le_fil : LE Try.prog := ⟨9, 14, fun W => @loopRun W lc_fil, okLfil⟩
noncomputable def le_lms : LE Try.prog := ⟨9, 37, fun W => @loopRun W lc_lms, okLlms⟩
noncomputable def le_wke : LE Try.prog := ⟨9, 25, fun W => @loopRun W lc_wke, okLwke⟩
noncomputable def le_msk : LE Try.prog := ⟨9, 32, fun W => @loopRun W lc_msk, okLmsk⟩
noncomputable def TK9b : Tab Try.prog := ⟨[pc_spread], [le_wke, le_msk], []⟩
def sp_fin [InW] (e : List Ed) (K : Nat → List Ed → Prop) : Prop := match e with
  | [.i i, .i now, .i n, .ro _ sk, .ro _ is, .ro _ st, .ro _ ev, .i w, .i ins, .i lo, .i hi, .l set] => Pre (0 ≤ i ∧ i < sk.xs.length ∧ lo = -Sp.fHi sk.xs i.toNat ∧ hi = -Sp.fLo sk.xs i.toNat ∧ Sp.SchOk sk.xs is.xs ∧ Sp.EvOk sk.xs is.xs ev.xs ∧ 0 ≤ n ∧ n ≤ ev.xs.length + 1 ∧ 0 ≤ now ∧ (n < ev.xs.length → now ≤ Sp.evW ev.xs n.toNat) ∧ (n = ev.xs.length → now ≤ w) ∧ (n = ev.xs.length + 1 → now = w) ∧ 0 ≤ w ∧ w ≤ 200 ∧ ¬ (0 < ev.xs.length ∧ w < Sp.evW ev.xs (ev.xs.length - 1)) ∧ set.length = 1001)
    (K 0 [.i i, .ro _ sk, .ro _ is, .ro _ st, .ro _ ev, .i w, .i ins, .l (Sp.finF sk.xs is.xs ev.xs w i.toNat ((ev.xs.length : Int) - n).toNat n.toNat now set)])
  | _ => False
noncomputable def lc_fin : LC where
  len := 285
  T := [(3, (.ptr 1 0)), (4, (.ptr 4 0)), (11, .int .i64), (12, (.row 6)), (13, .int .i64), (16, (.ptr 7 0)), (17, .int .i64)]
  H := [(1, .blk 25 [.rs [.str, .int .i64, .int .i64, .int .i64, .int .i64], .rs [.str, .int .i64, .int .i64]]), (4, .blk 40 [.rs [.int .i64, .int .i64], .rs Iv5, .int .i64, .int .i64]), (7, .blk 32 [.int .i64, .int .i64]), (6, .arr 4 [.bool])]
  W := [18, 19, 20, 137, 138, 139, 140, 141, 142, 143, 144, 145, 146, 147, 148, 149, 150, 151, 152, 153, 154, 155, 156, 157, 158, 159, 160, 161, 162, 163, 164, 165, 166, 167, 168, 169, 170, 171, 172, 173, 174, 175, 176, 177, 178, 179, 180, 181, 182, 183, 184, 185, 186, 187, 188, 189, 190, 191, 192, 193, 194, 195, 196, 197, 198, 199, 200, 201, 202, 203, 204, 205, 206, 207, 208, 209, 210, 211, 212, 213, 214, 215, 216, 217, 218, 219, 220, 221, 222, 223, 224, 225, 226, 227, 228, 229, 230, 231, 232, 233, 234, 235, 236, 237, 238, 239, 240, 241, 242, 243, 244, 245, 246, 247, 248]
  outs := [⟨.exit 4, [(3, (.ptr 1 0)), (4, (.ptr 4 0)), (11, .int .i64), (12, (.row 12))], [(1, .blk 25 [.rs [.str, .int .i64, .int .i64, .int .i64, .int .i64], .rs [.str, .int .i64, .int .i64]]), (4, .blk 40 [.rs [.int .i64, .int .i64], .rs Iv5, .int .i64, .int .i64]), (12, .arr 4 [.bool])], [13, 16, 17, 18, 19, 20, 137, 138, 139, 140, 141, 142, 143, 144, 145, 146, 147, 148, 149, 150, 151, 152, 153, 154, 155, 156, 157, 158, 159, 160, 161, 162, 163, 164, 165, 166, 167, 168, 169, 170, 171, 172, 173, 174, 175, 176, 177, 178, 179, 180, 181, 182, 183, 184, 185, 186, 187, 188, 189, 190, 191, 192, 193, 194, 195, 196, 197, 198, 199, 200, 201, 202, 203, 204, 205, 206, 207, 208, 209, 210, 211, 212, 213, 214, 215, 216, 217, 218, 219, 220, 221, 222, 223, 224, 225, 226, 227, 228, 229, 230, 231, 232, 233, 234, 235, 236, 237, 238, 239, 240, 241, 242, 243, 244, 245, 246, 247, 248]⟩]
  spec := sp_fin
def VCL_fin [W : InW] (i now n : Int) (sk : Ro [.str, .int .i64, .int .i64, .int .i64, .int .i64]) (is : Ro [.str, .int .i64, .int .i64]) (st : Ro [.int .i64, .int .i64]) (ev : Ro Iv5) (w ins lo hi : Int) (set : Dt) (A : List Ed → Prop) (K : Nat → List Ed → Prop) : Prop :=
  Vif (decide (n ≤ (↑(ev.xs.length) : Int))) (Vif (decide (n < (↑(ev.xs.length) : Int))) (Need (decide ((0 : Int) ≤ n) && decide (n < (↑(ev.xs.length) : Int))) (Need (decide (n.toNat < ev.xs.length)) (Pre ((0 : Int) ≤ now ∧ now ≤ (cel ev.xs n.toNat (0 : Nat)).int ∧ (cel ev.xs n.toNat (0 : Nat)).int ≤ (200 : Int) ∧ set.length = (1001 : Nat) ∧ (-1000 : Int) ≤ lo ∧ lo ≤ (1000 : Int) ∧ (-1000 : Int) ≤ hi ∧ hi ≤ (1000 : Int)) (Vif (decide (n = (↑(ev.xs.length) : Int))) (Ar .i64 (n + (1 : Int)) fun z => A [.i i, .i (cel ev.xs n.toNat (0 : Nat)).int, .i z, .ro _ sk, .ro _ is, .ro _ st, .ro _ ev, .i w, .i ins, .i lo, .i hi, .l (Sp.itS lo hi ((cel ev.xs n.toNat (0 : Nat)).int - now).toNat set)]) (Need (decide ((0 : Int) ≤ n) && decide (n < (↑(ev.xs.length) : Int))) (Need (decide (n.toNat < ev.xs.length)) (Vif (!decide ((cel ev.xs n.toNat (1+1 : Nat)).int = i)) (Ar .i64 (n + (1 : Int)) fun z => A [.i i, .i (cel ev.xs n.toNat (0 : Nat)).int, .i z, .ro _ sk, .ro _ is, .ro _ st, .ro _ ev, .i w, .i ins, .i lo, .i hi, .l (Sp.itS lo hi ((cel ev.xs n.toNat (0 : Nat)).int - now).toNat set)]) (Need (decide ((0 : Int) ≤ n) && decide (n < (↑(ev.xs.length) : Int))) (Need (decide (n.toNat < ev.xs.length)) (Vif (decide ((cel ev.xs n.toNat (0+1 : Nat)).int = (0 : Int))) (Need (decide ((0 : Int) ≤ i) && decide (i < (↑(sk.xs.length) : Int))) (Need (decide (i.toNat < sk.xs.length)) (Pre (List.length (Sp.itS lo hi ((cel ev.xs n.toNat (0 : Nat)).int - now).toNat set) = (1001 : Nat) ∧ (-1000 : Int) ≤ (cel sk.xs i.toNat (0+1 : Nat)).int ∧ (cel sk.xs i.toNat (0+1 : Nat)).int ≤ (1000 : Int) ∧ (-1000 : Int) ≤ (cel sk.xs i.toNat (0+1+1 : Nat)).int ∧ (cel sk.xs i.toNat (0+1+1 : Nat)).int ≤ (1000 : Int)) (Ar .i64 (n + (1 : Int)) fun z => A [.i i, .i (cel ev.xs n.toNat (0 : Nat)).int, .i z, .ro _ sk, .ro _ is, .ro _ st, .ro _ ev, .i w, .i ins, .i lo, .i hi, .l (Sp.sprD (Sp.itS lo hi ((cel ev.xs n.toNat (0 : Nat)).int - now).toNat set) (cel sk.xs i.toNat (0+1 : Nat)).int (cel sk.xs i.toNat (0+1+1 : Nat)).int)])))) (Need (decide ((0 : Int) ≤ n) && decide (n < (↑(ev.xs.length) : Int))) (Need (decide (n.toNat < ev.xs.length)) (Need (decide ((0 : Int) ≤ (cel ev.xs n.toNat (2+1 : Nat)).int) && decide ((cel ev.xs n.toNat (2+1 : Nat)).int < (↑(is.xs.length) : Int))) (Need (decide ((cel ev.xs n.toNat (2+1 : Nat)).int.toNat < is.xs.length)) (Pre ((0 : Int) ≤ n ∧ n < (↑(ev.xs.length) : Int) ∧ (0 : Int) ≤ (0 : Int) ∧ (0 : Int) ≤ (1001 : Int) ∧ List.length (Sp.itS lo hi ((cel ev.xs n.toNat (0 : Nat)).int - now).toNat set) = (1001 : Nat) ∧ Sp.Small (cel is.xs (cel ev.xs n.toNat (2+1 : Nat)).int.toNat (0+1 : Nat)).int ∧ Sp.Small (cel is.xs (cel ev.xs n.toNat (2+1 : Nat)).int.toNat (0+1+1 : Nat)).int) (Ar .i64 (n + (1 : Int)) fun z => A [.i i, .i (cel ev.xs n.toNat (0 : Nat)).int, .i z, .ro _ sk, .ro _ is, .ro _ st, .ro _ ev, .i w, .i ins, .i lo, .i hi, .l (Sp.mskF (Sp.itS lo hi ((cel ev.xs n.toNat (0 : Nat)).int - now).toNat set) (cel is.xs (cel ev.xs n.toNat (2+1 : Nat)).int.toNat (0+1 : Nat)).int (cel is.xs (cel ev.xs n.toNat (2+1 : Nat)).int.toNat (0+1+1 : Nat)).int (Sp.evM ev.xs n.toNat) (Int.toNat (0 : Int)))])))))))))))))))) (Pre ((0 : Int) ≤ now ∧ now ≤ w ∧ w ≤ (200 : Int) ∧ set.length = (1001 : Nat) ∧ (-1000 : Int) ≤ lo ∧ lo ≤ (1000 : Int) ∧ (-1000 : Int) ≤ hi ∧ hi ≤ (1000 : Int)) (Vif (decide (n = (↑(ev.xs.length) : Int))) (Ar .i64 (n + (1 : Int)) fun z => A [.i i, .i w, .i z, .ro _ sk, .ro _ is, .ro _ st, .ro _ ev, .i w, .i ins, .i lo, .i hi, .l (Sp.itS lo hi (w - now).toNat set)]) (Need (decide ((0 : Int) ≤ n) && decide (n < (↑(ev.xs.length) : Int))) (Need (decide (n.toNat < ev.xs.length)) (Vif (!decide ((cel ev.xs n.toNat (1+1 : Nat)).int = i)) (Ar .i64 (n + (1 : Int)) fun z => A [.i i, .i w, .i z, .ro _ sk, .ro _ is, .ro _ st, .ro _ ev, .i w, .i ins, .i lo, .i hi, .l (Sp.itS lo hi (w - now).toNat set)]) (Need (decide ((0 : Int) ≤ n) && decide (n < (↑(ev.xs.length) : Int))) (Need (decide (n.toNat < ev.xs.length)) (Vif (decide ((cel ev.xs n.toNat (0+1 : Nat)).int = (0 : Int))) (Need (decide ((0 : Int) ≤ i) && decide (i < (↑(sk.xs.length) : Int))) (Need (decide (i.toNat < sk.xs.length)) (Pre (List.length (Sp.itS lo hi (w - now).toNat set) = (1001 : Nat) ∧ (-1000 : Int) ≤ (cel sk.xs i.toNat (0+1 : Nat)).int ∧ (cel sk.xs i.toNat (0+1 : Nat)).int ≤ (1000 : Int) ∧ (-1000 : Int) ≤ (cel sk.xs i.toNat (0+1+1 : Nat)).int ∧ (cel sk.xs i.toNat (0+1+1 : Nat)).int ≤ (1000 : Int)) (Ar .i64 (n + (1 : Int)) fun z => A [.i i, .i w, .i z, .ro _ sk, .ro _ is, .ro _ st, .ro _ ev, .i w, .i ins, .i lo, .i hi, .l (Sp.sprD (Sp.itS lo hi (w - now).toNat set) (cel sk.xs i.toNat (0+1 : Nat)).int (cel sk.xs i.toNat (0+1+1 : Nat)).int)])))) (Need (decide ((0 : Int) ≤ n) && decide (n < (↑(ev.xs.length) : Int))) (Need (decide (n.toNat < ev.xs.length)) (Need (decide ((0 : Int) ≤ (cel ev.xs n.toNat (2+1 : Nat)).int) && decide ((cel ev.xs n.toNat (2+1 : Nat)).int < (↑(is.xs.length) : Int))) (Need (decide ((cel ev.xs n.toNat (2+1 : Nat)).int.toNat < is.xs.length)) (Pre ((0 : Int) ≤ n ∧ n < (↑(ev.xs.length) : Int) ∧ (0 : Int) ≤ (0 : Int) ∧ (0 : Int) ≤ (1001 : Int) ∧ List.length (Sp.itS lo hi (w - now).toNat set) = (1001 : Nat) ∧ Sp.Small (cel is.xs (cel ev.xs n.toNat (2+1 : Nat)).int.toNat (0+1 : Nat)).int ∧ Sp.Small (cel is.xs (cel ev.xs n.toNat (2+1 : Nat)).int.toNat (0+1+1 : Nat)).int) (Ar .i64 (n + (1 : Int)) fun z => A [.i i, .i w, .i z, .ro _ sk, .ro _ is, .ro _ st, .ro _ ev, .i w, .i ins, .i lo, .i hi, .l (Sp.mskF (Sp.itS lo hi (w - now).toNat set) (cel is.xs (cel ev.xs n.toNat (2+1 : Nat)).int.toNat (0+1 : Nat)).int (cel is.xs (cel ev.xs n.toNat (2+1 : Nat)).int.toNat (0+1+1 : Nat)).int (Sp.evM ev.xs n.toNat) (Int.toNat (0 : Int)))]))))))))))))))) (K (0 : Nat) [.i i, .ro _ sk, .ro _ is, .ro _ st, .ro _ ev, .i w, .i ins, .l set])
theorem vcl_fin (W : InW) (i now n sk is st ev w ins lo hi set A K) : vcTop { cxT Try.prog TT TK9b 1000 50 with fn := 9 } 1000 (loopAt Try.prog 9 20) (tmOut 285 [(3, .ptr 1 0), (4, .ptr 4 0), (11, .si .i64 i), (12, .rw 6), (13, .si .i64 now), (16, .ptr 7 0), (17, .si .i64 n)] [18, 19, 20, 137, 138, 139, 140, 141, 142, 143, 144, 145, 146, 147, 148, 149, 150, 151, 152, 153, 154, 155, 156, 157, 158, 159, 160, 161, 162, 163, 164, 165, 166, 167, 168, 169, 170, 171, 172, 173, 174, 175, 176, 177, 178, 179, 180, 181, 182, 183, 184, 185, 186, 187, 188, 189, 190, 191, 192, 193, 194, 195, 196, 197, 198, 199, 200, 201, 202, 203, 204, 205, 206, 207, 208, 209, 210, 211, 212, 213, 214, 215, 216, 217, 218, 219, 220, 221, 222, 223, 224, 225, 226, 227, 228, 229, 230, 231, 232, 233, 234, 235, 236, 237, 238, 239, 240, 241, 242, 243, 244, 245, 246, 247, 248]) [(1, .blk 25 [.rs _ sk, .rs _ is]), (4, .blk 40 [.rs _ st, .rs _ ev, .si .i64 w, .si .i64 ins]), (7, .blk 32 [.si .i64 lo, .si .i64 hi]), (6, .arr 4 [.bool] set)] (roundL lc_fin A K) = VCL_fin i now n sk is st ev w ins lo hi set A K := by kernel_rfl
def okLt_fin : Prop := ∀ (W : InW) (body a : Code), (Try.prog.funcs[9]?).bind (·.body) = some body → a ∈ loopsIn body → keyOf a = 20 → @LoopOk W Try.prog a (@loopRun W lc_fin)
theorem okl_fin (meas : [InW] → List Ed → Nat) (hyp_ : ∀ (W : InW) (i : Int) (now : Int) (n : Int) (sk : Ro [.str, .int .i64, .int .i64, .int .i64, .int .i64]) (is : Ro [.str, .int .i64, .int .i64]) (st : Ro [.int .i64, .int .i64]) (ev : Ro Iv5) (w : Int) (ins : Int) (lo : Int) (hi : Int) (set : Dt) (K : Nat → List Ed → Prop), sp_fin [.i i, .i now, .i n, .ro _ sk, .ro _ is, .ro _ st, .ro _ ev, .i w, .i ins, .i lo, .i hi, .l set] K → ∀ A : List Ed → Prop, (∀ e, meas e < meas [.i i, .i now, .i n, .ro _ sk, .ro _ is, .ro _ st, .ro _ ev, .i w, .i ins, .i lo, .i hi, .l set] → sp_fin e K → A e) → VCL_fin i now n sk is st ev w ins lo hi set A K) : okLt_fin :=
  LE.okOf' (fun W => @TT W) (fun W => @TT_ok W) mixed_ok TK9b 1000 50 (by kernel_rfl) lc_fin (fun W => @meas W) fun W i now n sk is st ev w ins lo hi set K hs =>
    (vcl_fin W i now n sk is st ev w ins lo hi set (fun e => meas e < meas [.i i, .i now, .i n, .ro _ sk, .ro _ is, .ro _ st, .ro _ ev, .i w, .i ins, .i lo, .i hi, .l set] ∧ sp_fin e K) K).mpr (hyp_ W i now n sk is st ev w ins lo hi set K hs _ fun e h1 h2 => ⟨h1, h2⟩)
theorem okLfin : okLt_fin := okl_fin (fun e => match e with | [_, _, .i n, _, _, _, .ro _ ev, _, _, _, _, _] => (ev.xs.length + 1 - n).toNat | _ => 0) fun W i now n sk is st ev w ins lo hi set K hs A hA => by
  obtain ⟨⟨i0, i1, rfl, rfl, hS, hE, n0, n1, t0, t1, t2, t3, w0, w2, wl, hl⟩, hk⟩ := hs
  unfold VCL_fin
  have l6 := hE.l60
  have hf := hS.skF i.toNat (by omega)
  have hg := hS.skG i.toNat (by omega)
  have e1 : (n + 1).toNat = n.toNat + 1 := by omega
  have il := fun k => it_len (-Sp.fHi sk.xs i.toNat) (-Sp.fLo sk.xs i.toNat) k set hl
  refine vifd (fun e => vifd (fun e2 => ?_) fun e2 => ?_) fun e => ?_
  · have qw := hE.wk n.toNat (by omega)
    have qs := hE.sk n.toNat (by omega)
    have qk := hE.kd n.toNat (by omega)
    have qt := t1 e2
    rw [show ((ev.xs.length : Int) - n).toNat = ((ev.xs.length : Int) - (n + 1)).toNat + 1 by omega, Sp.finF] at hk
    have go : ∀ s2, s2 = (if Sp.evS ev.xs n.toNat = (i.toNat : Int) then (if Sp.evK ev.xs n.toNat = 0 then Sp.sprD (Sp.itS (-Sp.fHi sk.xs i.toNat) (-Sp.fLo sk.xs i.toNat) (Sp.evW ev.xs n.toNat - now).toNat set) (Sp.gLo sk.xs i.toNat) (Sp.gHi sk.xs i.toNat) else Sp.mskF (Sp.itS (-Sp.fHi sk.xs i.toNat) (-Sp.fLo sk.xs i.toNat) (Sp.evW ev.xs n.toNat - now).toNat set) (Sp.bLo is.xs (Sp.evI ev.xs n.toNat).toNat) (Sp.bHi is.xs (Sp.evI ev.xs n.toNat).toNat) (Sp.evM ev.xs n.toNat) 0) else Sp.itS (-Sp.fHi sk.xs i.toNat) (-Sp.fLo sk.xs i.toNat) (Sp.evW ev.xs n.toNat - now).toNat set) →
        A [.i i, .i (Sp.evW ev.xs n.toNat), .i (n + 1), .ro _ sk, .ro _ is, .ro _ st, .ro _ ev, .i w, .i ins, .i (-Sp.fHi sk.xs i.toNat), .i (-Sp.fLo sk.xs i.toNat), .l s2] := fun s2 h2 => hA _ (by show ((ev.xs.length : Int) + 1 - (n + 1)).toNat < ((ev.xs.length : Int) + 1 - n).toNat; omega)
        ⟨⟨i0, i1, rfl, rfl, hS, hE, by omega, by omega, qw.1, fun c => by rw [e1]; exact hE.up n.toNat (by omega), fun c => by
          rw [show n.toNat = ev.xs.length - 1 by omega]
          exact Int.not_lt.1 fun x => wl ⟨by omega, x⟩, fun c => by omega, w0, w2, wl, by
          rw [h2]
          split
          · split
            · exact spr_len _ _ _
            · exact msk_len _ _ _ _ _
          · exact il _⟩, by
          rw [e1, h2]
          exact hk⟩
    clear hk hA
    rw [show ((i.toNat : Nat) : Int) = i by omega] at go
    rw [show (cel ev.xs n.toNat 0).int = Sp.evW ev.xs n.toNat from rfl, show (cel ev.xs n.toNat 1).int = Sp.evK ev.xs n.toNat from rfl, show (cel ev.xs n.toNat 2).int = Sp.evS ev.xs n.toNat from rfl, show (cel ev.xs n.toNat 3).int = Sp.evI ev.xs n.toNat from rfl]
    refine need_in (by omega) (nedd (by omega) ⟨⟨t0, qt, qw.2, hl, by omega, by omega, by omega, by omega⟩, vifd (fun c => absurd c (by omega)) fun _ => need_in (by omega) (nedd (by omega) (vifn (fun c => ?_) fun c => need_in (by omega) (nedd (by omega) (vifd (fun d => ?_) fun d => ?_))))⟩)
    · exact ar64 (by omega) (go _ (by rw [if_neg c]))
    · rw [if_pos c, if_pos d] at go
      unfold Sp.gLo Sp.gHi at hg go
      simp only [Nat.zero_add, Nat.reduceAdd]
      exact need_in (by omega) (nedd (by omega) ⟨⟨il _, by omega, by omega, by omega, by omega⟩, ar64 (by omega) (go _ rfl)⟩)
    · rw [if_pos c, if_neg d] at go
      have qi := hE.is n.toNat (by omega) (by omega)
      have hb := hS.isB (Sp.evI ev.xs n.toNat).toNat (by omega)
      unfold Sp.bLo Sp.bHi at hb go
      simp only [Nat.zero_add, Nat.reduceAdd]
      exact need_in (by omega) (nedd (by omega) (need_in (by omega) (nedd (by omega) ⟨⟨n0, e2, by omega, by omega, il _, by unfold Sp.Small; omega, by unfold Sp.Small; omega⟩, ar64 (by omega) (go _ rfl)⟩)))
  · have en : n = ev.xs.length := by omega
    have qt := t2 en
    refine ⟨⟨t0, qt, w2, hl, by omega, by omega, by omega, by omega⟩, vifd (fun _ => ar64 (by omega) (hA _ (by show ((ev.xs.length : Int) + 1 - (n + 1)).toNat < ((ev.xs.length : Int) + 1 - n).toNat; omega) ⟨⟨i0, i1, rfl, rfl, hS, hE, by omega, by omega, w0, fun c => by omega, fun c => by omega, fun _ => rfl, w0, w2, wl, il _⟩, ?_⟩)) fun c => absurd en c⟩
    rw [show ((ev.xs.length : Int) - n).toNat = 0 by omega, Sp.finF] at hk
    rw [show ((ev.xs.length : Int) - (n + 1)).toNat = 0 by omega, Sp.finF, Int.sub_self]
    exact hk
  · have qt := t3 (by omega)
    rw [show ((ev.xs.length : Int) - n).toNat = 0 by omega, Sp.finF, qt, Int.sub_self] at hk
    exact hk
noncomputable def le_fin : LE Try.prog := ⟨9, 20, fun W => @loopRun W lc_fin, okLfin⟩
noncomputable def TK9c : Tab Try.prog := ⟨[], [le_fil, le_fin, le_lms], []⟩
namespace Sp
def finLM (sk is st ev : Dt) (w : Int) (i : Nat) : Int × Int := lmF (finF sk is ev w i ev.length 0 0 (setD (rLo st i) (rHi st i))) 1001 0 (-1) (-1)
def emp (sk is st ev : Dt) (w : Int) (i : Nat) : Bool := decide ((finLM sk is st ev w i).1 < 0)
def anyE (sk is st ev : Dt) (w : Int) : Nat → Nat → Bool
  | _, 0 => false
  | i, n + 1 => emp sk is st ev w i || anyE sk is st ev w (i + 1) n
structure Rea (sk is st ev : Dt) (w er : Int) (l : Dt) (down : Bool) : Prop where
  ask : AskOk sk is st ev w
  e09 : er = 0 ∨ er = 9
  ok : er = 0 → l.length = sk.length ∧ ∀ j : Nat, j < sk.length → finLM sk is st ev w j = (rLo l j, rHi l j) ∧ 0 ≤ rLo l j
  dn : er = 0 → down = false
def reaB (er : Int) (down any : Bool) : Bool := if er = 0 then false else down || any
end Sp
def sp_rea [InW] (e : List Ed) (K : Nat → List Ed → Prop) : Prop := match e with
  | [.i er, .i k, .b down, .i i, .ro _ sk, .ro _ is, .ro _ st, .ro _ ev, .i w, .i ins, .l l] => Pre (Sp.Rea sk.xs is.xs st.xs ev.xs w er l down ∧ 0 ≤ i ∧ i ≤ sk.xs.length ∧ 0 ≤ k ∧ k < sk.xs.length)
    (K 0 [.i er, .b (Sp.reaB er down (Sp.anyE sk.xs is.xs st.xs ev.xs w i.toNat ((sk.xs.length : Int) - i).toNat))])
  | _ => False
noncomputable def lc_rea : LC where
  len := 285
  T := [(3, (.ptr 1 0)), (4, (.ptr 4 0)), (7, (.row 7)), (8, .int .i64), (9, .int .i64), (10, .bool), (11, .int .i64)]
  H := [(1, .blk 25 [.rs [.str, .int .i64, .int .i64, .int .i64, .int .i64], .rs [.str, .int .i64, .int .i64]]), (4, .blk 40 [.rs [.int .i64, .int .i64], .rs Iv5, .int .i64, .int .i64]), (7, .arr 32 [.int .i64, .int .i64])]
  W := [6, 12, 13, 14, 15, 16, 17, 18, 19, 20, 21, 22, 23, 88, 89, 90, 91, 92, 93, 94, 95, 96, 97, 98, 99, 100, 101, 102, 103, 104, 105, 106, 107, 108, 109, 110, 111, 112, 113, 114, 115, 116, 117, 118, 119, 120, 121, 122, 123, 124, 125, 126, 127, 128, 129, 130, 131, 132, 133, 134, 135, 136, 137, 138, 139, 140, 141, 142, 143, 144, 145, 146, 147, 148, 149, 150, 151, 152, 153, 154, 155, 156, 157, 158, 159, 160, 161, 162, 163, 164, 165, 166, 167, 168, 169, 170, 171, 172, 173, 174, 175, 176, 177, 178, 179, 180, 181, 182, 183, 184, 185, 186, 187, 188, 189, 190, 191, 192, 193, 194, 195, 196, 197, 198, 199, 200, 201, 202, 203, 204, 205, 206, 207, 208, 209, 210, 211, 212, 213, 214, 215, 216, 217, 218, 219, 220, 221, 222, 223, 224, 225, 226, 227, 228, 229, 230, 231, 232, 233, 234, 235, 236, 237, 238, 239, 240, 241, 242, 243, 244, 245, 246, 247, 248, 249, 250, 251, 252, 253, 254, 255, 256, 257, 258, 259, 260, 261, 262, 263, 264, 265, 266, 267, 268, 269, 270, 271, 272, 273, 274, 275, 276, 277]
  outs := [⟨.exit 0, [(8, .int .i64), (10, .bool)], [], [3, 4, 6, 7, 9, 11, 12, 13, 14, 15, 16, 17, 18, 19, 20, 21, 22, 23, 88, 89, 90, 91, 92, 93, 94, 95, 96, 97, 98, 99, 100, 101, 102, 103, 104, 105, 106, 107, 108, 109, 110, 111, 112, 113, 114, 115, 116, 117, 118, 119, 120, 121, 122, 123, 124, 125, 126, 127, 128, 129, 130, 131, 132, 133, 134, 135, 136, 137, 138, 139, 140, 141, 142, 143, 144, 145, 146, 147, 148, 149, 150, 151, 152, 153, 154, 155, 156, 157, 158, 159, 160, 161, 162, 163, 164, 165, 166, 167, 168, 169, 170, 171, 172, 173, 174, 175, 176, 177, 178, 179, 180, 181, 182, 183, 184, 185, 186, 187, 188, 189, 190, 191, 192, 193, 194, 195, 196, 197, 198, 199, 200, 201, 202, 203, 204, 205, 206, 207, 208, 209, 210, 211, 212, 213, 214, 215, 216, 217, 218, 219, 220, 221, 222, 223, 224, 225, 226, 227, 228, 229, 230, 231, 232, 233, 234, 235, 236, 237, 238, 239, 240, 241, 242, 243, 244, 245, 246, 247, 248, 249, 250, 251, 252, 253, 254, 255, 256, 257, 258, 259, 260, 261, 262, 263, 264, 265, 266, 267, 268, 269, 270, 271, 272, 273, 274, 275, 276, 277]⟩, ⟨.ret, [(6, (.lit (.bool false)))], [], [3, 4, 7, 8, 9, 10, 11, 12, 13, 14, 15, 16, 17, 18, 19, 20, 21, 22, 23, 88, 89, 90, 91, 92, 93, 94, 95, 96, 97, 98, 99, 100, 101, 102, 103, 104, 105, 106, 107, 108, 109, 110, 111, 112, 113, 114, 115, 116, 117, 118, 119, 120, 121, 122, 123, 124, 125, 126, 127, 128, 129, 130, 131, 132, 133, 134, 135, 136, 137, 138, 139, 140, 141, 142, 143, 144, 145, 146, 147, 148, 149, 150, 151, 152, 153, 154, 155, 156, 157, 158, 159, 160, 161, 162, 163, 164, 165, 166, 167, 168, 169, 170, 171, 172, 173, 174, 175, 176, 177, 178, 179, 180, 181, 182, 183, 184, 185, 186, 187, 188, 189, 190, 191, 192, 193, 194, 195, 196, 197, 198, 199, 200, 201, 202, 203, 204, 205, 206, 207, 208, 209, 210, 211, 212, 213, 214, 215, 216, 217, 218, 219, 220, 221, 222, 223, 224, 225, 226, 227, 228, 229, 230, 231, 232, 233, 234, 235, 236, 237, 238, 239, 240, 241, 242, 243, 244, 245, 246, 247, 248, 249, 250, 251, 252, 253, 254, 255, 256, 257, 258, 259, 260, 261, 262, 263, 264, 265, 266, 267, 268, 269, 270, 271, 272, 273, 274, 275, 276, 277]⟩]
  spec := sp_rea
def VCL_rea [W : InW] (er k : Int) (down : Bool) (i : Int) (sk : Ro [.str, .int .i64, .int .i64, .int .i64, .int .i64]) (is : Ro [.str, .int .i64, .int .i64]) (st : Ro [.int .i64, .int .i64]) (ev : Ro Iv5) (w ins : Int) (l : Dt) (A : List Ed → Prop) (K : Nat → List Ed → Prop) : Prop :=
  Vif (decide (i < (↑(sk.xs.length) : Int))) (Vif (!decide (i = k)) (Vif (decide (er = (0 : Int))) (Ar .i64 (i + (1 : Int)) fun z => A [.i er, .i k, .b down, .i z, .ro _ sk, .ro _ is, .ro _ st, .ro _ ev, .i w, .i ins, .l l]) (Need (decide ((0 : Int) ≤ i) && decide (i < (↑(st.xs.length) : Int))) (Need (decide (i.toNat < st.xs.length)) (Pre ((0 : Int) ≤ i ∧ i < (↑(st.xs.length) : Int) ∧ (0 : Int) ≤ max (0 : Int) (cel st.xs i.toNat (0 : Nat)).int ∧ Sp.rLo st.xs i.toNat ≤ max (0 : Int) (cel st.xs i.toNat (0 : Nat)).int ∧ max (0 : Int) (cel st.xs i.toNat (0 : Nat)).int ≤ Sp.rHi st.xs i.toNat + (1 : Int) ∧ Sp.rHi st.xs i.toNat ≤ (1000 : Int) ∧ (List.replicate 1001 [Cl.b false]) = Sp.setD (Sp.rLo st.xs i.toNat) (max (0 : Int) (cel st.xs i.toNat (0 : Nat)).int - (1 : Int))) (Need (decide ((0 : Int) ≤ i) && decide (i < (↑(sk.xs.length) : Int))) (Need (decide (i.toNat < sk.xs.length)) (Ar .i64 ((0 : Int) - (cel sk.xs i.toNat (2+1+1 : Nat)).int) fun z => Ar .i64 ((0 : Int) - (cel sk.xs i.toNat (2+1 : Nat)).int) fun z_1 => Pre ((0 : Int) ≤ i ∧ i < (↑(sk.xs.length) : Int) ∧ z = -Sp.fHi sk.xs i.toNat ∧ z_1 = -Sp.fLo sk.xs i.toNat ∧ Sp.SchOk sk.xs is.xs ∧ Sp.EvOk sk.xs is.xs ev.xs ∧ (0 : Int) ≤ (0 : Int) ∧ (0 : Int) ≤ (↑(ev.xs.length) : Int) + (1 : Int) ∧ (0 : Int) ≤ (0 : Int) ∧ ((0 : Int) < (↑(ev.xs.length) : Int) → (0 : Int) ≤ Sp.evW ev.xs (Int.toNat (0 : Int))) ∧ ((0 : Int) = (↑(ev.xs.length) : Int) → (0 : Int) ≤ w) ∧ ((0 : Int) = (↑(ev.xs.length) : Int) + (1 : Int) → (0 : Int) = w) ∧ (0 : Int) ≤ w ∧ w ≤ (200 : Int) ∧ ¬((0 : Nat) < ev.xs.length ∧ w < Sp.evW ev.xs (ev.xs.length - (1 : Nat))) ∧ List.length (Sp.setD (Sp.rLo st.xs i.toNat) (Sp.rHi st.xs i.toNat)) = (1001 : Nat)) (Pre ((0 : Int) ≤ (0 : Int) ∧ (0 : Int) ≤ (1001 : Int) ∧ List.length (Sp.finF sk.xs is.xs ev.xs w i.toNat ((↑(ev.xs.length) : Int) - (0 : Int)).toNat (Int.toNat (0 : Int)) (0 : Int) (Sp.setD (Sp.rLo st.xs i.toNat) (Sp.rHi st.xs i.toNat))) = (1001 : Nat)) (Vif down (Vif (decide (er = (0 : Int))) (Need (decide ((0 : Int) ≤ i) && decide (i < (↑(l.length) : Int))) (Need (decide (i.toNat < l.length)) (Vif (!(decide ((cel l i.toNat (0 : Nat)).int = (Sp.lmF (Sp.finF sk.xs is.xs ev.xs w i.toNat ((↑(ev.xs.length) : Int) - (0 : Int)).toNat (Int.toNat (0 : Int)) (0 : Int) (Sp.setD (Sp.rLo st.xs i.toNat) (Sp.rHi st.xs i.toNat))) ((1001 : Int) - (0 : Int)).toNat (Int.toNat (0 : Int)) (-1 : Int) (-1 : Int)).1) && (decide ((cel l i.toNat (0+1 : Nat)).int = (Sp.lmF (Sp.finF sk.xs is.xs ev.xs w i.toNat ((↑(ev.xs.length) : Int) - (0 : Int)).toNat (Int.toNat (0 : Int)) (0 : Int) (Sp.setD (Sp.rLo st.xs i.toNat) (Sp.rHi st.xs i.toNat))) ((1001 : Int) - (0 : Int)).toNat (Int.toNat (0 : Int)) (-1 : Int) (-1 : Int)).2) && true))) (K (0+1 : Nat) []) (Ar .i64 (i + (1 : Int)) fun z => A [.i er, .i k, .b true, .i z, .ro _ sk, .ro _ is, .ro _ st, .ro _ ev, .i w, .i ins, .l l])))) (Ar .i64 (i + (1 : Int)) fun z => A [.i er, .i k, .b true, .i z, .ro _ sk, .ro _ is, .ro _ st, .ro _ ev, .i w, .i ins, .l l])) (Vif (decide (er = (0 : Int))) (Need (decide ((0 : Int) ≤ i) && decide (i < (↑(l.length) : Int))) (Need (decide (i.toNat < l.length)) (Vif (!(decide ((cel l i.toNat (0 : Nat)).int = (Sp.lmF (Sp.finF sk.xs is.xs ev.xs w i.toNat ((↑(ev.xs.length) : Int) - (0 : Int)).toNat (Int.toNat (0 : Int)) (0 : Int) (Sp.setD (Sp.rLo st.xs i.toNat) (Sp.rHi st.xs i.toNat))) ((1001 : Int) - (0 : Int)).toNat (Int.toNat (0 : Int)) (-1 : Int) (-1 : Int)).1) && (decide ((cel l i.toNat (0+1 : Nat)).int = (Sp.lmF (Sp.finF sk.xs is.xs ev.xs w i.toNat ((↑(ev.xs.length) : Int) - (0 : Int)).toNat (Int.toNat (0 : Int)) (0 : Int) (Sp.setD (Sp.rLo st.xs i.toNat) (Sp.rHi st.xs i.toNat))) ((1001 : Int) - (0 : Int)).toNat (Int.toNat (0 : Int)) (-1 : Int) (-1 : Int)).2) && true))) (K (0+1 : Nat) []) (Ar .i64 (i + (1 : Int)) fun z => A [.i er, .i k, .b (decide ((Sp.lmF (Sp.finF sk.xs is.xs ev.xs w i.toNat ((↑(ev.xs.length) : Int) - (0 : Int)).toNat (Int.toNat (0 : Int)) (0 : Int) (Sp.setD (Sp.rLo st.xs i.toNat) (Sp.rHi st.xs i.toNat))) ((1001 : Int) - (0 : Int)).toNat (Int.toNat (0 : Int)) (-1 : Int) (-1 : Int)).1 < (0 : Int))), .i z, .ro _ sk, .ro _ is, .ro _ st, .ro _ ev, .i w, .i ins, .l l])))) (Ar .i64 (i + (1 : Int)) fun z => A [.i er, .i k, .b (decide ((Sp.lmF (Sp.finF sk.xs is.xs ev.xs w i.toNat ((↑(ev.xs.length) : Int) - (0 : Int)).toNat (Int.toNat (0 : Int)) (0 : Int) (Sp.setD (Sp.rLo st.xs i.toNat) (Sp.rHi st.xs i.toNat))) ((1001 : Int) - (0 : Int)).toNat (Int.toNat (0 : Int)) (-1 : Int) (-1 : Int)).1 < (0 : Int))), .i z, .ro _ sk, .ro _ is, .ro _ st, .ro _ ev, .i w, .i ins, .l l]))))))))))) (Need (decide ((0 : Int) ≤ i) && decide (i < (↑(st.xs.length) : Int))) (Need (decide (i.toNat < st.xs.length)) (Pre ((0 : Int) ≤ i ∧ i < (↑(st.xs.length) : Int) ∧ (0 : Int) ≤ max (0 : Int) (cel st.xs i.toNat (0 : Nat)).int ∧ Sp.rLo st.xs i.toNat ≤ max (0 : Int) (cel st.xs i.toNat (0 : Nat)).int ∧ max (0 : Int) (cel st.xs i.toNat (0 : Nat)).int ≤ Sp.rHi st.xs i.toNat + (1 : Int) ∧ Sp.rHi st.xs i.toNat ≤ (1000 : Int) ∧ (List.replicate 1001 [Cl.b false]) = Sp.setD (Sp.rLo st.xs i.toNat) (max (0 : Int) (cel st.xs i.toNat (0 : Nat)).int - (1 : Int))) (Need (decide ((0 : Int) ≤ i) && decide (i < (↑(sk.xs.length) : Int))) (Need (decide (i.toNat < sk.xs.length)) (Ar .i64 ((0 : Int) - (cel sk.xs i.toNat (2+1+1 : Nat)).int) fun z => Ar .i64 ((0 : Int) - (cel sk.xs i.toNat (2+1 : Nat)).int) fun z_1 => Pre ((0 : Int) ≤ i ∧ i < (↑(sk.xs.length) : Int) ∧ z = -Sp.fHi sk.xs i.toNat ∧ z_1 = -Sp.fLo sk.xs i.toNat ∧ Sp.SchOk sk.xs is.xs ∧ Sp.EvOk sk.xs is.xs ev.xs ∧ (0 : Int) ≤ (0 : Int) ∧ (0 : Int) ≤ (↑(ev.xs.length) : Int) + (1 : Int) ∧ (0 : Int) ≤ (0 : Int) ∧ ((0 : Int) < (↑(ev.xs.length) : Int) → (0 : Int) ≤ Sp.evW ev.xs (Int.toNat (0 : Int))) ∧ ((0 : Int) = (↑(ev.xs.length) : Int) → (0 : Int) ≤ w) ∧ ((0 : Int) = (↑(ev.xs.length) : Int) + (1 : Int) → (0 : Int) = w) ∧ (0 : Int) ≤ w ∧ w ≤ (200 : Int) ∧ ¬((0 : Nat) < ev.xs.length ∧ w < Sp.evW ev.xs (ev.xs.length - (1 : Nat))) ∧ List.length (Sp.setD (Sp.rLo st.xs i.toNat) (Sp.rHi st.xs i.toNat)) = (1001 : Nat)) (Pre ((0 : Int) ≤ (0 : Int) ∧ (0 : Int) ≤ (1001 : Int) ∧ List.length (Sp.finF sk.xs is.xs ev.xs w i.toNat ((↑(ev.xs.length) : Int) - (0 : Int)).toNat (Int.toNat (0 : Int)) (0 : Int) (Sp.setD (Sp.rLo st.xs i.toNat) (Sp.rHi st.xs i.toNat))) = (1001 : Nat)) (Vif down (Vif (decide (er = (0 : Int))) (Need (decide ((0 : Int) ≤ i) && decide (i < (↑(l.length) : Int))) (Need (decide (i.toNat < l.length)) (Vif (!(decide ((cel l i.toNat (0 : Nat)).int = (Sp.lmF (Sp.finF sk.xs is.xs ev.xs w i.toNat ((↑(ev.xs.length) : Int) - (0 : Int)).toNat (Int.toNat (0 : Int)) (0 : Int) (Sp.setD (Sp.rLo st.xs i.toNat) (Sp.rHi st.xs i.toNat))) ((1001 : Int) - (0 : Int)).toNat (Int.toNat (0 : Int)) (-1 : Int) (-1 : Int)).1) && (decide ((cel l i.toNat (0+1 : Nat)).int = (Sp.lmF (Sp.finF sk.xs is.xs ev.xs w i.toNat ((↑(ev.xs.length) : Int) - (0 : Int)).toNat (Int.toNat (0 : Int)) (0 : Int) (Sp.setD (Sp.rLo st.xs i.toNat) (Sp.rHi st.xs i.toNat))) ((1001 : Int) - (0 : Int)).toNat (Int.toNat (0 : Int)) (-1 : Int) (-1 : Int)).2) && true))) (K (0+1 : Nat) []) (Ar .i64 (i + (1 : Int)) fun z => A [.i er, .i k, .b true, .i z, .ro _ sk, .ro _ is, .ro _ st, .ro _ ev, .i w, .i ins, .l l])))) (Ar .i64 (i + (1 : Int)) fun z => A [.i er, .i k, .b true, .i z, .ro _ sk, .ro _ is, .ro _ st, .ro _ ev, .i w, .i ins, .l l])) (Vif (decide (er = (0 : Int))) (Need (decide ((0 : Int) ≤ i) && decide (i < (↑(l.length) : Int))) (Need (decide (i.toNat < l.length)) (Vif (!(decide ((cel l i.toNat (0 : Nat)).int = (Sp.lmF (Sp.finF sk.xs is.xs ev.xs w i.toNat ((↑(ev.xs.length) : Int) - (0 : Int)).toNat (Int.toNat (0 : Int)) (0 : Int) (Sp.setD (Sp.rLo st.xs i.toNat) (Sp.rHi st.xs i.toNat))) ((1001 : Int) - (0 : Int)).toNat (Int.toNat (0 : Int)) (-1 : Int) (-1 : Int)).1) && (decide ((cel l i.toNat (0+1 : Nat)).int = (Sp.lmF (Sp.finF sk.xs is.xs ev.xs w i.toNat ((↑(ev.xs.length) : Int) - (0 : Int)).toNat (Int.toNat (0 : Int)) (0 : Int) (Sp.setD (Sp.rLo st.xs i.toNat) (Sp.rHi st.xs i.toNat))) ((1001 : Int) - (0 : Int)).toNat (Int.toNat (0 : Int)) (-1 : Int) (-1 : Int)).2) && true))) (K (0+1 : Nat) []) (Ar .i64 (i + (1 : Int)) fun z => A [.i er, .i k, .b (decide ((Sp.lmF (Sp.finF sk.xs is.xs ev.xs w i.toNat ((↑(ev.xs.length) : Int) - (0 : Int)).toNat (Int.toNat (0 : Int)) (0 : Int) (Sp.setD (Sp.rLo st.xs i.toNat) (Sp.rHi st.xs i.toNat))) ((1001 : Int) - (0 : Int)).toNat (Int.toNat (0 : Int)) (-1 : Int) (-1 : Int)).1 < (0 : Int))), .i z, .ro _ sk, .ro _ is, .ro _ st, .ro _ ev, .i w, .i ins, .l l])))) (Ar .i64 (i + (1 : Int)) fun z => A [.i er, .i k, .b (decide ((Sp.lmF (Sp.finF sk.xs is.xs ev.xs w i.toNat ((↑(ev.xs.length) : Int) - (0 : Int)).toNat (Int.toNat (0 : Int)) (0 : Int) (Sp.setD (Sp.rLo st.xs i.toNat) (Sp.rHi st.xs i.toNat))) ((1001 : Int) - (0 : Int)).toNat (Int.toNat (0 : Int)) (-1 : Int) (-1 : Int)).1 < (0 : Int))), .i z, .ro _ sk, .ro _ is, .ro _ st, .ro _ ev, .i w, .i ins, .l l]))))))))))) (K (0 : Nat) [.i er, .b down])
theorem vcl_rea (W : InW) (er k down i sk is st ev w ins l A K) : vcTop { cxT Try.prog TT TK9c 1000 50 with fn := 9 } 1000 (loopAt Try.prog 9 9) (tmOut 285 [(3, .ptr 1 0), (4, .ptr 4 0), (7, .rw 7), (8, .si .i64 er), (9, .si .i64 k), (10, .sb down), (11, .si .i64 i)] [6, 12, 13, 14, 15, 16, 17, 18, 19, 20, 21, 22, 23, 88, 89, 90, 91, 92, 93, 94, 95, 96, 97, 98, 99, 100, 101, 102, 103, 104, 105, 106, 107, 108, 109, 110, 111, 112, 113, 114, 115, 116, 117, 118, 119, 120, 121, 122, 123, 124, 125, 126, 127, 128, 129, 130, 131, 132, 133, 134, 135, 136, 137, 138, 139, 140, 141, 142, 143, 144, 145, 146, 147, 148, 149, 150, 151, 152, 153, 154, 155, 156, 157, 158, 159, 160, 161, 162, 163, 164, 165, 166, 167, 168, 169, 170, 171, 172, 173, 174, 175, 176, 177, 178, 179, 180, 181, 182, 183, 184, 185, 186, 187, 188, 189, 190, 191, 192, 193, 194, 195, 196, 197, 198, 199, 200, 201, 202, 203, 204, 205, 206, 207, 208, 209, 210, 211, 212, 213, 214, 215, 216, 217, 218, 219, 220, 221, 222, 223, 224, 225, 226, 227, 228, 229, 230, 231, 232, 233, 234, 235, 236, 237, 238, 239, 240, 241, 242, 243, 244, 245, 246, 247, 248, 249, 250, 251, 252, 253, 254, 255, 256, 257, 258, 259, 260, 261, 262, 263, 264, 265, 266, 267, 268, 269, 270, 271, 272, 273, 274, 275, 276, 277]) [(1, .blk 25 [.rs _ sk, .rs _ is]), (4, .blk 40 [.rs _ st, .rs _ ev, .si .i64 w, .si .i64 ins]), (7, .arr 32 [.int .i64, .int .i64] l)] (roundL lc_rea A K) = VCL_rea er k down i sk is st ev w ins l A K := by kernel_rfl
def okLt_rea : Prop := ∀ (W : InW) (body a : Code), (Try.prog.funcs[9]?).bind (·.body) = some body → a ∈ loopsIn body → keyOf a = 9 → @LoopOk W Try.prog a (@loopRun W lc_rea)
theorem okl_rea (meas : [InW] → List Ed → Nat) (hyp_ : ∀ (W : InW) (er : Int) (k : Int) (down : Bool) (i : Int) (sk : Ro [.str, .int .i64, .int .i64, .int .i64, .int .i64]) (is : Ro [.str, .int .i64, .int .i64]) (st : Ro [.int .i64, .int .i64]) (ev : Ro Iv5) (w : Int) (ins : Int) (l : Dt) (K : Nat → List Ed → Prop), sp_rea [.i er, .i k, .b down, .i i, .ro _ sk, .ro _ is, .ro _ st, .ro _ ev, .i w, .i ins, .l l] K → ∀ A : List Ed → Prop, (∀ e, meas e < meas [.i er, .i k, .b down, .i i, .ro _ sk, .ro _ is, .ro _ st, .ro _ ev, .i w, .i ins, .l l] → sp_rea e K → A e) → VCL_rea er k down i sk is st ev w ins l A K) : okLt_rea :=
  LE.okOf' (fun W => @TT W) (fun W => @TT_ok W) mixed_ok TK9c 1000 50 (by kernel_rfl) lc_rea (fun W => @meas W) fun W er k down i sk is st ev w ins l K hs =>
    (vcl_rea W er k down i sk is st ev w ins l (fun e => meas e < meas [.i er, .i k, .b down, .i i, .ro _ sk, .ro _ is, .ro _ st, .ro _ ev, .i w, .i ins, .l l] ∧ sp_rea e K) K).mpr (hyp_ W er k down i sk is st ev w ins l K hs _ fun e h1 h2 => ⟨h1, h2⟩)
theorem set_none {a b : Int} (h : b < a) : List.replicate 1001 [Cl.b false] = Sp.setD a b :=
  dt_ext (by rw [List.length_replicate, set_len]) fun j hj => by
    rw [List.length_replicate] at hj
    rw [set_at hj]
    have e : (decide (a ≤ (j : Int)) && decide ((j : Int) ≤ b)) = false := by
      by_cases c : a ≤ (j : Int)
      · rw [decide_eq_false (show ¬ (j : Int) ≤ b by omega), Bool.and_false]
      · rw [decide_eq_false c, Bool.false_and]
    rw [e, List.getD_eq_getElem?_getD, List.getElem?_replicate, if_pos hj]
    rfl
theorem fin_len {sk is ev : Dt} {w : Int} {i : Nat} : ∀ (m n : Nat) (now : Int) (set : Dt), set.length = 1001 → (Sp.finF sk is ev w i m n now set).length = 1001
  | 0, _, _, _, h => it_len _ _ _ _ h
  | m + 1, n, now, set, h => by
    rw [Sp.finF]
    refine fin_len m _ _ _ ?_
    split
    · split
      · exact spr_len _ _ _
      · exact msk_len _ _ _ _ _
    · exact it_len _ _ _ _ h
theorem okLrea : okLt_rea := okl_rea (fun e => match e with | [_, _, _, .i i, .ro _ sk, _, _, _, _, _, _] => (sk.xs.length - i).toNat | _ => 0) fun W er k down i sk is st ev w ins l K hs A hA => by
  obtain ⟨⟨⟨hQ, hr, hl, hd⟩, h0, h1, k0, k1⟩, hk⟩ := hs
  unfold VCL_rea
  unfold Sp.reaB at hk
  have n5 := hQ.his.sch.n5
  have l6 := hQ.his.ev.l60
  have hsl := hQ.his.len
  have e1 : (i + 1).toNat = i.toNat + 1 := by omega
  refine vifd (fun e => ?_) fun e => ?_
  · rw [show ((sk.xs.length : Int) - i).toNat = ((sk.xs.length : Int) - (i + 1)).toNat + 1 by omega, Sp.anyE] at hk
    have go : ∀ d : Bool, (er = 0 → d = false) → (er ≠ 0 → (d || Sp.anyE sk.xs is.xs st.xs ev.xs w (i.toNat + 1) ((sk.xs.length : Int) - (i + 1)).toNat) = (down || (Sp.emp sk.xs is.xs st.xs ev.xs w i.toNat || Sp.anyE sk.xs is.xs st.xs ev.xs w (i.toNat + 1) ((sk.xs.length : Int) - (i + 1)).toNat))) → A [.i er, .i k, .b d, .i (i + 1), .ro _ sk, .ro _ is, .ro _ st, .ro _ ev, .i w, .i ins, .l l] := fun d h2 h3 => hA _ (by show ((sk.xs.length : Int) - (i + 1)).toNat < ((sk.xs.length : Int) - i).toNat; omega) ⟨⟨⟨hQ, hr, hl, h2⟩, by omega, by omega, k0, k1⟩, by
      rw [e1]
      unfold Sp.reaB
      by_cases c : er = 0
      · rw [if_pos c] at hk ⊢; exact hk
      · rw [if_neg c] at hk ⊢; rw [h3 c]; exact hk⟩
    clear hk hA
    refine vifn (fun c => vifd (fun z => ?_) fun z => ?_) fun c => ?_
    · exact ar64 (by omega) (go _ hd fun c => absurd z c)
    all_goals
      have hR := hQ.his.rg i.toNat (by omega)
      have hf := hQ.his.sch.skF i.toNat (by omega)
      have eLM : Sp.lmF (Sp.finF sk.xs is.xs ev.xs w i.toNat ((ev.xs.length : Int) - 0).toNat (Int.toNat 0) 0 (Sp.setD (Sp.rLo st.xs i.toNat) (Sp.rHi st.xs i.toNat))) ((1001 : Int) - 0).toNat (Int.toNat 0) (-1) (-1) = Sp.finLM sk.xs is.xs st.xs ev.xs w i.toNat := by
        rw [show ((ev.xs.length : Int) - 0).toNat = ev.xs.length by omega]
        rfl
      have hLM : Sp.emp sk.xs is.xs st.xs ev.xs w i.toNat = decide ((Sp.finLM sk.xs is.xs st.xs ev.xs w i.toNat).1 < 0) := rfl
      simp only [eLM]
      rw [show (cel st.xs i.toNat 0).int = Sp.rLo st.xs i.toNat from rfl]
      simp only [Nat.zero_add, Nat.reduceAdd]
      rw [show (cel sk.xs i.toNat 3).int = Sp.fLo sk.xs i.toNat from rfl, show (cel sk.xs i.toNat 4).int = Sp.fHi sk.xs i.toNat from rfl]
      refine need_in (by omega) (nedd (by omega) ⟨⟨by omega, by omega, by omega, by omega, by omega, by omega, set_none (by omega)⟩, need_in (by omega) (nedd (by omega) (ar64 (by omega) (ar64 (by omega) ⟨⟨by omega, e, by omega, by omega, hQ.his.sch, hQ.his.ev, by omega, by omega, by omega, fun h => (hQ.his.ev.wk 0 (by omega)).1, fun _ => hQ.w0, fun h => by omega, hQ.w0, hQ.w2, hQ.wl, set_len _ _⟩, ⟨by omega, by omega, fin_len _ _ _ _ (set_len _ _)⟩, ?_⟩)))⟩)
      refine vif (fun d => vifd (fun z => absurd (hd z) (by rw [d]; decide)) fun z => ?_) fun d => vifd (fun z => ?_) fun z => ?_
      · exact ar64 (by omega) (go _ (fun x => absurd x z) fun _ => by rw [d]; rfl)
      · have hz := (hl z).2 i.toNat (by omega)
        refine need_in (by have := (hl z).1; omega) (nedd (by have := (hl z).1; omega) (vifb (fun x => ?_) fun x => ar64 (by omega) (go _ (fun _ => ?_) fun y => absurd z y)))
        · rw [hz.1] at x
          simp [Sp.rLo, Sp.rHi] at x
        · rw [hz.1]
          exact decide_eq_false (by show ¬ Sp.rLo l i.toNat < 0; omega)
      · exact ar64 (by omega) (go _ (fun x => absurd x z) fun _ => by rw [d, ← hLM]; rfl)
  · rw [show ((sk.xs.length : Int) - i).toNat = 0 by omega, Sp.anyE, Bool.or_false] at hk
    by_cases c : er = 0
    · rw [if_pos c, ← hd c] at hk; exact hk
    · rw [if_neg c] at hk; exact hk
noncomputable def le_rea : LE Try.prog := ⟨9, 9, fun W => @loopRun W lc_rea, okLrea⟩
end Go.Proofs.Ytdokbocmgdhmmaa
namespace Go.Proofs.Ytdokbocmgdhmmaa
open Go.RowKit
set_option linter.unusedVariables false
theorem isIn_at {a b : Int} {j : Nat} : Sp.isIn (Sp.setD a b) j = true ↔ j < 1001 ∧ a ≤ j ∧ (j : Int) ≤ b := by
  unfold Sp.isIn cel
  by_cases h : j < 1001
  · rw [set_at h]
    show (decide (a ≤ (j : Int)) && decide ((j : Int) ≤ b)) = true ↔ _
    rw [Bool.and_eq_true, decide_eq_true_eq, decide_eq_true_eq]
    exact ⟨fun x => ⟨h, x⟩, fun x => x.2⟩
  · have e : (Sp.setD a b).getD j [] = [] := by
      rw [List.getD_eq_getElem?_getD, List.getElem?_eq_none (by rw [set_len]; omega)]
      rfl
    rw [e]
    exact ⟨fun x => (by cases x), fun x => absurd x.1 h⟩
theorem cnt_lt {set : Dt} {L : Nat} : ∀ {M : Nat}, L ≤ M → Sp.cnt set L ≤ Sp.cnt set M ∧ (Sp.cnt set L < Sp.cnt set M ↔ ∃ m, L ≤ m ∧ m < M ∧ Sp.isIn set m = true)
  | 0, h => by
    have : L = 0 := by omega
    subst this
    exact ⟨Int.le_refl _, fun x => by omega, fun ⟨m, h1, h2, _⟩ => by omega⟩
  | M + 1, h => by
    by_cases e : L = M + 1
    · subst e
      exact ⟨Int.le_refl _, fun x => by omega, fun ⟨m, h1, h2, _⟩ => by omega⟩
    · have ih := cnt_lt (set := set) (L := L) (M := M) (by omega)
      rw [Sp.cnt]
      by_cases c : Sp.isIn set M = true
      · rw [if_pos c]
        exact ⟨by omega, fun _ => ⟨M, by omega, by omega, c⟩, fun _ => by omega⟩
      · rw [if_neg c]
        refine ⟨ih.1, fun x => ?_, fun ⟨m, h1, h2, h3⟩ => ?_⟩
        · obtain ⟨m, h1, h2, h3⟩ := ih.2.1 x
          exact ⟨m, h1, by omega, h3⟩
        · refine ih.2.2 ⟨m, h1, ?_, h3⟩
          by_cases e2 : m = M
          · rw [e2] at h3; exact absurd h3 c
          · omega
theorem spN_iff {a b lo hi : Int} {n : Nat} : Sp.spN (Sp.setD a b) lo hi n = true ↔ max (Sp.spL hi n) a ≤ min (Sp.spH lo n) b := by
  unfold Sp.spN
  have l0 : 0 ≤ Sp.spL hi n := by unfold Sp.spL; omega
  have h1 : Sp.spH lo n ≤ 1000 := by unfold Sp.spH; omega
  by_cases h : Sp.spL hi n ≤ Sp.spH lo n
  · rw [if_pos h, decide_eq_true_eq, (cnt_lt (show (Sp.spL hi n).toNat ≤ (Sp.spH lo n + 1).toNat by omega)).2]
    refine ⟨fun ⟨m, h2, h3, h4⟩ => ?_, fun h2 => ⟨(max (Sp.spL hi n) a).toNat, by omega, by omega, isIn_at.2 ⟨by omega, by omega, by omega⟩⟩⟩
    have := isIn_at.1 h4
    omega
  · rw [if_neg h]
    exact ⟨fun x => (by cases x), fun x => by omega⟩
theorem set_congr {f : Nat → Bool} {a b : Int} (h : ∀ n, n < 1001 → (f n = true ↔ a ≤ (n : Int) ∧ (n : Int) ≤ b)) : ((List.range 1001).map fun (n : Nat) => [Cl.b (f n)]) = Sp.setD a b := by
  unfold Sp.setD
  refine List.map_congr_left fun n hn => ?_
  have := h n (List.mem_range.1 hn)
  have e : f n = (decide (a ≤ (n : Int)) && decide ((n : Int) ≤ b)) := by
    rw [Bool.eq_iff_iff, this, Bool.and_eq_true, decide_eq_true_eq, decide_eq_true_eq]
  rw [e]
theorem spr_set {a b lo hi : Int} (a0 : 0 ≤ a) (ab : a ≤ b) (b1 : b ≤ 1000) (h : lo ≤ hi) : Sp.sprD (Sp.setD a b) lo hi = Sp.setD (Sp.lev (a + lo)) (Sp.lev (b + hi)) :=
  set_congr fun n hn => by
    rw [spN_iff]
    unfold Sp.spL Sp.spH Sp.lev
    by_cases c0 : (n : Int) = 0
    · rw [if_pos c0, if_neg (by omega)]; omega
    · rw [if_neg c0]
      by_cases c1 : (n : Int) = 1000
      · rw [if_pos c1]; omega
      · rw [if_neg c1]; omega
theorem set_emp {a b : Int} (h : b < a) : Sp.setD a b = Sp.setD 1 0 := (set_none h).symm.trans (set_none (by omega))
theorem spr_emp (lo hi : Int) : Sp.sprD (Sp.setD 1 0) lo hi = Sp.setD 1 0 :=
  set_congr fun n hn => by
    rw [spN_iff]
    unfold Sp.spL
    omega
theorem it_emp (lo hi : Int) : ∀ n, Sp.itS lo hi n (Sp.setD 1 0) = Sp.setD 1 0
  | 0 => rfl
  | n + 1 => by rw [Sp.itS, spr_emp, it_emp lo hi n]
theorem it_set {p q : Int} (p0 : 0 ≤ p) (pq : p ≤ q) : ∀ (n : Nat) (a b : Int), 0 ≤ a → a ≤ b → b ≤ 1000 → Sp.itS (-q) (-p) n (Sp.setD a b) = Sp.setD (max 0 (a - q * n)) (max 0 (b - p * n))
  | 0, a, b, a0, ab, b1 => by
    rw [Sp.itS, show ((0 : Nat) : Int) = 0 from rfl, Int.mul_zero, Int.mul_zero, show max 0 (a - 0) = a by omega, show max 0 (b - 0) = b by omega]
  | n + 1, a, b, a0, ab, b1 => by
    rw [Sp.itS, spr_set a0 ab b1 (by omega), it_set p0 pq n _ _ (lev_in _).1 (by unfold Sp.lev; omega) (lev_in _).2]
    have e1 : q * ((n + 1 : Nat) : Int) = q * n + q := by rw [Int.natCast_add, Int.mul_add]; simp
    have e2 : p * ((n + 1 : Nat) : Int) = p * n + p := by rw [Int.natCast_add, Int.mul_add]; simp
    have q1 := Int.mul_nonneg (show 0 ≤ q by omega) (Int.natCast_nonneg n)
    have q2 := Int.mul_nonneg p0 (Int.natCast_nonneg n)
    rw [e1, e2, show max 0 (Sp.lev (a + -q) - q * n) = max 0 (a - (q * n + q)) by unfold Sp.lev; omega, show max 0 (Sp.lev (b + -p) - p * n) = max 0 (b - (p * n + p)) by unfold Sp.lev; omega]
theorem msk_set {a b lo hi m : Int} (m0 : 0 ≤ m) (m1 : m ≤ 1000) : Sp.mskF (Sp.setD a b) lo hi m 0 = Sp.setD (max a (Sp.bhLo hi m)) (min b (Sp.bhHi lo m)) := by
  have e : Sp.mskF (Sp.setD a b) lo hi m 0 = (List.range 1001).map fun (n : Nat) => [Cl.b (Sp.isIn (Sp.setD a b) n && Sp.mskB lo hi m n)] := by
    unfold Sp.mskF
    exact List.map_congr_left fun n _ => by rw [if_neg (Nat.not_lt_zero n)]
  rw [e]
  refine set_congr fun n hn => ?_
  have bc := bh_cond (lo := lo) (hi := hi) (mark := m) (l := (n : Int)) (by omega) (by omega) m0 m1
  rw [Bool.and_eq_true, isIn_at]
  unfold Sp.mskB
  rw [Bool.and_eq_true, decide_eq_true_eq, decide_eq_true_eq, bc]
  omega
theorem fin_emp {sk is ev : Dt} {w : Int} {i : Nat} (hE : Sp.EvOk sk is ev) : ∀ (m n : Nat) (now : Int), n + m ≤ ev.length → Sp.finF sk is ev w i m n now (Sp.setD 1 0) = Sp.setD 1 0
  | 0, n, now, _ => it_emp _ _ _
  | m + 1, n, now, h => by
    rw [Sp.finF, it_emp]
    split
    · split
      · rw [spr_emp]; exact fin_emp hE m _ _ (by omega)
      · rename_i c
        have k := hE.kd n (by omega)
        have q := hE.is n (by omega) (by omega)
        rw [msk_set q.2.2.1 q.2.2.2, set_emp (by omega)]
        exact fin_emp hE m _ _ (by omega)
    · exact fin_emp hE m _ _ (by omega)
theorem fade_set {sk is rg : Dt} {i : Nat} {d : Int} (hS : Sp.SchOk sk is) (hR : Sp.RgOk rg) (hl : rg.length = sk.length) (hi : i < sk.length) (hd : 0 ≤ d) :
    Sp.itS (-Sp.fHi sk i) (-Sp.fLo sk i) d.toNat (Sp.setD (Sp.rLo rg i) (Sp.rHi rg i)) = Sp.setD (Sp.rLo (Sp.fadeD sk rg d) i) (Sp.rHi (Sp.fadeD sk rg d) i) := by
  have hf := hS.skF i hi
  have hr := hR i (by omega)
  rw [it_set hf.1 hf.2.1 _ _ _ hr.1 hr.2.1 hr.2.2, (fd_at (by omega)).1, (fd_at (by omega)).2, Int.toNat_of_nonneg hd]
  rfl
theorem event_set {sk is f ev : Dt} {n i : Nat} (hS : Sp.SchOk sk is) (hE : Sp.EvOk sk is ev) (hn : n < ev.length) (hR : Sp.RgOk f) (hl : f.length = sk.length) (hi : Sp.evS ev n = i) :
    (if Sp.evK ev n = 0 then Sp.sprD (Sp.setD (Sp.rLo f i) (Sp.rHi f i)) (Sp.gLo sk i) (Sp.gHi sk i) else Sp.mskF (Sp.setD (Sp.rLo f i) (Sp.rHi f i)) (Sp.bLo is (Sp.evI ev n).toNat) (Sp.bHi is (Sp.evI ev n).toNat) (Sp.evM ev n) 0) = Sp.setD (Sp.hpLo sk is f ev n) (Sp.hpHi sk is f ev n) := by
  have hs := hE.sk n hn
  have hr := hR i (by omega)
  have hg := hS.skG i (by omega)
  unfold Sp.hpLo Sp.hpHi
  rw [hi, Int.toNat_natCast]
  by_cases c : Sp.evK ev n = 0
  · rw [if_pos c, if_pos c, if_pos c]
    exact spr_set hr.1 hr.2.1 hr.2.2 hg.2.1
  · rw [if_neg c, if_neg c, if_neg c]
    have k := hE.kd n hn
    have q := hE.is n hn (by omega)
    exact msk_set q.2.2.1 q.2.2.2
theorem fin_all {sk is ev : Dt} {w : Int} (hS : Sp.SchOk sk is) (hE : Sp.EvOk sk is ev) (hw : ∀ n, n < ev.length → Sp.evW ev n ≤ w) : ∀ (m n : Nat) (now : Int) (rg : Dt), n + m = ev.length → rg.length = sk.length → Sp.RgOk rg → Sp.Two rg → (0 < m → now ≤ Sp.evW ev n) → now ≤ w →
    ((Sp.lvS sk is ev m n now rg).1 = true → ∀ i, i < sk.length → Sp.finF sk is ev w i m n now (Sp.setD (Sp.rLo rg i) (Sp.rHi rg i)) = Sp.setD (Sp.rLo (Sp.fadeD sk (Sp.lvS sk is ev m n now rg).2.2 (w - (Sp.lvS sk is ev m n now rg).2.1)) i) (Sp.rHi (Sp.fadeD sk (Sp.lvS sk is ev m n now rg).2.2 (w - (Sp.lvS sk is ev m n now rg).2.1)) i)) ∧
    ((Sp.lvS sk is ev m n now rg).1 = false → ∃ i, i < sk.length ∧ Sp.finF sk is ev w i m n now (Sp.setD (Sp.rLo rg i) (Sp.rHi rg i)) = Sp.setD 1 0)
  | 0, n, now, rg, hn, hl, hR, hT, h0, hw0 => ⟨fun _ i hi => fade_set hS hR hl hi (by omega), fun h => (by cases h)⟩
  | m + 1, n, now, rg, hn, hl, hR, hT, h0, hw0 => by
    have h0 := h0 (by omega)
    have hF : Sp.FdOk sk := fun j hj => hS.skF j hj
    have f1 := fd_ok hR hF (show 0 ≤ Sp.evW ev n - now by omega) hl
    have f3 := fd_len sk rg (Sp.evW ev n - now)
    have st := lv_step (sk := sk) (is := is) (ev := ev) (rg := rg) (n := m) (i := n) (w := now)
    have hs := hE.sk n (by omega)
    have fs := fun i (hi : i < sk.length) => fade_set (d := Sp.evW ev n - now) hS hR hl hi (by omega)
    have f2 := fd_two sk rg (Sp.evW ev n - now)
    generalize Sp.fadeD sk rg (Sp.evW ev n - now) = f at *
    have one : ∀ i, i < sk.length → Sp.finF sk is ev w i (m + 1) n now (Sp.setD (Sp.rLo rg i) (Sp.rHi rg i)) = Sp.finF sk is ev w i m (n + 1) (Sp.evW ev n) (Sp.setD (Sp.rLo (Sp.hpD sk is f ev n) i) (Sp.rHi (Sp.hpD sk is f ev n) i)) := fun i hi => by
      rw [Sp.finF, fs i hi]
      unfold Sp.hpD
      rw [(rg_set (by omega)).1, (rg_set (by omega)).2]
      by_cases c : Sp.evS ev n = i
      · rw [if_pos c, event_set hS hE (by omega) f1 (by omega) c, if_pos (by omega), if_pos (by omega)]
      · rw [if_neg c, if_neg (by omega), if_neg (by omega)]
    by_cases hd : Sp.hpHi sk is f ev n < Sp.hpLo sk is f ev n
    · rw [st.1 hd]
      refine ⟨fun h => (by cases h), fun _ => ⟨(Sp.evS ev n).toNat, by omega, ?_⟩⟩
      rw [one _ (by omega)]
      unfold Sp.hpD
      rw [(rg_set (by omega)).1, (rg_set (by omega)).2, if_pos rfl, if_pos rfl, set_emp hd]
      exact fin_emp hE m _ _ (by omega)
    · rw [st.2 hd]
      have ih := fin_all hS hE hw m (n + 1) (Sp.evW ev n) (Sp.hpD sk is f ev n) (by omega) (by rw [Sp.hpD, List.length_set]; omega) (hp_ok hS hE (by omega) (by omega) f1 hd) (hp_two f2) (fun _ => hE.up n (by omega)) (hw n (by omega))
      exact ⟨fun h i hi => by rw [one i hi]; exact ih.1 h i hi, fun h => by
        obtain ⟨i, hi, e⟩ := ih.2 h
        exact ⟨i, hi, by rw [one i hi]; exact e⟩⟩
theorem lm_emp : ∀ (m n : Nat) (a b : Int), Sp.lmF (Sp.setD 1 0) m n a b = (a, b)
  | 0, _, _, _ => rfl
  | m + 1, n, a, b => by
    rw [Sp.lmF, if_neg (by rw [isIn_at]; omega)]
    exact lm_emp m (n + 1) a b
theorem lm_set {p q : Int} (p0 : 0 ≤ p) (pq : p ≤ q) (q1 : q ≤ 1000) : ∀ (m n : Nat) (a b : Int), n + m = 1001 → (a, b) = (if (n : Int) ≤ p then (-1, -1) else (p, min q (n - 1))) → Sp.lmF (Sp.setD p q) m n a b = (p, q)
  | 0, n, a, b, hn, h => by
    rw [if_neg (by omega)] at h
    rw [Sp.lmF, h, show min q ((n : Int) - 1) = q by omega]
  | m + 1, n, a, b, hn, h => by
    rw [Sp.lmF]
    by_cases c : Sp.isIn (Sp.setD p q) n = true
    · rw [if_pos c]
      rw [isIn_at] at c
      refine lm_set p0 pq q1 m (n + 1) _ _ (by omega) ?_
      rw [if_neg (show ¬ ((n + 1 : Nat) : Int) ≤ p by omega), show min q (((n + 1 : Nat) : Int) - 1) = n by omega]
      by_cases e : (n : Int) = p
      · rw [if_pos (show (n : Int) ≤ p by omega)] at h
        cases h
        rw [if_pos (show (-1 : Int) < 0 by decide), e]
      · rw [if_neg (show ¬ (n : Int) ≤ p by omega)] at h
        cases h
        rw [if_neg (show ¬ p < 0 by omega)]
    · rw [if_neg c]
      rw [isIn_at] at c
      refine lm_set p0 pq q1 m (n + 1) _ _ (by omega) ?_
      by_cases e : (n : Int) < p
      · rw [if_pos (by omega)] at h
        rw [if_pos (by omega)]
        exact h
      · rw [if_neg (by omega)] at h
        rw [if_neg (by omega), h, show min q ((n : Int) - 1) = q by omega, show min q (((n + 1 : Nat) : Int) - 1) = q by omega]
theorem any_of {sk is st ev : Dt} {w : Int} {j : Nat} (hj : Sp.emp sk is st ev w j = true) : ∀ (n i : Nat), i ≤ j → j < i + n → Sp.anyE sk is st ev w i n = true
  | 0, i, h1, h2 => by omega
  | n + 1, i, h1, h2 => by
    rw [Sp.anyE]
    by_cases e : i = j
    · rw [e, hj]; rfl
    · rw [any_of hj n (i + 1) (by omega) (by omega), Bool.or_true]
theorem reached_law {sk is st ev : Dt} {w : Int} (h : AskOk sk is st ev w) (hT : Sp.Two st) :
    (Sp.aftE sk is st ev w = 0 → (Sp.aftD sk is st ev w).length = sk.length ∧ ∀ j : Nat, j < sk.length → Sp.finLM sk is st ev w j = (Sp.rLo (Sp.aftD sk is st ev w) j, Sp.rHi (Sp.aftD sk is st ev w) j) ∧ 0 ≤ Sp.rLo (Sp.aftD sk is st ev w) j) ∧
    (Sp.aftE sk is st ev w ≠ 0 → Sp.anyE sk is st ev w 0 sk.length = true) := by
  have hE := h.his.ev
  have hS := h.his.sch
  have hw : ∀ n, n < ev.length → Sp.evW ev n ≤ w := fun n hn => by
    have a := ev_up hE (ev.length - 1 - n) n (by omega)
    rw [show n + (ev.length - 1 - n) = ev.length - 1 by omega] at a
    have b := h.wl
    omega
  have F := fin_all hS hE hw ev.length 0 0 st (by omega) h.his.len h.his.rg hT (fun h => (hE.wk 0 h).1) h.w0
  have a := aftE_of h
  refine ⟨fun e => ?_, fun e => ?_⟩
  · have b1 : (Sp.lvA sk is st ev).1 = true := by
      by_cases c : (Sp.lvA sk is st ev).1 = true
      · exact c
      · rw [if_neg c] at a; omega
    have r := lvA_ok h.his hT b1
    have q : (Sp.lvA sk is st ev).2.1 ≤ w := by
      rw [r.1]
      split
      · exact h.w0
      · exact hw _ (by omega)
    have f1 := fd_ok r.2.2.1 (fun j hj => hS.skF j hj) (show 0 ≤ w - (Sp.lvA sk is st ev).2.1 by omega) r.2.1
    rw [aftD_of h b1]
    refine ⟨by rw [fd_len]; exact r.2.1, fun j hj => ?_⟩
    have fj := f1 j (by rw [fd_len, r.2.1]; exact hj)
    refine ⟨?_, fj.1⟩
    unfold Sp.finLM
    rw [F.1 b1 j hj]
    exact lm_set fj.1 fj.2.1 fj.2.2 1001 0 _ _ rfl (by rw [if_pos (show ((0 : Nat) : Int) ≤ _ from fj.1)])
  · have b1 : (Sp.lvA sk is st ev).1 = false := by
      by_cases c : (Sp.lvA sk is st ev).1 = true
      · rw [if_pos c] at a; omega
      · simpa using c
    obtain ⟨i, hi, e2⟩ := F.2 b1
    refine any_of (j := i) ?_ _ _ (by omega) (by omega)
    unfold Sp.emp Sp.finLM
    rw [e2, lm_emp]
    rfl
end Go.Proofs.Ytdokbocmgdhmmaa
namespace Go.Proofs.Ytdokbocmgdhmmaa
open Go.RowKit
set_option linter.unusedVariables false
set_option maxRecDepth 100000
set_option maxHeartbeats 1600000
noncomputable def TK20b : Tab Try.prog := ⟨[pc_Check, pc_After, pc_Events, pc_Awake], [le_rea], []⟩
def VC_lawReached [W : InW] (s_Skills : Ro [.str, .int .i64, .int .i64, .int .i64, .int .i64]) (s_Instrs : Ro [.str, .int .i64, .int .i64]) (x_st : Ro [.int .i64, .int .i64]) (x_ev : Ro Iv5) (x_w x_ins which : Int) (Q : DS → Prop) : Prop :=
  Pre (Sp.Two x_st.xs) (Vif (!decide (Sp.aftE s_Skills.xs s_Instrs.xs x_st.xs x_ev.xs x_w = (0 : Int))) (Vif (!decide (Sp.aftE s_Skills.xs s_Instrs.xs x_st.xs x_ev.xs x_w = (9 : Int))) (Vif (!decide (Sp.aftE s_Skills.xs s_Instrs.xs x_st.xs x_ev.xs x_w = (0 : Int))) (Vif (decide ((↑(List.length (Sp.aftD s_Skills.xs s_Instrs.xs x_st.xs x_ev.xs x_w)) : Int) = (0 : Int))) (Pre True (Q [[Cl.b true]])) (Q [[Cl.b false]])) (Q [[Cl.b false]])) (Pre (Sp.NamesOk s_Skills.xs ∧ Sp.NamesOk s_Instrs.xs) (Vif (!decide (Sp.chkE s_Skills.xs s_Instrs.xs = (0 : Int))) (Vif (!decide (Sp.aftE s_Skills.xs s_Instrs.xs x_st.xs x_ev.xs x_w = (0 : Int))) (Vif (decide ((↑(List.length (Sp.aftD s_Skills.xs s_Instrs.xs x_st.xs x_ev.xs x_w)) : Int) = (0 : Int))) (Pre True (Q [[Cl.b true]])) (Q [[Cl.b false]])) (Q [[Cl.b false]])) (Vif (!decide ((↑(x_st.xs.length) : Int) = (↑(s_Skills.xs.length) : Int))) (Vif (!decide (Sp.aftE s_Skills.xs s_Instrs.xs x_st.xs x_ev.xs x_w = (0 : Int))) (Vif (decide ((↑(List.length (Sp.aftD s_Skills.xs s_Instrs.xs x_st.xs x_ev.xs x_w)) : Int) = (0 : Int))) (Pre True (Q [[Cl.b true]])) (Q [[Cl.b false]])) (Q [[Cl.b false]])) (Pre True (Vif (!decide (Sp.evsE (↑(s_Skills.xs.length) : Int) (↑(s_Instrs.xs.length) : Int) x_ev.xs = (0 : Int))) (Vif (!decide (Sp.aftE s_Skills.xs s_Instrs.xs x_st.xs x_ev.xs x_w = (0 : Int))) (Vif (decide ((↑(List.length (Sp.aftD s_Skills.xs s_Instrs.xs x_st.xs x_ev.xs x_w)) : Int) = (0 : Int))) (Pre True (Q [[Cl.b true]])) (Q [[Cl.b false]])) (Q [[Cl.b false]])) (Vif (decide (Sp.aftE s_Skills.xs s_Instrs.xs x_st.xs x_ev.xs x_w = (0 : Int))) (Vif (!decide ((↑(List.length (Sp.aftD s_Skills.xs s_Instrs.xs x_st.xs x_ev.xs x_w)) : Int) = (↑(s_Skills.xs.length) : Int))) (Q [[Cl.b false]]) (Ar .i64 which fun z => Need (!decide ((↑(s_Skills.xs.length) : Int) = (0 : Int))) (Pre (Sp.Rea s_Skills.xs s_Instrs.xs x_st.xs x_ev.xs x_w (Sp.aftE s_Skills.xs s_Instrs.xs x_st.xs x_ev.xs x_w) (Sp.aftD s_Skills.xs s_Instrs.xs x_st.xs x_ev.xs x_w) false ∧ (0 : Int) ≤ (0 : Int) ∧ (0 : Int) ≤ (↑(s_Skills.xs.length) : Int) ∧ (0 : Int) ≤ z.tmod (↑(s_Skills.xs.length) : Int) ∧ z.tmod (↑(s_Skills.xs.length) : Int) < (↑(s_Skills.xs.length) : Int)) (Vif (decide (Sp.aftE s_Skills.xs s_Instrs.xs x_st.xs x_ev.xs x_w = (9 : Int)) == Sp.reaB (Sp.aftE s_Skills.xs s_Instrs.xs x_st.xs x_ev.xs x_w) false (Sp.anyE s_Skills.xs s_Instrs.xs x_st.xs x_ev.xs x_w (Int.toNat (0 : Int)) ((↑(s_Skills.xs.length) : Int) - (0 : Int)).toNat)) (Pre True (Q [[Cl.b true]])) (Q [[Cl.b false]]))))) (Ar .i64 which fun z => Need (!decide ((↑(s_Skills.xs.length) : Int) = (0 : Int))) (Pre (Sp.Rea s_Skills.xs s_Instrs.xs x_st.xs x_ev.xs x_w (Sp.aftE s_Skills.xs s_Instrs.xs x_st.xs x_ev.xs x_w) (Sp.aftD s_Skills.xs s_Instrs.xs x_st.xs x_ev.xs x_w) false ∧ (0 : Int) ≤ (0 : Int) ∧ (0 : Int) ≤ (↑(s_Skills.xs.length) : Int) ∧ (0 : Int) ≤ z.tmod (↑(s_Skills.xs.length) : Int) ∧ z.tmod (↑(s_Skills.xs.length) : Int) < (↑(s_Skills.xs.length) : Int)) (Vif (decide (Sp.aftE s_Skills.xs s_Instrs.xs x_st.xs x_ev.xs x_w = (9 : Int)) == Sp.reaB (Sp.aftE s_Skills.xs s_Instrs.xs x_st.xs x_ev.xs x_w) false (Sp.anyE s_Skills.xs s_Instrs.xs x_st.xs x_ev.xs x_w (Int.toNat (0 : Int)) ((↑(s_Skills.xs.length) : Int) - (0 : Int)).toNat)) (Pre True (Q [[Cl.b true]])) (Q [[Cl.b false]]))))))))))) (Pre (Sp.NamesOk s_Skills.xs ∧ Sp.NamesOk s_Instrs.xs) (Vif (!decide (Sp.chkE s_Skills.xs s_Instrs.xs = (0 : Int))) (Vif (!decide (Sp.aftE s_Skills.xs s_Instrs.xs x_st.xs x_ev.xs x_w = (0 : Int))) (Vif (decide ((↑(List.length (Sp.aftD s_Skills.xs s_Instrs.xs x_st.xs x_ev.xs x_w)) : Int) = (0 : Int))) (Pre True (Q [[Cl.b true]])) (Q [[Cl.b false]])) (Q [[Cl.b false]])) (Vif (!decide ((↑(x_st.xs.length) : Int) = (↑(s_Skills.xs.length) : Int))) (Vif (!decide (Sp.aftE s_Skills.xs s_Instrs.xs x_st.xs x_ev.xs x_w = (0 : Int))) (Vif (decide ((↑(List.length (Sp.aftD s_Skills.xs s_Instrs.xs x_st.xs x_ev.xs x_w)) : Int) = (0 : Int))) (Pre True (Q [[Cl.b true]])) (Q [[Cl.b false]])) (Q [[Cl.b false]])) (Pre True (Vif (!decide (Sp.evsE (↑(s_Skills.xs.length) : Int) (↑(s_Instrs.xs.length) : Int) x_ev.xs = (0 : Int))) (Vif (!decide (Sp.aftE s_Skills.xs s_Instrs.xs x_st.xs x_ev.xs x_w = (0 : Int))) (Vif (decide ((↑(List.length (Sp.aftD s_Skills.xs s_Instrs.xs x_st.xs x_ev.xs x_w)) : Int) = (0 : Int))) (Pre True (Q [[Cl.b true]])) (Q [[Cl.b false]])) (Q [[Cl.b false]])) (Vif (decide (Sp.aftE s_Skills.xs s_Instrs.xs x_st.xs x_ev.xs x_w = (0 : Int))) (Vif (!decide ((↑(List.length (Sp.aftD s_Skills.xs s_Instrs.xs x_st.xs x_ev.xs x_w)) : Int) = (↑(s_Skills.xs.length) : Int))) (Q [[Cl.b false]]) (Ar .i64 which fun z => Need (!decide ((↑(s_Skills.xs.length) : Int) = (0 : Int))) (Pre (Sp.Rea s_Skills.xs s_Instrs.xs x_st.xs x_ev.xs x_w (Sp.aftE s_Skills.xs s_Instrs.xs x_st.xs x_ev.xs x_w) (Sp.aftD s_Skills.xs s_Instrs.xs x_st.xs x_ev.xs x_w) false ∧ (0 : Int) ≤ (0 : Int) ∧ (0 : Int) ≤ (↑(s_Skills.xs.length) : Int) ∧ (0 : Int) ≤ z.tmod (↑(s_Skills.xs.length) : Int) ∧ z.tmod (↑(s_Skills.xs.length) : Int) < (↑(s_Skills.xs.length) : Int)) (Vif (decide (Sp.aftE s_Skills.xs s_Instrs.xs x_st.xs x_ev.xs x_w = (9 : Int)) == Sp.reaB (Sp.aftE s_Skills.xs s_Instrs.xs x_st.xs x_ev.xs x_w) false (Sp.anyE s_Skills.xs s_Instrs.xs x_st.xs x_ev.xs x_w (Int.toNat (0 : Int)) ((↑(s_Skills.xs.length) : Int) - (0 : Int)).toNat)) (Pre True (Q [[Cl.b true]])) (Q [[Cl.b false]]))))) (Ar .i64 which fun z => Need (!decide ((↑(s_Skills.xs.length) : Int) = (0 : Int))) (Pre (Sp.Rea s_Skills.xs s_Instrs.xs x_st.xs x_ev.xs x_w (Sp.aftE s_Skills.xs s_Instrs.xs x_st.xs x_ev.xs x_w) (Sp.aftD s_Skills.xs s_Instrs.xs x_st.xs x_ev.xs x_w) false ∧ (0 : Int) ≤ (0 : Int) ∧ (0 : Int) ≤ (↑(s_Skills.xs.length) : Int) ∧ (0 : Int) ≤ z.tmod (↑(s_Skills.xs.length) : Int) ∧ z.tmod (↑(s_Skills.xs.length) : Int) < (↑(s_Skills.xs.length) : Int)) (Vif (decide (Sp.aftE s_Skills.xs s_Instrs.xs x_st.xs x_ev.xs x_w = (9 : Int)) == Sp.reaB (Sp.aftE s_Skills.xs s_Instrs.xs x_st.xs x_ev.xs x_w) false (Sp.anyE s_Skills.xs s_Instrs.xs x_st.xs x_ev.xs x_w (Int.toNat (0 : Int)) ((↑(s_Skills.xs.length) : Int) - (0 : Int)).toNat)) (Pre True (Q [[Cl.b true]])) (Q [[Cl.b false]])))))))))))
theorem vc_lawReached (W : InW) (s_Skills s_Instrs x_st x_ev x_w x_ins which Q) : bodyK (cxT Try.prog TT TK20b 1000 50) 1000 9 [.agg [.rs _ s_Skills, .rs _ s_Instrs], .agg [.rs _ x_st, .rs _ x_ev, .si .i64 x_w, .si .i64 x_ins], .si .u8 which] [] 0 (leafK [(false, [.bool])] Q) (fun _ _ _ _ => Stuck 421) = VC_lawReached s_Skills s_Instrs x_st x_ev x_w x_ins which Q := by kernel_rfl
abbrev ats_lawReached : List AT := [.agg [.sl [.str, .int .i64, .int .i64, .int .i64, .int .i64], .sl [.str, .int .i64, .int .i64]], .agg [.sl [.int .i64, .int .i64], .sl Iv5, .int .i64, .int .i64], .one (.int .u8)]
theorem ok_lawReached {pre : DS → Prop} {res : DS → DS} (hyp_ : ∀ (W : InW) (s_Skills : Ro [.str, .int .i64, .int .i64, .int .i64, .int .i64]) (s_Instrs : Ro [.str, .int .i64, .int .i64]) (x_st : Ro [.int .i64, .int .i64]) (x_ev : Ro Iv5) (x_w : Int) (x_ins : Int) (which : Int), pre [[.l s_Skills.xs, .l s_Instrs.xs], [.l x_st.xs, .l x_ev.xs, .i x_w, .i x_ins], [.i which]] → ∀ Q : DS → Prop, Q (res [[.l s_Skills.xs, .l s_Instrs.xs], [.l x_st.xs, .l x_ev.xs, .i x_w, .i x_ins], [.i which]]) → VC_lawReached s_Skills s_Instrs x_st x_ev x_w x_ins which Q) : PureOk Try.prog 9 ats_lawReached [(false, [.bool])] pre res :=
  PureOk.of' (fun W => @TT W) (fun W => @TT_ok W) mixed_ok TK20b 1000 50 fun W s_Skills s_Instrs x_st x_ev x_w x_ins which hp =>
    (vc_lawReached W s_Skills s_Instrs x_st x_ev x_w x_ins which (fun o => o = res [[.l s_Skills.xs, .l s_Instrs.xs], [.l x_st.xs, .l x_ev.xs, .i x_w, .i x_ins], [.i which]])).mpr (hyp_ W s_Skills s_Instrs x_st x_ev x_w x_ins which hp _ rfl)
theorem vif_same [InW] {b c : Bool} {A B : Prop} (e : b = c) (h : A) : Vif (b == c) A B := ⟨fun _ => h, fun x => by rw [e] at x; simp at x⟩
theorem reached_pure : PureOk Try.prog 9 ats_lawReached [(false, [.bool])] (WfD ats_lawReached) fun _ => [[.b true]] :=
  ok_lawReached fun W sk is st ev w ins which hp Q h => by
    obtain ⟨hp1, hp⟩ := hp.head
    obtain ⟨hp2, hp⟩ := hp.head
    obtain ⟨hp3, _⟩ := hp.head
    have hn := school_names hp1
    obtain ⟨g1, hp2⟩ := WfL.head hp2
    obtain ⟨g4, hp3⟩ := WfL.head hp3
    have g4 := wf_u8 g4
    have hT := two_of g1
    unfold VC_lawReached
    refine ⟨hT, vifn (fun e0 => vifn (fun e9 => vifn (fun _ => vifd (fun _ => ⟨trivial, h⟩) fun x => absurd (by rw [aftD_no e0]; rfl) x) fun x => absurd x e0) fun e9 => ⟨hn, ?_⟩) fun e0 => ⟨hn, ?_⟩⟩
    all_goals
      have hA := ask_iff.1 (show Sp.aftE sk.xs is.xs st.xs ev.xs w = 0 ∨ Sp.aftE sk.xs is.xs st.xs ev.xs w = 9 by omega)
      have hl := hA.his.len
      have n1 := hA.his.sch.n1
      have ti := tm_in g4.1 (show (0 : Int) < sk.xs.length by omega)
      obtain ⟨r1, r2⟩ := reached_law hA hT
      have hR : Sp.Rea sk.xs is.xs st.xs ev.xs w (Sp.aftE sk.xs is.xs st.xs ev.xs w) (Sp.aftD sk.xs is.xs st.xs ev.xs w) false := ⟨hA, ask_iff.2 hA, r1, fun _ => rfl⟩
      have hb : decide (Sp.aftE sk.xs is.xs st.xs ev.xs w = 9) = Sp.reaB (Sp.aftE sk.xs is.xs st.xs ev.xs w) false (Sp.anyE sk.xs is.xs st.xs ev.xs w (Int.toNat 0) ((sk.xs.length : Int) - 0).toNat) := by
        unfold Sp.reaB
        rw [show ((sk.xs.length : Int) - 0).toNat = sk.xs.length by omega]
        by_cases c : Sp.aftE sk.xs is.xs st.xs ev.xs w = 0
        · rw [if_pos c, decide_eq_false (by omega)]
        · rw [if_neg c, decide_eq_true (by have := ask_iff.2 hA; omega)]
          exact (r2 c).symm
      have fin := fun (T F : Prop) (ht : T) => (⟨⟨hR, by omega, by omega, ti.1, ti.2⟩, vif_same hb ⟨trivial, ht⟩⟩ : Pre (Sp.Rea sk.xs is.xs st.xs ev.xs w (Sp.aftE sk.xs is.xs st.xs ev.xs w) (Sp.aftD sk.xs is.xs st.xs ev.xs w) false ∧ (0 : Int) ≤ 0 ∧ (0 : Int) ≤ (sk.xs.length : Int) ∧ 0 ≤ which.tmod sk.xs.length ∧ which.tmod sk.xs.length < (sk.xs.length : Int)) (Vif (decide (Sp.aftE sk.xs is.xs st.xs ev.xs w = 9) == Sp.reaB (Sp.aftE sk.xs is.xs st.xs ev.xs w) false (Sp.anyE sk.xs is.xs st.xs ev.xs w (Int.toNat 0) ((sk.xs.length : Int) - 0).toNat)) (Pre True T) F))
      refine vifn (fun x => absurd (chk_iff.2 hA.his.sch) x) fun _ => vifn (fun x => absurd (show (st.xs.length : Int) = sk.xs.length by omega) x) fun _ => ⟨trivial, vifn (fun x => absurd (evs_iff.2 hA.his.ev) x) fun _ => vifd (fun c => vifn (fun x => absurd (by rw [(r1 c).1]) x) fun _ => ar64 (by omega) (need_not (by omega) (fin _ _ h))) fun c => ar64 (by omega) (need_not (by omega) (fin _ _ h))⟩
end Go.Proofs.Ytdokbocmgdhmmaa
namespace Go.Proofs.Ytdokbocmgdhmmaa.skillReached
open Go.ChangeShapes Go.WideShapes Go.ChangeAt Go.RowKit
set_option linter.unusedVariables false
set_option maxRecDepth 100000
theorem own : ownKnob Try.prog.godebug = none := by kernel_rfl
theorem laid : laidOutB Try.prog = true := by kernel_rfl
theorem lifted (os : Os) (started : os.Started) (H : Type) (enc : TypeId × Value → H) :
    ReturnsInHanded {} Try.checked os 9 .any (Rows.skillReachedSpec.pre6 enc Try.prog Try.f9 Rows.skillReachedRow.domain false) (Rows.skillReachedSpec.post enc Try.prog Try.f9 false true false false) := by
  refine returnsInHanded_of_change (C := Try.checked) own started (by kernel_rfl) Try.func9
    (ChangeSpec.witness6 (enc := enc) (C := Try.checked) false ⟨#[], #[(.agg #[.slice none 0 0, .slice none 0 0]), (.agg #[.slice none 0 0, .slice none 0 0, .int .i64 0, .int .i64 0]), (.int .u8 0)], []⟩ 8 (by kernel_rfl) (by kernel_rfl) (by kernel_rfl) (by kernel_rfl)) ?_
  intro W base args ds gs before hval hW _ _
  exact law_end (f := Try.f9) (s := Rows.skillReachedSpec) (by kernel_rfl) Try.underlying4 (by kernel_rfl) rfl laid (by kernel_rfl)
    (fun ds h => by match ds, (show ds.length = 3 from h) with | [_, _, _], _ => exact ⟨rfl, rfl, rfl⟩) reached_pure hval hW
theorem over : Rows.skillReachedRow.holds Try.pinned (OpenSpec.ofChange Rows.skillReachedSpec) :=
  OpenClaim.holds_of_wide 9 Try.f9 rfl rfl rfl rfl rfl rfl rfl ⟨rfl, rfl, rfl, rfl, rfl⟩ rfl rfl rfl rfl rfl (by kernel_rfl) Try.func9 (by kernel_rfl)
    (of_decide_eq_true (by kernel_rfl)) (by unfold Func.isWrapper; first | (rw [if_pos (by decide +kernel)]; kernel_rfl) | (rw [if_neg (by decide +kernel)]; exact ⟨rfl, rfl⟩))
    (fun os started H enc _ => lifted os started H enc)
theorem proved : Rows.SkillReachedSaid := over
end Go.Proofs.Ytdokbocmgdhmmaa.skillReached
