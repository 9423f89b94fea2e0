/-
  'BookEven': for every input the law returns true, and what is handed in reads as before. No condition.
-/
import Derived.Test.YtiiicnhjjfmpkaaQf
import Derived.Test.YtiiicnhjjfmpkaaRows
import Derived.WalkKit
import Derived.ProofKit
set_option linter.unusedVariables false
set_option linter.unusedSectionVars false
set_option linter.unusedSimpArgs false
namespace Go.Proofs.Ytiiicnhjjfmpkaa
open Go.RowKit
set_option linter.unusedVariables false
set_option maxRecDepth 100000
namespace Sp
def pays (ps : Dt) : Nat → Nat → Dt → Dt
  | 0, _, h => h
  | n + 1, i, h => pays ps n (i + 1) (addA (addA h (cel ps i 1).int (-(cel ps i 3).int)) (cel ps i 2).int (cel ps i 3).int)
structure PsOk (na n : Int) (ps : Dt) : Prop where
  row : ∀ j, j < ps.length → (0 ≤ (cel ps j 0).int ∧ (cel ps j 0).int < n) ∧ (0 ≤ (cel ps j 1).int ∧ (cel ps j 1).int < na) ∧ (0 ≤ (cel ps j 2).int ∧ (cel ps j 2).int < na) ∧ (cel ps j 1).int ≠ (cel ps j 2).int ∧ (0 < (cel ps j 3).int ∧ (cel ps j 3).int ≤ 10000000)
  up : ∀ j, j + 1 < ps.length → (cel ps j 0).int ≤ (cel ps (j + 1) 0).int
def sumI (a : Dt) : Nat → Nat → Int
  | _, 0 => 0
  | i, n + 1 => (cel a i 0).int + sumI a (i + 1) n
end Sp
def sp_evenL [InW] (e : List Ed) (K : Nat → List Ed → Prop) : Prop := match e with
  | [.ro _ evs, .i i, .l ac, .l ps, .l has] =>
    Pre (0 ≤ i ∧ i ≤ ps.length ∧ ps.length ≤ 1000 ∧ Sp.PsOk has.length evs.xs.length ps ∧ ∀ j, -(20000000 * i) ≤ (cel has j 0).int ∧ (cel has j 0).int ≤ 20000000 * i) (K 0 [.l ac, .l (Sp.pays ps (ps.length - i.toNat) i.toNat has)])
  | _ => False
noncomputable def lc_evenL : LC where
  len := 186
  T := [(1, .rs Iv11), (6, (.ptr 4 0)), (8, (.row 28)), (10, (.row 25)), (11, .int .i64)]
  H := [(4, .blk 42 [(.opq 1021), (.opq 1024), (.opq 1027), (.row 22)]), (22, .arr 3 [.int .i64]), (28, .arr 61 Iv4), (25, .arr 3 [.int .i64])]
  W := [4, 12, 67, 68, 69, 70, 71, 72, 73, 74, 75, 76, 77, 78, 79, 80, 81, 82, 83, 84, 85, 86, 87, 88, 89, 90, 91, 92, 93, 94, 95, 96, 97, 98, 99, 100, 101, 102, 103, 104, 105, 106, 107, 108, 109, 110, 111, 112, 113, 114, 115, 116, 117, 118, 119, 120, 121, 122, 123, 124, 125, 126, 127, 128, 129, 130, 131, 132, 133, 134, 135, 136, 137, 138, 139, 140, 141, 142, 143, 144, 145, 146, 147, 148, 149, 150, 151, 152, 153, 154, 155, 156, 157, 158, 159, 160, 161]
  outs := [⟨.exit 0, [(6, (.ptr 4 0)), (10, (.row 25))], [(4, .blk 42 [(.opq 1021), (.opq 1024), (.opq 1027), (.row 22)]), (22, .arr 3 [.int .i64]), (25, .arr 3 [.int .i64])], [1, 4, 8, 11, 12, 67, 68, 69, 70, 71, 72, 73, 74, 75, 76, 77, 78, 79, 80, 81, 82, 83, 84, 85, 86, 87, 88, 89, 90, 91, 92, 93, 94, 95, 96, 97, 98, 99, 100, 101, 102, 103, 104, 105, 106, 107, 108, 109, 110, 111, 112, 113, 114, 115, 116, 117, 118, 119, 120, 121, 122, 123, 124, 125, 126, 127, 128, 129, 130, 131, 132, 133, 134, 135, 136, 137, 138, 139, 140, 141, 142, 143, 144, 145, 146, 147, 148, 149, 150, 151, 152, 153, 154, 155, 156, 157, 158, 159, 160, 161]⟩]
  spec := sp_evenL
def VCL_evenL [W : InW] (evs : Ro Iv11) (i : Int) (ac : Dt) (ps : Dt) (has : Dt) (A : List Ed → Prop) (K : Nat → List Ed → Prop) : Prop :=
  Vif (decide (i < (↑(List.length ps) : Int))) (Need (decide ((0 : Int) ≤ i) && decide (i < (↑(List.length ps) : Int))) (Need (decide (i.toNat < List.length ps)) (Vif (decide ((cel ps i.toNat ((0 : Nat) + (1 : Nat))).int < (0 : Int))) ((472 : Nat) = (472 : Nat) + (1 : Nat)) (Vif (decide ((↑(List.length has) : Int) ≤ (cel ps i.toNat ((0 : Nat) + (1 : Nat))).int)) ((472 : Nat) = (472 : Nat) + (1 : Nat)) (Vif (decide ((cel ps i.toNat ((0 : Nat) + (1 : Nat) + (1 : Nat))).int < (0 : Int))) ((472 : Nat) = (472 : Nat) + (1 : Nat)) (Vif (decide ((↑(List.length has) : Int) ≤ (cel ps i.toNat ((0 : Nat) + (1 : Nat) + (1 : Nat))).int)) ((472 : Nat) = (472 : Nat) + (1 : Nat)) (Vif (decide ((cel ps i.toNat ((0 : Nat) + (1 : Nat))).int = (cel ps i.toNat ((0 : Nat) + (1 : Nat) + (1 : Nat))).int)) ((472 : Nat) = (472 : Nat) + (1 : Nat)) (Vif (decide ((cel ps i.toNat ((0 : Nat) + (1 : Nat) + (1 : Nat) + (1 : Nat))).int ≤ (0 : Int))) ((472 : Nat) = (472 : Nat) + (1 : Nat)) (Vif (decide ((cel ps i.toNat (0 : Nat)).int < (0 : Int))) ((472 : Nat) = (472 : Nat) + (1 : Nat)) (Vif (decide ((↑(List.length evs.xs) : Int) ≤ (cel ps i.toNat (0 : Nat)).int)) ((472 : Nat) = (472 : Nat) + (1 : Nat)) (Vif (decide ((0 : Int) < i)) (Ar .i64 (i - (1 : Int)) fun z => Need (decide ((0 : Int) ≤ z) && decide (z < (↑(List.length ps) : Int))) (Need (decide (z.toNat < List.length ps)) (Vif (decide ((cel ps i.toNat (0 : Nat)).int < (cel ps z.toNat (0 : Nat)).int)) ((472 : Nat) = (472 : Nat) + (1 : Nat)) (Need (decide ((0 : Int) ≤ (cel ps i.toNat ((0 : Nat) + (1 : Nat))).int) && decide ((cel ps i.toNat ((0 : Nat) + (1 : Nat))).int < (↑(List.length has) : Int))) (Need (decide ((cel ps i.toNat ((0 : Nat) + (1 : Nat))).int.toNat < List.length has)) (Ar .i64 ((cel has (cel ps i.toNat ((0 : Nat) + (1 : Nat))).int.toNat (0 : Nat)).int - (cel ps i.toNat ((0 : Nat) + (1 : Nat) + (1 : Nat) + (1 : Nat))).int) fun z => Need (decide ((0 : Int) ≤ (cel ps i.toNat ((0 : Nat) + (1 : Nat) + (1 : Nat))).int) && decide ((cel ps i.toNat ((0 : Nat) + (1 : Nat) + (1 : Nat))).int < (↑(List.length has) : Int))) (Need (decide ((cel ps i.toNat ((0 : Nat) + (1 : Nat) + (1 : Nat))).int.toNat < List.length has)) (Ar .i64 ((cel has (cel ps i.toNat ((0 : Nat) + (1 : Nat) + (1 : Nat))).int.toNat (0 : Nat)).int + (cel ps i.toNat ((0 : Nat) + (1 : Nat) + (1 : Nat) + (1 : Nat))).int) fun z_1 => Need (decide ((0 : Int) ≤ (cel ps i.toNat ((0 : Nat) + (1 : Nat))).int) && decide ((cel ps i.toNat ((0 : Nat) + (1 : Nat))).int < (↑(List.length has) : Int))) (Need (decide ((cel ps i.toNat ((0 : Nat) + (1 : Nat))).int.toNat < List.length has)) (Need (decide ((0 : Int) ≤ (cel ps i.toNat ((0 : Nat) + (1 : Nat) + (1 : Nat))).int) && decide ((cel ps i.toNat ((0 : Nat) + (1 : Nat) + (1 : Nat))).int < (↑(List.set has (cel ps i.toNat ((0 : Nat) + (1 : Nat))).int.toNat [Cl.i z]).length : Int))) (Need (decide ((cel ps i.toNat ((0 : Nat) + (1 : Nat) + (1 : Nat))).int.toNat < (List.set has (cel ps i.toNat ((0 : Nat) + (1 : Nat))).int.toNat [Cl.i z]).length)) (Ar .i64 (i + (1 : Int)) fun z_2 => A [.ro _ evs, .i z_2, .l ac, .l ps, .l ((List.set has (cel ps i.toNat ((0 : Nat) + (1 : Nat))).int.toNat [Cl.i z]).set (cel ps i.toNat ((0 : Nat) + (1 : Nat) + (1 : Nat))).int.toNat [Cl.i z_1])])))))))))))) (Need (decide ((0 : Int) ≤ (cel ps i.toNat ((0 : Nat) + (1 : Nat))).int) && decide ((cel ps i.toNat ((0 : Nat) + (1 : Nat))).int < (↑(List.length has) : Int))) (Need (decide ((cel ps i.toNat ((0 : Nat) + (1 : Nat))).int.toNat < List.length has)) (Ar .i64 ((cel has (cel ps i.toNat ((0 : Nat) + (1 : Nat))).int.toNat (0 : Nat)).int - (cel ps i.toNat ((0 : Nat) + (1 : Nat) + (1 : Nat) + (1 : Nat))).int) fun z => Need (decide ((0 : Int) ≤ (cel ps i.toNat ((0 : Nat) + (1 : Nat) + (1 : Nat))).int) && decide ((cel ps i.toNat ((0 : Nat) + (1 : Nat) + (1 : Nat))).int < (↑(List.length has) : Int))) (Need (decide ((cel ps i.toNat ((0 : Nat) + (1 : Nat) + (1 : Nat))).int.toNat < List.length has)) (Ar .i64 ((cel has (cel ps i.toNat ((0 : Nat) + (1 : Nat) + (1 : Nat))).int.toNat (0 : Nat)).int + (cel ps i.toNat ((0 : Nat) + (1 : Nat) + (1 : Nat) + (1 : Nat))).int) fun z_1 => Need (decide ((0 : Int) ≤ (cel ps i.toNat ((0 : Nat) + (1 : Nat))).int) && decide ((cel ps i.toNat ((0 : Nat) + (1 : Nat))).int < (↑(List.length has) : Int))) (Need (decide ((cel ps i.toNat ((0 : Nat) + (1 : Nat))).int.toNat < List.length has)) (Need (decide ((0 : Int) ≤ (cel ps i.toNat ((0 : Nat) + (1 : Nat) + (1 : Nat))).int) && decide ((cel ps i.toNat ((0 : Nat) + (1 : Nat) + (1 : Nat))).int < (↑(List.set has (cel ps i.toNat ((0 : Nat) + (1 : Nat))).int.toNat [Cl.i z]).length : Int))) (Need (decide ((cel ps i.toNat ((0 : Nat) + (1 : Nat) + (1 : Nat))).int.toNat < (List.set has (cel ps i.toNat ((0 : Nat) + (1 : Nat))).int.toNat [Cl.i z]).length)) (Ar .i64 (i + (1 : Int)) fun z_2 => A [.ro _ evs, .i z_2, .l ac, .l ps, .l ((List.set has (cel ps i.toNat ((0 : Nat) + (1 : Nat))).int.toNat [Cl.i z]).set (cel ps i.toNat ((0 : Nat) + (1 : Nat) + (1 : Nat))).int.toNat [Cl.i z_1])])))))))))))))))))))) (K (0 : Nat) [.l ac, .l has])
theorem vcl_evenL (W : InW) (evs : Ro Iv11) (i : Int) (ac : Dt) (ps : Dt) (has : Dt) (A : List Ed → Prop) (K : Nat → List Ed → Prop) : vcTop { cxT Try.prog TT TPl 1000 50 with fn := 7 } 1000 (loopAt Try.prog 7 10) (tmOut 186 [(1, .rs _ evs), (6, .ptr 4 0), (8, .rw 28), (10, .rw 25), (11, .si .i64 i)] [4, 12, 67, 68, 69, 70, 71, 72, 73, 74, 75, 76, 77, 78, 79, 80, 81, 82, 83, 84, 85, 86, 87, 88, 89, 90, 91, 92, 93, 94, 95, 96, 97, 98, 99, 100, 101, 102, 103, 104, 105, 106, 107, 108, 109, 110, 111, 112, 113, 114, 115, 116, 117, 118, 119, 120, 121, 122, 123, 124, 125, 126, 127, 128, 129, 130, 131, 132, 133, 134, 135, 136, 137, 138, 139, 140, 141, 142, 143, 144, 145, 146, 147, 148, 149, 150, 151, 152, 153, 154, 155, 156, 157, 158, 159, 160, 161]) [(4, .blk 42 [.opq 1021, .opq 1024, .opq 1027, .rw 22]), (22, .arr 3 [.int .i64] ac), (28, .arr 61 Iv4 ps), (25, .arr 3 [.int .i64] has)] (roundL lc_evenL A K) = VCL_evenL evs i ac ps has A K := by kernel_rfl
def okLt_evenL : Prop := ∀ (W : InW) (body a : Code), (Try.prog.funcs[7]?).bind (·.body) = some body → a ∈ loopsIn body → keyOf a = 10 → @LoopOk W Try.prog a (@loopRun W lc_evenL)
theorem okl_evenL (meas : [InW] → List Ed → Nat) (hyp_ : ∀ (W : InW) (evs : Ro Iv11) (i : Int) (ac : Dt) (ps : Dt) (has : Dt) (K : Nat → List Ed → Prop), sp_evenL [.ro _ evs, .i i, .l ac, .l ps, .l has] K → ∀ A : List Ed → Prop, (∀ e, meas e < meas [.ro _ evs, .i i, .l ac, .l ps, .l has] → sp_evenL e K → A e) → VCL_evenL evs i ac ps has A K) : okLt_evenL :=
  LE.okOf' (fun W => @TT W) (fun W => @TT_ok W) mixed_ok TPl 1000 50 (by kernel_rfl) lc_evenL (fun W => @meas W) fun W evs i ac ps has K hs =>
    (vcl_evenL W evs i ac ps has (fun e => meas e < meas [.ro _ evs, .i i, .l ac, .l ps, .l has] ∧ sp_evenL e K) K).mpr (hyp_ W evs i ac ps has K hs _ fun e h1 h2 => ⟨h1, h2⟩)
namespace Sp
theorem two_set {h : Dt} {f t c : Int} (h1 : 0 ≤ f) (h2 : 0 ≤ t) (hn : f ≠ t) : (h.set f.toNat [.i ((cel h f.toNat 0).int - c)]).set t.toNat [.i ((cel h t.toNat 0).int + c)] = addA (addA h f (-c)) t c := by
  unfold addA
  rw [cel_set, if_neg (fun e => hn (by omega)), Int.sub_eq_add_neg]
end Sp
theorem okLevenL : okLt_evenL := okl_evenL (fun e => match e with | [_, .i i, _, .l ps, _] => ((ps.length : Int) - i).toNat | _ => 0) fun W evs i ac ps has K hs A hA => by
  obtain ⟨⟨h0, h1, h2, hp, hb⟩, hk⟩ := hs
  unfold VCL_evenL
  simp only [Nat.zero_add, Nat.reduceAdd, List.length_set]
  refine vifd (fun e => ?_) fun e => ?_
  · have hi : i.toNat < ps.length := by omega
    obtain ⟨r0, r1, r2, r3, r4⟩ := hp.row i.toNat hi
    have b1 := hb (cel ps i.toNat 1).int.toNat
    have b2 := hb (cel ps i.toNat 2).int.toNat
    have hA' : A [.ro _ evs, .i (i + 1), .l ac, .l ps, .l (Sp.addA (Sp.addA has (cel ps i.toNat 1).int (-(cel ps i.toNat 3).int)) (cel ps i.toNat 2).int (cel ps i.toNat 3).int)] := by
      refine hA _ (by show ((ps.length : Int) - (i + 1)).toNat < ((ps.length : Int) - i).toNat; omega) ⟨⟨by omega, by omega, h2, by rw [Sp.addA_len, Sp.addA_len]; exact hp, fun j => ?_⟩, ?_⟩
      · rw [Sp.cel_addA, Sp.cel_addA]
        have := hb j
        split <;> split <;> omega
      · rw [show ps.length - i.toNat = (ps.length - (i.toNat + 1)) + 1 by omega, Sp.pays] at hk
        rw [show (i + 1).toNat = i.toNat + 1 by omega]
        exact hk
    rw [← Sp.two_set r1.1 r2.1 r3] at hA'
    have up : 0 < i → (cel ps (i - 1).toNat 0).int ≤ (cel ps i.toNat 0).int := fun h => by
      have := hp.up (i - 1).toNat (by omega)
      rw [show (i - 1).toNat + 1 = i.toNat by omega] at this
      exact this
    generalize (cel ps i.toNat 0).int = x0 at *
    generalize (cel ps i.toNat 1).int = x1 at *
    generalize (cel ps i.toNat 2).int = x2 at *
    generalize (cel ps i.toNat 3).int = x3 at *
    clear hA hk hp
    repeat' (first | refine vifd (fun _ => ?_) fun _ => ?_ | refine nedd (by omega) ?_ | refine ned (by simp only [Bool.and_eq_true, decide_eq_true_eq]; omega) ?_ | refine ar64 (by omega) ?_ | omega)
    all_goals first | exact hA' | (have := up (by assumption); omega)
  · rw [show ps.length - i.toNat = 0 by omega] at hk
    exact hk
noncomputable def le_evenL : LE Try.prog := ⟨7, 10, fun W => @loopRun W lc_evenL, okLevenL⟩
def sp_sumL [InW] (e : List Ed) (K : Nat → List Ed → Prop) : Prop := match e with
  | [.i s, .i i, .l ac, .l has] =>
    Pre (0 ≤ i ∧ i ≤ has.length ∧ has.length = ac.length ∧ has.length ≤ 1000 ∧ (-(10000000000 * i) ≤ s ∧ s ≤ 10000000000 * i) ∧ ∀ j, -10000000000 ≤ (cel ac j 0).int ∧ (cel ac j 0).int ≤ 10000000000) (K 0 [.i (s + Sp.sumI ac i.toNat (ac.length - i.toNat)), .l ac, .l has])
  | _ => False
noncomputable def lc_sumL : LC where
  len := 186
  T := [(6, (.ptr 4 0)), (10, (.row 25)), (13, .int .i64), (14, .int .i64)]
  H := [(4, .blk 42 [(.opq 1021), (.opq 1024), (.opq 1027), (.row 22)]), (22, .arr 3 [.int .i64]), (25, .arr 3 [.int .i64])]
  W := [162, 163, 164, 165, 166, 167, 168, 169, 170, 171, 172, 173, 174]
  outs := [⟨.exit 2, [(6, (.ptr 4 0)), (10, (.row 25)), (13, .int .i64)], [(4, .blk 42 [(.opq 1021), (.opq 1024), (.opq 1027), (.row 22)]), (22, .arr 3 [.int .i64]), (25, .arr 3 [.int .i64])], [14, 162, 163, 164, 165, 166, 167, 168, 169, 170, 171, 172, 173, 174]⟩]
  spec := sp_sumL
def VCL_sumL [W : InW] (s : Int) (i : Int) (ac : Dt) (has : Dt) (A : List Ed → Prop) (K : Nat → List Ed → Prop) : Prop :=
  Vif (decide (i < (↑(List.length has) : Int))) (Need (decide ((0 : Int) ≤ i) && decide (i < (↑(List.length ac) : Int))) (Need (decide (i.toNat < List.length ac)) (Ar .i64 (s + (cel ac i.toNat (0 : Nat)).int) fun z => Ar .i64 (i + (1 : Int)) fun z_1 => A [.i z, .i z_1, .l ac, .l has]))) (K (0 : Nat) [.i s, .l ac, .l has])
theorem vcl_sumL (W : InW) (s : Int) (i : Int) (ac : Dt) (has : Dt) (A : List Ed → Prop) (K : Nat → List Ed → Prop) : vcTop { cxT Try.prog TT TPl 1000 50 with fn := 7 } 1000 (loopAt Try.prog 7 18) (tmOut 186 [(6, .ptr 4 0), (10, .rw 25), (13, .si .i64 s), (14, .si .i64 i)] [162, 163, 164, 165, 166, 167, 168, 169, 170, 171, 172, 173, 174]) [(4, .blk 42 [.opq 1021, .opq 1024, .opq 1027, .rw 22]), (22, .arr 3 [.int .i64] ac), (25, .arr 3 [.int .i64] has)] (roundL lc_sumL A K) = VCL_sumL s i ac has A K := by kernel_rfl
def okLt_sumL : Prop := ∀ (W : InW) (body a : Code), (Try.prog.funcs[7]?).bind (·.body) = some body → a ∈ loopsIn body → keyOf a = 18 → @LoopOk W Try.prog a (@loopRun W lc_sumL)
theorem okl_sumL (meas : [InW] → List Ed → Nat) (hyp_ : ∀ (W : InW) (s : Int) (i : Int) (ac : Dt) (has : Dt) (K : Nat → List Ed → Prop), sp_sumL [.i s, .i i, .l ac, .l has] K → ∀ A : List Ed → Prop, (∀ e, meas e < meas [.i s, .i i, .l ac, .l has] → sp_sumL e K → A e) → VCL_sumL s i ac has A K) : okLt_sumL :=
  LE.okOf' (fun W => @TT W) (fun W => @TT_ok W) mixed_ok TPl 1000 50 (by kernel_rfl) lc_sumL (fun W => @meas W) fun W s i ac has K hs =>
    (vcl_sumL W s i ac has (fun e => meas e < meas [.i s, .i i, .l ac, .l has] ∧ sp_sumL e K) K).mpr (hyp_ W s i ac has K hs _ fun e h1 h2 => ⟨h1, h2⟩)
theorem okLsumL : okLt_sumL := okl_sumL (fun e => match e with | [_, .i i, .l ac, _] => ((ac.length : Int) - i).toNat | _ => 0) fun W s i ac has K hs A hA => by
  obtain ⟨⟨h0, h1, h2, h3, h4, hb⟩, hk⟩ := hs
  unfold VCL_sumL
  have b := hb i.toNat
  refine vifd (fun e => ned (by simp; omega) (nedd (by omega) (ar64 (by omega) (ar64 (by omega) (hA _ ?_ ⟨⟨by omega, by omega, h2, h3, by omega, hb⟩, ?_⟩))))) fun e => ?_
  · show ((ac.length : Int) - (i + 1)).toNat < ((ac.length : Int) - i).toNat
    omega
  · rw [show ac.length - i.toNat = (ac.length - (i.toNat + 1)) + 1 by omega, Sp.sumI, ← Int.add_assoc] at hk
    rw [show (i + 1).toNat = i.toNat + 1 by omega]
    exact hk
  · rw [show ac.length - i.toNat = 0 by omega] at hk
    simpa [Sp.sumI] using hk
noncomputable def le_sumL : LE Try.prog := ⟨7, 18, fun W => @loopRun W lc_sumL, okLsumL⟩
noncomputable def TK7 : Tab Try.prog := ⟨[pc_bRun, pc_bPost, pc_valid, pc_shaped, pc_states, pc_ints, pc_Awake], [le_evenL, le_sumL], []⟩
def VC_lawEven [W : InW] (s_Learners : Ro [.str]) (s_Cars : Ro Ivs) (s_Price : Int) (s_Excess : Int) (s_Lo : Int) (s_Hi : Int) (s_Terms : Ro [.int .i64, .int .i64]) (evs : Ro Iv11) (Q : DS → Prop) : Prop :=
  Pre True (Pre True (Vif (!decide (Sp.rErr ⟨s_Learners.xs, s_Cars.xs, s_Price, s_Excess, s_Lo, s_Hi, s_Terms.xs⟩ evs.xs = (0 : Int))) (Vif (!decide (Sp.rErr ⟨s_Learners.xs, s_Cars.xs, s_Price, s_Excess, s_Lo, s_Hi, s_Terms.xs⟩ evs.xs = (0 : Int))) (Vif (decide (Sp.rErr ⟨s_Learners.xs, s_Cars.xs, s_Price, s_Excess, s_Lo, s_Hi, s_Terms.xs⟩ evs.xs = Sp.rErr ⟨s_Learners.xs, s_Cars.xs, s_Price, s_Excess, s_Lo, s_Hi, s_Terms.xs⟩ evs.xs)) (Vif (decide ((↑(List.length (Sp.rB ⟨s_Learners.xs, s_Cars.xs, s_Price, s_Excess, s_Lo, s_Hi, s_Terms.xs⟩ evs.xs).ps) : Int) = (0 : Int))) (Pre True (Vif (Sp.statesE (Sp.rB ⟨s_Learners.xs, s_Cars.xs, s_Price, s_Excess, s_Lo, s_Hi, s_Terms.xs⟩ evs.xs).ls (Sp.rB ⟨s_Learners.xs, s_Cars.xs, s_Price, s_Excess, s_Lo, s_Hi, s_Terms.xs⟩ evs.xs).km (Sp.rB ⟨s_Learners.xs, s_Cars.xs, s_Price, s_Excess, s_Lo, s_Hi, s_Terms.xs⟩ evs.xs).si (Sp.rB ⟨s_Learners.xs, s_Cars.xs, s_Price, s_Excess, s_Lo, s_Hi, s_Terms.xs⟩ evs.xs).ac [] [] [] []) (Pre True (Q [[Cl.b true]])) (Q [[Cl.b false]]))) (Q [[Cl.b false]])) (Q [[Cl.b false]])) (Q [[Cl.b false]])) (Pre (Sp.NamesOk s_Learners.xs ∧ Sp.NamesOk s_Cars.xs) (Vif (!decide (Sp.chkE s_Learners.xs s_Cars.xs s_Price s_Excess s_Lo s_Hi s_Terms.xs = (0 : Int))) (Vif (!decide (Sp.rErr ⟨s_Learners.xs, s_Cars.xs, s_Price, s_Excess, s_Lo, s_Hi, s_Terms.xs⟩ evs.xs = (0 : Int))) (Vif (decide (Sp.rErr ⟨s_Learners.xs, s_Cars.xs, s_Price, s_Excess, s_Lo, s_Hi, s_Terms.xs⟩ evs.xs = Sp.rErr ⟨s_Learners.xs, s_Cars.xs, s_Price, s_Excess, s_Lo, s_Hi, s_Terms.xs⟩ evs.xs)) (Vif (decide ((↑(List.length (Sp.rB ⟨s_Learners.xs, s_Cars.xs, s_Price, s_Excess, s_Lo, s_Hi, s_Terms.xs⟩ evs.xs).ps) : Int) = (0 : Int))) (Pre True (Vif (Sp.statesE (Sp.rB ⟨s_Learners.xs, s_Cars.xs, s_Price, s_Excess, s_Lo, s_Hi, s_Terms.xs⟩ evs.xs).ls (Sp.rB ⟨s_Learners.xs, s_Cars.xs, s_Price, s_Excess, s_Lo, s_Hi, s_Terms.xs⟩ evs.xs).km (Sp.rB ⟨s_Learners.xs, s_Cars.xs, s_Price, s_Excess, s_Lo, s_Hi, s_Terms.xs⟩ evs.xs).si (Sp.rB ⟨s_Learners.xs, s_Cars.xs, s_Price, s_Excess, s_Lo, s_Hi, s_Terms.xs⟩ evs.xs).ac [] [] [] []) (Pre True (Q [[Cl.b true]])) (Q [[Cl.b false]]))) (Q [[Cl.b false]])) (Q [[Cl.b false]])) (Q [[Cl.b false]])) (Vif (!decide (Sp.rErr ⟨s_Learners.xs, s_Cars.xs, s_Price, s_Excess, s_Lo, s_Hi, s_Terms.xs⟩ evs.xs = (0 : Int))) (Q [[Cl.b false]]) (Pre (List.length s_Learners.xs ≤ (1000 : Nat)) (Vif (!Sp.shapedE (List.length s_Learners.xs) (List.length s_Cars.xs) (Sp.rB ⟨s_Learners.xs, s_Cars.xs, s_Price, s_Excess, s_Lo, s_Hi, s_Terms.xs⟩ evs.xs).ls (Sp.rB ⟨s_Learners.xs, s_Cars.xs, s_Price, s_Excess, s_Lo, s_Hi, s_Terms.xs⟩ evs.xs).km (Sp.rB ⟨s_Learners.xs, s_Cars.xs, s_Price, s_Excess, s_Lo, s_Hi, s_Terms.xs⟩ evs.xs).si (Sp.rB ⟨s_Learners.xs, s_Cars.xs, s_Price, s_Excess, s_Lo, s_Hi, s_Terms.xs⟩ evs.xs).ac) (Q [[Cl.b false]]) (Need (decide ((↑(List.length (Sp.rB ⟨s_Learners.xs, s_Cars.xs, s_Price, s_Excess, s_Lo, s_Hi, s_Terms.xs⟩ evs.xs).ac) : Int) = (↑(List.length (Sp.rB ⟨s_Learners.xs, s_Cars.xs, s_Price, s_Excess, s_Lo, s_Hi, s_Terms.xs⟩ evs.xs).ac) : Int)) && decide ((0 : Int) ≤ (↑(List.length (Sp.rB ⟨s_Learners.xs, s_Cars.xs, s_Price, s_Excess, s_Lo, s_Hi, s_Terms.xs⟩ evs.xs).ac) : Int)) && decide ((8 : Nat) * (↑(List.length (Sp.rB ⟨s_Learners.xs, s_Cars.xs, s_Price, s_Excess, s_Lo, s_Hi, s_Terms.xs⟩ evs.xs).ac) : Int).toNat ≤ (281474976710656 : Nat))) (Pre ((0 : Int) ≤ (0 : Int) ∧ (0 : Int) ≤ (↑(List.length (Sp.rB ⟨s_Learners.xs, s_Cars.xs, s_Price, s_Excess, s_Lo, s_Hi, s_Terms.xs⟩ evs.xs).ps) : Int) ∧ List.length (Sp.rB ⟨s_Learners.xs, s_Cars.xs, s_Price, s_Excess, s_Lo, s_Hi, s_Terms.xs⟩ evs.xs).ps ≤ (1000 : Nat) ∧ Sp.PsOk (↑(List.replicate (↑(List.length (Sp.rB ⟨s_Learners.xs, s_Cars.xs, s_Price, s_Excess, s_Lo, s_Hi, s_Terms.xs⟩ evs.xs).ac) : Int).toNat (zeroCls [Ty.int IntKind.i64])).length : Int) (↑(List.length evs.xs) : Int) (Sp.rB ⟨s_Learners.xs, s_Cars.xs, s_Price, s_Excess, s_Lo, s_Hi, s_Terms.xs⟩ evs.xs).ps ∧ ∀ (j : Nat), -((20000000 : Int) * (0 : Int)) ≤ (cel (List.replicate (↑(List.length (((List.tail (pc_bRun.res [[Cl.l s_Learners.xs, Cl.l s_Cars.xs, Cl.i s_Price, Cl.i s_Excess, Cl.i s_Lo, Cl.i s_Hi, Cl.l s_Terms.xs], [Cl.l evs.xs]])).headD []).tail.tail.tail.headD Cl.z).lst) : Int).toNat (zeroCls [Ty.int IntKind.i64])) j (0 : Nat)).int ∧ (cel (List.replicate (↑(List.length (((List.tail (pc_bRun.res [[Cl.l s_Learners.xs, Cl.l s_Cars.xs, Cl.i s_Price, Cl.i s_Excess, Cl.i s_Lo, Cl.i s_Hi, Cl.l s_Terms.xs], [Cl.l evs.xs]])).headD []).tail.tail.tail.headD Cl.z).lst) : Int).toNat (zeroCls [Ty.int IntKind.i64])) j (0 : Nat)).int ≤ (20000000 : Int) * (0 : Int)) (Pre ((0 : Int) ≤ (0 : Int) ∧ (0 : Int) ≤ (↑(List.length (Sp.pays (Sp.rB ⟨s_Learners.xs, s_Cars.xs, s_Price, s_Excess, s_Lo, s_Hi, s_Terms.xs⟩ evs.xs).ps (List.length (Sp.rB ⟨s_Learners.xs, s_Cars.xs, s_Price, s_Excess, s_Lo, s_Hi, s_Terms.xs⟩ evs.xs).ps - Int.toNat (0 : Int)) (Int.toNat (0 : Int)) (List.replicate (↑(List.length (Sp.rB ⟨s_Learners.xs, s_Cars.xs, s_Price, s_Excess, s_Lo, s_Hi, s_Terms.xs⟩ evs.xs).ac) : Int).toNat (zeroCls [Ty.int IntKind.i64])))) : Int) ∧ List.length (Sp.pays (Sp.rB ⟨s_Learners.xs, s_Cars.xs, s_Price, s_Excess, s_Lo, s_Hi, s_Terms.xs⟩ evs.xs).ps (List.length (Sp.rB ⟨s_Learners.xs, s_Cars.xs, s_Price, s_Excess, s_Lo, s_Hi, s_Terms.xs⟩ evs.xs).ps - Int.toNat (0 : Int)) (Int.toNat (0 : Int)) (List.replicate (↑(List.length (Sp.rB ⟨s_Learners.xs, s_Cars.xs, s_Price, s_Excess, s_Lo, s_Hi, s_Terms.xs⟩ evs.xs).ac) : Int).toNat (zeroCls [Ty.int IntKind.i64]))) = List.length (Sp.rB ⟨s_Learners.xs, s_Cars.xs, s_Price, s_Excess, s_Lo, s_Hi, s_Terms.xs⟩ evs.xs).ac ∧ List.length (Sp.pays (Sp.rB ⟨s_Learners.xs, s_Cars.xs, s_Price, s_Excess, s_Lo, s_Hi, s_Terms.xs⟩ evs.xs).ps (List.length (Sp.rB ⟨s_Learners.xs, s_Cars.xs, s_Price, s_Excess, s_Lo, s_Hi, s_Terms.xs⟩ evs.xs).ps - Int.toNat (0 : Int)) (Int.toNat (0 : Int)) (List.replicate (↑(List.length (Sp.rB ⟨s_Learners.xs, s_Cars.xs, s_Price, s_Excess, s_Lo, s_Hi, s_Terms.xs⟩ evs.xs).ac) : Int).toNat (zeroCls [Ty.int IntKind.i64]))) ≤ (1000 : Nat) ∧ (-((10000000000 : Int) * (0 : Int)) ≤ (0 : Int) ∧ (0 : Int) ≤ (10000000000 : Int) * (0 : Int)) ∧ ∀ (j : Nat), (-10000000000 : Int) ≤ (cel (((List.tail (pc_bRun.res [[Cl.l s_Learners.xs, Cl.l s_Cars.xs, Cl.i s_Price, Cl.i s_Excess, Cl.i s_Lo, Cl.i s_Hi, Cl.l s_Terms.xs], [Cl.l evs.xs]])).headD []).tail.tail.tail.headD Cl.z).lst j (0 : Nat)).int ∧ (cel (((List.tail (pc_bRun.res [[Cl.l s_Learners.xs, Cl.l s_Cars.xs, Cl.i s_Price, Cl.i s_Excess, Cl.i s_Lo, Cl.i s_Hi, Cl.l s_Terms.xs], [Cl.l evs.xs]])).headD []).tail.tail.tail.headD Cl.z).lst j (0 : Nat)).int ≤ (10000000000 : Int)) (Vif (decide ((0 : Int) + Sp.sumI (Sp.rB ⟨s_Learners.xs, s_Cars.xs, s_Price, s_Excess, s_Lo, s_Hi, s_Terms.xs⟩ evs.xs).ac (Int.toNat (0 : Int)) (List.length (Sp.rB ⟨s_Learners.xs, s_Cars.xs, s_Price, s_Excess, s_Lo, s_Hi, s_Terms.xs⟩ evs.xs).ac - Int.toNat (0 : Int)) = (0 : Int))) (Pre True (Vif (Sp.ints (Sp.pays (Sp.rB ⟨s_Learners.xs, s_Cars.xs, s_Price, s_Excess, s_Lo, s_Hi, s_Terms.xs⟩ evs.xs).ps (List.length (Sp.rB ⟨s_Learners.xs, s_Cars.xs, s_Price, s_Excess, s_Lo, s_Hi, s_Terms.xs⟩ evs.xs).ps - Int.toNat (0 : Int)) (Int.toNat (0 : Int)) (List.replicate (↑(List.length (Sp.rB ⟨s_Learners.xs, s_Cars.xs, s_Price, s_Excess, s_Lo, s_Hi, s_Terms.xs⟩ evs.xs).ac) : Int).toNat (zeroCls [Ty.int IntKind.i64]))) (Sp.rB ⟨s_Learners.xs, s_Cars.xs, s_Price, s_Excess, s_Lo, s_Hi, s_Terms.xs⟩ evs.xs).ac) (Pre True (Q [[Cl.b true]])) (Q [[Cl.b false]]))) (Q [[Cl.b false]]))))))))))))
theorem vc_lawEven (W : InW) (s_Learners : Ro [.str]) (s_Cars : Ro Ivs) (s_Price : Int) (s_Excess : Int) (s_Lo : Int) (s_Hi : Int) (s_Terms : Ro [.int .i64, .int .i64]) (evs : Ro Iv11) (Q : DS → Prop) : bodyK (cxT Try.prog TT TK7 1000 50) 1000 7 [.agg [.rs _ s_Learners, .rs _ s_Cars, .si .i64 s_Price, .si .i64 s_Excess, .si .i64 s_Lo, .si .i64 s_Hi, .rs _ s_Terms], .rs _ evs] [] 0 (leafK [(false, [.bool])] Q) (fun _ _ _ _ => Stuck 421) = VC_lawEven s_Learners s_Cars s_Price s_Excess s_Lo s_Hi s_Terms evs Q := by kernel_rfl
abbrev ats_lawEven : List AT := [.agg [.sl [.str], .sl Ivs, .int .i64, .int .i64, .int .i64, .int .i64, .sl [.int .i64, .int .i64]], .one (.sl Iv11)]
theorem ok_lawEven {pre : DS → Prop} {res : DS → DS} (hyp_ : ∀ (W : InW) (s_Learners : Ro [.str]) (s_Cars : Ro Ivs) (s_Price : Int) (s_Excess : Int) (s_Lo : Int) (s_Hi : Int) (s_Terms : Ro [.int .i64, .int .i64]) (evs : Ro Iv11), pre [[.l s_Learners.xs, .l s_Cars.xs, .i s_Price, .i s_Excess, .i s_Lo, .i s_Hi, .l s_Terms.xs], [.l evs.xs]] → ∀ Q : DS → Prop, Q (res [[.l s_Learners.xs, .l s_Cars.xs, .i s_Price, .i s_Excess, .i s_Lo, .i s_Hi, .l s_Terms.xs], [.l evs.xs]]) → VC_lawEven s_Learners s_Cars s_Price s_Excess s_Lo s_Hi s_Terms evs Q) : PureOk Try.prog 7 ats_lawEven [(false, [.bool])] pre res :=
  PureOk.of' (fun W => @TT W) (fun W => @TT_ok W) mixed_ok TK7 1000 50 fun W s_Learners s_Cars s_Price s_Excess s_Lo s_Hi s_Terms evs hp =>
    (vc_lawEven W s_Learners s_Cars s_Price s_Excess s_Lo s_Hi s_Terms evs (fun o => o = res [[.l s_Learners.xs, .l s_Cars.xs, .i s_Price, .i s_Excess, .i s_Lo, .i s_Hi, .l s_Terms.xs], [.l evs.xs]])).mpr (hyp_ W s_Learners s_Cars s_Price s_Excess s_Lo s_Hi s_Terms evs hp _ rfl)
end Go.Proofs.Ytiiicnhjjfmpkaa
namespace Go.Proofs.Ytiiicnhjjfmpkaa
set_option linter.unusedVariables false
namespace Sp
theorem runB_ind {s : Sch} {evs : Dt} {P : Int → Bks → Prop} (hs : ∀ (i : Int) (b : Bks), 0 ≤ i → i < evs.length → Inv s b i → P i b → P (i + 1) (doB s b i (evt evs i))) : ∀ (n : Nat) (i : Int) (b : Bks), 0 ≤ i → i + n ≤ 60 → i + n ≤ evs.length → Inv s b i → P i b → P (i + n) (runB s evs n i b)
  | 0, i, b, h0, _, _, hI, h => by simpa [runB] using h
  | n + 1, i, b, h0, h1, h2, hI, h => by
    rw [show i + ((n + 1 : Nat) : Int) = i + 1 + n by omega]
    exact runB_ind hs n (i + 1) _ (by omega) (by omega) (by omega) (hI.step (by omega) _) (hs i b h0 (by omega) hI h)
theorem run_ind {s : Sch} {evs : Dt} {P : Int → Bks → Prop} (h : rErr s evs = 0) (h0 : P 0 (open0 s)) (hs : ∀ (i : Int) (b : Bks), 0 ≤ i → i < evs.length → Inv s b i → P i b → P (i + 1) (doB s b i (evt evs i))) : P evs.length (runAll s evs) := by
  obtain ⟨h1, h2⟩ := rErr_ok h
  have := runB_ind hs evs.length 0 (open0 s) (by omega) (by omega) (by omega) (Inv.zero h1) h0
  rw [Int.zero_add] at this
  exact this
theorem doB_cases {s : Sch} {b : Bks} {n : Int} {x : Evt} {P : Bks → Prop} (h0 : P b) (h1 : P { b with ev := n }) (h2 : inr x.kind 0 6 = true → b.tm ≤ x.at_ → x.at_ ≤ 4800 → err s b x = 0 → P { eff s { b with ev := n } x with tm := x.at_ }) : P (doB s b n x) := by
  unfold doB
  split
  · exact h0
  rename_i e1
  split
  · exact h0
  rename_i e2
  simp only [Bool.not_eq_true, Bool.not_eq_false'] at e1 e2
  have ht := inr_iff.1 e2
  split
  · rename_i e3
    exact h2 e1 ht.1 ht.2 e3
  · exact h1
theorem rB_ok {s : Sch} {evs : Dt} (h : rErr s evs = 0) : rB s evs = runAll s evs := if_pos h
theorem rB_no {s : Sch} {evs : Dt} (h : ¬ rErr s evs = 0) : rB s evs = ⟨[], [], [], [], [], [], 0, 0⟩ := if_neg h
theorem sumI_set (a : Dt) (v : Int) (i : Nat) (hi : i < a.length) : ∀ (n k : Nat), sumI (a.set i [.i v]) k n = sumI a k n + if k ≤ i ∧ i < k + n then v - (cel a i 0).int else 0
  | 0, k => by simp [sumI]; omega
  | n + 1, k => by
    unfold sumI
    rw [sumI_set a v i hi n (k + 1), cel_set]
    by_cases h : i = k
    · subst h
      rw [if_pos ⟨rfl, hi⟩, if_neg (by omega), if_pos (by omega)]
      show v + _ = _
      omega
    · rw [if_neg (fun e => h e.1)]
      by_cases h2 : k + 1 ≤ i ∧ i < k + 1 + n
      · rw [if_pos h2, if_pos (by omega)]; omega
      · rw [if_neg h2, if_neg (by omega)]; omega
theorem sumI_addA (a : Dt) (i c : Int) (h : 0 ≤ i ∧ i < a.length) : sumI (addA a i c) 0 a.length = sumI a 0 a.length + c := by
  unfold addA
  rw [sumI_set a _ i.toNat (by omega), if_pos (by omega)]
  omega
theorem sumI_zero (n : Nat) : ∀ (m k : Nat), sumI (List.replicate n [.i 0]) k m = 0
  | 0, _ => rfl
  | m + 1, k => by
    unfold sumI
    rw [sumI_zero n m, cel_rep]
    split <;> rfl
theorem pays_app (ps : Dt) (r : List Cl) : ∀ (n i : Nat) (h : Dt), i + n = ps.length → pays (ps ++ [r]) (n + 1) i h = addA (addA (pays ps n i h) (r.getD 1 .z).int (-(r.getD 3 .z).int)) (r.getD 2 .z).int (r.getD 3 .z).int
  | 0, i, h, e => by
    have : ∀ k, cel (ps ++ [r]) i k = r.getD k .z := fun k => by
      rw [show i = ps.length by omega]
      simp [cel, List.getD_eq_getElem?_getD]
    simp only [pays, this]
  | n + 1, i, h, e => by
    have : ∀ k, cel (ps ++ [r]) i k = cel ps i k := fun k => by simp [cel, List.getD_eq_getElem?_getD, List.getElem?_append_left (show i < ps.length by omega)]
    rw [pays, pays_app ps r n (i + 1) _ (by omega), this, this, this]
    rfl
theorem pays_len (ps : Dt) : ∀ (n i : Nat) (h : Dt), (pays ps n i h).length = h.length
  | 0, _, _ => rfl
  | n + 1, i, h => by rw [pays, pays_len ps n, addA_len, addA_len]
structure Led (s : Sch) (b : Bks) (n : Int) : Prop where
  ac : b.ac = pays b.ps b.ps.length 0 (List.replicate (s.rl.length + 4) [.i 0])
  ps : PsOk ((s.rl.length : Int) + 4) n b.ps
  sum : sumI b.ac 0 b.ac.length = 0
theorem PsOk.up1 {na n : Int} {ps : Dt} (h : PsOk na n ps) : PsOk na (n + 1) ps := ⟨fun j hj => by have := h.row j hj; exact ⟨by omega, this.2⟩, h.up⟩
theorem PsOk.post {na n : Int} {ps : Dt} (h : PsOk na (n + 1) ps) (h0 : 0 ≤ n) {u v c : Int} (hu : 0 ≤ u ∧ u < na) (hv : 0 ≤ v ∧ v < na) (hn : u ≠ v) (hc : 0 ≤ c ∧ c ≤ 10000000) : PsOk na (n + 1) (postP ps n u v c) := by
  unfold postP
  split
  · exact h
  · rename_i e
    have a1 : ∀ j k, j < ps.length → cel (ps ++ [[Cl.i n, .i u, .i v, .i c]]) j k = cel ps j k := fun j k hj => by simp [cel, List.getD_eq_getElem?_getD, List.getElem?_append_left hj]
    have a2 : ∀ k, cel (ps ++ [[Cl.i n, .i u, .i v, .i c]]) ps.length k = [Cl.i n, .i u, .i v, .i c].getD k .z := fun k => by simp [cel, List.getD_eq_getElem?_getD]
    refine ⟨fun j hj => ?_, fun j hj => ?_⟩
    · simp only [List.length_append, List.length_singleton] at hj
      by_cases hj' : j < ps.length
      · simp only [a1 j _ hj']; exact h.row j hj'
      · rw [show j = ps.length by omega]
        simp only [a2]
        exact ⟨⟨h0, by show n < n + 1; omega⟩, hu, hv, hn, by show 0 < c ∧ c ≤ _; omega⟩
    · simp only [List.length_append, List.length_singleton] at hj
      by_cases hj' : j + 1 < ps.length
      · rw [a1 _ _ hj', a1 _ _ (by omega)]; exact h.up j hj'
      · rw [a1 _ _ (by omega), show j + 1 = ps.length by omega, a2]
        have := (h.row j (by omega)).1.2
        show _ ≤ n
        omega
theorem Led.post {s : Sch} {b : Bks} {n : Int} (h : Led s b (n + 1)) (h0 : 0 ≤ n) (he : b.ev = n) (hl : b.ac.length = s.rl.length + 4) {u v c : Int} (hu : 0 ≤ u ∧ u < (s.rl.length : Int) + 4) (hv : 0 ≤ v ∧ v < (s.rl.length : Int) + 4) (hn : u ≠ v) (hc : 0 ≤ c ∧ c ≤ 10000000) : Led s (b.post u v c) (n + 1) := by
  refine ⟨?_, ?_, ?_⟩
  · show postA b.ac u v c = pays (postP b.ps b.ev u v c) (postP b.ps b.ev u v c).length 0 _
    unfold postA postP
    split
    · exact h.ac
    · rw [List.length_append, List.length_singleton, pays_app b.ps _ b.ps.length 0 _ (by omega), ← h.ac]
      rfl
  · show PsOk _ _ (postP b.ps b.ev u v c)
    rw [he]
    exact h.ps.post h0 hu hv hn hc
  · show sumI (postA b.ac u v c) 0 (postA b.ac u v c).length = 0
    rw [postA_len]
    unfold postA
    split
    · exact h.sum
    · have e1 := sumI_addA b.ac u (-c) (by omega)
      have e2 := sumI_addA (addA b.ac u (-c)) v c (by rw [addA_len]; omega)
      rw [addA_len] at e2
      rw [e2, e1, h.sum]
      omega
theorem Led.up1 {s : Sch} {b : Bks} {n : Int} (h : Led s b n) : Led s b (n + 1) := ⟨h.ac, h.ps.up1, h.sum⟩
theorem led_step {s : Sch} {b : Bks} {n : Int} (x : Evt) (hI : Inv s b n) (h : Led s b n) : Led s (doB s b n x) (n + 1) := by
  have h0 := hI.nn.1
  have hu := h.up1
  have hL := hI.sch.learners
  refine doB_cases (P := fun B => Led s B (n + 1)) hu ⟨hu.ac, hu.ps, hu.sum⟩ fun hk t1 t2 he => ?_
  have fin : ∀ B : Bks, Led s B (n + 1) → Led s { B with tm := x.at_ } (n + 1) := fun B h => ⟨h.ac, h.ps, h.sum⟩
  refine fin _ ?_
  have hS : school s = s.rl.length := rfl
  have start : ∀ B : Bks, B.ac = b.ac → B.ps = b.ps → Led s B (n + 1) := fun B e1 e2 => ⟨by rw [e1, e2]; exact hu.ac, by rw [e2]; exact hu.ps, by rw [e1]; exact hu.sum⟩
  rcases err_ok hk he with ⟨k, e⟩ | ⟨k, e, f⟩ | ⟨k, e, f⟩ | ⟨k, e, f, g, q⟩ | ⟨k, e, f⟩ | ⟨k, e, f⟩ | ⟨k, e, f⟩
  · rw [show eff s { b with ev := n } x = { b with ev := n, ls := b.ls ++ [[.i x.l, .i x.c, .i x.s, .i x.h, .i 0]] } by simp [eff, k]]
    exact start _ rfl rfl
  · rw [eff1 k]
    have hr := hI.row e
    have hf := fee_in hI.sch.fees hr.2.2.2 hI.sch.price ((cel b.ls x.b.toNat 2).int - x.at_)
    exact (start { b with ev := n, ls := setSt b.ls x.b 1 } rfl rfl).post h0 rfl hI.ac.1 (by show 0 ≤ (cel b.ls x.b.toNat 0).int ∧ (cel b.ls x.b.toNat 0).int < _; omega) (by omega) (by show (cel b.ls x.b.toNat 0).int ≠ _; omega) (by show 0 ≤ fee s.rt s.pr (cel b.ls x.b.toNat 3).int ((cel b.ls x.b.toNat 2).int - x.at_) ∧ fee s.rt s.pr (cel b.ls x.b.toNat 3).int ((cel b.ls x.b.toNat 2).int - x.at_) ≤ _; omega)
  · rw [show eff s { b with ev := n } x = { b with ev := n, es := seeE b.es x.d x.w, ls := weatherL s.rc (seeE b.es x.d x.w) x b.ls.length 0 b.ls } by simp [eff, k]]
    exact start _ rfl rfl
  · rw [eff3 k]
    have hr := hI.row e
    have hf := price_in hI.sch hr.2.2.2
    exact (start { b with ev := n, ls := setSt b.ls x.b 2, km := addA b.km (cel b.ls x.b.toNat 1).int x.k, si := addA b.si (cel b.ls x.b.toNat 1).int x.k } rfl rfl).post h0 rfl hI.ac.1 (by show 0 ≤ (cel b.ls x.b.toNat 0).int ∧ (cel b.ls x.b.toNat 0).int < _; omega) (by omega) (by show (cel b.ls x.b.toNat 0).int ≠ _; omega) (by show 0 ≤ (cel b.ls x.b.toNat 3).int * s.pr ∧ (cel b.ls x.b.toNat 3).int * s.pr ≤ _; omega)
  · rw [show eff s { b with ev := n } x = Bks.post { b with ev := n, si := b.si.set x.c.toNat [.i 0] } (school s) (school s + 1) x.m by simp [eff, k]]
    exact (start { b with ev := n, si := b.si.set x.c.toNat [.i 0] } rfl rfl).post h0 rfl hI.ac.1 (by omega) (by omega) (by omega) f
  · rw [eff5 k]
    have hx := hI.sch.excess
    have hx' : 0 ≤ s.ex ∧ s.ex ≤ 10000000 := hx
    refine ((start { b with ev := n, ls := setSt b.ls x.b 3 } rfl rfl).post h0 rfl hI.ac.1 (u := school s) (v := school s + 1) (c := min x.m s.ex) (by omega) (by omega) (by omega) (by omega)).post h0 rfl ?_ (by omega) (by omega) (by omega) (by omega)
    show (postA b.ac _ _ _).length = _
    rw [postA_len]; exact hI.ac.1
  · rw [show eff s { b with ev := n } x = Bks.post { b with ev := n } (school s + 3) x.l x.m by simp [eff, k]]
    exact (start { b with ev := n } rfl rfl).post h0 rfl hI.ac.1 (by omega) (by omega) (by omega) f
theorem led_run {s : Sch} {evs : Dt} (h : rErr s evs = 0) : Led s (runAll s evs) evs.length :=
  run_ind (P := fun i b => Led s b i) h ⟨rfl, ⟨fun j hj => by simp [open0] at hj, fun j hj => by simp [open0] at hj⟩, sumI_zero _ _ _⟩ fun i b h0 h1 hI h => led_step _ hI h
theorem shaped_run {s : Sch} {evs : Dt} (h : rErr s evs = 0) : shapedE s.rl.length s.rc.length (runAll s evs).ls (runAll s evs).km (runAll s evs).si (runAll s evs).ac = true := by
  have hI := rErr_inv h
  have row : ∀ (n i : Nat), i + n = (runAll s evs).ls.length → shN s.rl.length s.rc.length (runAll s evs).ls i n = true := by
    intro n
    induction n with
    | zero => intro i _; rfl
    | succ n ih =>
      intro i hi
      rw [shN, shR_iff.2 (by have := hI.ls i (by omega); omega), ih (i + 1) (by omega)]
      rfl
  unfold shapedE
  rw [decide_eq_true hI.km.1, decide_eq_true hI.si.1, decide_eq_true hI.ac.1, row _ _ (by omega)]
  rfl
end Sp
end Go.Proofs.Ytiiicnhjjfmpkaa
namespace Go.Proofs.Ytiiicnhjjfmpkaa
open Go.RowKit
set_option linter.unusedVariables false
set_option maxRecDepth 100000
theorem Sp.rB_led {s : Sp.Sch} {evs : Dt} (e : Sp.rErr s evs = 0) : Sp.Led s (Sp.rB s evs) evs.length ∧ Sp.Inv s (Sp.rB s evs) evs.length ∧ evs.length ≤ 60 ∧ Sp.shapedE s.rl.length s.rc.length (Sp.rB s evs).ls (Sp.rB s evs).km (Sp.rB s evs).si (Sp.rB s evs).ac = true := by
  rw [Sp.rB_ok e]
  exact ⟨Sp.led_run e, Sp.rErr_inv e, (Sp.rErr_ok e).2, Sp.shaped_run e⟩
theorem Sp.sameI_self (a : Dt) : ∀ (n i : Nat), Sp.sameI a a i n = true
  | 0, _ => rfl
  | n + 1, i => by rw [Sp.sameI, Sp.sameI_self a n, if_pos rfl]; rfl
theorem Sp.ints_self (a : Dt) : Sp.ints a a = true := by rw [Sp.ints, if_pos rfl]; exact Sp.sameI_self _ _ _
theorem even_pure : PureOk Try.prog 7 ats_lawEven [(false, [.bool])] (WfD ats_lawEven) fun _ => [[.b true]] :=
  ok_lawEven fun W rl rc pr ex lo hi rt evs hp Q h => by
    obtain ⟨d, ds, e1, hp1, _⟩ := hp
    cases e1
    have hn := school_names hp1
    unfold VC_lawEven
    by_cases e : Sp.rErr ⟨rl.xs, rc.xs, pr, ex, lo, hi, rt.xs⟩ evs.xs = 0
    · have hc := (Sp.rErr_ok e).1
      have hz : Sp.chkE rl.xs rc.xs pr ex lo hi rt.xs = 0 := by
        unfold Sp.rErr Sp.runErr at e
        split at e
        · assumption
        · exact e
      obtain ⟨hL, hI, h60, hs⟩ := Sp.rB_led e
      have hl := hc.learners
      have hq := hI.ps
      have ha := hI.ac.1
      simp only at hl ha hs hL
      have key : Sp.pays (Sp.rB ⟨rl.xs, rc.xs, pr, ex, lo, hi, rt.xs⟩ evs.xs).ps (Sp.rB ⟨rl.xs, rc.xs, pr, ex, lo, hi, rt.xs⟩ evs.xs).ps.length 0 (List.replicate ((Sp.rB ⟨rl.xs, rc.xs, pr, ex, lo, hi, rt.xs⟩ evs.xs).ac.length : Int).toNat (zeroCls [.int .i64])) = (Sp.rB ⟨rl.xs, rc.xs, pr, ex, lo, hi, rt.xs⟩ evs.xs).ac := by
        rw [show ((Sp.rB ⟨rl.xs, rc.xs, pr, ex, lo, hi, rt.xs⟩ evs.xs).ac.length : Int).toNat = rl.xs.length + 4 by omega]
        exact hL.ac.symm
      refine ⟨trivial, trivial, vif (fun x => absurd e (by simpa using x)) fun _ => ⟨hn, vif (fun x => absurd hz (by simpa using x)) fun _ => vif (fun x => absurd e (by simpa using x)) fun _ => ⟨by omega, vif (fun x => by rw [hs] at x; cases x) fun _ => ned (by simp; omega) ⟨⟨by omega, by omega, by omega, ?_, fun j => ?_⟩, ⟨⟨by omega, by omega, ?_, ?_, by omega, fun j => ?_⟩, ?_⟩⟩⟩⟩⟩
      · rw [List.length_replicate, show (((Sp.rB ⟨rl.xs, rc.xs, pr, ex, lo, hi, rt.xs⟩ evs.xs).ac.length : Int).toNat : Int) = (rl.xs.length : Int) + 4 by omega]
        exact hL.ps
      · show _ ≤ (cel (List.replicate _ [Cl.i 0]) j 0).int ∧ (cel (List.replicate _ [Cl.i 0]) j 0).int ≤ _
        rw [Sp.cel_rep]
        split <;> omega
      · rw [Sp.pays_len, List.length_replicate]; omega
      · rw [Sp.pays_len, List.length_replicate]; omega
      · have := hI.ac.2 j
        show _ ≤ (cel (Sp.rB ⟨rl.xs, rc.xs, pr, ex, lo, hi, rt.xs⟩ evs.xs).ac j 0).int ∧ (cel (Sp.rB ⟨rl.xs, rc.xs, pr, ex, lo, hi, rt.xs⟩ evs.xs).ac j 0).int ≤ _
        omega
      · rw [show Int.toNat 0 = 0 from rfl, Nat.sub_zero, Nat.sub_zero, hL.sum]
        refine vif (fun _ => ⟨trivial, vif (fun _ => ⟨trivial, h⟩) fun x => ?_⟩) fun x => absurd x (by decide)
        rw [key, Sp.ints_self] at x
        cases x
    · simp [Vif_iff, Pre_iff, e, Sp.rB_no e, h, Sp.statesE, Sp.ints, Sp.rowsE, Sp.sameI, Sp.sameW]
end Go.Proofs.Ytiiicnhjjfmpkaa
namespace Go.Proofs.Ytiiicnhjjfmpkaa.bookEven
open Go.ChangeShapes Go.WideShapes Go.ChangeAt Go.RowKit
set_option linter.unusedVariables false
set_option maxRecDepth 100000
theorem own : ownKnob Try.prog.godebug = none := by kernel_rfl
theorem laid : laidOutB Try.prog = true := by kernel_rfl
theorem lifted (os : Os) (started : os.Started) (H : Type) (enc : TypeId × Value → H) :
    ReturnsInHanded {} Try.checked os 7 .any (Rows.bookEvenSpec.pre6 enc Try.prog Try.f7 Rows.bookEvenRow.domain false) (Rows.bookEvenSpec.post enc Try.prog Try.f7 false true false false) := by
  refine returnsInHanded_of_change (C := Try.checked) own started (by kernel_rfl) Try.func7
    (ChangeSpec.witness6 (enc := enc) (C := Try.checked) false ⟨#[], #[(.agg #[.slice none 0 0, .slice none 0 0, .int .i64 0, .int .i64 0, .int .i64 0, .int .i64 0, .slice none 0 0]), (.slice none 0 0)], []⟩ 8 (by kernel_rfl) (by kernel_rfl) (by kernel_rfl) (by kernel_rfl)) ?_
  intro W base args ds gs before hval hW _ _
  exact law_end (f := Try.f7) (s := Rows.bookEvenSpec) (by kernel_rfl) Try.underlying4 (by kernel_rfl) rfl laid (by kernel_rfl)
    (fun ds h => by match ds, (show ds.length = 2 from h) with | [_, _], _ => exact ⟨rfl, rfl, rfl⟩) even_pure hval hW
theorem over : Rows.bookEvenRow.holds Try.pinned (OpenSpec.ofChange Rows.bookEvenSpec) :=
  OpenClaim.holds_of_wide 7 Try.f7 rfl rfl rfl rfl rfl rfl rfl ⟨rfl, rfl, rfl, rfl, rfl⟩ rfl rfl rfl rfl rfl (by kernel_rfl) Try.func7 (by kernel_rfl)
    (of_decide_eq_true (by kernel_rfl)) (by unfold Func.isWrapper; first | (rw [if_pos (by decide +kernel)]; kernel_rfl) | (rw [if_neg (by decide +kernel)]; exact ⟨rfl, rfl⟩))
    (fun os started H enc _ => lifted os started H enc)
theorem proved : Rows.BookEvenSaid := over
end Go.Proofs.Ytiiicnhjjfmpkaa.bookEven
