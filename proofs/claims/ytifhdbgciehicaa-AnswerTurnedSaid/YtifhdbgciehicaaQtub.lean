/-
  'AnswerTurned': for every input the law returns true, and what is handed in reads as before. No condition.
-/
import Derived.Test.YtifhdbgciehicaaQtua
import Derived.Shelf.Sort.AssemblyIn
import Derived.Sort.EveryDepth
import Derived.Sort.OwnSortedInts
set_option linter.unusedVariables false
set_option linter.unusedSectionVars false
set_option linter.unusedSimpArgs false
noncomputable section
namespace Go.Proofs.Ytifhdbgciehicaa
open Go.RowKit
abbrev Jd : List Ty := [.bool]
set_option maxRecDepth 100000
set_option maxHeartbeats 1600000
namespace Sp
def xorB (k ix : Int) : Int := xorI .i64 k ((1 : Int) * 2 ^ min ix.toNat 64)
def dcB (qs ps : Dt) (all : Int) (sh u : Dt) (ix : Int) (k : Nat) : Bool := !(psW qs ps all sh u k == psW qs ps all sh u (xorB k ix))
theorem xor7 : ∀ k : Fin 128, ∀ i : Fin 7, xorI .i64 (k.val : Int) ((1 : Int) * 2 ^ min ((i.val : Nat) : Int).toNat 64) = ((if k.val / 2 ^ i.val % 2 = 0 then k.val + 2 ^ i.val else k.val - 2 ^ i.val : Nat) : Int) := by decide +kernel
def flip (k i : Nat) : Nat := if k / 2 ^ i % 2 = 0 then k + 2 ^ i else k - 2 ^ i
theorem xor_of {k i : Nat} (hk : k < 128) (hi : i < 7) : xorB (k : Int) (i : Int) = (flip k i : Nat) := xor7 ⟨k, hk⟩ ⟨i, hi⟩
theorem xor_ge {k ix : Int} (h0 : 0 <= k) (h1 : k < 128) (h2 : 0 <= ix) (h3 : ix < 7) : 0 <= xorB k ix := by
 have := xor_of (k := k.toNat) (i := ix.toNat) (by omega) (by omega);rw [Int.toNat_of_nonneg h0, Int.toNat_of_nonneg h2] at this;rw [this]; omega
end Sp
def Xem [InW] (e : List Ed) (K : Nat -> List Ed -> Prop) : Prop := match e with
 | [.i n, .i i, .ro _ qs, .ro _ ps, .i all, .ro _ sh, .l u, .i ix, .b so, .b al] => Pre (0 <= i /\ i <= n /\ n <= 128 /\ Sp.KeyOk qs.xs ps.xs all /\ Sp.SeOk qs.xs sh.xs u /\ 0 <= ix /\ ix < 7) (K 0 [.ro _ qs, .ro _ ps, .i all, .ro _ sh, .l u, .i ix, .b (so || Sp.anyF (Sp.dcB qs.xs ps.xs all sh.xs u ix) i.toNat (n - i).toNat), .b (al && Sp.allF (Sp.dcB qs.xs ps.xs all sh.xs u ix) i.toNat (n - i).toNat)])
 | _ => False
def Xf4 : LC where
 len := 18
 T := [(0, (.yl 1)), (1, (.ptr 10 0)), (9, .int .i64), (10, .int .i64)]
 H := [(1, .lp LPth [(.opq 1501), (.opq 1504), (.opq 1507), (.opq 1510), (.ptr 13 0), (.ptr 16 0), (.ptr 19 0), (.opq 318), (.opq 321), (.opq 1528), (.opq 327), (.opq 330), (.opq 333), (.opq 336), (.opq 339), (.opq 342), (.opq 345), (.opq 348), (.opq 351), (.opq 354), (.opq 357), (.opq 360), (.opq 1567), (.opq 1570)]), (10, .blk 85 [(.ptr 4 0)]), (4, .blk 89 [.rs Iv5, .rs Jc, .int .i64, .rs Jb, (.row 7)]), (7, .arr 44 Ja), (13, .blk 84 [(.fn (.func 66) [] [(.ptr 25 0), (.ptr 22 0)])]), (25, .blk 85 [(.ptr 4 0)]), (22, .blk 3 [.int .i64]), (16, .blk 4 [.bool]), (19, .blk 4 [.bool])]
 W := ([3] ++ rg 11 7)
 outs := [⟨.exit 0, [], [(1, .lp LPth [(.opq 1501), (.opq 1504), (.opq 1507), (.opq 1510), (.ptr 13 0), (.ptr 16 0), (.ptr 19 0), (.opq 618), (.opq 621), (.opq 1528), (.opq 627), (.opq 630), (.opq 633), (.opq 636), (.opq 639), (.opq 642), (.opq 645), (.opq 648), (.opq 651), (.opq 654), (.opq 657), (.opq 660), (.opq 1567), (.opq 1570)]), (618, .dead), (621, .dead), (627, .dead), (630, .dead), (633, .dead), (636, .dead), (639, .dead), (642, .dead), (645, .dead), (648, .dead), (651, .dead), (654, .dead), (657, .dead), (660, .dead), (10, .blk 85 [(.ptr 4 0)]), (4, .blk 89 [.rs Iv5, .rs Jc, .int .i64, .rs Jb, (.row 7)]), (7, .arr 44 Ja), (13, .blk 84 [(.fn (.func 66) [] [(.ptr 25 0), (.ptr 22 0)])]), (25, .blk 85 [(.ptr 4 0)]), (22, .blk 3 [.int .i64]), (16, .blk 4 [.bool]), (19, .blk 4 [.bool])], ([0, 1, 3] ++ rg 9 9)⟩]
 spec := Xem
def Xds [W : InW] (n i : Int) (qs : Ro Iv5) (ps : Ro Jc) (all : Int) (sh : Ro Jb) (u : Dt) (ix : Int) (so al : Bool) (A : List Ed -> Prop) (K : Nat -> List Ed -> Prop) : Prop :=
 Vif (decide (i < n)) (Pre (0 <= i /\ Sp.KeyOk qs.xs ps.xs all /\ Sp.SeOk qs.xs sh.xs u) (Need (decide (0 <= ix)) (Ar .i64 ((1 : Int) * 2 ^ min ix.toNat (64 : Nat)) fun z => Pre ((0 : Int) <= xorI IntKind.i64 i z /\ Sp.KeyOk qs.xs ps.xs all /\ Sp.SeOk qs.xs sh.xs u) (Vif so (Vif al (Ar .i64 (i + 1) fun z_1 => PreL LPth LPth (A [.i n, .i z_1, .ro _ qs, .ro _ ps, .i all, .ro Zi sh, .l u, .i ix, .b true, .b !Sp.psW qs.xs ps.xs all sh.xs u i == Sp.psW qs.xs ps.xs all sh.xs u (xorI IntKind.i64 i z)])) (Ar .i64 (i + 1) fun z => PreL LPth LPth (A [.i n, .i z, .ro _ qs, .ro _ ps, .i all, .ro Zi sh, .l u, .i ix, .b true, .b false]))) (Vif al (Ar .i64 (i + 1) fun z_1 => PreL LPth LPth (A [.i n, .i z_1, .ro _ qs, .ro _ ps, .i all, .ro Zi sh, .l u, .i ix, .b !Sp.psW qs.xs ps.xs all sh.xs u i == Sp.psW qs.xs ps.xs all sh.xs u (xorI IntKind.i64 i z), .b !Sp.psW qs.xs ps.xs all sh.xs u i == Sp.psW qs.xs ps.xs all sh.xs u (xorI IntKind.i64 i z)])) (Ar .i64 (i + 1) fun z_1 => PreL LPth LPth (A [.i n, .i z_1, .ro _ qs, .ro _ ps, .i all, .ro Zi sh, .l u, .i ix, .b !Sp.psW qs.xs ps.xs all sh.xs u i == Sp.psW qs.xs ps.xs all sh.xs u (xorI IntKind.i64 i z), .b false]))))))) (PreL LPth LPth (K 0 [.ro _ qs, .ro _ ps, .i all, .ro Zi sh, .l u, .i ix, .b so, .b al]))
theorem Xj6 (W : InW) (n i qs ps all sh u ix so al A K) : Yfc { cxT Try.prog TT T60 1000 50 with fn := 83 } 1000 (Yn8 Try.prog 83 2) (Yd8 18 [(0, .yl 1), (1, .ptr 10 0), (9, .si .i64 n), (10, .si .i64 i)] ([3] ++ rg 11 7)) [(1, .lp LPth [.opq 1501, .opq 1504, .opq 1507, .opq 1510, .ptr 13 0, .ptr 16 0, .ptr 19 0, .opq 318, .opq 321, .opq 1528, .opq 327, .opq 330, .opq 333, .opq 336, .opq 339, .opq 342, .opq 345, .opq 348, .opq 351, .opq 354, .opq 357, .opq 360, .opq 1567, .opq 1570]), (10, .blk 85 [.ptr 4 0]), (4, .blk 89 [.rs _ qs, .rs _ ps, .si .i64 all, .rs _ sh, .rw 7]), (7, .arr 44 Ja u), (13, .blk 84 [.fn (.func 66) [] [.ptr 25 0, .ptr 22 0]]), (25, .blk 85 [.ptr 4 0]), (22, .blk 3 [.si .i64 ix]), (16, .blk 4 [.sb so]), (19, .blk 4 [.sb al])] (Yug Xf4 A K) = Xds n i qs ps all sh u ix so al A K := by kernel_rfl
def Xfg : Prop := ∀ (W : InW) (body a : Code), (Try.prog.funcs[83]?).bind (·.body) = some body -> a ∈ Y0 body -> Yfw a = 2 -> @Ymr W Try.prog a (@Yto W Xf4)
theorem Xlk (meas : [InW] -> List Ed -> Nat) (hyp_ : ∀ (W : InW) n i qs ps all sh u ix so al K, Xem [.i n, .i i, .ro _ qs, .ro _ ps, .i all, .ro _ sh, .l u, .i ix, .b so, .b al] K -> ∀ A : List Ed -> Prop, (∀ e, meas e < meas [.i n, .i i, .ro _ qs, .ro _ ps, .i all, .ro _ sh, .l u, .i ix, .b so, .b al] -> Xem e K -> A e) -> Xds n i qs ps all sh u ix so al A K) : Xfg :=
 LE.okOf' (fun W => @TT W) (fun W => @Xe W) Xa T60 1000 50 (by kernel_rfl) Xf4 (fun W => @meas W) fun W n i qs ps all sh u ix so al K hs =>
  (Xj6 W n i qs ps all sh u ix so al (fun e => meas e < meas [.i n, .i i, .ro _ qs, .ro _ ps, .i all, .ro _ sh, .l u, .i ix, .b so, .b al] /\ Xem e K) K).mpr (hyp_ W n i qs ps all sh u ix so al K hs _ fun e h1 h2 => ⟨h1, h2⟩)
theorem Xns : Xfg := Xlk (fun e => match e with | .i n :: .i i :: _ => (n - i).toNat | _ => 0) fun W n i qs ps all sh u ix so al K hs A hA => by
 obtain ⟨⟨h0, h1, h2, hkey, hse, h3, h4⟩, hk⟩ := hs;unfold Xds;delta Zi;have ez : (i + 1).toNat = i.toNat + 1 := by omega
 have ei : ((i.toNat : Nat) : Int) = i := Int.toNat_of_nonneg h0
 by_cases hi : i < n
 ·have hx := Sp.xor_ge (k := i) (ix := ix) h0 (by omega) h3 h4;obtain ⟨p1, p2, p3⟩ := Xn (n := ix.toNat) (by omega);rw [Int.toNat_of_nonneg h3] at p1;rw [show (n - i).toNat = (n - (i + 1)).toNat + 1 by omega] at hk;have hA' : ∀ c d, c = (so || !(Sp.psW qs.xs ps.xs all sh.xs u i == Sp.psW qs.xs ps.xs all sh.xs u (Sp.xorB i ix))) -> d = (al && !(Sp.psW qs.xs ps.xs all sh.xs u i == Sp.psW qs.xs ps.xs all sh.xs u (Sp.xorB i ix))) -> A [.i n, .i (i + 1), .ro _ qs, .ro _ ps, .i all, .ro _ sh, .l u, .i ix, .b c, .b d] := fun c d hc hd => hA _ (show (n - (i + 1)).toNat < (n - i).toNat by omega) ⟨⟨by omega, by omega, h2, hkey, hse, h3, h4⟩, by
   simp only [Sp.anyF, Sp.allF, Sp.dcB, ei] at hk;rw [ez, hc, hd, Bool.or_assoc, Bool.and_assoc];exact hk⟩
  clear hA hk;unfold Sp.xorB at hA' hx;rw [p1] at hA' hx ⊢;have p4 : 1 <= ((2 ^ ix.toNat : Nat) : Int) /\ ((2 ^ ix.toNat : Nat) : Int) <= 128 := by omega
  generalize ((2 ^ ix.toNat : Nat) : Int) = z at *
  repeat' (first | (with_reducible refine Xb ⟨h0, hkey, hse⟩ ?_) | (with_reducible refine Xb ⟨hx, hkey, hse⟩ ?_) | omega|intro _|with_reducible first|apply vifd|apply vifn|apply vifq|apply Xd|apply Xc|apply vifb|apply vif|apply nedd|apply ned2|apply ned|apply ar64|apply Xb|exact True.intro|assumption|rfl|apply And.intro)
  all_goals first | contradiction | (refine ⟨rfl, ?_⟩; refine hA' _ _ ?_ ?_ <;> simp [*]; done) | skip
 ·rw [show (n - i).toNat = 0 by omega] at hk;simp only [Sp.allF, Sp.anyF, Bool.and_true, Bool.or_false] at hk;clear hA
  repeat' (first | omega|intro _|with_reducible first|apply vifd|apply vifn|apply vifq|apply Xd|apply Xc|apply vifb|apply vif|apply nedd|apply ned2|apply ned|apply ar64|apply Xb|exact True.intro|assumption|rfl|apply And.intro)
  all_goals exact ⟨rfl, hk⟩
def Xok : LE Try.prog := ⟨83, 2, fun W => @Yto W Xf4, Xns⟩
def T63 : Tab Try.prog := ⟨[], [Xok], []⟩
def Xgw [InW] (e : List Ed) (K : Nat -> List Ed -> Prop) : Prop := match e with
 | [.ro _ qs, .ro _ ps, .i all, .ro _ sh, .l u, .i ix] => Pre (Sp.KeyOk qs.xs ps.xs all /\ Sp.SeOk qs.xs sh.xs u /\ u.length <= 7 /\ 0 <= ix /\ ix < 7) (K 0 [.b (Sp.anyF (Sp.dcB qs.xs ps.xs all sh.xs u ix) 0 (2 ^ u.length)), .b (Sp.allF (Sp.dcB qs.xs ps.xs all sh.xs u ix) 0 (2 ^ u.length)), .ro _ qs, .ro _ ps, .i all, .ro _ sh, .l u, .i ix])
 | _ => False
def Xk : CC where
 g := 60
 args := [(.fn (.func 83) [] [(.ptr 10 0)]), (.fn (.func 66) [] [(.ptr 25 0), (.ptr 22 0)])]
 H := [(10, .blk 85 [(.ptr 4 0)]), (4, .blk 89 [.rs Iv5, .rs Jc, .int .i64, .rs Jb, (.row 7)]), (7, .arr 44 Ja), (25, .blk 85 [(.ptr 4 0)]), (22, .blk 3 [.int .i64])]
 outs := [⟨false, .tup [.bool, .bool], [(10, .blk 85 [(.ptr 4 0)]), (4, .blk 89 [.rs Iv5, .rs Jc, .int .i64, .rs Jb, (.row 7)]), (7, .arr 44 Ja), (25, .blk 85 [(.ptr 4 0)]), (22, .blk 3 [.int .i64])], false⟩]
 spec := Xgw
def Xco [W : InW] (qs : Ro Iv5) (ps : Ro Jc) (all : Int) (sh : Ro Jb) (u : Dt) (ix : Int) (K : Nat -> List Ed -> Prop) : Prop :=
 Need (decide ((0 : Int) <= (↑(u.length) : Int))) (Ar .i64 ((1 : Int) * 2 ^ min (↑(u.length) : Int).toNat (64 : Nat)) fun z => PreL LPth LPth (Pre ((0 : Int) <= 0 /\ 0 <= z /\ z <= 128 /\ Sp.KeyOk qs.xs ps.xs all /\ Sp.SeOk qs.xs sh.xs u /\ 0 <= ix /\ ix < 7) (K 0 [.b (false || Sp.anyF (Sp.dcB qs.xs ps.xs all sh.xs u ix) Za (z - 0).toNat), .b (true && Sp.allF (Sp.dcB qs.xs ps.xs all sh.xs u ix) Za (z - 0).toNat), .ro _ qs, .ro _ ps, .i all, .ro Zi sh, .l u, .i ix])))
theorem Xh8 (W : InW) (qs ps all sh u ix K) : Ywu (cxT Try.prog TT T63 1000 50) 1000 60 [.fn (.func 83) [] [.ptr 10 0], .fn (.func 66) [] [.ptr 25 0, .ptr 22 0]] [(10, .blk 85 [.ptr 4 0]), (4, .blk 89 [.rs _ qs, .rs _ ps, .si .i64 all, .rs _ sh, .rw 7]), (7, .arr 44 Ja u), (25, .blk 85 [.ptr 4 0]), (22, .blk 3 [.si .i64 ix])] (fun v h => outC Xk.H [.ro _ qs, .ro _ ps, .i all, .ro _ sh, .l u, .i ix] Xk.outs 0 false v h K) (fun v h => outC Xk.H [.ro _ qs, .ro _ ps, .i all, .ro _ sh, .l u, .i ix] Xk.outs 0 true v h K) = Xco qs ps all sh u ix K := by kernel_rfl
theorem Xi4 (hyp_ : ∀ (W : InW) qs ps all sh u ix K, Xgw [.ro _ qs, .ro _ ps, .i all, .ro _ sh, .l u, .i ix] K -> Xco qs ps all sh u ix K) : ∀ W : InW, @CallC W Try.prog Xk :=
 CC.okOf (fun W => @TT W) (fun W => @Xe W) Xa T63 1000 50 Xk fun W qs ps all sh u ix K hs => (Xh8 W qs ps all sh u ix K).mpr (hyp_ W qs ps all sh u ix K hs)
theorem Xmn : ∀ W : InW, @CallC W Try.prog Xk := Xi4 fun W qs ps all sh u ix K hs => by
 obtain ⟨⟨hkey, hse, h7, h3, h4⟩, hk⟩ := hs;unfold Xco;delta Za Zi Zb;obtain ⟨p1, p2, p3⟩ := Xn h7;rw [p1];simp only [show Int.toNat 0 = 0 from rfl, Int.sub_zero, Bool.true_and, Bool.false_or];refine nedd (by omega) (ar64 (by omega) ⟨rfl, ⟨by omega, by omega, by omega, hkey, hse, h3, h4⟩, ?_⟩);rw [Int.toNat_natCast];exact hk
namespace Sp
def dcW (qs ps : Dt) (all : Int) (sh u : Dt) : Nat -> Nat -> Dt
 | _, 0 => []
 | i, n + 1 => (if anyF (dcB qs ps all sh u i) 0 (2 ^ u.length) = true then [[.i (cA u i), .i (cB u i)]] else []) ++ dcW qs ps all sh u (i + 1) n
end Sp
def T64 : Tab Try.prog := ⟨[], [], [ceOf Xk Xmn]⟩
def Xex [InW] (e : List Ed) (K : Nat -> List Ed -> Prop) : Prop := match e with
 | [.i n, .i i, .ro _ qs, .ro _ ps, .i all, .ro _ sh, .l u, .l l] => Pre (n = u.length /\ 0 <= i /\ i <= u.length /\ Sp.KeyOk qs.xs ps.xs all /\ Sp.SeOk qs.xs sh.xs u /\ u.length <= 7 /\ l.length <= i) (K 0 [.l (l ++ Sp.dcW qs.xs ps.xs all sh.xs u i.toNat (u.length - i.toNat))])
 | _ => False
def Xgf : LC where
 len := 46
 T := [(4, (.row 3)), (6, (.ptr 25 0)), (24, (.row 7)), (25, .int .i64), (26, .int .i64)]
 H := [(25, .blk 85 [(.ptr 4 0)]), (4, .blk 89 [.rs Iv5, .rs Jc, .int .i64, .rs Jb, (.row 7)]), (7, .arr 44 Ja), (3, .arr 44 Ja)]
 W := (rg 7 5 ++ rg 27 18)
 outs := [⟨.exit 0, [(4, (.row 6))], [(6, .arr 44 Ja)], (rg 6 6 ++ rg 24 21)⟩]
 spec := Xex
def Xd3 [W : InW] (n i : Int) (qs : Ro Iv5) (ps : Ro Jc) (all : Int) (sh : Ro Jb) (u l : Dt) (A : List Ed -> Prop) (K : Nat -> List Ed -> Prop) : Prop :=
 Vif (decide (i < n)) (Need (decide (0 <= i) && decide (i < (↑(u.length) : Int))) (Need (decide (i.toNat < u.length)) (Pre (Sp.KeyOk qs.xs ps.xs all /\ Sp.SeOk qs.xs sh.xs u /\ u.length <= 7 /\ 0 <= i /\ i < 7) (Vif (Sp.anyF (Sp.dcB qs.xs ps.xs all sh.xs u i) (0 : Nat) ((2 : Nat) ^ u.length)) (Need (decide ((l.length + [[Cl.i (cel u i.toNat (0 : Nat)).int, Cl.i (cel u i.toNat (0+1)).int]].length) * 16 <= 140737488355328)) (Ar .i64 (i + 1) fun z => A [.i n, .i z, .ro _ qs, .ro _ ps, .i all, .ro Zi sh, .l u, .l (l ++ [[Cl.i (cel u i.toNat (0 : Nat)).int, Cl.i (cel u i.toNat (0+1)).int]])])) (Ar .i64 (i + 1) fun z => A [.i n, .i z, .ro _ qs, .ro _ ps, .i all, .ro Zi sh, .l u, .l l]))))) (K 0 [.l l])
theorem Xkh (W : InW) (n i qs ps all sh u l A K) : Yfc { cxT Try.prog TT T64 1000 50 with fn := 27 } 1000 (Yn8 Try.prog 27 6) (Yd8 46 [(4, .rw 3), (6, .ptr 25 0), (24, .rw 7), (25, .si .i64 n), (26, .si .i64 i)] (rg 7 5 ++ rg 27 18)) [(25, .blk 85 [.ptr 4 0]), (4, .blk 89 [.rs _ qs, .rs _ ps, .si .i64 all, .rs _ sh, .rw 7]), (7, .arr 44 Ja u), (3, .arr 44 Ja l)] (Yug Xgf A K) = Xd3 n i qs ps all sh u l A K := by kernel_rfl
def Xfr : Prop := ∀ (W : InW) (body a : Code), (Try.prog.funcs[27]?).bind (·.body) = some body -> a ∈ Y0 body -> Yfw a = 6 -> @Ymr W Try.prog a (@Yto W Xgf)
theorem Xlv (meas : [InW] -> List Ed -> Nat) (hyp_ : ∀ (W : InW) n i qs ps all sh u l K, Xex [.i n, .i i, .ro _ qs, .ro _ ps, .i all, .ro _ sh, .l u, .l l] K -> ∀ A : List Ed -> Prop, (∀ e, meas e < meas [.i n, .i i, .ro _ qs, .ro _ ps, .i all, .ro _ sh, .l u, .l l] -> Xex e K -> A e) -> Xd3 n i qs ps all sh u l A K) : Xfr :=
 LE.okOf' (fun W => @TT W) (fun W => @Xe W) Xa T64 1000 50 (by kernel_rfl) Xgf (fun W => @meas W) fun W n i qs ps all sh u l K hs =>
  (Xkh W n i qs ps all sh u l (fun e => meas e < meas [.i n, .i i, .ro _ qs, .ro _ ps, .i all, .ro _ sh, .l u, .l l] /\ Xex e K) K).mpr (hyp_ W n i qs ps all sh u l K hs _ fun e h1 h2 => ⟨h1, h2⟩)
theorem Xn3 : Xfr := Xlv (fun e => match e with | .i n :: .i i :: _ => (n - i).toNat | _ => 0) fun W n i qs ps all sh u l K hs A hA => by
 obtain ⟨⟨rfl, h0, h1, hkey, hse, h7, hl⟩, hk⟩ := hs;unfold Xd3;delta Zi;simp only [List.length_cons, List.length_nil, Nat.zero_add, show ∀ k, (cel u k 0).int = Sp.cA u k from fun _ => rfl, show ∀ k, (cel u k 1).int = Sp.cB u k from fun _ => rfl];have ez : (i + 1).toNat = i.toNat + 1 := by omega
 have ei : ((i.toNat : Nat) : Int) = i := Int.toNat_of_nonneg h0
 by_cases hi : i < u.length
 ·rw [show u.length - i.toNat = (u.length - (i.toNat + 1)) + 1 by omega] at hk;simp only [Sp.dcW, ei] at hk;cases c : Sp.anyF (Sp.dcB qs.xs ps.xs all sh.xs u i) 0 (2 ^ u.length) with
  | true =>
   rw [c, if_pos rfl, <- List.append_assoc] at hk;have hA' := hA [.i u.length, .i (i + 1), .ro _ qs, .ro _ ps, .i all, .ro _ sh, .l u, .l (l ++ [[.i (Sp.cA u i.toNat), .i (Sp.cB u i.toNat)]])] (show ((u.length : Int) - (i + 1)).toNat < ((u.length : Int) - i).toNat by omega) ⟨⟨rfl, by omega, by omega, hkey, hse, h7, by simp; omega⟩, by rw [ez]; exact hk⟩;clear hA hk
   repeat' (first | (with_reducible refine Xb ⟨hkey, hse, h7, h0, by omega⟩ ?_) | omega|intro _|with_reducible first|apply vifd|apply vifn|apply vifq|apply Xd|apply Xc|apply vifb|apply vif|apply nedd|apply ned2|apply ned|apply ar64|apply Xb|exact True.intro|assumption|rfl|apply And.intro)
   all_goals first | contradiction | exact hA' | skip
  | false =>
   rw [c, if_neg (by decide), List.nil_append] at hk;have hA' := hA [.i u.length, .i (i + 1), .ro _ qs, .ro _ ps, .i all, .ro _ sh, .l u, .l l] (show ((u.length : Int) - (i + 1)).toNat < ((u.length : Int) - i).toNat by omega) ⟨⟨rfl, by omega, by omega, hkey, hse, h7, by omega⟩, by rw [ez]; exact hk⟩;clear hA hk
   repeat' (first | (with_reducible refine Xb ⟨hkey, hse, h7, h0, by omega⟩ ?_) | omega|intro _|with_reducible first|apply vifd|apply vifn|apply vifq|apply Xd|apply Xc|apply vifb|apply vif|apply nedd|apply ned2|apply ned|apply ar64|apply Xb|exact True.intro|assumption|rfl|apply And.intro)
   all_goals first | contradiction | exact hA' | skip
 ·rw [show u.length - i.toNat = 0 by omega] at hk;simp only [Sp.dcW, List.append_nil] at hk;clear hA
  repeat' (first | omega|intro _|with_reducible first|apply vifd|apply vifn|apply vifq|apply Xd|apply Xc|apply vifb|apply vif|apply nedd|apply ned2|apply ned|apply ar64|apply Xb|exact True.intro|assumption|rfl|apply And.intro)
  all_goals exact hk
def Xov : LE Try.prog := ⟨27, 6, fun W => @Yto W Xgf, Xn3⟩
def T65 : Tab Try.prog := ⟨[], [Xov], [ceOf Xg Xbd]⟩
def Xdk [W : InW] (kQ : Ro Iv5) (kP : Ro Jc) (kA : Int) (sh : Ro Jb) (Q : DS -> Prop) : Prop :=
 Vif (decide (Sp.askE kQ.xs kP.xs kA sh.xs = 0)) (Pre ((↑(List.length (Sp.uns sh.xs)) : Int) = (↑(List.length (Sp.uns sh.xs)) : Int) /\ Zb <= 0 /\ Zb <= (↑(List.length (Sp.uns sh.xs)) : Int) /\ Sp.KeyOk kQ.xs kP.xs kA /\ Sp.SeOk kQ.xs sh.xs (Sp.uns sh.xs) /\ List.length (Sp.uns sh.xs) <= 7 /\ (↑(0 : Nat) : Int) <= 0) (Q [[Cl.l (Sp.dcW kQ.xs kP.xs kA sh.xs (Sp.uns sh.xs) (Int.toNat Zb) (List.length (Sp.uns sh.xs) - Int.toNat Zb))], [Cl.i 0]])) (Vif (!decide (Sp.askE kQ.xs kP.xs kA sh.xs = 0)) (Q [[Cl.l []], [Cl.i (Sp.askE kQ.xs kP.xs kA sh.xs)]]) ((16 : Nat) = 16 + 1))
theorem Xk1 (W : InW) (kQ kP kA sh Q) : Ywx (cxT Try.prog TT T65 1000 50) 1000 27 [.agg [.rs _ kQ, .rs _ kP, .si .i64 kA], .rs _ sh] [] 0 (Y04 [(false, [.row 44 Ja]), (false, [.int .i64])] Q) (fun _ _ _ _ => Stuck 421) = Xdk kQ kP kA sh Q := by kernel_rfl
abbrev Xca : List AT := [.agg [.sl Iv5, .sl Jc, .int .i64], .one (.sl Jb)]
theorem Xmg {pre : DS -> Prop} {res : DS -> DS} (hyp_ : ∀ (W : InW) (kQ : Ro Iv5) (kP : Ro Jc) (kA : Int) (sh : Ro Jb), pre [[.l kQ.xs, .l kP.xs, .i kA], [.l sh.xs]] -> ∀ Q : DS -> Prop, Q (res [[.l kQ.xs, .l kP.xs, .i kA], [.l sh.xs]]) -> Xdk kQ kP kA sh Q) : PureOk Try.prog 27 Xca [(false, [.row 44 Ja]), (false, [.int .i64])] pre res :=
 PureOk.of' (fun W => @TT W) (fun W => @Xe W) Xa T65 1000 50 fun W kQ kP kA sh hp =>
  (Xk1 W kQ kP kA sh (fun o => o = res [[.l kQ.xs, .l kP.xs, .i kA], [.l sh.xs]])).mpr (hyp_ W kQ kP kA sh hp _ rfl)
namespace Sp
theorem withR_map (sh : Dt) (q j : Nat) (v : Int) : ∀ n i, withR sh q j v i n = (List.range' i n).map fun k => [.l (if k = q then (row sh k).set j [.i v] else row sh k)]
 | 0, _ => rfl
 | n + 1, i => by simp only [withR, List.range'_succ, List.map_cons, withR_map sh q j v n (i + 1)]
theorem withD_ext {a b : Dt} {q j q' j' : Nat} {v v' : Int} (hl : a.length = b.length) (h : ∀ k, k < a.length -> (if k = q then (row a k).set j [.i v] else row a k) = (if k = q' then (row b k).set j' [.i v'] else row b k)) : withD a q j v = withD b q' j' v' := by
 unfold withD;rw [withR_map, withR_map, <- hl];refine List.map_congr_left fun k hk => ?_;have := List.mem_range'.1 hk;rw [h k (by omega)]
theorem withD_comm (s : Dt) (p p' : Nat × Nat) (v v' : Int) (hne : p ≠ p') : withD (withD s p.1 p.2 v) p'.1 p'.2 v' = withD (withD s p'.1 p'.2 v') p.1 p.2 v := by
 refine withD_ext (by rw [withD_len, withD_len]) fun k hk => ?_;rw [withD_len] at hk;rw [withD_row _ _ _ _ _ hk, withD_row _ _ _ _ _ hk]
 by_cases c : k = p.1 <;> by_cases c' : k = p'.1
 ·rw [if_pos c, if_pos c', if_pos c', if_pos c];have : p.2 ≠ p'.2 := fun e => hne (Prod.ext (c.symm.trans c') e);exact List.set_comm _ _ this
 ·simp [c, c', if_neg (show ¬ p.1 = p'.1 from fun e => c' (c.trans e))]
 ·simp [c, c', if_neg (show ¬ p'.1 = p.1 from fun e => c (c'.trans e))]
 ·simp [c, c']
theorem withD_same (s : Dt) (q j : Nat) (v v' : Int) : withD (withD s q j v) q j v' = withD s q j v' := by
 refine withD_ext (withD_len _ _ _ _) fun k hk => ?_;rw [withD_len] at hk;rw [withD_row _ _ _ _ _ hk]
 by_cases c : k = q
 ·rw [if_pos c, if_pos c, if_pos c, List.set_set]
 ·rw [if_neg c, if_neg c, if_neg c]
theorem itW_out : ∀ (ps : List (Nat × Nat)) (b : Nat) (s : Dt) (p : Nat × Nat) (v : Int), p ∉ ps -> itW ps b (withD s p.1 p.2 v) = withD (itW ps b s) p.1 p.2 v
 | [], _, _, _, _, _ => rfl
 | p0 :: ps, b, s, p, v, h => by
  have h1 : p ≠ p0 := fun e => h (e ▸ List.mem_cons_self);have h2 : p ∉ ps := fun e => h (List.mem_cons_of_mem _ e);simp only [itW];rw [withD_comm s p p0 v _ h1, itW_out ps (b / 2) _ p v h2]
theorem it_erase : ∀ (us : List (Nat × Nat)) (i b : Nat) (s : Dt) (hi : i < us.length), us.Nodup -> b < 2 ^ us.length -> ∃ b', b' < 2 ^ (us.eraseIdx i).length /\ itW us b s = itW (us.eraseIdx i) b' (withD s us[i].1 us[i].2 ((b / 2 ^ i % 2 : Nat) : Int))
 | [], i, _, _, hi, _, _ => by simp at hi
 | p :: ps, 0, b, s, _, _, hb => by
  rw [List.length_cons, Nat.pow_succ] at hb;refine ⟨b / 2, by simp only [List.eraseIdx_cons_zero]; omega, ?_⟩;simp only [itW, List.eraseIdx_cons_zero, List.getElem_cons_zero, Nat.pow_zero, Nat.div_one]
 | p :: ps, i + 1, b, s, hi, hn, hb => by
  have hn := List.nodup_cons.1 hn;have hi2 : i < ps.length := by simpa using hi
  rw [List.length_cons, Nat.pow_succ] at hb;obtain ⟨c, hc, e⟩ := it_erase ps i (b / 2) (withD s p.1 p.2 ((b % 2 : Nat) : Int)) hi2 hn.2 (by omega);refine ⟨2 * c + b % 2, by simp only [List.eraseIdx_cons_succ, List.length_cons, Nat.pow_succ]; omega, ?_⟩;have hne : ps[i] ≠ p := fun x => hn.1 (x ▸ List.getElem_mem hi2);simp only [itW, List.eraseIdx_cons_succ, List.getElem_cons_succ];rw [e, show (2 * c + b % 2) / 2 = c by omega, show (2 * c + b % 2) % 2 = b % 2 by omega, withD_comm s ps[i] p _ _ hne, Nat.pow_succ, Nat.mul_comm (2 ^ i) 2, <- Nat.div_div_eq_div_mul]
theorem it_insert : ∀ (us : List (Nat × Nat)) (i b' v : Nat) (s : Dt) (hi : i < us.length), us.Nodup -> v < 2 -> b' < 2 ^ (us.eraseIdx i).length -> ∃ b, b < 2 ^ us.length /\ b / 2 ^ i % 2 = v /\ itW us b s = itW (us.eraseIdx i) b' (withD s us[i].1 us[i].2 (v : Int))
 | [], i, _, _, _, hi, _, _, _ => by simp at hi
 | p :: ps, 0, b', v, s, _, _, hv, hb => by
  simp only [List.eraseIdx_cons_zero] at hb;refine ⟨2 * b' + v, by rw [List.length_cons, Nat.pow_succ]; omega, by rw [Nat.pow_zero, Nat.div_one]; omega, ?_⟩;simp only [itW, List.eraseIdx_cons_zero, List.getElem_cons_zero];rw [show (2 * b' + v) / 2 = b' by omega, show (2 * b' + v) % 2 = v by omega]
 | p :: ps, i + 1, b', v, s, hi, hn, hv, hb => by
  have hn := List.nodup_cons.1 hn;have hi2 : i < ps.length := by simpa using hi
  simp only [List.eraseIdx_cons_succ, List.length_cons, Nat.pow_succ] at hb;obtain ⟨c, hc, e1, e2⟩ := it_insert ps i (b' / 2) v (withD s p.1 p.2 ((b' % 2 : Nat) : Int)) hi2 hn.2 hv (by omega);have hne : ps[i] ≠ p := fun x => hn.1 (x ▸ List.getElem_mem hi2);refine ⟨2 * c + b' % 2, by rw [List.length_cons, Nat.pow_succ]; omega, ?_, ?_⟩
  ·rw [Nat.pow_succ, Nat.mul_comm (2 ^ i) 2, <- Nat.div_div_eq_div_mul, show (2 * c + b' % 2) / 2 = c by omega];exact e1
  ·simp only [itW, List.eraseIdx_cons_succ, List.getElem_cons_succ];rw [show (2 * c + b' % 2) / 2 = c by omega, show (2 * c + b' % 2) % 2 = b' % 2 by omega, e2, withD_comm s ps[i] p _ _ hne]
theorem flip_succ (b i : Nat) : flip b (i + 1) / 2 = flip (b / 2) i /\ flip b (i + 1) % 2 = b % 2 := by
 unfold flip;rw [Nat.pow_succ, Nat.mul_comm (2 ^ i) 2, <- Nat.div_div_eq_div_mul];have hx : 1 <= 2 ^ i := Nat.one_le_two_pow;have hle : b / 2 / 2 ^ i % 2 ≠ 0 -> 2 ^ i <= b / 2 := fun h => by
  rcases Nat.lt_or_ge (b / 2) (2 ^ i) with c | c
  ·rw [Nat.div_eq_of_lt c] at h; simp at h
  ·exact c
 generalize 2 ^ i = x at *
 split
 ·omega
 ·rename_i h;have := hle h;omega
theorem it_flip : ∀ (us : List (Nat × Nat)) (i b : Nat) (s : Dt) (hi : i < us.length), us.Nodup -> itW us (flip b i) s = withD (itW us b s) us[i].1 us[i].2 ((1 - b / 2 ^ i % 2 : Nat) : Int)
 | [], i, _, _, hi, _ => by simp at hi
 | p :: ps, 0, b, s, _, hn => by
  have hn := List.nodup_cons.1 hn;have e : flip b 0 / 2 = b / 2 /\ flip b 0 % 2 = 1 - b % 2 := by
   unfold flip;rw [Nat.pow_zero, Nat.div_one]
   split <;> omega
  simp only [itW, List.getElem_cons_zero, Nat.pow_zero, Nat.div_one];rw [e.1, e.2, itW_out ps _ s p _ hn.1, itW_out ps _ s p _ hn.1, withD_same]
 | p :: ps, i + 1, b, s, hi, hn => by
  have hn := List.nodup_cons.1 hn;have hi2 : i < ps.length := by simpa using hi
  obtain ⟨e1, e2⟩ := flip_succ b i;simp only [itW, List.getElem_cons_succ];rw [e1, e2, it_flip ps i (b / 2) _ hi2 hn.2, Nat.pow_succ, Nat.mul_comm (2 ^ i) 2, <- Nat.div_div_eq_div_mul]
theorem filter_erase : ∀ (us : List (Nat × Nat)) (i : Nat) (hi : i < us.length), us.Nodup -> us.filter (fun x => decide (x ≠ us[i])) = us.eraseIdx i
 | [], i, hi, _ => by simp at hi
 | p :: ps, 0, _, hn => by
  have hn := List.nodup_cons.1 hn;simp only [List.getElem_cons_zero, List.eraseIdx_cons_zero];rw [List.filter_cons_of_neg (by simp), filter_ne_tl hn.1]
 | p :: ps, i + 1, hi, hn => by
  have hn := List.nodup_cons.1 hn;have hi2 : i < ps.length := by simpa using hi
  have hne : p ≠ ps[i] := fun x => hn.1 (x ▸ List.getElem_mem hi2);simp only [List.getElem_cons_succ, List.eraseIdx_cons_succ];rw [List.filter_cons_of_pos (by simpa using hne), filter_erase ps i hi2 hn.2]
theorem flip_lt7 : ∀ b : Fin 128, ∀ n : Fin 8, ∀ i : Fin 7, b.val < 2 ^ n.val -> i.val < n.val -> flip b.val i.val < 2 ^ n.val := by decide +kernel
theorem flip_lt {b n i : Nat} (hn : n <= 7) (hb : b < 2 ^ n) (hi : i < n) : flip b i < 2 ^ n :=
 flip_lt7 ⟨b, Nat.lt_of_lt_of_le hb (Nat.le_trans (Nat.pow_le_pow_right (by decide) hn) (by decide))⟩ ⟨n, by omega⟩ ⟨i, by omega⟩ hb hi
theorem dc_any {qs ps sh : Dt} {all : Int} {i : Nat} (hk : KeyOk qs ps all) (hs : ShOk qs sh) (hi : i < (pos sh).length) : anyF (dcB qs ps all sh (uns sh) i) 0 (2 ^ (uns sh).length) = dcV qs ps all sh (pos sh)[i].1 (pos sh)[i].2 := by
 have h7 := hs.seven;rw [uns_len] at h7;have hnd := pos_nd sh;have hps := fun b (hb : b < 2 ^ (pos sh).length) => psW_it (ps := ps) (all := all) hk hs.n h7 hb;have he : pos (withD sh (pos sh)[i].1 (pos sh)[i].2 0) = (pos sh).eraseIdx i := by rw [pos_with (by decide), filter_erase _ _ hi hnd]
 have hd : ∀ b, b < 2 ^ (pos sh).length -> (dcB qs ps all sh (uns sh) i b = true ↔ psS qs ps all (itW (pos sh) b sh) ≠ psS qs ps all (itW (pos sh) (flip b i) sh)) := fun b hb => by
  have h128 : b < 128 := Nat.lt_of_lt_of_le hb (Nat.le_trans (Nat.pow_le_pow_right (by decide) h7) (by decide));unfold dcB;rw [xor_of h128 (by omega), hps b hb, hps _ (flip_lt h7 hb hi)];simp
 refine bool_iff ?_;unfold dcV;rw [anyF_0, uns_len];have hR := any_rds (sh := withD sh (pos sh)[i].1 (pos sh)[i].2 0) fun r => !(psS qs ps all r == psS qs ps all (withD r (pos sh)[i].1 (pos sh)[i].2 1));rw [he] at hR;have hR2 : anyF (dcI qs ps all (rdD (withD sh (pos sh)[i].1 (pos sh)[i].2 0)) (pos sh)[i].1 (pos sh)[i].2) 0 (rdD (withD sh (pos sh)[i].1 (pos sh)[i].2 0)).length = true ↔ _ := anyF_0.trans hR;rw [hR2];simp only [Bool.not_eq_true', beq_eq_false_iff_ne, ne_eq];constructor
 ·rintro ⟨b, hb, h⟩;have h := (hd b hb).1 h;rcases Nat.mod_two_eq_zero_or_one (b / 2 ^ i) with c | c
  ·obtain ⟨b', hb', e⟩ := it_erase _ i b sh hi hnd hb;rw [c] at e;refine ⟨b', hb', fun x => h ?_⟩;rw [it_flip _ i b sh hi hnd, c, e];exact x
  ·have hf := it_flip _ i b sh hi hnd;obtain ⟨b', hb', e⟩ := it_erase _ i (flip b i) sh hi hnd (flip_lt h7 hb hi);have c2 : flip b i / 2 ^ i % 2 = 0 := by
    unfold flip;rw [if_neg (by omega)];have hx : 1 <= 2 ^ i := Nat.one_le_two_pow;have : (b - 2 ^ i) / 2 ^ i = b / 2 ^ i - 1 := by
     have := Nat.sub_mul_div b (2 ^ i) 1;rw [Nat.mul_one] at this;exact this
    rw [this]; omega
   have hb0 := it_flip _ i (flip b i) sh hi hnd;have ff : flip (flip b i) i = b := by
    have h1 : flip b i = b - 2 ^ i := by unfold flip; rw [if_neg (by omega)]
    have hge : 2 ^ i <= b := by
     rcases Nat.lt_or_ge b (2 ^ i) with x | x
     ·rw [Nat.div_eq_of_lt x] at c; simp at c
     ·exact x
    rw [show flip (flip b i) i = flip b i + 2 ^ i from if_pos c2, h1];omega
   rw [ff, c2] at hb0;rw [c2] at e;refine ⟨b', hb', fun x => h ?_⟩;rw [hb0, e];exact x.symm
 ·rintro ⟨b', hb', h⟩;obtain ⟨b, hb, c, e⟩ := it_insert _ i b' 0 sh hi hnd (by decide) hb';refine ⟨b, hb, (hd b hb).2 fun x => h ?_⟩;rw [it_flip _ i b sh hi hnd, c, e] at x;exact x
theorem dcW_L {qs ps sh : Dt} {all : Int} (hk : KeyOk qs ps all) (hs : ShOk qs sh) : ∀ n i, i + n = (uns sh).length -> dcW qs ps all sh (uns sh) i n = dcL qs ps all sh (uns sh) i n
 | 0, _, _ => rfl
 | n + 1, i, hi => by
  have hi2 : i < (pos sh).length := by rw [<- uns_len]; omega
  obtain ⟨c1, c2⟩ := prC_cel (pos sh) i hi2;rw [<- uns_pos] at c1 c2;have c3 : (cel (uns sh) i 0).int = (pos sh)[i].1 := c1;have c4 : (cel (uns sh) i 1).int = (pos sh)[i].2 := c2;simp only [dcW, dcL, c1, c2, c3, c4, Int.toNat_natCast];rw [dc_any hk hs hi2, dcW_L hk hs n (i + 1) (by omega)]
end Sp
theorem Xnc : PureOk Try.prog 27 Xca [(false, [.row 44 Ja]), (false, [.int .i64])] (fun _ => True) Xdc :=
 Xmg fun W qs ps all sh hp Q h => by
  unfold Xdk;delta Zb;simp only [Xdc, Sp.dcA] at h;refine vifd (fun e => ?_) fun e => vifn (fun _ => ?_) fun c => absurd c e
  ·obtain ⟨hk, hs⟩ := Sp.askE_ok e;rw [if_pos e, e] at h;simp only [show Int.toNat 0 = 0 from rfl, Nat.sub_zero];rw [Sp.dcW_L hk hs _ _ (by omega)];exact ⟨⟨trivial, by omega, by omega, hk, hs.se hk, hs.seven, by omega⟩, h⟩
  ·rw [if_neg e] at h; exact h
def Xla : PC Try.prog := ⟨27, Xca, [(false, [.row 44 Ja]), (false, [.int .i64])], fun _ => True, Xdc, Xnc⟩
namespace Sp
def miB (sh u : Dt) (q right : Int) (k : Nat) : Bool := !decide (ansX (rowW sh u q k) = right)
end Sp
def T66 : Tab Try.prog := ⟨[], [], [ceOf Xp Xhl]⟩
def Xel [InW] (e : List Ed) (K : Nat -> List Ed -> Prop) : Prop := match e with
 | [.i n, .i i, .ro _ qs, .ro _ ps, .i all, .ro _ sh, .l u, .i q, .i part, .i boxes, .i right, .i pts, .i minus, .b so, .b al] => Pre (0 <= i /\ i <= n /\ n <= 128 /\ Sp.SeOk qs.xs sh.xs u /\ 0 <= q /\ q < sh.xs.length) (K 0 [.ro _ qs, .ro _ ps, .i all, .ro _ sh, .l u, .i q, .i part, .i boxes, .i right, .i pts, .i minus, .b (so || Sp.anyF (Sp.miB sh.xs u q right) i.toNat (n - i).toNat), .b (al && Sp.allF (Sp.miB sh.xs u q right) i.toNat (n - i).toNat)])
 | _ => False
def Xf3 : LC where
 len := 18
 T := [(0, (.yl 1)), (1, (.ptr 10 0)), (9, .int .i64), (10, .int .i64)]
 H := [(1, .lp LPth [(.opq 1501), (.opq 1504), (.opq 1507), (.opq 1510), (.ptr 13 0), (.ptr 16 0), (.ptr 19 0), (.opq 318), (.opq 321), (.opq 1528), (.opq 327), (.opq 330), (.opq 333), (.opq 336), (.opq 339), (.opq 342), (.opq 345), (.opq 348), (.opq 351), (.opq 354), (.opq 357), (.opq 360), (.opq 1567), (.opq 1570)]), (10, .blk 85 [(.ptr 4 0)]), (4, .blk 89 [.rs Iv5, .rs Jc, .int .i64, .rs Jb, (.row 7)]), (7, .arr 44 Ja), (13, .blk 84 [(.fn (.func 77) [] [(.ptr 25 0), (.ptr 22 0), (.ptr 28 0)])]), (25, .blk 85 [(.ptr 4 0)]), (22, .blk 3 [.int .i64]), (28, .blk 71 [.int .i64, .int .i64, .int .i64, .int .i64, .int .i64]), (16, .blk 4 [.bool]), (19, .blk 4 [.bool])]
 W := ([3] ++ rg 11 7)
 outs := [⟨.exit 0, [], [(1, .lp LPth [(.opq 1501), (.opq 1504), (.opq 1507), (.opq 1510), (.ptr 13 0), (.ptr 16 0), (.ptr 19 0), (.opq 618), (.opq 621), (.opq 1528), (.opq 627), (.opq 630), (.opq 633), (.opq 636), (.opq 639), (.opq 642), (.opq 645), (.opq 648), (.opq 651), (.opq 654), (.opq 657), (.opq 660), (.opq 1567), (.opq 1570)]), (618, .dead), (621, .dead), (627, .dead), (630, .dead), (633, .dead), (636, .dead), (639, .dead), (642, .dead), (645, .dead), (648, .dead), (651, .dead), (654, .dead), (657, .dead), (660, .dead), (10, .blk 85 [(.ptr 4 0)]), (4, .blk 89 [.rs Iv5, .rs Jc, .int .i64, .rs Jb, (.row 7)]), (7, .arr 44 Ja), (13, .blk 84 [(.fn (.func 77) [] [(.ptr 25 0), (.ptr 22 0), (.ptr 28 0)])]), (25, .blk 85 [(.ptr 4 0)]), (22, .blk 3 [.int .i64]), (28, .blk 71 [.int .i64, .int .i64, .int .i64, .int .i64, .int .i64]), (16, .blk 4 [.bool]), (19, .blk 4 [.bool])], ([0, 1, 3] ++ rg 9 9)⟩]
 spec := Xel
def Xdr [W : InW] (n i : Int) (qs : Ro Iv5) (ps : Ro Jc) (all : Int) (sh : Ro Jb) (u : Dt) (q part boxes right pts minus : Int) (so al : Bool) (A : List Ed -> Prop) (K : Nat -> List Ed -> Prop) : Prop :=
 Vif (decide (i < n)) (Pre (0 <= q /\ q < (↑(sh.xs.length) : Int) /\ 0 <= i /\ Sp.UqOk u q (List.length (Sp.row sh.xs q.toNat))) (Vif so (Vif al (Ar .i64 (i + 1) fun z => PreL LPth LPth (A [.i n, .i z, .ro _ qs, .ro _ ps, .i all, .ro Zi sh, .l u, .i q, .i part, .i boxes, .i right, .i pts, .i minus, .b true, .b !decide (Sp.ansX (Sp.rowW sh.xs u q i) = right)])) (Ar .i64 (i + 1) fun z => PreL LPth LPth (A [.i n, .i z, .ro _ qs, .ro _ ps, .i all, .ro Zi sh, .l u, .i q, .i part, .i boxes, .i right, .i pts, .i minus, .b true, .b false]))) (Vif al (Ar .i64 (i + 1) fun z => PreL LPth LPth (A [.i n, .i z, .ro _ qs, .ro _ ps, .i all, .ro Zi sh, .l u, .i q, .i part, .i boxes, .i right, .i pts, .i minus, .b !decide (Sp.ansX (Sp.rowW sh.xs u q i) = right), .b !decide (Sp.ansX (Sp.rowW sh.xs u q i) = right)])) (Ar .i64 (i + 1) fun z => PreL LPth LPth (A [.i n, .i z, .ro _ qs, .ro _ ps, .i all, .ro Zi sh, .l u, .i q, .i part, .i boxes, .i right, .i pts, .i minus, .b !decide (Sp.ansX (Sp.rowW sh.xs u q i) = right), .b false]))))) (PreL LPth LPth (K 0 [.ro _ qs, .ro _ ps, .i all, .ro Zi sh, .l u, .i q, .i part, .i boxes, .i right, .i pts, .i minus, .b so, .b al]))
theorem Xj5 (W : InW) (n i qs ps all sh u q part boxes right pts minus so al A K) : Yfc { cxT Try.prog TT T66 1000 50 with fn := 83 } 1000 (Yn8 Try.prog 83 2) (Yd8 18 [(0, .yl 1), (1, .ptr 10 0), (9, .si .i64 n), (10, .si .i64 i)] ([3] ++ rg 11 7)) [(1, .lp LPth [.opq 1501, .opq 1504, .opq 1507, .opq 1510, .ptr 13 0, .ptr 16 0, .ptr 19 0, .opq 318, .opq 321, .opq 1528, .opq 327, .opq 330, .opq 333, .opq 336, .opq 339, .opq 342, .opq 345, .opq 348, .opq 351, .opq 354, .opq 357, .opq 360, .opq 1567, .opq 1570]), (10, .blk 85 [.ptr 4 0]), (4, .blk 89 [.rs _ qs, .rs _ ps, .si .i64 all, .rs _ sh, .rw 7]), (7, .arr 44 Ja u), (13, .blk 84 [.fn (.func 77) [] [.ptr 25 0, .ptr 22 0, .ptr 28 0]]), (25, .blk 85 [.ptr 4 0]), (22, .blk 3 [.si .i64 q]), (28, .blk 71 [.si .i64 part, .si .i64 boxes, .si .i64 right, .si .i64 pts, .si .i64 minus]), (16, .blk 4 [.sb so]), (19, .blk 4 [.sb al])] (Yug Xf3 A K) = Xdr n i qs ps all sh u q part boxes right pts minus so al A K := by kernel_rfl
def Xff : Prop := ∀ (W : InW) (body a : Code), (Try.prog.funcs[83]?).bind (·.body) = some body -> a ∈ Y0 body -> Yfw a = 2 -> @Ymr W Try.prog a (@Yto W Xf3)
theorem Xlj (meas : [InW] -> List Ed -> Nat) (hyp_ : ∀ (W : InW) n i qs ps all sh u q part boxes right pts minus so al K, Xel [.i n, .i i, .ro _ qs, .ro _ ps, .i all, .ro _ sh, .l u, .i q, .i part, .i boxes, .i right, .i pts, .i minus, .b so, .b al] K -> ∀ A : List Ed -> Prop, (∀ e, meas e < meas [.i n, .i i, .ro _ qs, .ro _ ps, .i all, .ro _ sh, .l u, .i q, .i part, .i boxes, .i right, .i pts, .i minus, .b so, .b al] -> Xel e K -> A e) -> Xdr n i qs ps all sh u q part boxes right pts minus so al A K) : Xff :=
 LE.okOf' (fun W => @TT W) (fun W => @Xe W) Xa T66 1000 50 (by kernel_rfl) Xf3 (fun W => @meas W) fun W n i qs ps all sh u q part boxes right pts minus so al K hs =>
  (Xj5 W n i qs ps all sh u q part boxes right pts minus so al (fun e => meas e < meas [.i n, .i i, .ro _ qs, .ro _ ps, .i all, .ro _ sh, .l u, .i q, .i part, .i boxes, .i right, .i pts, .i minus, .b so, .b al] /\ Xel e K) K).mpr (hyp_ W n i qs ps all sh u q part boxes right pts minus so al K hs _ fun e h1 h2 => ⟨h1, h2⟩)
theorem Xnr : Xff := Xlj (fun e => match e with | .i n :: .i i :: _ => (n - i).toNat | _ => 0) fun W n i qs ps all sh u q part boxes right pts minus so al K hs A hA => by
 obtain ⟨⟨h0, h1, h2, hse, h3, h4⟩, hk⟩ := hs;unfold Xdr;delta Zi;have ez : (i + 1).toNat = i.toNat + 1 := by omega
 have ei : ((i.toNat : Nat) : Int) = i := Int.toNat_of_nonneg h0
 by_cases hi : i < n
 ·have huq := hse.uq q.toNat (by omega);rw [Int.toNat_of_nonneg h3] at huq;rw [show (n - i).toNat = (n - (i + 1)).toNat + 1 by omega] at hk;have hA' : ∀ c d, c = (so || !decide (Sp.ansX (Sp.rowW sh.xs u q i) = right)) -> d = (al && !decide (Sp.ansX (Sp.rowW sh.xs u q i) = right)) -> A [.i n, .i (i + 1), .ro _ qs, .ro _ ps, .i all, .ro _ sh, .l u, .i q, .i part, .i boxes, .i right, .i pts, .i minus, .b c, .b d] := fun c d hc hd => hA _ (show (n - (i + 1)).toNat < (n - i).toNat by omega) ⟨⟨by omega, by omega, h2, hse, h3, h4⟩, by
   simp only [Sp.anyF, Sp.allF, Sp.miB, ei] at hk;rw [ez, hc, hd, Bool.or_assoc, Bool.and_assoc];exact hk⟩
  clear hA hk
  repeat' (first | (with_reducible refine Xb ⟨h3, h4, h0, huq⟩ ?_) | omega|intro _|with_reducible first|apply vifd|apply vifn|apply vifq|apply Xd|apply Xc|apply vifb|apply vif|apply nedd|apply ned2|apply ned|apply ar64|apply Xb|exact True.intro|assumption|rfl|apply And.intro)
  all_goals first | contradiction | (refine ⟨rfl, ?_⟩; refine hA' _ _ ?_ ?_ <;> simp [*]; done) | skip
 ·rw [show (n - i).toNat = 0 by omega] at hk;simp only [Sp.allF, Sp.anyF, Bool.and_true, Bool.or_false] at hk;clear hA
  repeat' (first | omega|intro _|with_reducible first|apply vifd|apply vifn|apply vifq|apply Xd|apply Xc|apply vifb|apply vif|apply nedd|apply ned2|apply ned|apply ar64|apply Xb|exact True.intro|assumption|rfl|apply And.intro)
  all_goals exact ⟨rfl, hk⟩
def Xoj : LE Try.prog := ⟨83, 2, fun W => @Yto W Xf3, Xnr⟩
def T67 : Tab Try.prog := ⟨[], [Xoj], []⟩
def Xgv [InW] (e : List Ed) (K : Nat -> List Ed -> Prop) : Prop := match e with
 | [.ro _ qs, .ro _ ps, .i all, .ro _ sh, .l u, .i q, .i part, .i boxes, .i right, .i pts, .i minus] => Pre (Sp.SeOk qs.xs sh.xs u /\ u.length <= 7 /\ 0 <= q /\ q < sh.xs.length) (K 0 [.b (Sp.anyF (Sp.miB sh.xs u q right) 0 (2 ^ u.length)), .b (Sp.allF (Sp.miB sh.xs u q right) 0 (2 ^ u.length)), .ro _ qs, .ro _ ps, .i all, .ro _ sh, .l u, .i q, .i part, .i boxes, .i right, .i pts, .i minus])
 | _ => False
def Xj : CC where
 g := 60
 args := [(.fn (.func 83) [] [(.ptr 10 0)]), (.fn (.func 77) [] [(.ptr 25 0), (.ptr 22 0), (.ptr 28 0)])]
 H := [(10, .blk 85 [(.ptr 4 0)]), (4, .blk 89 [.rs Iv5, .rs Jc, .int .i64, .rs Jb, (.row 7)]), (7, .arr 44 Ja), (25, .blk 85 [(.ptr 4 0)]), (22, .blk 3 [.int .i64]), (28, .blk 71 [.int .i64, .int .i64, .int .i64, .int .i64, .int .i64])]
 outs := [⟨false, .tup [.bool, .bool], [(10, .blk 85 [(.ptr 4 0)]), (4, .blk 89 [.rs Iv5, .rs Jc, .int .i64, .rs Jb, (.row 7)]), (7, .arr 44 Ja), (25, .blk 85 [(.ptr 4 0)]), (22, .blk 3 [.int .i64]), (28, .blk 71 [.int .i64, .int .i64, .int .i64, .int .i64, .int .i64])], false⟩]
 spec := Xgv
def Xcn [W : InW] (qs : Ro Iv5) (ps : Ro Jc) (all : Int) (sh : Ro Jb) (u : Dt) (q part boxes right pts minus : Int) (K : Nat -> List Ed -> Prop) : Prop :=
 Need (decide ((0 : Int) <= (↑(u.length) : Int))) (Ar .i64 ((1 : Int) * 2 ^ min (↑(u.length) : Int).toNat (64 : Nat)) fun z => PreL LPth LPth (Pre ((0 : Int) <= 0 /\ 0 <= z /\ z <= 128 /\ Sp.SeOk qs.xs sh.xs u /\ 0 <= q /\ q < (↑(sh.xs.length) : Int)) (K 0 [.b (false || Sp.anyF (Sp.miB sh.xs u q right) Za (z - 0).toNat), .b (true && Sp.allF (Sp.miB sh.xs u q right) Za (z - 0).toNat), .ro _ qs, .ro _ ps, .i all, .ro Zi sh, .l u, .i q, .i part, .i boxes, .i right, .i pts, .i minus])))
theorem Xh7 (W : InW) (qs ps all sh u q part boxes right pts minus K) : Ywu (cxT Try.prog TT T67 1000 50) 1000 60 [.fn (.func 83) [] [.ptr 10 0], .fn (.func 77) [] [.ptr 25 0, .ptr 22 0, .ptr 28 0]] [(10, .blk 85 [.ptr 4 0]), (4, .blk 89 [.rs _ qs, .rs _ ps, .si .i64 all, .rs _ sh, .rw 7]), (7, .arr 44 Ja u), (25, .blk 85 [.ptr 4 0]), (22, .blk 3 [.si .i64 q]), (28, .blk 71 [.si .i64 part, .si .i64 boxes, .si .i64 right, .si .i64 pts, .si .i64 minus])] (fun v h => outC Xj.H [.ro _ qs, .ro _ ps, .i all, .ro _ sh, .l u, .i q, .i part, .i boxes, .i right, .i pts, .i minus] Xj.outs 0 false v h K) (fun v h => outC Xj.H [.ro _ qs, .ro _ ps, .i all, .ro _ sh, .l u, .i q, .i part, .i boxes, .i right, .i pts, .i minus] Xj.outs 0 true v h K) = Xcn qs ps all sh u q part boxes right pts minus K := by kernel_rfl
theorem Xi3 (hyp_ : ∀ (W : InW) qs ps all sh u q part boxes right pts minus K, Xgv [.ro _ qs, .ro _ ps, .i all, .ro _ sh, .l u, .i q, .i part, .i boxes, .i right, .i pts, .i minus] K -> Xcn qs ps all sh u q part boxes right pts minus K) : ∀ W : InW, @CallC W Try.prog Xj :=
 CC.okOf (fun W => @TT W) (fun W => @Xe W) Xa T67 1000 50 Xj fun W qs ps all sh u q part boxes right pts minus K hs => (Xh7 W qs ps all sh u q part boxes right pts minus K).mpr (hyp_ W qs ps all sh u q part boxes right pts minus K hs)
theorem Xmm : ∀ W : InW, @CallC W Try.prog Xj := Xi3 fun W qs ps all sh u q part boxes right pts minus K hs => by
 obtain ⟨⟨hse, h7, h3, h4⟩, hk⟩ := hs;unfold Xcn;delta Za Zi Zb;obtain ⟨p1, p2, p3⟩ := Xn h7;rw [p1];simp only [show Int.toNat 0 = 0 from rfl, Int.sub_zero, Bool.true_and, Bool.false_or];refine nedd (by omega) (ar64 (by omega) ⟨rfl, ⟨by omega, by omega, by omega, hse, h3, h4⟩, ?_⟩);rw [Int.toNat_natCast];exact hk
def T68 : Tab Try.prog := ⟨[Xg7], [], [ceOf Xj Xmm]⟩
namespace Sp
def miAny (sh u : Dt) (q right : Int) : Bool := anyF (miB sh u q right) 0 (2 ^ u.length)
def miAll (sh u : Dt) (q right : Int) : Bool := allF (miB sh u q right) 0 (2 ^ u.length)
def mAddW (qs sh u l : Dt) (j : Nat) : Dt := if miAll sh u j (qRight qs j) = true then l.set j [.i ((cel l j 0).int + 1), .i ((cel l j 1).int + 1)] else if miAny sh u j (qRight qs j) = true then l.set j [.i (cel l j 0).int, .i ((cel l j 1).int + 1)] else l
def addQW (qs sh u : Dt) : Nat -> Nat -> Dt -> Dt
 | _, 0, l => l
 | j, n + 1, l => addQW qs sh u (j + 1) n (mAddW qs sh u l j)
end Sp
def Xev [InW] (e : List Ed) (K : Nat -> List Ed -> Prop) : Prop := match e with
 | [.i i, .ro _ qz, .i n, .i j, .ro _ qs, .ro _ ps, .i all, .ro _ sh, .l u, .l l] => Pre (n = qz.xs.length /\ 0 <= j /\ j <= n /\ l.length = qz.xs.length /\ sh.xs.length = qz.xs.length /\ Sp.SeOk qs.xs sh.xs u /\ u.length <= 7 /\ l.length <= 12 /\ 0 <= i /\ i <= 20 /\ Sp.CntAt l i j) (K 0 [.i i, .l (Sp.addQW qz.xs sh.xs u j.toNat (qz.xs.length - j.toNat) l)])
 | _ => False
def Xgd : LC where
 len := 89
 T := [(4, (.row 3)), (8, (.ptr 25 0)), (30, .int .i64), (44, .rs Iv5), (45, .int .i64), (46, .int .i64)]
 H := [(25, .blk 85 [(.ptr 4 0)]), (4, .blk 89 [.rs Iv5, .rs Jc, .int .i64, .rs Jb, (.row 7)]), (7, .arr 44 Ja), (3, .arr 80 Ja)]
 W := ([10, 11] ++ rg 47 40)
 outs := [⟨.exit 2, [(4, (.row 6)), (30, .int .i64)], [(6, .arr 80 Ja)], ([8, 10, 11] ++ rg 44 43)⟩]
 spec := Xev
def Zm := (0 : Nat)
def Zl [W : InW] (j : Int) (l : Dt) := decide (0 <= j) && decide (j < (↑(l.length) : Int))
def Zn [W : InW] (j : Int) (l : Dt) := List.getD l j.toNat []
def Xd1 [W : InW] (i : Int) (qz : Ro Iv5) (n j : Int) (qs : Ro Iv5) (ps : Ro Jc) (all : Int) (sh : Ro Jb) (u l : Dt) (A : List Ed -> Prop) (K : Nat -> List Ed -> Prop) : Prop :=
 Vif (decide (j < n)) (Need (decide (0 <= j) && decide (j < (↑(qz.xs.length) : Int))) (Need (decide (j.toNat < qz.xs.length)) (Pre (Sp.SeOk qs.xs sh.xs u /\ u.length <= 7 /\ 0 <= j /\ j < (↑(sh.xs.length) : Int)) (Pre True (Vif (decide (Sp.ocB (Sp.anyF (Sp.miB sh.xs u j (cel qz.xs j.toNat (Zm + 1 + 1)).int) Zm ((2 : Nat) ^ u.length)) (Sp.allF (Sp.miB sh.xs u j (cel qz.xs j.toNat (Zm + 1 + 1)).int) Zm ((2 : Nat) ^ u.length)) = 1)) (Need (Zl j l) (Need (decide (j.toNat < l.length)) (Ar .i64 ((cel l j.toNat Zm).int + 1) fun z => Need (Zl j l) (Need (decide (j.toNat < l.length)) (Need (decide (0 <= j) && decide (j < (↑(List.set l j.toNat (Ynm (Zn j l) Zm [Cl.i z])).length : Int))) (Need (decide (j.toNat < (List.set l j.toNat (Ynm (Zn j l) Zm [Cl.i z])).length)) (Ar .i64 ((cel (List.set l j.toNat (Ynm (Zn j l) Zm [Cl.i z])) j.toNat (0+1)).int + 1) fun z_1 => Need (decide (0 <= j) && decide (j < (↑(List.set l j.toNat (Ynm (Zn j l) Zm [Cl.i z])).length : Int))) (Need (decide (j.toNat < (List.set l j.toNat (Ynm (Zn j l) Zm [Cl.i z])).length)) (Ar .i64 (j + 1) fun z_2 => A [.i i, .ro _ qz, .i n, .i z_2, .ro _ qs, .ro _ ps, .i all, .ro Zi sh, .l u, .l ((List.set l j.toNat (Ynm (Zn j l) Zm [Cl.i z])).set j.toNat (Ynm ((List.set l j.toNat (Ynm (Zn j l) Zm [Cl.i z])).getD j.toNat []) (0+1) [Cl.i z_1]))]))))))))) (Vif (decide (Sp.ocB (Sp.anyF (Sp.miB sh.xs u j (cel qz.xs j.toNat (Zm + 1 + 1)).int) Zm ((2 : Nat) ^ u.length)) (Sp.allF (Sp.miB sh.xs u j (cel qz.xs j.toNat (Zm + 1 + 1)).int) Zm ((2 : Nat) ^ u.length)) = 2)) (Need (Zl j l) (Need (decide (j.toNat < l.length)) (Ar .i64 ((cel l j.toNat (0+1)).int + 1) fun z => Need (Zl j l) (Need (decide (j.toNat < l.length)) (Ar .i64 (j + 1) fun z_1 => A [.i i, .ro _ qz, .i n, .i z_1, .ro _ qs, .ro _ ps, .i all, .ro Zi sh, .l u, .l (List.set l j.toNat (Ynm (Zn j l) (0+1) [Cl.i z]))]))))) (Ar .i64 (j + 1) fun z => A [.i i, .ro _ qz, .i n, .i z, .ro _ qs, .ro _ ps, .i all, .ro Zi sh, .l u, .l l]))))))) (K 0 [.i i, .l l])
theorem Xkf (W : InW) (i qz n j qs ps all sh u l A K) : Yfc { cxT Try.prog TT T68 1000 50 with fn := 35 } 1000 (Yn8 Try.prog 35 15) (Yd8 89 [(4, .rw 3), (8, .ptr 25 0), (30, .si .i64 i), (44, .rs _ qz), (45, .si .i64 n), (46, .si .i64 j)] ([10, 11] ++ rg 47 40)) [(25, .blk 85 [.ptr 4 0]), (4, .blk 89 [.rs _ qs, .rs _ ps, .si .i64 all, .rs _ sh, .rw 7]), (7, .arr 44 Ja u), (3, .arr 80 Ja l)] (Yug Xgd A K) = Xd1 i qz n j qs ps all sh u l A K := by kernel_rfl
def Xfp : Prop := ∀ (W : InW) (body a : Code), (Try.prog.funcs[35]?).bind (·.body) = some body -> a ∈ Y0 body -> Yfw a = 15 -> @Ymr W Try.prog a (@Yto W Xgd)
theorem Xlt (meas : [InW] -> List Ed -> Nat) (hyp_ : ∀ (W : InW) i qz n j qs ps all sh u l K, Xev [.i i, .ro _ qz, .i n, .i j, .ro _ qs, .ro _ ps, .i all, .ro _ sh, .l u, .l l] K -> ∀ A : List Ed -> Prop, (∀ e, meas e < meas [.i i, .ro _ qz, .i n, .i j, .ro _ qs, .ro _ ps, .i all, .ro _ sh, .l u, .l l] -> Xev e K -> A e) -> Xd1 i qz n j qs ps all sh u l A K) : Xfp :=
 LE.okOf' (fun W => @TT W) (fun W => @Xe W) Xa T68 1000 50 (by kernel_rfl) Xgd (fun W => @meas W) fun W i qz n j qs ps all sh u l K hs =>
  (Xkf W i qz n j qs ps all sh u l (fun e => meas e < meas [.i i, .ro _ qz, .i n, .i j, .ro _ qs, .ro _ ps, .i all, .ro _ sh, .l u, .l l] /\ Xev e K) K).mpr (hyp_ W i qz n j qs ps all sh u l K hs _ fun e h1 h2 => ⟨h1, h2⟩)
theorem Xn1 : Xfp := Xlt (fun e => match e with | _ :: _ :: .i n :: .i j :: _ => (n - j).toNat | _ => 0) fun W i qz n j qs ps all sh u l K hs A hA => by
 obtain ⟨⟨rfl, h2, h3, h4, hsl, hse, h7, h12, hi0, hi20, hc⟩, hk⟩ := hs;unfold Xd1;delta Zi Zn Zl Zm;have ez : (j + 1).toNat = j.toNat + 1 := by omega
 have ej : ((j.toNat : Nat) : Int) = j := Int.toNat_of_nonneg h2
 by_cases hj : j < qz.xs.length
 ·have hj2 : j.toNat < l.length := by omega
  obtain ⟨x, y, hg, b1, b2, b3, b4⟩ := hc.ok j.toNat hj2;rw [if_neg (by omega)] at b2 b4;have c0 : cel l j.toNat 0 = .i x := by unfold cel; rw [hg]; rfl
  have c1 : cel l j.toNat 1 = .i y := by unfold cel; rw [hg]; rfl
  rw [show qz.xs.length - j.toNat = (qz.xs.length - (j.toNat + 1)) + 1 by omega] at hk;simp only [Sp.addQW, Sp.mAddW, c0, c1, ej, show ∀ a, (Cl.i a).int = a from fun _ => rfl] at hk;have hnx := fun dx dy => Sp.CntAt.next (m := i) (dx := dx) (dy := dy) (by rw [ej]; exact hc) hj2 hg
  rw [ej] at hnx;have hs2 : l.set j.toNat [.i x, .i y] = l := by
   rw [<- hg, List.getD_eq_getElem?_getD, List.getElem?_eq_getElem hj2];exact List.set_getElem_self hj2
  have hA' : ∀ dx dy l', (dx = 0 \/ dx = 1) -> (dy = 0 \/ dy = 1) -> l' = l.set j.toNat [.i (x + dx), .i (y + dy)] -> K 0 [.i i, .l (Sp.addQW qz.xs sh.xs u (j.toNat + 1) (qz.xs.length - (j.toNat + 1)) l')] -> A [.i i, .ro _ qz, .i qz.xs.length, .i (j + 1), .ro _ qs, .ro _ ps, .i all, .ro _ sh, .l u, .l l'] := fun dx dy l' hx hy e hk => by
   subst e;exact hA _ (show ((qz.xs.length : Int) - (j + 1)).toNat < ((qz.xs.length : Int) - j).toNat by omega) ⟨⟨rfl, by omega, by omega, by rw [List.length_set]; exact h4, hsl, hse, h7, by rw [List.length_set]; exact h12, hi0, hi20, hnx dx dy hx hy⟩, by rw [ez]; exact hk⟩
  clear hA hnx;simp only [Nat.zero_add, Nat.reduceAdd, show (cel qz.xs j.toNat 2).int = Sp.qRight qz.xs j.toNat from rfl, hg, c0, c1, show ∀ a, (Cl.i a).int = a from fun _ => rfl, Sp.cel_set hj2, Sp.set_getD hj2, List.set_set, List.length_set, show ∀ a b c : Cl, Ynm [a, b] 0 [c] = [c, b] from fun _ _ _ => rfl, show ∀ a b c : Cl, Ynm [a, b] 1 [c] = [a, c] from fun _ _ _ => rfl, show ∀ (a b : Cl), List.getD [a, b] 1 Cl.z = b from fun _ _ => rfl, show ∀ r, Sp.anyF (Sp.miB sh.xs u j r) 0 (2 ^ u.length) = Sp.miAny sh.xs u j r from fun _ => rfl, show ∀ r, Sp.allF (Sp.miB sh.xs u j r) 0 (2 ^ u.length) = Sp.miAll sh.xs u j r from fun _ => rfl];cases m1 : Sp.miAll sh.xs u j (Sp.qRight qz.xs j.toNat) <;> cases m2 : Sp.miAny sh.xs u j (Sp.qRight qz.xs j.toNat) <;> simp only [m1, m2, if_true, if_false, Bool.false_eq_true, Sp.ocB] at hk ⊢
  ·have hA1 := hA' 0 0 l (.inl rfl) (.inl rfl) (by rw [Int.add_zero, Int.add_zero, hs2]) hk;clear hA' hk
   repeat' (first | (with_reducible refine Xb ⟨hse, h7, h2, by omega⟩ ?_) | (with_reducible refine Xb trivial ?_) | omega|intro _|with_reducible first|apply vifd|apply vifn|apply vifq|apply Xd|apply Xc|apply vifb|apply vif|apply nedd|apply ned2|apply ned|apply ar64|apply Xb|exact True.intro|assumption|rfl|apply And.intro)
   all_goals first | contradiction | exact hA1 | skip
  ·have hA1 := hA' 0 1 _ (.inl rfl) (.inr rfl) (by rw [Int.add_zero]) hk;clear hA' hk
   repeat' (first | (with_reducible refine Xb ⟨hse, h7, h2, by omega⟩ ?_) | (with_reducible refine Xb trivial ?_) | omega|intro _|with_reducible first|apply vifd|apply vifn|apply vifq|apply Xd|apply Xc|apply vifb|apply vif|apply nedd|apply ned2|apply ned|apply ar64|apply Xb|exact True.intro|assumption|rfl|apply And.intro)
   all_goals first | contradiction | exact hA1 | skip
  ·have hA1 := hA' 1 1 _ (.inr rfl) (.inr rfl) rfl hk;clear hA' hk
   repeat' (first | (with_reducible refine Xb ⟨hse, h7, h2, by omega⟩ ?_) | (with_reducible refine Xb trivial ?_) | omega|intro _|with_reducible first|apply vifd|apply vifn|apply vifq|apply Xd|apply Xc|apply vifb|apply vif|apply nedd|apply ned2|apply ned|apply ar64|apply Xb|exact True.intro|assumption|rfl|apply And.intro)
   all_goals first | contradiction | exact hA1 | skip
  ·have hA1 := hA' 1 1 _ (.inr rfl) (.inr rfl) rfl hk;clear hA' hk
   repeat' (first | (with_reducible refine Xb ⟨hse, h7, h2, by omega⟩ ?_) | (with_reducible refine Xb trivial ?_) | omega|intro _|with_reducible first|apply vifd|apply vifn|apply vifq|apply Xd|apply Xc|apply vifb|apply vif|apply nedd|apply ned2|apply ned|apply ar64|apply Xb|exact True.intro|assumption|rfl|apply And.intro)
   all_goals first | contradiction | exact hA1 | skip
 ·rw [show qz.xs.length - j.toNat = 0 by omega] at hk;simp only [Sp.addQW] at hk;clear hA
  repeat' (first | omega|intro _|with_reducible first|apply vifd|apply vifn|apply vifq|apply Xd|apply Xc|apply vifb|apply vif|apply nedd|apply ned2|apply ned|apply ar64|apply Xb|exact True.intro|assumption|rfl|apply And.intro)
  all_goals exact hk
def Xot : LE Try.prog := ⟨35, 15, fun W => @Yto W Xgd, Xn1⟩
def T69 : Tab Try.prog := ⟨[], [Xot], [ceOf Xu Xjy]⟩
namespace Sp
def addPW (qs pp : Dt) : Nat -> Nat -> Dt -> Dt
 | _, 0, l => l
 | i, n + 1, l => addPW qs pp (i + 1) n (addQW qs (row pp i) (uns (row pp i)) 0 qs.length l)
end Sp
def Xew [InW] (e : List Ed) (K : Nat -> List Ed -> Prop) : Prop := match e with
 | [.ro _ pp, .i n, .i i, .ro _ qs, .ro _ ps, .i all, .l l] => Pre (n = pp.xs.length /\ 0 <= i /\ i <= n /\ n <= 20 /\ Sp.KeyOk qs.xs ps.xs all /\ l.length = qs.xs.length /\ Sp.CntAt l i 0) (Vif (Sp.hasE (Sp.shI qs.xs pp.xs) i.toNat (pp.xs.length - i.toNat)) (K 1 [.i (Sp.shI qs.xs pp.xs (Sp.idxE (Sp.shI qs.xs pp.xs) i.toNat (pp.xs.length - i.toNat)))]) (K 0 [.l (Sp.addPW qs.xs pp.xs i.toNat (pp.xs.length - i.toNat) l)]))
 | _ => False
def Xge : LC where
 len := 89
 T := [(2, (.ptr 1 0)), (4, (.row 3)), (28, .rs [.sl Jb]), (29, .int .i64), (30, .int .i64)]
 H := [(1, .blk 25 [.rs Iv5, .rs Jc, .int .i64]), (3, .arr 80 Ja)]
 W := ([5] ++ rg 7 5 ++ rg 31 57)
 outs := [⟨.exit 0, [(4, (.row 6))], [(6, .arr 80 Ja)], ([2, 5] ++ rg 7 5 ++ rg 28 60)⟩, ⟨.ret, [(4, (.lit (.slice none 0 0))), (5, .int .i64)], [], ([2] ++ rg 7 5 ++ rg 28 60)⟩]
 spec := Xew
def Xd2 [W : InW] (pp : Ro [.sl Jb]) (n i : Int) (qs : Ro Iv5) (ps : Ro Jc) (all : Int) (l : Dt) (A : List Ed -> Prop) (K : Nat -> List Ed -> Prop) : Prop :=
 Vif (decide (i < n)) (Need (decide (0 <= i) && decide (i < (↑(pp.xs.length) : Int))) (Need (decide (i.toNat < pp.xs.length)) (Pre (Sp.KeyOk qs.xs ps.xs all) (Vif (decide (Sp.shE qs.xs (cel pp.xs i.toNat Zm).lst = 0)) (Pre ((↑(qs.xs.length) : Int) = (↑(qs.xs.length) : Int) /\ Zb <= 0 /\ Zb <= (↑(qs.xs.length) : Int) /\ l.length = qs.xs.length /\ List.length (cel pp.xs i.toNat Zm).lst = qs.xs.length /\ Sp.SeOk qs.xs (cel pp.xs i.toNat Zm).lst (Sp.uns (cel pp.xs i.toNat Zm).lst) /\ List.length (Sp.uns (cel pp.xs i.toNat Zm).lst) <= 7 /\ l.length <= 12 /\ 0 <= i /\ i <= 20 /\ Sp.CntAt l i Zb) (Ar .i64 (i + 1) fun z => A [.ro [Ty.sl Zi] pp, .i n, .i z, .ro _ qs, .ro _ ps, .i all, .l (Sp.addQW qs.xs (cel pp.xs i.toNat Zm).lst (Sp.uns (cel pp.xs i.toNat Zm).lst) (Int.toNat Zb) (qs.xs.length - Int.toNat Zb) l)])) (Vif (!decide (Sp.shE qs.xs (cel pp.xs i.toNat Zm).lst = 0)) (K (0+1) [.i (Sp.shE qs.xs (cel pp.xs i.toNat Zm).lst)]) ((435 : Nat) = 435 + 1)))))) (K 0 [.l l])
theorem Xkg (W : InW) (pp n i qs ps all l A K) : Yfc { cxT Try.prog TT T69 1000 50 with fn := 35 } 1000 (Yn8 Try.prog 35 9) (Yd8 89 [(2, .ptr 1 0), (4, .rw 3), (28, .rs _ pp), (29, .si .i64 n), (30, .si .i64 i)] ([5] ++ rg 7 5 ++ rg 31 57)) [(1, .blk 25 [.rs _ qs, .rs _ ps, .si .i64 all]), (3, .arr 80 Ja l)] (Yug Xge A K) = Xd2 pp n i qs ps all l A K := by kernel_rfl
def Xfq : Prop := ∀ (W : InW) (body a : Code), (Try.prog.funcs[35]?).bind (·.body) = some body -> a ∈ Y0 body -> Yfw a = 9 -> @Ymr W Try.prog a (@Yto W Xge)
theorem Xlu (meas : [InW] -> List Ed -> Nat) (hyp_ : ∀ (W : InW) pp n i qs ps all l K, Xew [.ro _ pp, .i n, .i i, .ro _ qs, .ro _ ps, .i all, .l l] K -> ∀ A : List Ed -> Prop, (∀ e, meas e < meas [.ro _ pp, .i n, .i i, .ro _ qs, .ro _ ps, .i all, .l l] -> Xew e K -> A e) -> Xd2 pp n i qs ps all l A K) : Xfq :=
 LE.okOf' (fun W => @TT W) (fun W => @Xe W) Xa T69 1000 50 (by kernel_rfl) Xge (fun W => @meas W) fun W pp n i qs ps all l K hs =>
  (Xkg W pp n i qs ps all l (fun e => meas e < meas [.ro _ pp, .i n, .i i, .ro _ qs, .ro _ ps, .i all, .l l] /\ Xew e K) K).mpr (hyp_ W pp n i qs ps all l K hs _ fun e h1 h2 => ⟨h1, h2⟩)
theorem Xbp (qs sh u : Dt) : ∀ n j l, (Sp.addQW qs sh u j n l).length = l.length
 | 0, _, _ => rfl
 | n + 1, j, l => by
  simp only [Sp.addQW, Xbp qs sh u n];unfold Sp.mAddW
  split
  ·simp
  ·split <;> simp
theorem Xho {qs sh u : Dt} {m : Int} : ∀ n j l, Sp.CntAt l m (j : Nat) -> j + n = l.length -> Sp.CntAt (Sp.addQW qs sh u j n l) m (l.length : Nat)
 | 0, j, l, h, e => by rw [<- e]; exact h
 | n + 1, j, l, h, e => by
  have hj : j < l.length := by omega
  obtain ⟨x, y, hg, _⟩ := h.ok j hj;have c0 : cel l j 0 = .i x := by unfold cel; rw [hg]; rfl
  have c1 : cel l j 1 = .i y := by unfold cel; rw [hg]; rfl
  have hs2 : l.set j [.i x, .i y] = l := by
   rw [<- hg, List.getD_eq_getElem?_getD, List.getElem?_eq_getElem hj];exact List.set_getElem_self hj
  have hl : (Sp.mAddW qs sh u l j).length = l.length := by unfold Sp.mAddW; (repeat' split) <;> simp
  have := Xho (qs := qs) (sh := sh) (u := u) n (j + 1) (Sp.mAddW qs sh u l j) (by
   unfold Sp.mAddW;rw [c0, c1]
   split
   ·exact h.next hj hg (.inr rfl) (.inr rfl)
   ·split
    ·have := h.next (dx := 0) (dy := 1) hj hg (.inl rfl) (.inr rfl)
     rw [Int.add_zero] at this;exact this
    ·have := h.next (dx := 0) (dy := 0) hj hg (.inl rfl) (.inl rfl)
     rw [Int.add_zero, Int.add_zero, hs2] at this;exact this) (by omega)
  rw [hl] at this;exact this
theorem Xn2 : Xfq := Xlu (fun e => match e with | _ :: .i n :: .i i :: _ => (n - i).toNat | _ => 0) fun W pp n i qs ps all l K hs A hA => by
 obtain ⟨⟨rfl, h0, h1, h20, hkey, hl, hc⟩, hk⟩ := hs;unfold Xd2;delta Zm Zb Zi;have n2 := hkey.n2;have ez : (i + 1).toNat = i.toNat + 1 := by omega
 simp only [show Int.toNat 0 = 0 from rfl, Nat.sub_zero, show (cel pp.xs i.toNat 0).lst = Sp.row pp.xs i.toNat from rfl]
 by_cases hi : i < pp.xs.length
 ·rw [show pp.xs.length - i.toNat = (pp.xs.length - (i.toNat + 1)) + 1 by omega] at hk;obtain ⟨g1, g2⟩ := Xc3 (K1 := fun _ e => K 1 [.i e]) hk;simp only [Sp.addPW] at g2;have g1 : Sp.shE qs.xs (Sp.row pp.xs i.toNat) ≠ 0 -> K 1 [.i (Sp.shE qs.xs (Sp.row pp.xs i.toNat))] := g1;have g2 : Sp.shE qs.xs (Sp.row pp.xs i.toNat) = 0 -> _ := g2;clear hk;refine vifd (fun _ => ned (by simp; omega) (nedd (by omega) ⟨hkey, vifd (fun e => ?_) fun e => vifn (fun _ => g1 e) fun c => absurd c e⟩)) fun c => absurd hi c;have hs := Sp.shE_iff.1 e;have hgo := Xho (qs := qs.xs) (sh := Sp.row pp.xs i.toNat) (u := Sp.uns (Sp.row pp.xs i.toNat)) l.length 0 l hc (by omega);have hll := Xbp qs.xs (Sp.row pp.xs i.toNat) (Sp.uns (Sp.row pp.xs i.toNat)) l.length 0 l;rw [show ((l.length : Nat) : Int) = ((Sp.addQW qs.xs (Sp.row pp.xs i.toNat) (Sp.uns (Sp.row pp.xs i.toNat)) 0 l.length l).length : Nat) by rw [hll]] at hgo;refine ⟨⟨trivial, by omega, by omega, hl, hs.n, hs.se hkey, hs.seven, by omega, h0, by omega, hc⟩, ar64 (by omega) (hA _ (show ((pp.xs.length : Int) - (i + 1)).toNat < ((pp.xs.length : Int) - i).toNat by omega) ⟨⟨rfl, by omega, by omega, h20, hkey, by rw [Xbp]; exact hl, ?_⟩, ?_⟩)⟩
  ·rw [<- hl]; exact hgo.up
  ·rw [ez]; exact g2 e
 ·rw [show pp.xs.length - i.toNat = 0 by omega] at hk;clear hA;exact vifd (fun c => absurd c hi) fun _ => hk.2 rfl
def Xou : LE Try.prog := ⟨35, 9, fun W => @Yto W Xge, Xn2⟩
def T70 : Tab Try.prog := ⟨[Xbc], [Xou], []⟩
def Zo [W : InW] (kQ : Ro Iv5) := List.replicate (↑(kQ.xs.length) : Int).toNat (Ybr [.int .i64, .int .i64])
def Xdj [W : InW] (kQ : Ro Iv5) (kP : Ro Jc) (kA : Int) (pp : Ro [.sl Jb]) (Q : DS -> Prop) : Prop :=
 Pre True (Vif (!decide (Sp.chkE kQ.xs kP.xs kA = 0)) (Q [[Cl.l []], [Cl.i (Sp.chkE kQ.xs kP.xs kA)]]) (Vif (decide ((20 : Int) < (↑(pp.xs.length) : Int))) (Q [[Cl.l []], [Cl.i 3]]) (Need (decide ((↑(kQ.xs.length) : Int) = (↑(kQ.xs.length) : Int)) && decide (Zb <= (↑(kQ.xs.length) : Int)) && decide ((16 : Nat) * (↑(kQ.xs.length) : Int).toNat <= 281474976710656)) (Pre ((↑(pp.xs.length) : Int) = (↑(pp.xs.length) : Int) /\ Zb <= 0 /\ Zb <= (↑(pp.xs.length) : Int) /\ (↑(pp.xs.length) : Int) <= 20 /\ Sp.KeyOk kQ.xs kP.xs kA /\ (Zo kQ).length = kQ.xs.length /\ Sp.CntAt (Zo kQ) Zb Zb) (Vif (Sp.hasE (Sp.shI kQ.xs pp.xs) (Int.toNat Zb) (pp.xs.length - Int.toNat Zb)) (Q [[Cl.l []], [Cl.i (Sp.shI kQ.xs pp.xs (Sp.idxE (Sp.shI kQ.xs pp.xs) (Int.toNat Zb) (pp.xs.length - Int.toNat Zb)))]]) (Q [[Cl.l (Sp.addPW kQ.xs pp.xs (Int.toNat Zb) (pp.xs.length - Int.toNat Zb) (Zo kQ))], [Cl.i 0]]))))))
theorem Xk0 (W : InW) (kQ kP kA pp Q) : Ywx (cxT Try.prog TT T70 1000 50) 1000 35 [.agg [.rs _ kQ, .rs _ kP, .si .i64 kA], .rs _ pp] [] 0 (Y04 [(false, [.row 80 Ja]), (false, [.int .i64])] Q) (fun _ _ _ _ => Stuck 421) = Xdj kQ kP kA pp Q := by kernel_rfl
abbrev Xb9 : List AT := [.agg [.sl Iv5, .sl Jc, .int .i64], .one (.sl [.sl Jb])]
theorem Xmf {pre : DS -> Prop} {res : DS -> DS} (hyp_ : ∀ (W : InW) (kQ : Ro Iv5) (kP : Ro Jc) (kA : Int) (pp : Ro [.sl Jb]), pre [[.l kQ.xs, .l kP.xs, .i kA], [.l pp.xs]] -> ∀ Q : DS -> Prop, Q (res [[.l kQ.xs, .l kP.xs, .i kA], [.l pp.xs]]) -> Xdj kQ kP kA pp Q) : PureOk Try.prog 35 Xb9 [(false, [.row 80 Ja]), (false, [.int .i64])] pre res :=
 PureOk.of' (fun W => @TT W) (fun W => @Xe W) Xa T70 1000 50 fun W kQ kP kA pp hp =>
  (Xk0 W kQ kP kA pp (fun o => o = res [[.l kQ.xs, .l kP.xs, .i kA], [.l pp.xs]])).mpr (hyp_ W kQ kP kA pp hp _ rfl)
namespace Sp
def flq (us : List (Nat × Nat)) (q : Nat) : List (Nat × Nat) := (us.filter fun p => decide (p.1 = q)).map fun p => (0, p.2)
theorem one_with (d : Dt) (j : Nat) (v : Int) : withD (one d) 0 j v = one (d.set j [.i v]) := rfl
theorem row_it1 : ∀ (us : List (Nat × Nat)) (b : Nat) (s : Dt) (q : Nat), q < s.length -> ∃ b', b' < 2 ^ (flq us q).length /\ row (itW us b s) q = row (itW (flq us q) b' (one (row s q))) 0
 | [], b, s, q, _ => ⟨0, by simp [flq], rfl⟩
 | p :: ps, b, s, q, h => by
  obtain ⟨c, hc, e⟩ := row_it1 ps (b / 2) (withD s p.1 p.2 ((b % 2 : Nat) : Int)) q (by rw [withD_len]; exact h);have hr := withD_row s p.1 p.2 ((b % 2 : Nat) : Int) q h
  by_cases x : p.1 = q
  ·have hf : flq (p :: ps) q = (0, p.2) :: flq ps q := by unfold flq; rw [List.filter_cons_of_pos (by simpa using x)]; rfl
   refine ⟨2 * c + b % 2, by rw [hf, List.length_cons, Nat.pow_succ]; omega, ?_⟩;rw [hf];simp only [itW];rw [e, hr, if_pos x.symm, show (2 * c + b % 2) / 2 = c by omega, show (2 * c + b % 2) % 2 = b % 2 by omega, one_with]
  ·have hf : flq (p :: ps) q = flq ps q := by unfold flq; rw [List.filter_cons_of_neg (by simpa using x)]
   refine ⟨c, by rw [hf]; exact hc, ?_⟩;rw [hf];simp only [itW];rw [e, hr, if_neg (fun y => x y.symm)]
theorem row_it2 : ∀ (us : List (Nat × Nat)) (b' : Nat) (s : Dt) (q : Nat), q < s.length -> b' < 2 ^ (flq us q).length -> ∃ b, b < 2 ^ us.length /\ row (itW us b s) q = row (itW (flq us q) b' (one (row s q))) 0
 | [], b', s, q, _, _ => ⟨0, by simp, rfl⟩
 | p :: ps, b', s, q, h, hb => by
  by_cases x : p.1 = q
  ·have hf : flq (p :: ps) q = (0, p.2) :: flq ps q := by unfold flq; rw [List.filter_cons_of_pos (by simpa using x)]; rfl
   rw [hf, List.length_cons, Nat.pow_succ] at hb;obtain ⟨c, hc, e⟩ := row_it2 ps (b' / 2) (withD s p.1 p.2 ((b' % 2 : Nat) : Int)) q (by rw [withD_len]; exact h) (by omega);have hr := withD_row s p.1 p.2 ((b' % 2 : Nat) : Int) q h;refine ⟨2 * c + b' % 2, by rw [List.length_cons, Nat.pow_succ]; omega, ?_⟩;rw [hf];simp only [itW];rw [show (2 * c + b' % 2) / 2 = c by omega, show (2 * c + b' % 2) % 2 = b' % 2 by omega, e, hr, if_pos x.symm, one_with]
  ·have hf : flq (p :: ps) q = flq ps q := by unfold flq; rw [List.filter_cons_of_neg (by simpa using x)]
   rw [hf] at hb;obtain ⟨c, hc, e⟩ := row_it2 ps b' (withD s p.1 p.2 ((0 : Nat) : Int)) q (by rw [withD_len]; exact h) hb;have hr := withD_row s p.1 p.2 ((0 : Nat) : Int) q h;refine ⟨2 * c, by rw [List.length_cons, Nat.pow_succ]; omega, ?_⟩;rw [hf];simp only [itW];rw [show 2 * c / 2 = c by omega, show 2 * c % 2 = 0 by omega, e, hr, if_neg (fun y => x y.symm)]
theorem flq_app (a b : List (Nat × Nat)) (q : Nat) : flq (a ++ b) q = flq a q ++ flq b q := by unfold flq; rw [List.filter_append, List.map_append]
theorem prow_fl (d : Dt) (i q : Nat) : ∀ n j, flq (prow d i j n) q = if i = q then prow d 0 j n else []
 | 0, j => by simp [prow, flq]
 | n + 1, j => by
  simp only [prow, flq_app, prow_fl d i q n (j + 1)]
  by_cases e : i = q <;> by_cases c : bx d j = 2 <;> simp [flq, e, c]
theorem pall_fl (sh : Dt) (q : Nat) : ∀ n i, flq (pall sh i n) q = if i <= q /\ q < i + n then prow (row sh q) 0 0 (row sh q).length else []
 | 0, i => by rw [if_neg (by omega)]; rfl
 | n + 1, i => by
  simp only [pall, flq_app, prow_fl, pall_fl sh q n (i + 1)]
  by_cases e : i = q
  ·subst e;rw [if_pos rfl, if_neg (by omega), if_pos (by omega), List.append_nil]
  ·rw [if_neg e, List.nil_append]
   by_cases c : i + 1 <= q /\ q < i + 1 + n
   ·rw [if_pos c, if_pos (by omega)]
   ·rw [if_neg c, if_neg (by omega)]
theorem fl_pos {sh : Dt} {q : Nat} (h : q < sh.length) : flq (pos sh) q = pos (one (row sh q)) := by
 unfold pos;rw [pall_fl, if_pos ⟨Nat.zero_le _, by omega⟩]
 show _ = prow (row sh q) 0 0 (row sh q).length ++ []
 rw [List.append_nil]
theorem any_row {sh : Dt} {q : Nat} (h : q < sh.length) (f : Dt -> Bool) : (∃ b, b < 2 ^ (pos sh).length /\ f (row (itW (pos sh) b sh) q) = true) ↔ ∃ k, k < (rdD (one (row sh q))).length /\ f (row (row (rdD (one (row sh q))) k) 0) = true := by
 have := any_rds (sh := one (row sh q)) fun r => f (row r 0);rw [this, <- fl_pos h];constructor
 ·rintro ⟨b, hb, e⟩;obtain ⟨c, hc, e2⟩ := row_it1 (pos sh) b sh q h;exact ⟨c, hc, by rw [<- e2]; exact e⟩
 ·rintro ⟨c, hc, e⟩;obtain ⟨b, hb, e2⟩ := row_it2 (pos sh) c sh q h hc;exact ⟨b, hb, by rw [e2]; exact e⟩
theorem miB_it {sh : Dt} {q b : Nat} {right : Int} (h7 : (pos sh).length <= 7) (hq : q < sh.length) (hb : b < 2 ^ (pos sh).length) : miB sh (uns sh) q right b = !decide (ansOf (row (itW (pos sh) b sh) q) = right) := by
 unfold miB;rw [rowW_it (Nat.lt_of_lt_of_le hb (Nat.le_trans (Nat.pow_le_pow_right (by decide) h7) (by decide))) h7 hq, ansX_of]
theorem mi_any {sh : Dt} {q : Nat} {right : Int} (h7 : (pos sh).length <= 7) (hq : q < sh.length) : miAny sh (uns sh) q right = mAny right (row sh q) := by
 refine bool_iff ?_;unfold miAny mAny;rw [anyF_0, anyF_0, uns_len];have := any_row hq fun d => !decide (ansOf d = right);exact ⟨fun ⟨b, hb, e⟩ => this.1 ⟨b, hb, by rw [miB_it h7 hq hb] at e; exact e⟩, fun h => by
  obtain ⟨b, hb, e⟩ := this.2 h;exact ⟨b, hb, by rw [miB_it h7 hq hb]; exact e⟩⟩
theorem mi_all {sh : Dt} {q : Nat} {right : Int} (h7 : (pos sh).length <= 7) (hq : q < sh.length) : miAll sh (uns sh) q right = mAll right (row sh q) := by
 refine bool_iff ?_;unfold miAll mAll;rw [allF_0, allF_0, uns_len];have := any_row hq fun d => decide (ansOf d = right);constructor
 ·intro h k hk
  show (!decide (ansOf (row (row (rdD (one (row sh q))) k) 0) = right)) = true
  rw [Bool.not_eq_true', decide_eq_false_iff_not];intro c;obtain ⟨b, hb, e⟩ := this.2 ⟨k, hk, decide_eq_true c⟩;have := h b hb;rw [miB_it h7 hq hb, e] at this;cases this
 ·intro h b hb;rw [miB_it h7 hq hb, Bool.not_eq_true', decide_eq_false_iff_not];intro c;obtain ⟨k, hk, e⟩ := this.1 ⟨b, hb, decide_eq_true c⟩;have h1 : (!decide (ansOf (row (row (rdD (one (row sh q))) k) 0) = right)) = true := h k hk;rw [e] at h1;cases h1
theorem mAll_any {right : Int} {d : Dt} (h : mAll right d = true) : mAny right d = true := by
 unfold mAll at h;unfold mAny;rw [allF_0] at h;rw [anyF_0];have : 0 < (rdD (one d)).length := by rw [rdD_len]; exact Nat.two_pow_pos _
 exact ⟨0, this, h 0 this⟩
theorem mAddW_eq {qs sh l : Dt} {m : Int} {j : Nat} (h7 : (pos sh).length <= 7) (hq : j < sh.length) (hc : CntAt l m (j : Nat)) (hj : j < l.length) : mAddW qs sh (uns sh) l j = mAdd qs sh l j := by
 obtain ⟨x, y, hg, _⟩ := hc.ok j hj;have c0 : cel l j 0 = .i x := by unfold cel; rw [hg]; rfl
 have c1 : cel l j 1 = .i y := by unfold cel; rw [hg]; rfl
 have hs2 : l.set j [.i x, .i y] = l := by
  rw [<- hg, List.getD_eq_getElem?_getD, List.getElem?_eq_getElem hj];exact List.set_getElem_self hj
 unfold mAddW mAdd;rw [mi_any h7 hq, mi_all h7 hq, c0, c1];have hh : ∀ a, (Cl.i a).int = a := fun _ => rfl;simp only [hh];cases m1 : mAll (qRight qs j) (row sh j) with
 | true => rw [mAll_any m1]; simp
 | false =>
  cases m2 : mAny (qRight qs j) (row sh j) with
  | true => simp
  | false => simp [hs2]
theorem addQW_eq {qs sh : Dt} {m : Int} (h7 : (pos sh).length <= 7) : ∀ n j l, CntAt l m (j : Nat) -> j + n = l.length -> l.length = sh.length -> addQW qs sh (uns sh) j n l = addQ qs sh j n l
 | 0, _, _, _, _, _ => rfl
 | n + 1, j, l, hc, hn, hl => by
  have hj : j < l.length := by omega
  simp only [addQW, addQ];rw [mAddW_eq h7 (by omega) hc hj];obtain ⟨x, y, hg, _⟩ := hc.ok j hj;have c0 : cel l j 0 = .i x := by unfold cel; rw [hg]; rfl
  have c1 : cel l j 1 = .i y := by unfold cel; rw [hg]; rfl
  have hlen : (mAdd qs sh l j).length = l.length := by unfold mAdd; rw [List.length_set]
  exact addQW_eq h7 n (j + 1) _ (by
   unfold mAdd;rw [c0, c1];exact hc.next hj hg (by split <;> simp) (by split <;> simp)) (by omega) (by omega)
theorem addPW_eq {qs pp : Dt} (hok : ∀ i, i < pp.length -> ShOk qs (row pp i)) : ∀ n i l, i + n = pp.length -> l.length = qs.length -> CntAt l (i : Nat) 0 -> addPW qs pp i n l = addP qs pp i n l
 | 0, _, _, _, _, _ => rfl
 | n + 1, i, l, hn, hl, hc => by
  have hs := hok i (by omega);have h7 := hs.seven;rw [uns_len] at h7;have hn2 := hs.n;simp only [addPW, addP];rw [<- hl, addQW_eq h7 l.length 0 l hc (by omega) (by omega)];have hl2 := addQ_len qs (row pp i) l.length 0 l;have hgo := CntAt.go (qs := qs) (sh := row pp i) l.length 0 l hc (by omega);rw [show ((l.length : Nat) : Int) = ((addQ qs (row pp i) 0 l.length l).length : Nat) by rw [hl2]] at hgo;exact addPW_eq hok n (i + 1) _ (by omega) (by omega) hgo.up
theorem errL_has {f : Nat -> Int} : ∀ n i, errL f i n 0 = if hasE f i n = true then f (idxE f i n) else 0
 | 0, i => by simp [errL, hasE]
 | n + 1, i => by
  unfold errL;rw [if_pos rfl]
  by_cases c : f i = 0
  ·rw [c, errL_has n (i + 1)];simp [hasE, idxE, c]
  ·rw [errL_ne c];simp [hasE, idxE, c]
end Sp
theorem Xnb : PureOk Try.prog 35 Xb9 [(false, [.row 80 Ja]), (false, [.int .i64])] (fun _ => True) Xdb :=
 Xmf fun W qs ps all pp hp Q h => by
  unfold Xdj;delta Zo Zb;simp only [Xdb, Sp.misV] at h;simp only [show Int.toNat 0 = 0 from rfl, Nat.sub_zero, Int.toNat_natCast, show Ybr [.int .i64, .int .i64] = [Cl.i 0, Cl.i 0] from rfl];refine ⟨trivial, vifn (fun e => ?_) fun e => vifd (fun e2 => ?_) fun e2 => ?_⟩
  ·have e3 : Sp.misE qs.xs ps.xs all pp.xs = Sp.chkE qs.xs ps.xs all := by
    unfold Sp.misE;rw [if_neg e, Sp.errL_ne e]
   rw [if_neg (by omega), e3] at h;exact h
  ·have e3 : Sp.misE qs.xs ps.xs all pp.xs = 3 := by
    unfold Sp.misE;rw [if_pos e, if_pos (by omega), Sp.errL_ne (by omega)]
   rw [if_neg (by omega), e3] at h;exact h
  ·have e3 : Sp.misE qs.xs ps.xs all pp.xs = if Sp.hasE (Sp.shI qs.xs pp.xs) 0 pp.xs.length = true then Sp.shI qs.xs pp.xs (Sp.idxE (Sp.shI qs.xs pp.xs) 0 pp.xs.length) else 0 := by
    unfold Sp.misE;rw [if_pos e, if_neg (by omega), Sp.errL_has]
   have hk := Sp.chkE_iff.1 e;have n2 := hk.n2;have hc0 : Sp.CntAt (List.replicate qs.xs.length [Cl.i 0, Cl.i 0]) 0 0 := ⟨fun j hj => ⟨0, 0, by
    rw [List.length_replicate] at hj;rw [List.getD_eq_getElem?_getD, List.getElem?_replicate, if_pos hj]; rfl, by omega, by split <;> omega, by omega, by split <;> omega⟩⟩
   refine ned (by simp; omega) ⟨⟨trivial, by omega, by omega, by omega, hk, by rw [List.length_replicate], hc0⟩, vif (fun e4 => ?_) fun e4 => ?_⟩
   ·rw [if_pos e4] at e3;rw [if_neg (by rw [e3]; exact (Sp.hasE_ix e4).2.2), e3] at h;exact h
   ·rw [if_neg (by simp [e4])] at e3;rw [if_pos e3, e3] at h;have ho := Sp.misE_ok e3;rw [Sp.addPW_eq ho.2.2 pp.xs.length 0 _ (Nat.zero_add _) (by rw [List.length_replicate]) hc0];exact h
def Xk9 : PC Try.prog := ⟨35, Xb9, [(false, [.row 80 Ja]), (false, [.int .i64])], fun _ => True, Xdb, Xnb⟩
def Xju [InW] (e : List Ed) (K : Nat -> List Ed -> Prop) : Prop := match e with
 | [.i a, .i b, .l xs] => Pre (0 <= a /\ b = a + 1 /\ b <= xs.length) (K 0 [.i ((0 : Nat) : Int), .i ((xs.length - 1 : Nat) : Int), .l (xs.take a.toNat ++ xs.drop b.toNat ++ [[.i 0, .i 0, .i 0, .i 0, .i 0]])])
 | _ => False
def X2 : CC where
 g := 73
 args := [(.row 3), .int .i64, .int .i64]
 H := [(3, .arr 71 Iv5)]
 outs := [⟨false, (.rwp 6 5), [(6, .arr 71 Iv5)], false⟩]
 spec := Xju
def Zr [W : InW] (xs : Dt) := (↑(xs.length) : Int)
def Zq [W : InW] (a b : Int) (xs : Dt) := (↑(a.toNat - 0 + (xs.length - b.toNat)) : Int)
def Zp [W : InW] (a b : Int) (xs : Dt) := List.take (a.toNat - 0) xs ++ List.take (xs.length - b.toNat) (List.drop b.toNat xs) ++ List.drop (a.toNat - 0 + (xs.length - b.toNat)) xs
def Xef [W : InW] (a b : Int) (xs : Dt) (K : Nat -> List Ed -> Prop) : Prop :=
 Need (decide (0 <= a)) (Need (decide (0 <= b)) (Need (decide (Zb <= (Zr xs))) (Need (decide (a.toNat <= b.toNat) && decide (b.toNat <= (Zr xs).toNat) && decide ((Zr xs).toNat <= xs.length)) (Vif (decide (a = b)) ((484 : Nat) = 484 + 1) (Need (decide (0 <= a)) (Need (decide ((0 : Nat) <= a.toNat) && decide (a.toNat <= xs.length)) (Need (decide (0 <= b)) (Need (decide (b.toNat <= xs.length) && decide (xs.length <= xs.length)) (Need (decide (a.toNat - 0 + (xs.length - b.toNat) <= xs.length) && decide (b.toNat + (xs.length - b.toNat) <= xs.length)) (Need (decide (Zb <= (Zq a b xs))) (Need (decide (Zb <= (Zr xs))) (Need (decide ((Zq a b xs).toNat <= (Zr xs).toNat) && decide ((Zr xs).toNat <= (Zp a b xs).length)) (Need (decide ((Zq a b xs).toNat + ((Zr xs).toNat - (Zq a b xs).toNat) <= (Zp a b xs).length)) (K 0 [.i (↑(0 : Nat) : Int), .i (Zq a b xs), .l (List.take (Zq a b xs).toNat (Zp a b xs) ++ List.replicate ((Zr xs).toNat - (Zq a b xs).toNat) (Ybr [.int .i64, .int .i64, .int .i64, .int .i64, .int .i64]) ++ List.drop ((Zq a b xs).toNat + ((Zr xs).toNat - (Zq a b xs).toNat)) (Zp a b xs))]))))))))))))))
theorem Xkt (W : InW) (a b xs K) : Ywu (cxT Try.prog TT T0 1000 50) 1000 73 [.rw 3, .si .i64 a, .si .i64 b] [(3, .arr 71 Iv5 xs)] (fun v h => outC X2.H [.l xs] X2.outs 0 false v h K) (fun v h => outC X2.H [.l xs] X2.outs 0 true v h K) = Xef a b xs K := by kernel_rfl
theorem Xl7 (hyp_ : ∀ (W : InW) a b xs K, Xju [.i a, .i b, .l xs] K -> Xef a b xs K) : ∀ W : InW, @CallC W Try.prog X2 :=
 CC.okOf (fun W => @TT W) (fun W => @Xe W) Xa T0 1000 50 X2 fun W a b xs K hs => (Xkt W a b xs K).mpr (hyp_ W a b xs K hs)
theorem Xjo (xs : Dt) (a : Nat) (z : List Cl) (h : a + 1 <= xs.length) : List.take (xs.length - 1) (List.take a xs ++ List.take (xs.length - (a + 1)) (List.drop (a + 1) xs) ++ List.drop (xs.length - 1) xs) ++ List.replicate 1 z ++ List.drop xs.length (List.take a xs ++ List.take (xs.length - (a + 1)) (List.drop (a + 1) xs) ++ List.drop (xs.length - 1) xs) = xs.take a ++ xs.drop (a + 1) ++ [z] := by
 have e1 : List.take (xs.length - (a + 1)) (List.drop (a + 1) xs) = List.drop (a + 1) xs := List.take_of_length_le (by simp);rw [e1];have hl : (List.take a xs ++ List.drop (a + 1) xs).length = xs.length - 1 := by simp; omega
 have hd : List.drop xs.length (List.take a xs ++ List.drop (a + 1) xs ++ List.drop (xs.length - 1) xs) = [] := List.drop_eq_nil_of_le (by rw [List.length_append, hl, List.length_drop]; omega);rw [hd, List.take_left' hl, List.append_nil];rfl
theorem Xoc : ∀ W : InW, @CallC W Try.prog X2 := Xl7 fun W a b xs K hs => by
 obtain ⟨⟨h0, rfl, h2⟩, hk⟩ := hs;have e1 : (a + 1).toNat = a.toNat + 1 := by omega
 have e2 : a.toNat + (xs.length - (a.toNat + 1)) = xs.length - 1 := by omega
 have e3 : xs.length - (xs.length - 1) = 1 := by omega
 have e4 : xs.length - 1 + 1 = xs.length := by omega
 have hd := Xjo xs a.toNat [.i 0, .i 0, .i 0, .i 0, .i 0] (by omega);unfold Xef;delta Zp Zq Zr Zb;rw [e1] at hk;simp only [Nat.sub_zero, e1, Int.toNat_natCast, e2, e3, e4, show Ybr [.int .i64, .int .i64, .int .i64, .int .i64, .int .i64] = [Cl.i 0, Cl.i 0, Cl.i 0, Cl.i 0, Cl.i 0] from rfl, hd];have hlen : (List.take a.toNat xs ++ List.take (xs.length - (a.toNat + 1)) (List.drop (a.toNat + 1) xs) ++ List.drop (xs.length - 1) xs).length = xs.length := by simp; omega
 simp only [hlen];clear hd
 repeat' (first | omega|intro _|with_reducible first|apply vifd|apply vifn|apply vifq|apply Xd|apply Xc|apply vifb|apply vif|apply nedd|apply ned2|apply ned|apply ar64|apply Xb|exact True.intro|assumption|rfl|apply And.intro)
 all_goals first | contradiction | exact hk | (simp only [Bool.and_eq_true, decide_eq_true_eq]; omega)
def T71 : Tab Try.prog := ⟨[Xbc, Xct], [], [ceOf X2 Xoc]⟩
def Zv := [Cl.l [], Cl.l [], Cl.i 0]
def Zs [W : InW] (kQ : Ro Iv5) (i : Int) := cel kQ.xs i.toNat Zm
def Zt [W : InW] (kQ : Ro Iv5) (kP : Ro Jc) (i : Int) := decide (Zb <= (Zs kQ i).int) && decide ((Zs kQ i).int < (↑(kP.xs.length) : Int))
def Zu := [[Cl.i 0, Cl.i 0, Cl.i 0, Cl.i 0, Cl.i 0]]
def Xdf [W : InW] (kQ : Ro Iv5) (kP : Ro Jc) (kA i : Int) (Q : DS -> Prop) : Prop :=
 Pre True (Vif (!decide (Sp.chkE kQ.xs kP.xs kA = 0)) (Q [Zv, [Cl.i (Sp.chkE kQ.xs kP.xs kA)]]) (Ar .i64 ((↑(kQ.xs.length) : Int) - 1) fun z => Pre True (Vif (Sp.out Zb z [[Cl.i i]]) (Q [Zv, [Cl.i 4]]) (Vif (decide ((↑(kQ.xs.length) : Int) = 1)) (Q [Zv, [Cl.i 3]]) (Need (decide (0 <= i) && decide (i < (↑(kQ.xs.length) : Int))) (Need (decide (i.toNat < kQ.xs.length)) (Vif (match kQ.v with | Value.slice none len cap => true | x => false) (Ar .i64 (i + 1) fun z => Pre (0 <= i /\ z = i + 1 /\ z <= (↑Zm : Int)) (Vif (match kP.v with | Value.slice none len cap => true | x => false) (false = false /\ False) (Need (decide ((Zm + kP.xs.length) * 8 <= 140737488355328)) (Need (Zt kQ kP i) (Need (decide ((Zs kQ i).int.toNat < kP.xs.length)) (Ar .i64 ((cel kP.xs (Zs kQ i).int.toNat Zm).int - (cel kQ.xs i.toNat (Zm + 1 + 1 + 1)).int) fun z_1 => Need (Zt kQ kP i) (Need (decide ((Zs kQ i).int.toNat < kP.xs.length)) (Ar .i64 (kA - (cel kQ.xs i.toNat (Zm + 1 + 1 + 1)).int) fun z_2 => Need (decide (Zb <= (Zs kQ i).int) && decide ((Zs kQ i).int < (↑(List.set kP.xs (Zs kQ i).int.toNat [Cl.i z_1]).length : Int))) (Need (decide ((Zs kQ i).int.toNat < (List.set kP.xs (Zs kQ i).int.toNat [Cl.i z_1]).length)) (Vif (decide (min (cel (List.set kP.xs (Zs kQ i).int.toNat [Cl.i z_1]) (Zs kQ i).int.toNat Zm).int z_2 < (-240 : Int))) (Q [Zv, [Cl.i 7]]) (Need (decide ((↑(Zm - 1) : Int).toNat <= List.length (List.take i.toNat [] ++ List.drop z.toNat [] ++ Zu))) (Q [[Cl.l (List.take (↑(Zm - 1) : Int).toNat (List.take i.toNat [] ++ List.drop z.toNat [] ++ Zu)), Cl.l (List.set kP.xs (Zs kQ i).int.toNat [Cl.i z_1]), Cl.i z_2], [Cl.i 0]])))))))))))) (Need (decide ((Zm + kQ.xs.length) * 40 <= 140737488355328)) (Ar .i64 (i + 1) fun z => Pre (0 <= i /\ z = i + 1 /\ z <= (↑(kQ.xs.length) : Int)) (Vif (match kP.v with | Value.slice none len cap => true | x => false) (false = false /\ False) (Need (decide ((Zm + kP.xs.length) * 8 <= 140737488355328)) (Need (Zt kQ kP i) (Need (decide ((Zs kQ i).int.toNat < kP.xs.length)) (Ar .i64 ((cel kP.xs (Zs kQ i).int.toNat Zm).int - (cel kQ.xs i.toNat (Zm + 1 + 1 + 1)).int) fun z_1 => Need (Zt kQ kP i) (Need (decide ((Zs kQ i).int.toNat < kP.xs.length)) (Ar .i64 (kA - (cel kQ.xs i.toNat (Zm + 1 + 1 + 1)).int) fun z_2 => Need (decide (Zb <= (Zs kQ i).int) && decide ((Zs kQ i).int < (↑(List.set kP.xs (Zs kQ i).int.toNat [Cl.i z_1]).length : Int))) (Need (decide ((Zs kQ i).int.toNat < (List.set kP.xs (Zs kQ i).int.toNat [Cl.i z_1]).length)) (Vif (decide (min (cel (List.set kP.xs (Zs kQ i).int.toNat [Cl.i z_1]) (Zs kQ i).int.toNat Zm).int z_2 < (-240 : Int))) (Q [Zv, [Cl.i 7]]) (Need (decide ((↑(kQ.xs.length - 1) : Int).toNat <= List.length (List.take i.toNat kQ.xs ++ List.drop z.toNat kQ.xs ++ Zu))) (Q [[Cl.l (List.take (↑(kQ.xs.length - 1) : Int).toNat (List.take i.toNat kQ.xs ++ List.drop z.toNat kQ.xs ++ Zu)), Cl.l (List.set kP.xs (Zs kQ i).int.toNat [Cl.i z_1]), Cl.i z_2], [Cl.i 0]]))))))))))))))))))))
theorem Xkw (W : InW) (kQ kP kA i Q) : Ywx (cxT Try.prog TT T71 1000 50) 1000 32 [.agg [.rs _ kQ, .rs _ kP, .si .i64 kA], .si .i64 i] [] 0 (Y04 Xe6 Q) (fun _ _ _ _ => Stuck 421) = Xdf kQ kP kA i Q := by kernel_rfl
abbrev Xb5 : List AT := [.agg [.sl Iv5, .sl Jc, .int .i64], .one (.int .i64)]
theorem Xmb {pre : DS -> Prop} {res : DS -> DS} (hyp_ : ∀ (W : InW) (kQ : Ro Iv5) (kP : Ro Jc) (kA i : Int), pre [[.l kQ.xs, .l kP.xs, .i kA], [.i i]] -> ∀ Q : DS -> Prop, Q (res [[.l kQ.xs, .l kP.xs, .i kA], [.i i]]) -> Xdf kQ kP kA i Q) : PureOk Try.prog 32 Xb5 Xe6 pre res :=
 PureOk.of' (fun W => @TT W) (fun W => @Xe W) Xa T71 1000 50 fun W kQ kP kA i hp =>
  (Xkw W kQ kP kA i (fun o => o = res [[.l kQ.xs, .l kP.xs, .i kA], [.i i]])).mpr (hyp_ W kQ kP kA i hp _ rfl)
theorem Xe7 {W : InW} {ts : List Ty} (r : Ro ts) (h : 0 < r.xs.length) (n c : Nat) : r.v ≠ .slice none n c := fun e => by
 obtain ⟨A, c2, h1, h2, h3, u, h4, _⟩ := r.inv;obtain ⟨b, off, h5, _⟩ := h4 (fun x => by rw [x] at h; simp at h);rw [e, h5] at h1;cases h1
theorem Xm7 : PureOk Try.prog 32 Xb5 Xe6 (fun _ => True) Xc6 :=
 Xmb fun W qs ps all i hp Q h => by
  have hm := qs.len;simp only [maxLen] at hm;unfold Xdf;delta Zt Zs Zm Zu Zv Zb;simp only [Xc6, Sp.strK] at h
  by_cases e : Sp.chkE qs.xs ps.xs all = 0
  rotate_left
  ·have e1 : Sp.strE qs.xs ps.xs all i = Sp.chkE qs.xs ps.xs all := by unfold Sp.strE; rw [if_neg e]
   rw [if_neg (by omega), e1] at h;exact ⟨trivial, vifn (fun _ => h) fun c => absurd c e⟩
  have hk := Sp.chkE_iff.1 e;have n1 := hk.n1;have n2 := hk.n2;have p1 := hk.p1;have p2 := hk.p2;have ho : Sp.out 0 (qs.xs.length - 1) [[.i i]] = !Sp.inr i 0 (qs.xs.length - 1) := by unfold Sp.out; simp [Sp.outs, cel, Cl.int]
  refine ⟨trivial, vifn (fun c => absurd e c) fun _ => ar64 (by omega) ⟨trivial, ?_⟩⟩;rw [ho]
  by_cases e1 : Sp.inr i 0 (qs.xs.length - 1) = true
  rotate_left
  ·have e2 : Sp.strE qs.xs ps.xs all i = 4 := by unfold Sp.strE; rw [if_pos e, if_neg e1]
   rw [if_neg (by omega), e2] at h;exact vifb (fun _ => h) fun c => absurd c e1
  refine vifb (fun c => absurd (e1.symm.trans c) (by decide)) fun _ => ?_
  by_cases e2 : qs.xs.length = 1
  ·have e3 : Sp.strE qs.xs ps.xs all i = 3 := by unfold Sp.strE; rw [if_pos e, if_pos e1, if_pos e2]
   rw [if_neg (by omega), e3] at h;exact vifd (fun _ => h) fun c => by omega
  refine vifd (fun c => absurd c (by omega)) fun _ => ?_;have hi := Sp.inr_iff.1 e1;have hpart := hk.part i.toNat (by omega);have hpts := hk.pts i.toNat (by omega);have hall := hk.all_;have hneed := hk.need (Sp.qPart qs.xs i.toNat).toNat (by omega);have h7 : Sp.strE qs.xs ps.xs all i = 7 -> Q [[.l [], .l [], .i 0], [.i 7]] := fun c => by
   rw [if_neg (by omega), c] at h; exact h
  have h0 : Sp.strE qs.xs ps.xs all i = 0 -> Q [[.l (Sp.strQ qs.xs i.toNat), .l (Sp.strP qs.xs ps.xs i.toNat), .i (Sp.strA qs.xs all i.toNat)], [.i 0]] := fun c => by
   rw [if_pos c, c] at h; exact h
  clear h;have hneed : -240 <= Sp.num ps.xs (Sp.qPart qs.xs i.toNat).toNat /\ Sp.num ps.xs (Sp.qPart qs.xs i.toNat).toNat <= 240 := hneed;have hnum : Sp.num (Sp.strP qs.xs ps.xs i.toNat) (Sp.qPart qs.xs i.toNat).toNat = Sp.num ps.xs (Sp.qPart qs.xs i.toNat).toNat - Sp.qPts qs.xs i.toNat := by unfold Sp.strP; rw [Sp.num_set (by omega), if_pos rfl]
  have hE : Sp.strE qs.xs ps.xs all i = if -240 <= Sp.strA qs.xs all i.toNat /\ -240 <= Sp.num (Sp.strP qs.xs ps.xs i.toNat) (Sp.qPart qs.xs i.toNat).toNat then 0 else 7 := by
   unfold Sp.strE;rw [if_pos e, if_pos e1, if_neg e2];have a1 : Sp.strA qs.xs all i.toNat <= 240 := by unfold Sp.strA; omega
   by_cases c1 : -240 <= Sp.strA qs.xs all i.toNat
   ·rw [if_pos (Sp.inr_iff.2 ⟨c1, a1⟩)]
    by_cases c2 : -240 <= Sp.num (Sp.strP qs.xs ps.xs i.toNat) (Sp.qPart qs.xs i.toNat).toNat
    ·rw [if_pos (Sp.inr_iff.2 ⟨c2, by omega⟩), if_pos ⟨c1, c2⟩]
    ·rw [if_neg (fun x => c2 (Sp.inr_iff.1 x).1), if_neg (fun x => c2 x.2)]
   ·rw [if_neg (fun x => c1 (Sp.inr_iff.1 x).1), if_neg (fun x => c1 x.1)]
  rw [hE] at h7 h0;rw [hnum] at h7 h0;have ez : (i + 1).toNat = i.toNat + 1 := by omega
  have htk : List.take (qs.xs.length - 1) (List.take i.toNat qs.xs ++ List.drop (i.toNat + 1) qs.xs ++ [[Cl.i 0, Cl.i 0, Cl.i 0, Cl.i 0, Cl.i 0]]) = Sp.strQ qs.xs i.toNat := by
   unfold Sp.strQ;exact List.take_left' (by simp; omega)
  have hrow : List.set ps.xs (Sp.qPart qs.xs i.toNat).toNat [Cl.i (Sp.num ps.xs (Sp.qPart qs.xs i.toNat).toNat - Sp.qPts qs.xs i.toNat)] = Sp.strP qs.xs ps.xs i.toNat := rfl;have hA : Sp.strA qs.xs all i.toNat = all - Sp.qPts qs.xs i.toNat := rfl;refine ned (by simp only [Bool.and_eq_true, decide_eq_true_eq]; omega) (nedd (by omega) (vif (fun c => ?_) fun _ => nedd (by omega) (ar64 (by omega) ⟨⟨by omega, rfl, by omega⟩, vif (fun c => ?_) fun _ => nedd (by omega) ?_⟩)))
  ·exfalso
   split at c
   ·exact Xe7 qs (by omega) _ _ (by assumption)
   ·cases c
  ·exfalso
   split at c
   ·exact Xe7 ps (by omega) _ _ (by assumption)
   ·cases c
  simp only [ez, Nat.zero_add, Nat.reduceAdd, Int.toNat_natCast, List.length_set, htk, show (cel qs.xs i.toNat 0).int = Sp.qPart qs.xs i.toNat from rfl, show (cel qs.xs i.toNat 3).int = Sp.qPts qs.xs i.toNat from rfl, show ∀ l k, (cel l k 0).int = Sp.num l k from fun _ _ => rfl];refine ned (by simp only [Bool.and_eq_true, decide_eq_true_eq]; omega) (nedd (by omega) (ar64 (by omega) (ned (by simp only [Bool.and_eq_true, decide_eq_true_eq]; omega) (nedd (by omega) (ar64 (by omega) (ned (by simp only [Bool.and_eq_true, decide_eq_true_eq]; omega) (nedd (by omega) ?_)))))));rw [hrow, hnum];refine vifd (fun c => h7 ?_) fun c => nedd (by simp; omega) ?_
  ·rw [if_neg (by rw [hA]; omega)]
  ·exact h0 (by rw [if_pos (by rw [hA]; omega)])
def Xk7 : PC Try.prog := ⟨32, Xb5, Xe6, fun _ => True, Xc6, Xm7⟩
open Go.RowKit Go.Shelf
set_option maxRecDepth 1000000
set_option maxHeartbeats 4000000
def Xk6 : Ren := ⟨fun i => match i with
  | 125 => 85
  | 128 => 98
  | 129 => 99
  | 189 => 64
  | 215 => 105
  | 216 => 95
  | 257 => 84
  | 294 => 89
  | 295 => 90
  | 296 => 91
  | 297 => 92
  | 298 => 93
  | 299 => 94
  | 300 => 96
  | 301 => 97
  | 328 => 100
  | 329 => 101
  | 330 => 102
  | 331 => 103
  | 332 => 104
  | 343 => 106
  | _ => 0, fun i => match i with
  | 0 => 0
  | 3 => 3
  | 4 => 4
  | 5 => 5
  | 9 => 9
  | 28 => 23
  | 46 => 120
  | 51 => 134
  | 53 => 136
  | 131 => 131
  | 182 => 125
  | 183 => 126
  | 218 => 137
  | 222 => 141
  | 228 => 143
  | 229 => 144
  | _ => 0, fun i => i⟩
theorem Xcy : Lays.n189 Try.prog Xk6 := {
  mixed := Xa
  f125 := by kernel_rfl
  f128 := by kernel_rfl
  f129 := by kernel_rfl
  f189 := by kernel_rfl
  f215 := by kernel_rfl
  f216 := by kernel_rfl
  f257 := by kernel_rfl
  f294 := by kernel_rfl
  f295 := by kernel_rfl
  f296 := by kernel_rfl
  f297 := by kernel_rfl
  f298 := by kernel_rfl
  f299 := by kernel_rfl
  f300 := by kernel_rfl
  f301 := by kernel_rfl
  f328 := by kernel_rfl
  f329 := by kernel_rfl
  f330 := by kernel_rfl
  f331 := by kernel_rfl
  f332 := by kernel_rfl
  f343 := by kernel_rfl
  t0 := by kernel_rfl
  a0 := fun w => by kernel_rfl
  z0 := fun w => by kernel_rfl
  v0 := fun w => by kernel_rfl
  t3 := by kernel_rfl
  a3 := fun w => by kernel_rfl
  z3 := fun w => by kernel_rfl
  v3 := fun w => by kernel_rfl
  t4 := by kernel_rfl
  a4 := fun w => by kernel_rfl
  z4 := fun w => by kernel_rfl
  v4 := fun w => by kernel_rfl
  t5 := by kernel_rfl
  a5 := fun w => by kernel_rfl
  z5 := fun w => by kernel_rfl
  v5 := fun w => by kernel_rfl
  t9 := by kernel_rfl
  a9 := fun w => by kernel_rfl
  z9 := fun w => by kernel_rfl
  v9 := fun w => by kernel_rfl
  t28 := by kernel_rfl
  a28 := fun w => by kernel_rfl
  z28 := fun w => by kernel_rfl
  v28 := fun w => by kernel_rfl
  t46 := by kernel_rfl
  a46 := fun w => by kernel_rfl
  z46 := fun w => by kernel_rfl
  v46 := fun w => by kernel_rfl
  t51 := by kernel_rfl
  a51 := fun w => by kernel_rfl
  z51 := fun w => by kernel_rfl
  v51 := fun w => by kernel_rfl
  t53 := by kernel_rfl
  a53 := fun w => by kernel_rfl
  z53 := fun w => by kernel_rfl
  v53 := fun w => by kernel_rfl
  t131 := by kernel_rfl
  a131 := fun w => by kernel_rfl
  z131 := fun w => by kernel_rfl
  v131 := fun w => by kernel_rfl
  t182 := by kernel_rfl
  a182 := fun w => by kernel_rfl
  z182 := fun w => by kernel_rfl
  v182 := fun w => by kernel_rfl
  t183 := by kernel_rfl
  a183 := fun w => by kernel_rfl
  z183 := fun w => by kernel_rfl
  v183 := fun w => by kernel_rfl
  t218 := by kernel_rfl
  a218 := fun w => by kernel_rfl
  z218 := fun w => by kernel_rfl
  v218 := fun w => by kernel_rfl
  t222 := by kernel_rfl
  a222 := fun w => by kernel_rfl
  z222 := fun w => by kernel_rfl
  v222 := fun w => by kernel_rfl
  t228 := by kernel_rfl
  a228 := fun w => by kernel_rfl
  z228 := fun w => by kernel_rfl
  v228 := fun w => by kernel_rfl
  t229 := by kernel_rfl
  a229 := fun w => by kernel_rfl
  z229 := fun w => by kernel_rfl
  v229 := fun w => by kernel_rfl }
def Sp.numsOf (l : Dt) : List Int := l.map fun r => (r.getD 0 .z).int
def Sp.sortD (l : Dt) : Dt := ((Sp.numsOf l).mergeSort fun x y => decide (x <= y)).map fun n => [.i n]
theorem Xcz (l : Dt) : Yk [.int .i64] l = (Sp.numsOf l).map (Value.int .i64) := by
 induction l with
 | nil => rfl
 | cons r l ih =>
  unfold Sp.numsOf at ih ⊢;simp only [Yk, List.map_cons, ih];cases r <;> rfl
theorem Xx (l : Dt) : Sp.numsOf (Sp.sortD l) = (Sp.numsOf l).mergeSort fun x y => decide (x <= y) := by
 unfold Sp.sortD Sp.numsOf;rw [List.map_map];exact List.map_id'' (fun _ => rfl) _
theorem Xf (l : Dt) : (Sp.numsOf l).length = l.length := by unfold Sp.numsOf; rw [List.length_map]
theorem X1 (l : Dt) : (Sp.sortD l).length = l.length := by unfold Sp.sortD; rw [List.length_map, List.length_mergeSort, Xf]
def Xk5 [InW] (e : List Ed) (K : Nat -> List Ed -> Prop) : Prop := match e with
 | [.l l] => Pre (0 < l.length /\ l.length <= 1000) (K 0 [.l (Sp.sortD l)])
 | _ => False
def Xhq : CC where
 g := 64
 args := [.row 4]
 H := [(4, .arr 3 Jc)]
 outs := [⟨false, .tup [], [(4, .arr 3 Jc)], false⟩]
 spec := Xk5
theorem Xmp : ∀ W : InW, @CallC W Try.prog Xhq := fun W xs ys e1 e2 h1 h2 K hs => by
 obtain ⟨x1, xs', a1, a2, rfl, rfl, ⟨rfl, rfl⟩, rfl, rfl⟩ := h1;obtain ⟨it, h', b1, b2, rfl, rfl, ⟨l, rfl, rfl⟩, rfl, rfl⟩ := h2;obtain ⟨⟨hl0, hl1⟩, hk⟩ : Pre (0 < l.length /\ l.length <= 1000) (K 0 [.l (Sp.sortD l)]) := hs;refine ⟨0, _, _, .tup [], _, [(4, .arr 3 Jc (Sp.sortD l))], hk, rfl, rfl, rfl, ?_⟩;intro φ w0 M R w hnd hS;have hS' : St w0 M ((It.arr 3 Jc l).conc φ 4 :: R) w := hS;have hfn := Y2i (by decide) hS';have hnil := Yc4 (by decide) hl0 hS';have hrow : w.ownsRow 0 3 1 (.slice (some ⟨(φ 4).b, 0, none⟩) (φ 4).fn (φ 4).c) (φ 4).fn (Yk [.int .i64] l) := by
  have := hS'.row (v := .slice (if (φ 4).nil then none else some ⟨(φ 4).b, 0, none⟩) (φ 4).fn (φ 4).c) Look.head;rw [hnil] at this;exact this
 rcases hrow.2 with ⟨h0, _⟩ | ⟨g, cap, cur, hv, hb, hg, hnc, hcm, hcs, ht⟩
 ·cases h0
 injection hv with v1 v2 v3
 injection v1 with v1
 injection v1 with v1
 have hzl := Xf l;have ht' : cur.toList.take (Sp.numsOf l).length = (Sp.numsOf l).map (Value.int .i64) := by
  rw [hzl, <- hfn, <- Xcz, <- ht, Nat.mul_one]
 have hH := holds_of_blockI hg ht';have hsz : g < w.heap.size := (Array.getElem?_eq_some_iff.1 hg).1;have hc := calls_of_every_depth fun D => AnyS.slices_Sort_int_in Xcy D g 0 cap (Sp.numsOf l) w hH hsz (by rw [hzl]; omega);have hx : (AV.concL φ [.rw 4]).toArray = #[Value.slice (some ⟨g, 0, none⟩) (Sp.numsOf l).length cap] := by
  simp [AV.concL, AV.conc, hnil, <- v1, v3, hfn, hzl]
 rw [hx];refine hc.mono ?_;rintro e w' ⟨rfl, n, os, rfl⟩;have hml : ((Sp.numsOf l).mergeSort fun x y => decide (x <= y)).length = (Sp.numsOf l).length := List.length_mergeSort _;have hown := ownsRow_sortedI (n := n) (os := os) (base := 0) hml (Nat.zero_le _) hg (by rw [hzl, <- hfn]; exact hnc) hcm hcs;have hgr := grownBy_sortedI (w := w) (g := g) (n := n) (os := os) ((Sp.numsOf l).mergeSort fun x y => decide (x <= y)).toArray;refine ⟨φ, fun _ => rfl, rfl, by simp [keys], ?_⟩;have hsl := X1 l;have hfl : Yk [.int .i64] (Sp.sortD l) = ((Sp.numsOf l).mergeSort fun x y => decide (x <= y)).map (Value.int .i64) := by rw [Xcz, Xx]
 have e1 : (It.arr 3 Jc l).conc φ 4 = .row (.slice (some ⟨g, 0, none⟩) (φ 4).fn cap) 3 1 (φ 4).fn (Yk [.int .i64] l) := by
  simp only [It.conc, hnil, <- v1, v3];rfl
 have e2 : (It.arr 3 Jc (Sp.sortD l)).conc φ 4 = .row (.slice (some ⟨g, 0, none⟩) (φ 4).fn cap) 3 1 (φ 4).fn (Yk [.int .i64] (Sp.sortD l)) := by
  simp only [It.conc, hnil, <- v1, v3];rfl
 rw [e1] at hS'
 change St w0 M ((It.arr 3 Jc (Sp.sortD l)).conc φ 4 :: R) _
 rw [e2];refine hS'.upd .head ⟨hgr.os, hgr.tape, hgr.output, hgr.size, fun k hk hm => hgr.block k hk (fun x => hm ?_)⟩ ?_ fun b hb => .inl hb
 ·injection x with x
  subst x;simp [Res.foot, Value.ownBlock]
 ·show World.ownsRow _ 0 3 1 _ _ _
  rw [hfl, hfn, <- hzl];exact hown
end Go.Proofs.Ytifhdbgciehicaa
namespace Go.Proofs.Ytifhdbgciehicaa
open Go.RowKit
set_option maxRecDepth 100000
set_option maxHeartbeats 1600000
structure CmR where
 i : Nat
 l : Dt
namespace Sp
def cmF (a : Nat) : Nat -> Nat -> CmR -> CmR
 | _, 0, r => r
 | k, n + 1, r => cmF a (k + 1) n (if num r.l (a + k) = num r.l (a + (k - 1)) then r else ⟨r.i + 1, r.l.set r.i [.i (num r.l (a + k))]⟩)
end Sp
def Xe5 [InW] (e : List Ed) (K : Nat -> List Ed -> Prop) : Prop := match e with
 | [.i i, .i a, .i b, .i k, .l l] => Pre (1 <= k /\ k <= b /\ 1 <= a /\ a + b = l.length /\ a <= i /\ i < a + k /\ l.length <= 1000) (K 0 [.i ((Sp.cmF a.toNat k.toNat (b - k).toNat ⟨i.toNat, l⟩).i : Nat), .l (Sp.cmF a.toNat k.toNat (b - k).toNat ⟨i.toNat, l⟩).l])
 | _ => False
def Xgl : LC where
 len := 61
 T := [(0, (.row 3)), (3, .int .i64), (4, (.rwp 3 1)), (5, .int .i64)]
 H := [(3, .arr 3 Jc)]
 W := (rg 29 25)
 outs := [⟨.exit 2, [(0, (.row 6)), (3, .int .i64)], [(6, .arr 3 Jc)], ([4, 5] ++ rg 29 25)⟩]
 spec := Xe5
def Xea [W : InW] (i : Int) (a b : Nat) (k : Int) (l : Dt) (A : List Ed -> Prop) (K : Nat -> List Ed -> Prop) : Prop :=
 Vif (decide (k < (↑b : Int))) (Need (decide (0 <= k) && decide (k < (↑b : Int)) && decide (a + b <= l.length)) (Need (decide (a + k.toNat < l.length)) (Ar .i64 (k - 1) fun z => Need (decide (0 <= z) && decide (z < (↑b : Int)) && decide (a + b <= l.length)) (Need (decide (a + z.toNat < l.length)) (Vif (!decide ((cel l (a + k.toNat) Zm).int = (cel l (a + z.toNat) Zm).int)) (Need (decide (0 <= k) && decide (k < (↑b : Int)) && decide (a + b <= l.length)) (Need (decide (a + k.toNat < l.length)) (Need (decide (0 <= i) && decide (i < (↑(l.length) : Int))) (Need (decide (i.toNat < l.length)) (Ar .i64 (i + 1) fun z => Ar .i64 (k + 1) fun z_1 => A [.i z, .i (↑a : Int), .i (↑b : Int), .i z_1, .l (List.set l i.toNat [Cl.i (cel l (a + k.toNat) Zm).int])]))))) (Ar .i64 (k + 1) fun z => A [.i i, .i (↑a : Int), .i (↑b : Int), .i z, .l l])))))) (K 0 [.i i, .l l])
theorem Xko (W : InW) (i a b k l A K) : Yfc { cxT Try.prog TT T0 1000 50 with fn := 65 } 1000 (Yn8 Try.prog 65 10) (Yd8 61 [(0, .rw 3), (3, .si .i64 i), (4, .rwp 3 1 a b), (5, .si .i64 k)] (rg 29 25)) [(3, .arr 3 Jc l)] (Yug Xgl A K) = Xea i a b k l A K := by kernel_rfl
def Xfx : Prop := ∀ (W : InW) (body a : Code), (Try.prog.funcs[65]?).bind (·.body) = some body -> a ∈ Y0 body -> Yfw a = 10 -> @Ymr W Try.prog a (@Yto W Xgl)
theorem Xl2 (meas : [InW] -> List Ed -> Nat) (hyp_ : ∀ (W : InW) i (a b : Nat) k l K, Xe5 [.i i, .i a, .i b, .i k, .l l] K -> ∀ A : List Ed -> Prop, (∀ e, meas e < meas [.i i, .i a, .i b, .i k, .l l] -> Xe5 e K -> A e) -> Xea i a b k l A K) : Xfx :=
 LE.okOf' (fun W => @TT W) (fun W => @Xe W) Xa T0 1000 50 (by kernel_rfl) Xgl (fun W => @meas W) fun W i a b k l K hs =>
  (Xko W i a b k l (fun e => meas e < meas [.i i, .i a, .i b, .i k, .l l] /\ Xe5 e K) K).mpr (hyp_ W i a b k l K hs _ fun e h1 h2 => ⟨h1, h2⟩)
theorem Xoa : Xfx := Xl2 (fun e => match e with | [_, _, .i b, .i k, _] => (b - k).toNat | _ => 0) fun W i a b k l K hs A hA => by
 obtain ⟨⟨h1, h2, h3, h4, h5, h6, h7⟩, hk⟩ := hs;unfold Xea;delta Zm;simp only [show ∀ j, (cel l j 0).int = Sp.num l j from fun _ => rfl];have ez : (k + 1).toNat = k.toNat + 1 := by omega
 have em : (k - 1).toNat = k.toNat - 1 := by omega
 have ei : ((i.toNat : Nat) : Int) = i := Int.toNat_of_nonneg (by omega);simp only [Int.toNat_natCast] at hk
 by_cases hkb : k < b
 ·rw [show ((b : Int) - k).toNat = ((b : Int) - (k + 1)).toNat + 1 by omega] at hk;simp only [Sp.cmF] at hk
  by_cases c : Sp.num l (a + k.toNat) = Sp.num l (a + (k.toNat - 1))
  ·rw [if_pos c] at hk;have hA' := hA [.i i, .i a, .i b, .i (k + 1), .l l] (show ((b : Int) - (k + 1)).toNat < ((b : Int) - k).toNat by omega) ⟨⟨by omega, by omega, h3, h4, h5, by omega, h7⟩, by rw [ez]; simp only [Int.toNat_natCast]; exact hk⟩;clear hA hk;rw [<- em] at c
   repeat' (first | omega | with_reducible refine vifd (fun _ => ?_) fun _ => ?_ | with_reducible refine vifn (fun _ => ?_) fun _ => ?_ | with_reducible refine vifq (fun _ => ?_) fun _ => ?_ | with_reducible refine Xd (fun _ => ?_) fun _ => ?_ | with_reducible refine Xc (fun _ => ?_) fun _ => ?_ | with_reducible refine vifb (fun _ => ?_) fun _ => ?_ | with_reducible refine vif (fun _ => ?_) fun _ => ?_ | (with_reducible refine nedd ?_ ?_; omega) | (with_reducible refine ned ?_ ?_; simp only [Bool.and_eq_true, decide_eq_true_eq]; omega) | (with_reducible refine ar64 ?_ ?_; omega) | (with_reducible refine Xb ?_ ?_; (first | trivial | omega | assumption | (refine ⟨?_, ?_⟩ <;> first | trivial | omega | assumption) | (refine ⟨?_, ?_, ?_⟩ <;> first | trivial | omega | assumption) | (refine ⟨?_, ?_, ?_, ?_⟩ <;> first | trivial | omega | assumption))))
   all_goals first | contradiction | exact hA' | skip
  ·rw [if_neg c] at hk;have hA' := hA [.i (i + 1), .i a, .i b, .i (k + 1), .l (l.set i.toNat [.i (Sp.num l (a + k.toNat))])] (show ((b : Int) - (k + 1)).toNat < ((b : Int) - k).toNat by omega) ⟨⟨by omega, by omega, h3, by rw [List.length_set]; exact h4, by omega, by omega, by rw [List.length_set]; exact h7⟩, by
    rw [ez, show (i + 1).toNat = i.toNat + 1 by omega];simp only [Int.toNat_natCast];exact hk⟩
   clear hA hk;rw [<- em] at c
   repeat' (first | omega | with_reducible refine vifd (fun _ => ?_) fun _ => ?_ | with_reducible refine vifn (fun _ => ?_) fun _ => ?_ | with_reducible refine vifq (fun _ => ?_) fun _ => ?_ | with_reducible refine Xd (fun _ => ?_) fun _ => ?_ | with_reducible refine Xc (fun _ => ?_) fun _ => ?_ | with_reducible refine vifb (fun _ => ?_) fun _ => ?_ | with_reducible refine vif (fun _ => ?_) fun _ => ?_ | (with_reducible refine nedd ?_ ?_; omega) | (with_reducible refine ned ?_ ?_; simp only [Bool.and_eq_true, decide_eq_true_eq]; omega) | (with_reducible refine ar64 ?_ ?_; omega) | (with_reducible refine Xb ?_ ?_; (first | trivial | omega | assumption | (refine ⟨?_, ?_⟩ <;> first | trivial | omega | assumption) | (refine ⟨?_, ?_, ?_⟩ <;> first | trivial | omega | assumption) | (refine ⟨?_, ?_, ?_, ?_⟩ <;> first | trivial | omega | assumption))))
   all_goals first | contradiction | exact hA' | skip
 ·rw [show ((b : Int) - k).toNat = 0 by omega] at hk;simp only [Sp.cmF, ei] at hk;clear hA
  repeat' (first | omega | with_reducible refine vifd (fun _ => ?_) fun _ => ?_ | with_reducible refine vifn (fun _ => ?_) fun _ => ?_ | with_reducible refine vifq (fun _ => ?_) fun _ => ?_ | with_reducible refine Xd (fun _ => ?_) fun _ => ?_ | with_reducible refine Xc (fun _ => ?_) fun _ => ?_ | with_reducible refine vifb (fun _ => ?_) fun _ => ?_ | with_reducible refine vif (fun _ => ?_) fun _ => ?_ | (with_reducible refine nedd ?_ ?_; omega) | (with_reducible refine ned ?_ ?_; simp only [Bool.and_eq_true, decide_eq_true_eq]; omega) | (with_reducible refine ar64 ?_ ?_; omega) | (with_reducible refine Xb ?_ ?_; (first | trivial | omega | assumption | (refine ⟨?_, ?_⟩ <;> first | trivial | omega | assumption) | (refine ⟨?_, ?_, ?_⟩ <;> first | trivial | omega | assumption) | (refine ⟨?_, ?_, ?_, ?_⟩ <;> first | trivial | omega | assumption))))
  all_goals exact hk
def Xo1 : LE Try.prog := ⟨65, 10, fun W => @Yto W Xgl, Xoa⟩
def T72 : Tab Try.prog := ⟨[], [Xo1], []⟩
namespace Sp
def dupI (l : Dt) (k : Nat) : Bool := decide (num l k = num l (k - 1))
def cmR (l : Dt) (j : Nat) : CmR := cmF j 1 (l.length - j - 1) ⟨j, l⟩
theorem cmF_facts (a : Nat) : ∀ n k r, 1 <= k -> a <= r.i -> r.i < a + k -> a + k + n <= r.l.length -> (cmF a k n r).l.length = r.l.length /\ a <= (cmF a k n r).i /\ (cmF a k n r).i < a + k + n
 | 0, k, r, _, h1, h2, _ => ⟨rfl, h1, h2⟩
 | n + 1, k, r, h0, h1, h2, h3 => by
  simp only [cmF]
  split
  ·have := cmF_facts a n (k + 1) r (by omega) h1 (by omega) (by omega);omega
  ·have := cmF_facts a n (k + 1) ⟨r.i + 1, r.l.set r.i [.i (num r.l (a + k))]⟩ (by omega) (by simp only []; omega) (by simp only []; omega) (by simp only [List.length_set]; omega);simp only [List.length_set] at this;omega
end Sp
def Xe4 [InW] (e : List Ed) (K : Nat -> List Ed -> Prop) : Prop := match e with
 | [.i i, .l l] => Pre (1 <= i /\ i <= l.length /\ l.length <= 1000) (Vif (Sp.anyF (Sp.dupI l) i.toNat (l.length - i.toNat)) (K 1 [.i ((0 : Nat) : Int), .i ((Sp.cmR l (Sp.fstF (Sp.dupI l) i.toNat (l.length - i.toNat))).i : Nat), .l (clD (Sp.cmR l (Sp.fstF (Sp.dupI l) i.toNat (l.length - i.toNat))).l (Sp.cmR l (Sp.fstF (Sp.dupI l) i.toNat (l.length - i.toNat))).i (l.length - (Sp.cmR l (Sp.fstF (Sp.dupI l) i.toNat (l.length - i.toNat))).i) [.i 0])]) (K 0 [.l l]))
 | _ => False
def Xgk : LC where
 len := 61
 T := [(0, (.row 3)), (3, .int .i64)]
 H := [(3, .arr 3 Jc)]
 W := ([2, 4, 5] ++ rg 10 50)
 outs := [⟨.exit 0, [(0, (.row 6))], [(6, .arr 3 Jc)], (rg 2 4 ++ rg 10 50)⟩, ⟨.ret, [(2, (.rwp 6 1))], [(6, .arr 3 Jc)], ([0, 3, 4, 5] ++ rg 10 50)⟩]
 spec := Xe4
def Zw [W : InW] (i : Int) (l : Dt) := Sp.cmF (↑i.toNat : Int).toNat (Int.toNat (1 : Int)) ((↑(l.length - i.toNat) : Int) - 1).toNat { i := i.toNat, l := l }
def Zy [W : InW] (i : Int) (l : Dt) := (↑(Zw i l).1 : Int)
def Zx [W : InW] (i : Int) (l : Dt) := List.take (Zy i l).toNat (Zw i l).2 ++ List.replicate (List.length (Zw i l).2 - (Zy i l).toNat) (Ybr [Ty.int IntKind.i64]) ++ List.drop ((Zy i l).toNat + (List.length (Zw i l).2 - (Zy i l).toNat)) (Zw i l).2
def Xd9 [W : InW] (i : Int) (l : Dt) (A : List Ed -> Prop) (K : Nat -> List Ed -> Prop) : Prop :=
 Vif (decide (i < (↑(l.length) : Int))) (Need (decide (0 <= i) && decide (i < (↑(l.length) : Int))) (Need (decide (i.toNat < l.length)) (Ar .i64 (i - 1) fun z => Need (decide (0 <= z) && decide (z < (↑(l.length) : Int))) (Need (decide (z.toNat < l.length)) (Vif (decide ((cel l i.toNat Zm).int = (cel l z.toNat Zm).int)) (Need (decide (0 <= i)) (Need (decide (i.toNat <= l.length) && decide (l.length <= l.length)) (Pre ((1 : Int) <= 1 /\ (1 : Int) <= (↑(l.length - i.toNat) : Int) /\ (1 : Int) <= (↑i.toNat : Int) /\ (↑i.toNat : Int) + (↑(l.length - i.toNat) : Int) = (↑(l.length) : Int) /\ (↑i.toNat : Int) <= i /\ i < (↑i.toNat : Int) + 1 /\ l.length <= 1000) (Need (decide ((0 : Int) <= (Zy i l))) (Need (decide ((Zy i l).toNat <= List.length (Zw i l).2) && decide (List.length (Zw i l).2 <= List.length (Zw i l).2)) (Need (decide ((Zy i l).toNat + (List.length (Zw i l).2 - (Zy i l).toNat) <= List.length (Zw i l).2)) (Need (decide ((0 : Int) <= (Zy i l))) (Need (decide (Zm <= (Zy i l).toNat) && decide ((Zy i l).toNat <= (Zx i l).length)) (K (0+1) [.i (↑Zm : Int), .i (↑((Zy i l).toNat - 0) : Int), .l (Zx i l)]))))))))) (Ar .i64 (i + 1) fun z => A [.i z, .l l])))))) (K 0 [.l l])
theorem Xkn (W : InW) (i l A K) : Yfc { cxT Try.prog TT T72 1000 50 with fn := 65 } 1000 (Yn8 Try.prog 65 5) (Yd8 61 [(0, .rw 3), (3, .si .i64 i)] ([2, 4, 5] ++ rg 10 50)) [(3, .arr 3 Jc l)] (Yug Xgk A K) = Xd9 i l A K := by kernel_rfl
def Xfw : Prop := ∀ (W : InW) (body a : Code), (Try.prog.funcs[65]?).bind (·.body) = some body -> a ∈ Y0 body -> Yfw a = 5 -> @Ymr W Try.prog a (@Yto W Xgk)
theorem Xl1 (meas : [InW] -> List Ed -> Nat) (hyp_ : ∀ (W : InW) i l K, Xe4 [.i i, .l l] K -> ∀ A : List Ed -> Prop, (∀ e, meas e < meas [.i i, .l l] -> Xe4 e K -> A e) -> Xd9 i l A K) : Xfw :=
 LE.okOf' (fun W => @TT W) (fun W => @Xe W) Xa T72 1000 50 (by kernel_rfl) Xgk (fun W => @meas W) fun W i l K hs =>
  (Xkn W i l (fun e => meas e < meas [.i i, .l l] /\ Xe4 e K) K).mpr (hyp_ W i l K hs _ fun e h1 h2 => ⟨h1, h2⟩)
theorem Xn9 : Xfw := Xl1 (fun e => match e with | [.i i, .l l] => ((l.length : Int) - i).toNat | _ => 0) fun W i l K hs A hA => by
 obtain ⟨⟨h1, h2, h3⟩, hk⟩ := hs;unfold Xd9;delta Zx Zy Zw Zm;have ez : (i + 1).toNat = i.toNat + 1 := by omega
 have em : (i - 1).toNat = i.toNat - 1 := by omega
 simp only [show ∀ j, (cel l j 0).int = Sp.num l j from fun _ => rfl]
 by_cases hi : i < l.length
 ·rw [show l.length - i.toNat = (l.length - (i.toNat + 1)) + 1 by omega] at hk;simp only [Sp.anyF, Sp.fstF] at hk
  by_cases c : Sp.num l i.toNat = Sp.num l (i.toNat - 1)
  ·have c2 : Sp.dupI l i.toNat = true := decide_eq_true c;rw [c2, Bool.true_or, if_pos rfl] at hk;have hk := hk.1 rfl;have hf := Sp.cmF_facts i.toNat (l.length - i.toNat - 1) 1 ⟨i.toNat, l⟩ (by omega) (Nat.le_refl _) (by simp only []; omega) (by simp only []; omega);have e0 : ((l.length - i.toNat : Nat) : Int) - 1 = ((l.length - i.toNat - 1 : Nat) : Int) := by omega
   simp only [Int.toNat_natCast, show Int.toNat 1 = 1 from rfl, e0, show Sp.cmF i.toNat 1 (l.length - i.toNat - 1) ⟨i.toNat, l⟩ = Sp.cmR l i.toNat from rfl, show Ybr [.int .i64] = [Cl.i 0] from rfl];rw [show Sp.cmF i.toNat 1 (l.length - i.toNat - 1) ⟨i.toNat, l⟩ = Sp.cmR l i.toNat from rfl] at hf;rw [<- em] at c;clear hA;generalize Sp.cmR l i.toNat = r at *;obtain ⟨ri, rl⟩ := r;simp only at hf hk ⊢;rw [hf.1];simp only [clD] at hk
   repeat' (first | (with_reducible refine Xb ⟨by omega, by omega, by omega, by omega, by omega, by omega, h3⟩ ?_) | omega | with_reducible refine vifd (fun _ => ?_) fun _ => ?_ | with_reducible refine vifn (fun _ => ?_) fun _ => ?_ | with_reducible refine vifq (fun _ => ?_) fun _ => ?_ | with_reducible refine Xd (fun _ => ?_) fun _ => ?_ | with_reducible refine Xc (fun _ => ?_) fun _ => ?_ | with_reducible refine vifb (fun _ => ?_) fun _ => ?_ | with_reducible refine vif (fun _ => ?_) fun _ => ?_ | (with_reducible refine nedd ?_ ?_; omega) | (with_reducible refine ned ?_ ?_; simp only [Bool.and_eq_true, decide_eq_true_eq]; omega) | (with_reducible refine ar64 ?_ ?_; omega) | (with_reducible refine Xb ?_ ?_; (first | trivial | omega | assumption | (refine ⟨?_, ?_⟩ <;> first | trivial | omega | assumption) | (refine ⟨?_, ?_, ?_⟩ <;> first | trivial | omega | assumption) | (refine ⟨?_, ?_, ?_, ?_⟩ <;> first | trivial | omega | assumption))))
   all_goals first | contradiction | exact hk | (refine ned (by simp; omega) ?_; exact hk) | skip
  ·have c2 : Sp.dupI l i.toNat = false := decide_eq_false c;rw [c2, Bool.false_or, if_neg (by decide)] at hk;have hA' := hA [.i (i + 1), .l l] (show ((l.length : Int) - (i + 1)).toNat < ((l.length : Int) - i).toNat by omega) ⟨⟨by omega, by omega, h3⟩, by rw [ez]; exact hk⟩;rw [<- em] at c;refine vifd (fun _ => ned (by simp; omega) (nedd (by omega) (ar64 (by omega) (ned (by simp; omega) (nedd (by omega) (vifd (fun x => absurd x c) fun _ => ar64 (by omega) hA')))))) fun x => absurd hi x
 ·rw [show l.length - i.toNat = 0 by omega] at hk;clear hA;refine vifd (fun x => absurd x hi) fun _ => hk.2 rfl
def Xo0 : LE Try.prog := ⟨65, 5, fun W => @Yto W Xgk, Xn9⟩
def T73 : Tab Try.prog := ⟨[], [Xo0], []⟩
namespace Sp
def cpN (l : Dt) : Nat := (cmR l (fstF (dupI l) 1 (l.length - 1))).i
def cpL (l : Dt) : Dt := clD (cmR l (fstF (dupI l) 1 (l.length - 1))).l (cpN l) (l.length - cpN l) [.i 0]
end Sp
def Xjv [InW] (e : List Ed) (K : Nat -> List Ed -> Prop) : Prop := match e with
 | [.l l] => Pre (l.length <= 1000) (Vif (decide (2 <= l.length) && Sp.anyF (Sp.dupI l) 1 (l.length - 1)) (K 1 [.i ((0 : Nat) : Int), .i (Sp.cpN l : Nat), .l (Sp.cpL l)]) (K 0 [.l l]))
 | _ => False
def X3 : CC where
 g := 65
 args := [(.row 3)]
 H := [(3, .arr 3 Jc)]
 outs := [⟨false, (.row 6), [(6, .arr 3 Jc)], false⟩, ⟨false, (.rwp 6 1), [(6, .arr 3 Jc)], false⟩]
 spec := Xjv
def Zz [W : InW] (l : Dt) := Sp.cmR l (Sp.fstF (Sp.dupI l) (Int.toNat (1 : Int)) (l.length - Int.toNat (1 : Int)))
def Xeg [W : InW] (l : Dt) (K : Nat -> List Ed -> Prop) : Prop :=
 Vif (decide ((↑(l.length) : Int) < 2)) (K 0 [Ed.l l]) (Pre ((1 : Int) <= 1 /\ (1 : Int) <= (↑(l.length) : Int) /\ l.length <= 1000) (Vif (Sp.anyF (Sp.dupI l) (Int.toNat (1 : Int)) (l.length - Int.toNat (1 : Int))) (K (0+1) [Ed.i (↑(↑(0 : Nat) : Int).toNat : Int), Ed.i (↑(↑(Zz l).1 : Int).toNat : Int), Ed.l (List.take (Zz l).1 (Zz l).2 ++ List.replicate (l.length - (Zz l).1) [Cl.i 0] ++ List.drop ((Zz l).1 + (l.length - (Zz l).1)) (Zz l).2)]) (K 0 [Ed.l l])))
theorem Xku (W : InW) (l K) : Ywu (cxT Try.prog TT T73 1000 50) 1000 65 [.rw 3] [(3, .arr 3 Jc l)] (fun v h => outC X3.H [.l l] X3.outs 0 false v h K) (fun v h => outC X3.H [.l l] X3.outs 0 true v h K) = Xeg l K := by kernel_rfl
theorem Xl8 (hyp_ : ∀ (W : InW) l K, Xjv [.l l] K -> Xeg l K) : ∀ W : InW, @CallC W Try.prog X3 :=
 CC.okOf (fun W => @TT W) (fun W => @Xe W) Xa T73 1000 50 X3 fun W l K hs => (Xku W l K).mpr (hyp_ W l K hs)
theorem Xod : ∀ W : InW, @CallC W Try.prog X3 := Xl8 fun W l K hs => by
 obtain ⟨h1, hk⟩ := hs;unfold Xeg;delta Zz;refine vifd (fun e => ?_) fun e => ⟨⟨by omega, by omega, h1⟩, ?_⟩
 ·rw [decide_eq_false (by omega), Bool.false_and] at hk;exact hk.2 rfl
 ·rw [decide_eq_true (by omega), Bool.true_and] at hk;exact hk
def T74 : Tab Try.prog := ⟨[Xm5], [], [ceOf Xo Xhk]⟩
abbrev LPsc : LI := lpAt Try.prog 25 0
namespace Sp
def ttW (qs ps sh u : Dt) (k : Nat) : Int := total (mkW qs ps sh u k)
def ttL (qs ps sh u : Dt) : Nat -> Nat -> Dt
 | _, 0 => []
 | i, n + 1 => [.i (ttW qs ps sh u i)] :: ttL qs ps sh u (i + 1) n
end Sp
def Xes [InW] (e : List Ed) (K : Nat -> List Ed -> Prop) : Prop := match e with
 | [.i n, .i i, .ro _ qs, .ro _ ps, .i all, .ro _ sh, .l u, .l l] => Pre (0 <= i /\ i <= n /\ n <= 128 /\ Sp.KeyOk qs.xs ps.xs all /\ Sp.SeOk qs.xs sh.xs u /\ l.length <= i) (K 0 [.ro _ qs, .ro _ ps, .i all, .ro _ sh, .l u, .l (l ++ Sp.ttL qs.xs ps.xs sh.xs u i.toNat (n - i).toNat)])
 | _ => False
def Xga : LC where
 len := 18
 T := [(0, (.yl 1)), (1, (.ptr 10 0)), (9, .int .i64), (10, .int .i64)]
 H := [(1, .lp LPsc [(.opq 1501), (.opq 1504), (.opq 1507), (.opq 1510), (.opq 1513), (.ptr 22 0), (.opq 1519), (.ptr 25 0), (.opq 321), (.opq 1528), (.opq 1531), (.opq 1534), (.opq 1537), (.opq 1540), (.opq 1543), (.opq 1546), (.opq 1549), (.opq 1552), (.opq 1555), (.opq 1558), (.opq 357), (.opq 360), (.opq 363), (.opq 366), (.opq 369), (.opq 372), (.opq 375), (.opq 378), (.opq 1585), (.opq 1588), (.opq 1591), (.opq 1594)]), (10, .blk 85 [(.ptr 4 0)]), (4, .blk 89 [.rs Iv5, .rs Jc, .int .i64, .rs Jb, (.row 7)]), (7, .arr 44 Ja), (25, .blk 85 [(.ptr 4 0)]), (22, .blk 23 [(.row 3)]), (3, .arr 3 Jc)]
 W := ([3] ++ rg 11 7)
 outs := [⟨.exit 0, [], [(1, .lp LPsc [(.opq 1501), (.opq 1504), (.opq 1507), (.opq 1510), (.opq 1513), (.ptr 22 0), (.opq 1519), (.ptr 25 0), (.opq 621), (.opq 1528), (.opq 1531), (.opq 1534), (.opq 1537), (.opq 1540), (.opq 1543), (.opq 1546), (.opq 1549), (.opq 1552), (.opq 1555), (.opq 1558), (.opq 657), (.opq 660), (.opq 663), (.opq 666), (.opq 669), (.opq 672), (.opq 675), (.opq 678), (.opq 1585), (.opq 1588), (.opq 1591), (.opq 1594)]), (621, .dead), (657, .dead), (660, .dead), (663, .dead), (666, .dead), (669, .dead), (672, .dead), (675, .dead), (678, .dead), (10, .blk 85 [(.ptr 4 0)]), (4, .blk 89 [.rs Iv5, .rs Jc, .int .i64, .rs Jb, (.row 7)]), (7, .arr 44 Ja), (25, .blk 85 [(.ptr 4 0)]), (22, .blk 23 [(.row 6)]), (6, .arr 3 Jc)], ([0, 1, 3] ++ rg 9 9)⟩]
 spec := Xes
def Xdy [W : InW] (n i : Int) (qs : Ro Iv5) (ps : Ro Jc) (all : Int) (sh : Ro Jb) (u l : Dt) (A : List Ed -> Prop) (K : Nat -> List Ed -> Prop) : Prop :=
 Vif (decide (i < n)) (Pre (0 <= i /\ Sp.KeyOk qs.xs ps.xs all /\ Sp.SeOk qs.xs sh.xs u) (Pre (Sp.Low (Sp.mkW qs.xs ps.xs sh.xs u i)) (Need (decide ((l.length + [[Cl.i (Sp.total (Sp.mkW qs.xs ps.xs sh.xs u i))]].length) * 8 <= 140737488355328)) (Ar .i64 (i + 1) fun z => PreL LPsc LPsc (A [.i n, .i z, .ro _ qs, .ro _ ps, .i all, .ro Zi sh, .l u, .l (l ++ [[Cl.i (Sp.total (Sp.mkW qs.xs ps.xs sh.xs u i))]])]))))) (PreL LPsc LPsc (K 0 [.ro _ qs, .ro _ ps, .i all, .ro Zi sh, .l u, .l l]))
theorem Xkc (W : InW) (n i qs ps all sh u l A K) : Yfc { cxT Try.prog TT T74 1000 50 with fn := 83 } 1000 (Yn8 Try.prog 83 2) (Yd8 18 [(0, .yl 1), (1, .ptr 10 0), (9, .si .i64 n), (10, .si .i64 i)] ([3] ++ rg 11 7)) [(1, .lp LPsc [.opq 1501, .opq 1504, .opq 1507, .opq 1510, .opq 1513, .ptr 22 0, .opq 1519, .ptr 25 0, .opq 321, .opq 1528, .opq 1531, .opq 1534, .opq 1537, .opq 1540, .opq 1543, .opq 1546, .opq 1549, .opq 1552, .opq 1555, .opq 1558, .opq 357, .opq 360, .opq 363, .opq 366, .opq 369, .opq 372, .opq 375, .opq 378, .opq 1585, .opq 1588, .opq 1591, .opq 1594]), (10, .blk 85 [.ptr 4 0]), (4, .blk 89 [.rs _ qs, .rs _ ps, .si .i64 all, .rs _ sh, .rw 7]), (7, .arr 44 Ja u), (25, .blk 85 [.ptr 4 0]), (22, .blk 23 [.rw 3]), (3, .arr 3 Jc l)] (Yug Xga A K) = Xdy n i qs ps all sh u l A K := by kernel_rfl
def Xfm : Prop := ∀ (W : InW) (body a : Code), (Try.prog.funcs[83]?).bind (·.body) = some body -> a ∈ Y0 body -> Yfw a = 2 -> @Ymr W Try.prog a (@Yto W Xga)
theorem Xlq (meas : [InW] -> List Ed -> Nat) (hyp_ : ∀ (W : InW) n i qs ps all sh u l K, Xes [.i n, .i i, .ro _ qs, .ro _ ps, .i all, .ro _ sh, .l u, .l l] K -> ∀ A : List Ed -> Prop, (∀ e, meas e < meas [.i n, .i i, .ro _ qs, .ro _ ps, .i all, .ro _ sh, .l u, .l l] -> Xes e K -> A e) -> Xdy n i qs ps all sh u l A K) : Xfm :=
 LE.okOf' (fun W => @TT W) (fun W => @Xe W) Xa T74 1000 50 (by kernel_rfl) Xga (fun W => @meas W) fun W n i qs ps all sh u l K hs =>
  (Xkc W n i qs ps all sh u l (fun e => meas e < meas [.i n, .i i, .ro _ qs, .ro _ ps, .i all, .ro _ sh, .l u, .l l] /\ Xes e K) K).mpr (hyp_ W n i qs ps all sh u l K hs _ fun e h1 h2 => ⟨h1, h2⟩)
theorem Xny : Xfm := Xlq (fun e => match e with | .i n :: .i i :: _ => (n - i).toNat | _ => 0) fun W n i qs ps all sh u l K hs A hA => by
 obtain ⟨⟨h0, h1, h2, hkey, hse, hl⟩, hk⟩ := hs;unfold Xdy;delta Zi;have ez : (i + 1).toNat = i.toNat + 1 := by omega
 have ei : ((i.toNat : Nat) : Int) = i := Int.toNat_of_nonneg h0
 by_cases hi : i < n
 ·rw [show (n - i).toNat = (n - (i + 1)).toNat + 1 by omega] at hk;simp only [Sp.ttL, Sp.ttW, ei] at hk;rw [show ∀ (a : List Cl) b, l ++ a :: b = (l ++ [a]) ++ b from fun a b => by simp] at hk;have hA' := hA [.i n, .i (i + 1), .ro _ qs, .ro _ ps, .i all, .ro _ sh, .l u, .l (l ++ [[.i (Sp.total (Sp.mkW qs.xs ps.xs sh.xs u i))]])] (show (n - (i + 1)).toNat < (n - i).toNat by omega) ⟨⟨by omega, by omega, h2, hkey, hse, by simp; omega⟩, by rw [ez]; exact hk⟩;clear hA hk;exact vifd (fun _ => ⟨⟨h0, hkey, hse⟩, ⟨Sp.mkW_low hkey, nedd (by simp; omega) (ar64 (by omega) ⟨rfl, hA'⟩)⟩⟩) fun x => absurd hi x
 ·rw [show (n - i).toNat = 0 by omega] at hk;simp only [Sp.ttL, List.append_nil] at hk;clear hA;exact vifd (fun x => absurd x hi) fun _ => ⟨rfl, hk⟩
def Xoq : LE Try.prog := ⟨83, 2, fun W => @Yto W Xga, Xny⟩
def T76 : Tab Try.prog := ⟨[], [Xoq], [ceOf Xg Xbd, ceOf Xhq Xmp, ceOf X3 Xod]⟩
def Xdg [W : InW] (kQ : Ro Iv5) (kP : Ro Jc) (kA : Int) (sh : Ro Jb) (Q : DS -> Prop) : Prop :=
 Vif (decide (Sp.askE kQ.xs kP.xs kA sh.xs = 0)) (Need (decide ((0 : Int) <= (↑(List.length (Sp.uns sh.xs)) : Int))) (Ar .i64 ((1 : Int) * 2 ^ min (↑(List.length (Sp.uns sh.xs)) : Int).toNat (64 : Nat)) fun z => PreL LPsc LPsc (Pre ((0 : Int) <= 0 /\ 0 <= z /\ z <= 128 /\ Sp.KeyOk kQ.xs kP.xs kA /\ Sp.SeOk kQ.xs sh.xs (Sp.uns sh.xs) /\ (↑(0 : Nat) : Int) <= 0) (Pre ((0 : Nat) < List.length (Sp.ttL kQ.xs kP.xs sh.xs (Sp.uns sh.xs) Za (z - 0).toNat) /\ List.length (Sp.ttL kQ.xs kP.xs sh.xs (Sp.uns sh.xs) Za (z - 0).toNat) <= 1000) (Pre (List.length (Sp.sortD (Sp.ttL kQ.xs kP.xs sh.xs (Sp.uns sh.xs) Za (z - 0).toNat)) <= 1000) (Vif (decide ((2 : Nat) <= List.length (Sp.sortD (Sp.ttL kQ.xs kP.xs sh.xs (Sp.uns sh.xs) Za (z - 0).toNat))) && Sp.anyF (Sp.dupI (Sp.sortD (Sp.ttL kQ.xs kP.xs sh.xs (Sp.uns sh.xs) Za (z - 0).toNat))) (1 : Nat) (List.length (Sp.sortD (Sp.ttL kQ.xs kP.xs sh.xs (Sp.uns sh.xs) Za (z - 0).toNat)) - 1)) (Need (decide ((↑(Sp.cpN (Sp.sortD (Sp.ttL kQ.xs kP.xs sh.xs (Sp.uns sh.xs) Za (z - 0).toNat))) : Int).toNat <= List.length (Sp.cpL (Sp.sortD (Sp.ttL kQ.xs kP.xs sh.xs (Sp.uns sh.xs) Za (z - 0).toNat))))) (Q [[Cl.l (List.take (↑(Sp.cpN (Sp.sortD (Sp.ttL kQ.xs kP.xs sh.xs (Sp.uns sh.xs) Za (z - 0).toNat))) : Int).toNat (Sp.cpL (Sp.sortD (Sp.ttL kQ.xs kP.xs sh.xs (Sp.uns sh.xs) Za (z - 0).toNat))))], [Cl.i 0]])) (Q [[Cl.l (Sp.sortD (Sp.ttL kQ.xs kP.xs sh.xs (Sp.uns sh.xs) Za (z - 0).toNat))], [Cl.i 0]]))))))) (Vif (!decide (Sp.askE kQ.xs kP.xs kA sh.xs = 0)) (Q [[Cl.l []], [Cl.i (Sp.askE kQ.xs kP.xs kA sh.xs)]]) ((16 : Nat) = 16 + 1))
theorem Xkx (W : InW) (kQ kP kA sh Q) : Ywx (cxT Try.prog TT T76 1000 50) 1000 25 [.agg [.rs _ kQ, .rs _ kP, .si .i64 kA], .rs _ sh] [] 0 (Y04 [(false, [.row 3 Jc]), (false, [.int .i64])] Q) (fun _ _ _ _ => Stuck 421) = Xdg kQ kP kA sh Q := by kernel_rfl
abbrev Xb6 : List AT := [.agg [.sl Iv5, .sl Jc, .int .i64], .one (.sl Jb)]
theorem Xmc {pre : DS -> Prop} {res : DS -> DS} (hyp_ : ∀ (W : InW) (kQ : Ro Iv5) (kP : Ro Jc) (kA : Int) (sh : Ro Jb), pre [[.l kQ.xs, .l kP.xs, .i kA], [.l sh.xs]] -> ∀ Q : DS -> Prop, Q (res [[.l kQ.xs, .l kP.xs, .i kA], [.l sh.xs]]) -> Xdg kQ kP kA sh Q) : PureOk Try.prog 25 Xb6 [(false, [.row 3 Jc]), (false, [.int .i64])] pre res :=
 PureOk.of' (fun W => @TT W) (fun W => @Xe W) Xa T76 1000 50 fun W kQ kP kA sh hp =>
  (Xkx W kQ kP kA sh (fun o => o = res [[.l kQ.xs, .l kP.xs, .i kA], [.l sh.xs]])).mpr (hyp_ W kQ kP kA sh hp _ rfl)
namespace Sp
structure Asc (l : Dt) : Prop where
 nums : Nums l
 up : ∀ p q, p < q -> q < l.length -> num l p < num l q
def memD (l : Dt) (x : Int) : Prop := ∃ p, p < l.length /\ num l p = x
theorem numsOf_get {l : Dt} {p : Nat} (h : p < (numsOf l).length) : (numsOf l)[p] = num l p := by
 unfold numsOf at h ⊢;rw [List.getElem_map];unfold num cel;rw [List.length_map] at h;rw [List.getD_eq_getElem?_getD (l := l), List.getElem?_eq_getElem h];rfl
theorem mem_numsOf {l : Dt} {x : Int} : x ∈ numsOf l ↔ memD l x := by
 rw [List.mem_iff_getElem];constructor
 ·rintro ⟨p, hp, e⟩;exact ⟨p, by rw [Xf] at hp; exact hp, by rw [<- e, numsOf_get]⟩
 ·rintro ⟨p, hp, e⟩;exact ⟨p, by rw [Xf]; exact hp, by rw [numsOf_get, e]⟩
theorem nums_eq {l : Dt} (h : Nums l) : l = (numsOf l).map fun n => [.i n] := by
 apply List.ext_getElem
 ·rw [List.length_map, Xf]
 ·intro p h1 h2;rw [List.getElem_map, numsOf_get];have := h p h1;rw [List.getD_eq_getElem?_getD, List.getElem?_eq_getElem h1] at this;exact this
theorem Asc.pw {l : Dt} (h : Asc l) : (numsOf l).Pairwise (· < ·) := by
 rw [List.pairwise_iff_getElem];intro p q hp hq hpq;rw [numsOf_get, numsOf_get];exact h.up p q hpq (by rw [Xf] at hq; exact hq)
theorem asc_of {l : Dt} (h1 : Nums l) (h2 : (numsOf l).Pairwise (· < ·)) : Asc l := ⟨h1, fun p q hpq hq => by
 rw [List.pairwise_iff_getElem] at h2;have := h2 p q (by rw [Xf]; omega) (by rw [Xf]; exact hq) hpq;rw [numsOf_get, numsOf_get] at this;exact this⟩
theorem pw_eq : ∀ {A B : List Int}, A.Pairwise (· < ·) -> B.Pairwise (· < ·) -> (∀ x, x ∈ A ↔ x ∈ B) -> A = B
 | [], [], _, _, _ => rfl
 | [], b :: B, _, _, h => absurd ((h b).2 List.mem_cons_self) (by simp)
 | a :: A, [], _, _, h => absurd ((h a).1 List.mem_cons_self) (by simp)
 | a :: A, b :: B, hA, hB, h => by
  obtain ⟨a1, a2⟩ := List.pairwise_cons.1 hA;obtain ⟨b1, b2⟩ := List.pairwise_cons.1 hB;have e : a = b := by
   rcases List.mem_cons.1 ((h a).1 List.mem_cons_self) with c | c
   ·exact c
   ·rcases List.mem_cons.1 ((h b).2 List.mem_cons_self) with d | d
    ·exact d.symm
    ·have := b1 a c; have := a1 b d; omega
  subst e
  congr 1
  refine pw_eq a2 b2 fun x => ⟨fun hx => ?_, fun hx => ?_⟩
  ·rcases List.mem_cons.1 ((h x).1 (List.mem_cons_of_mem _ hx)) with c | c
   ·have := a1 x hx; omega
   ·exact c
  ·rcases List.mem_cons.1 ((h x).2 (List.mem_cons_of_mem _ hx)) with c | c
   ·have := b1 x hx; omega
   ·exact c
theorem asc_eq {a b : Dt} (ha : Asc a) (hb : Asc b) (h : ∀ x, memD a x ↔ memD b x) : a = b := by
 rw [nums_eq ha.nums, nums_eq hb.nums, pw_eq ha.pw hb.pw fun x => by rw [mem_numsOf, mem_numsOf]; exact h x]
theorem fstF_lt {f : Nat -> Bool} : ∀ {n i k : Nat}, i <= k -> k < fstF f i n -> f k = false
 | 0, i, k, h1, h2 => by simp only [fstF] at h2; omega
 | n + 1, i, k, h1, h2 => by
  unfold fstF at h2
  split at h2
  ·omega
  ·rename_i h;rcases Nat.eq_or_lt_of_le h1 with e | e
   ·rw [<- e]; simpa using h
   ·exact fstF_lt e h2
theorem fstF_hit {f : Nat -> Bool} : ∀ {n i : Nat}, fstF f i n < i + n -> f (fstF f i n) = true
 | 0, i, h => by simp only [fstF] at h; omega
 | n + 1, i, h => by
  unfold fstF at h ⊢
  split
  ·rename_i c; exact c
  ·rename_i c;rw [if_neg c] at h;exact fstF_hit (by omega)
theorem nums_map (A : List Int) : Nums (A.map fun n => [.i n]) := fun p hp => by
 rw [List.length_map] at hp;unfold num cel;simp [hp, Cl.int]
theorem numsOf_map (A : List Int) : numsOf (A.map fun n => [.i n]) = A := by
 unfold numsOf;rw [List.map_map];exact List.map_id'' (fun _ => rfl) _
theorem ins_asc {l : Dt} {x : Int} (h : Asc l) : Asc (ins l x) /\ ∀ y, memD (ins l x) y ↔ y = x \/ memD l y := by
 have hlt : ∀ k, k < whr l x -> num l k < x := fun k hk => by
  have := fstF_lt (f := geI l x) (Nat.zero_le k) hk;unfold geI at this;simpa using this
 have hle := whr_le l x;unfold ins
 split
 ·rename_i c;have hgt : ∀ k, whr l x <= k -> k < l.length -> x < num l k := fun k h1 h2 => by
   have hw : whr l x < l.length := by omega
   have hh := fstF_hit (f := geI l x) (show fstF (geI l x) 0 l.length < 0 + l.length by unfold whr at hw; omega);have hge : x <= num l (whr l x) := by
    have : geI l x (whr l x) = true := hh;unfold geI at this;simpa using this
   have hne := c.resolve_left (by omega);rcases Nat.eq_or_lt_of_le h1 with e | e
   ·rw [<- e]; omega
   ·have := h.up _ _ e h2; omega
  have hl := nums_eq h.nums;have e : l.take (whr l x) ++ [[Cl.i x]] ++ l.drop (whr l x) = ((numsOf l).take (whr l x) ++ [x] ++ (numsOf l).drop (whr l x)).map fun n => [.i n] := by
   rw [List.map_append, List.map_append, List.map_take, List.map_drop, <- hl];rfl
  have hpw : ((numsOf l).take (whr l x) ++ [x] ++ (numsOf l).drop (whr l x)).Pairwise (· < ·) := by
   have hp := h.pw;have hp2 := hp;rw [<- List.take_append_drop (whr l x) (numsOf l)] at hp2;obtain ⟨p1, p2, p3⟩ := List.pairwise_append.1 hp2;have t : ∀ y ∈ (numsOf l).take (whr l x), y < x := fun y hy => by
    obtain ⟨k, hk, e⟩ := List.mem_iff_getElem.1 hy;rw [List.length_take] at hk;rw [List.getElem_take, numsOf_get] at e;rw [<- e]; exact hlt k (by omega)
   have d : ∀ y ∈ (numsOf l).drop (whr l x), x < y := fun y hy => by
    obtain ⟨k, hk, e⟩ := List.mem_iff_getElem.1 hy;rw [List.length_drop, Xf] at hk;rw [List.getElem_drop, numsOf_get] at e;rw [<- e]; exact hgt _ (by omega) (by omega)
   rw [List.append_assoc];refine List.pairwise_append.2 ⟨p1, List.pairwise_cons.2 ⟨d, p2⟩, fun a ha b hb => ?_⟩;rcases List.mem_cons.1 hb with rfl | hb
   ·exact t a ha
   ·exact p3 a ha b hb
  rw [e];refine ⟨asc_of (nums_map _) (by rw [numsOf_map]; exact hpw), fun y => ?_⟩;rw [<- mem_numsOf, numsOf_map, <- mem_numsOf];have hm : y ∈ numsOf l ↔ y ∈ (numsOf l).take (whr l x) \/ y ∈ (numsOf l).drop (whr l x) := by
   rw [<- List.mem_append, List.take_append_drop]
  rw [hm];simp only [List.mem_append, List.mem_singleton];constructor
  ·rintro ((a | a) | a)
   ·exact .inr (.inl a)
   ·exact .inl a
   ·exact .inr (.inr a)
  ·rintro (a | a | a)
   ·exact .inl (.inr a)
   ·exact .inl (.inl a)
   ·exact .inr a
 ·rename_i c;refine ⟨h, fun y => ⟨fun e => .inr e, fun e => e.elim (fun e => ?_) id⟩⟩;subst e;have h1 : whr l y ≠ l.length := fun x => c (.inl x);have h2 : num l (whr l y) = y := Classical.byContradiction fun x => c (.inr x);exact ⟨_, by omega, h2⟩
theorem insA_asc {f : Nat -> Int} : ∀ n i l, Asc l -> Asc (insA f i n l) /\ ∀ y, memD (insA f i n l) y ↔ memD l y \/ ∃ k, i <= k /\ k < i + n /\ f k = y
 | 0, i, l, h => ⟨h, fun y => ⟨.inl, fun e => e.elim id fun ⟨k, a, b, _⟩ => by omega⟩⟩
 | n + 1, i, l, h => by
  obtain ⟨h1, h2⟩ := ins_asc (x := f i) h;obtain ⟨h3, h4⟩ := insA_asc (f := f) n (i + 1) (ins l (f i)) h1;refine ⟨h3, fun y => ?_⟩;simp only [insA];rw [h4, h2];constructor
  ·rintro ((a | a) | ⟨k, a, b, c⟩)
   ·exact .inr ⟨i, Nat.le_refl _, by omega, a.symm⟩
   ·exact .inl a
   ·exact .inr ⟨k, by omega, by omega, c⟩
  ·rintro (a | ⟨k, a, b, c⟩)
   ·exact .inl (.inr a)
   ·rcases Nat.eq_or_lt_of_le a with e | e
    ·subst e; exact .inl (.inl c.symm)
    ·exact .inr ⟨k, e, by omega, c⟩
theorem asc_nil : Asc [] := ⟨fun p hp => by simp at hp, fun p q _ hq => by simp at hq⟩
structure CmI (S : Dt) (a k : Nat) (r : CmR) : Prop where
 len : r.l.length = S.length
 far : ∀ j, a + (k - 1) <= j -> j < S.length -> num r.l j = num S j
 up : ∀ p q, p < q -> q < r.i -> num r.l p < num r.l q
 one : 1 <= r.i
 last : num r.l (r.i - 1) = num S (a + (k - 1))
 src : ∀ p, p < r.i -> ∃ m, m < a + k /\ num r.l p = num S m
 all : ∀ m, m < a + k -> ∃ p, p < r.i /\ num r.l p = num S m
 nums : Nums r.l
 lt : r.i < a + k
theorem cmF_inv {S : Dt} (hS : ∀ p q, p <= q -> q < S.length -> num S p <= num S q) (a : Nat) : ∀ n k r, 1 <= k -> a + k + n = S.length -> CmI S a k r -> CmI S a (k + n) (cmF a k n r)
 | 0, k, r, _, _, h => h
 | n + 1, k, r, hk, he, h => by
  have hlen := h.len;have hlt := h.lt;simp only [cmF];rw [show k + (n + 1) = (k + 1) + n by omega];have f1 := h.far (a + k) (by omega) (by omega);have f2 := h.far (a + (k - 1)) (Nat.le_refl _) (by omega);rw [f1, f2]
  split
  ·rename_i c;refine cmF_inv hS a n (k + 1) r (by omega) (by omega) ⟨hlen, fun j hj hj2 => h.far j (by omega) hj2, h.up, h.one, by rw [h.last, show a + (k + 1 - 1) = a + k by omega, c], fun p hp => ?_, fun m hm => ?_, h.nums, by omega⟩
   ·obtain ⟨m, hm, e⟩ := h.src p hp; exact ⟨m, by omega, e⟩
   ·rcases Nat.lt_or_ge m (a + k) with x | x
    ·exact h.all m x
    ·obtain ⟨p, hp, e⟩ := h.all (a + (k - 1)) (by omega);exact ⟨p, hp, by rw [e, <- c, show m = a + k by omega]⟩
  ·rename_i c;have hset : ∀ j, num (r.l.set r.i [.i (num S (a + k))]) j = if r.i = j then num S (a + k) else num r.l j := fun j => num_set (by omega) j
   have hlast : num S (a + (k - 1)) < num S (a + k) := by
    have := hS (a + (k - 1)) (a + k) (by omega) (by omega);omega
   refine cmF_inv hS a n (k + 1) ⟨r.i + 1, r.l.set r.i [.i (num S (a + k))]⟩ (by omega) (by omega) ⟨by simp only [List.length_set]; exact hlen, fun j hj hj2 => ?_, fun p q hpq hq => ?_, by simp only []; omega, ?_, fun p hp => ?_, fun m hm => ?_, h.nums.set, by simp only []; omega⟩
   ·simp only [];rw [hset, if_neg (by omega)];exact h.far j (by omega) hj2
   ·simp only [] at hq ⊢;rw [hset, hset, if_neg (by omega)]
    by_cases e : r.i = q
    ·rw [if_pos e];rcases Nat.eq_or_lt_of_le (show p <= r.i - 1 by omega) with x | x
     ·rw [x, h.last]; exact hlast
     ·have := h.up p (r.i - 1) x (by have := h.one; omega);rw [h.last] at this;omega
    ·rw [if_neg e];exact h.up p q hpq (by omega)
   ·simp only [];rw [hset, if_pos (by omega), show a + (k + 1 - 1) = a + k by omega]
   ·simp only [] at hp ⊢;rw [hset]
    by_cases e : r.i = p
    ·rw [if_pos e]; exact ⟨a + k, by omega, rfl⟩
    ·rw [if_neg e];obtain ⟨m, hm, e2⟩ := h.src p (by omega);exact ⟨m, by omega, e2⟩
   ·simp only [];rcases Nat.lt_or_ge m (a + k) with x | x
    ·obtain ⟨p, hp, e⟩ := h.all m x;exact ⟨p, by omega, by rw [hset, if_neg (by omega)]; exact e⟩
    ·exact ⟨r.i, by omega, by rw [hset, if_pos rfl, show m = a + k by omega]⟩
def cpR (S : Dt) : Dt := if (decide (2 <= S.length) && anyF (dupI S) 1 (S.length - 1)) = true then (cpL S).take (cpN S) else S
theorem up_of {S : Dt} {n : Nat} (hS : ∀ p q, p <= q -> q < S.length -> num S p <= num S q) (hn : n <= S.length) (h : ∀ k, 1 <= k -> k < n -> num S k ≠ num S (k - 1)) : ∀ p q, p < q -> q < n -> num S p < num S q := fun p q hpq hq => by
 have h1 := hS p (q - 1) (by omega) (by omega);have h2 := hS (q - 1) q (by omega) (by omega);have h3 := h q (by omega) hq;omega
theorem cpR_asc {S : Dt} (hN : Nums S) (hS : ∀ p q, p <= q -> q < S.length -> num S p <= num S q) : Asc (cpR S) /\ ∀ y, memD (cpR S) y ↔ memD S y := by
 unfold cpR
 split
 ·rename_i c;rw [Bool.and_eq_true, decide_eq_true_eq] at c;obtain ⟨c1, c2⟩ := c;obtain ⟨f1, f2, f3, f4⟩ := fstF_spec c2;unfold cpL;have hcp : cpN S = (cmR S (fstF (dupI S) 1 (S.length - 1))).i := rfl;rw [hcp];generalize fstF (dupI S) 1 (S.length - 1) = a at *;have hd : num S a = num S (a - 1) := of_decide_eq_true f3;have h0 : CmI S a 1 ⟨a, S⟩ := ⟨rfl, fun j _ _ => rfl, up_of (n := a) hS (show a <= S.length by omega) fun k h1 h2 => of_decide_eq_false (f4 k h1 h2), by simp only []; omega, by simp only []; rw [show a + (1 - 1) = a by omega]; exact hd.symm, fun p hp => ⟨p, by simp only [] at hp; omega, rfl⟩, fun m hm => by
   rcases Nat.lt_or_ge m a with x | x
   ·exact ⟨m, x, rfl⟩
   ·exact ⟨a - 1, by simp only []; omega, by rw [show m = a by omega]; exact hd.symm⟩, hN, by simp only []; omega⟩
  have hI := cmF_inv hS a (S.length - a - 1) 1 ⟨a, S⟩ (Nat.le_refl _) (by omega) h0;have hr : cmF a 1 (S.length - a - 1) ⟨a, S⟩ = cmR S a := rfl;rw [hr, show 1 + (S.length - a - 1) = S.length - a by omega] at hI;generalize cmR S a = r at *;obtain ⟨i, l⟩ := r;have hlen : l.length = S.length := hI.len;have hlt : i < a + (S.length - a) := hI.lt;have htk : List.take i (clD l i (S.length - i) [.i 0]) = l.take i := by
   unfold clD;rw [List.append_assoc, List.take_append_of_le_length (by simp; omega), List.take_take, Nat.min_self]
  simp only [] at hI ⊢;rw [htk];have hnum : ∀ p, p < i -> num (l.take i) p = num l p := fun p hp => by
   unfold num cel;simp only [List.getD_eq_getElem?_getD, List.getElem?_take, if_pos hp]
  refine ⟨⟨fun p hp => ?_, fun p q hpq hq => ?_⟩, fun y => ⟨?_, ?_⟩⟩
  ·have hp2 : p < i := by rw [List.length_take] at hp; omega
   rw [hnum p hp2, <- hI.nums p (show p < l.length by omega)];simp only [List.getD_eq_getElem?_getD, List.getElem?_take, if_pos hp2]
  ·have hq2 : q < i := by rw [List.length_take] at hq; omega
   rw [hnum p (by omega), hnum q hq2];exact hI.up p q hpq hq2
  ·rintro ⟨p, hp, e⟩;have hp2 : p < i := by rw [List.length_take] at hp; omega
   obtain ⟨m, hm, e2⟩ := hI.src p hp2;rw [hnum p hp2] at e;exact ⟨m, by omega, by rw [<- e2]; exact e⟩
  ·rintro ⟨m, hm, e⟩;obtain ⟨p, hp, e2⟩ := hI.all m (by omega);have hp : p < i := hp;exact ⟨p, by rw [List.length_take]; omega, by rw [hnum p hp]; exact e2.trans e⟩
 ·rename_i c;refine ⟨⟨hN, ?_⟩, fun y => Iff.rfl⟩;refine up_of hS (Nat.le_refl _) fun k h1 h2 e => c ?_;rw [Bool.and_eq_true, decide_eq_true_eq];refine ⟨by omega, anyF_iff.2 ⟨k, h1, by omega, decide_eq_true e⟩⟩
theorem sortD_up (l : Dt) : ∀ p q, p <= q -> q < (sortD l).length -> num (sortD l) p <= num (sortD l) q := fun p q hpq hq => by
 rcases Nat.eq_or_lt_of_le hpq with e | e
 ·rw [e]; exact Int.le_refl _
 ·have h1 : ((numsOf l).mergeSort fun x y => decide (x <= y)).Pairwise (fun a b => decide (a <= b) = true) := List.pairwise_mergeSort (fun a b c h1 h2 => by simp at *; omega) (fun a b => by simp; omega) _;rw [<- Xx] at h1;rw [List.pairwise_iff_getElem] at h1;have := h1 p q (by rw [Xf]; omega) (by rw [Xf]; exact hq) e;rw [numsOf_get, numsOf_get] at this;simpa using this
theorem sortD_nums (l : Dt) : Nums (sortD l) := nums_map _
theorem sortD_mem (l : Dt) (x : Int) : memD (sortD l) x ↔ memD l x := by
 rw [<- mem_numsOf, Xx, <- mem_numsOf, List.mem_mergeSort]
theorem ttL_len (qs ps sh u : Dt) : ∀ n i, (ttL qs ps sh u i n).length = n
 | 0, _ => rfl
 | n + 1, i => by simp only [ttL, List.length_cons, ttL_len qs ps sh u n]
theorem ttL_mem (qs ps sh u : Dt) (x : Int) : ∀ n i, memD (ttL qs ps sh u i n) x ↔ ∃ k, i <= k /\ k < i + n /\ ttW qs ps sh u k = x
 | 0, i => ⟨fun ⟨p, hp, _⟩ => by simp [ttL] at hp, fun ⟨k, a, b, _⟩ => by omega⟩
 | n + 1, i => by
  have ih := ttL_mem qs ps sh u x n (i + 1);constructor
  ·rintro ⟨p, hp, e⟩;cases p with
   | zero => exact ⟨i, Nat.le_refl _, by omega, e⟩
   | succ p =>
    obtain ⟨k, a, b, c⟩ := ih.1 ⟨p, by simp only [ttL, List.length_cons] at hp; omega, e⟩;exact ⟨k, by omega, by omega, c⟩
  ·rintro ⟨k, a, b, c⟩;rcases Nat.eq_or_lt_of_le a with d | d
   ·subst d; exact ⟨0, by simp [ttL], c⟩
   ·obtain ⟨p, hp, e⟩ := ih.2 ⟨k, d, by omega, c⟩;exact ⟨p + 1, by simp only [ttL, List.length_cons]; omega, e⟩
theorem sc_eq {qs ps sh : Dt} {all : Int} (hk : KeyOk qs ps all) (hs : ShOk qs sh) : cpR (sortD (ttL qs ps sh (uns sh) 0 (2 ^ (uns sh).length))) = scV qs ps sh := by
 have h7 := hs.seven;rw [uns_len] at h7;obtain ⟨a1, a2⟩ := cpR_asc (sortD_nums (ttL qs ps sh (uns sh) 0 (2 ^ (uns sh).length))) (sortD_up _);obtain ⟨b1, b2⟩ := insA_asc (f := ttl qs ps (rdD sh)) (rdD sh).length 0 [] asc_nil;refine asc_eq a1 b1 fun x => ?_;unfold scV;rw [a2, sortD_mem, ttL_mem, b2, uns_len];have := any_rds (sh := sh) fun r => decide (total (mk qs ps r) = x);constructor
 ·rintro ⟨k, _, hk2, e⟩;right;unfold ttW at e;rw [mkW_it hk hs.n h7 (by omega)] at e;obtain ⟨j, hj, e2⟩ := this.2 ⟨k, by omega, decide_eq_true e⟩;exact ⟨j, Nat.zero_le _, by omega, of_decide_eq_true e2⟩
 ·rintro (⟨p, hp, _⟩ | ⟨j, _, hj, e⟩)
  ·simp at hp
  ·obtain ⟨k, hk2, e2⟩ := this.1 ⟨j, by omega, decide_eq_true e⟩;refine ⟨k, Nat.zero_le _, by omega, ?_⟩;unfold ttW;rw [mkW_it hk hs.n h7 hk2];exact of_decide_eq_true e2
end Sp
theorem Xm8 : PureOk Try.prog 25 Xb6 [(false, [.row 3 Jc]), (false, [.int .i64])] (fun _ => True) Xc7 :=
 Xmc fun W qs ps all sh hp Q h => by
  unfold Xdg;delta Za Zb;simp only [Xc7, Sp.scA] at h;refine vifd (fun e => ?_) fun e => vifn (fun _ => ?_) fun c => absurd c e
  ·obtain ⟨hk, hs⟩ := Sp.askE_ok e;have hE := Sp.sc_eq hk hs;rw [if_pos e, e, <- hE] at h;obtain ⟨p1, p2, p3⟩ := Xn hs.seven;rw [p1];refine nedd (by omega) (ar64 (by omega) ⟨rfl, ⟨by omega, by omega, by omega, hk, hs.se hk, by omega⟩, ?_⟩);simp only [show Int.toNat 0 = 0 from rfl, Int.sub_zero, Int.toNat_natCast];have hl : (Sp.ttL qs.xs ps.xs sh.xs (Sp.uns sh.xs) 0 (2 ^ (Sp.uns sh.xs).length)).length = 2 ^ (Sp.uns sh.xs).length := Sp.ttL_len _ _ _ _ _ _;have hl2 := X1 (Sp.ttL qs.xs ps.xs sh.xs (Sp.uns sh.xs) 0 (2 ^ (Sp.uns sh.xs).length));refine ⟨⟨by rw [hl]; omega, by rw [hl]; omega⟩, ⟨by rw [hl2, hl]; omega, ?_⟩⟩;generalize Sp.sortD (Sp.ttL qs.xs ps.xs sh.xs (Sp.uns sh.xs) 0 (2 ^ (Sp.uns sh.xs).length)) = S at *;unfold Sp.cpR at h;refine vif (fun c => ?_) fun c => ?_
   ·rw [if_pos c] at h;refine nedd ?_ h;rw [Bool.and_eq_true, decide_eq_true_eq] at c;obtain ⟨f1, f2, f3, f4⟩ := Sp.fstF_spec c.2;have hf := Sp.cmF_facts (Sp.fstF (Sp.dupI S) 1 (S.length - 1)) (S.length - Sp.fstF (Sp.dupI S) 1 (S.length - 1) - 1) 1 ⟨Sp.fstF (Sp.dupI S) 1 (S.length - 1), S⟩ (Nat.le_refl _) (Nat.le_refl _) (by simp only []; omega) (by simp only []; omega);have hf1 : (Sp.cmR S (Sp.fstF (Sp.dupI S) 1 (S.length - 1))).l.length = S.length := hf.1;have hf2 : Sp.cpN S < S.length := by have : Sp.cpN S < _ := hf.2.2; omega
    unfold Sp.cpL;rw [Y3p (by rw [hf1]; omega), hf1];omega
   ·rw [if_neg (by rw [c]; decide)] at h;exact h
  ·rw [if_neg e] at h; exact h
def Xg5 : PC Try.prog := ⟨25, Xb6, [(false, [.row 3 Jc]), (false, [.int .i64])], fun _ => True, Xc7, Xm8⟩
abbrev LPtb : LI := lpAt Try.prog 70 0
namespace Sp
def psb (ps : Dt) (k : Nat) : Bool := (cel ps k 0).bool
def fit (a b : Int) (k : Nat) : Bool := decide (andI .i64 k a = b)
def fitA (ps : Dt) (a b : Int) (k : Nat) : Bool := fit a b k && psb ps k
def fitE (ps : Dt) (a b : Int) (k : Nat) : Bool := !fit a b k || psb ps k
end Sp
def Xek [InW] (e : List Ed) (K : Nat -> List Ed -> Prop) : Prop := match e with
 | [.i n, .i i, .l ps, .i a, .i b, .b so, .b al] => Pre (n = ps.length /\ 0 <= i /\ i <= n /\ n <= 1000) (K 0 [.l ps, .i a, .i b, .b (so || Sp.anyF (Sp.fitA ps a b) i.toNat (n - i).toNat), .b (al && Sp.allF (Sp.fitE ps a b) i.toNat (n - i).toNat)])
 | _ => False
def Xf2 : LC where
 len := 26
 T := [(0, (.yl 1)), (1, (.ptr 25 0)), (2, (.ptr 31 0)), (3, (.ptr 34 0)), (7, (.row 28)), (8, .int .i64), (9, .int .i64)]
 H := [(1, .lp LPtb [(.opq 1501), (.opq 1504), (.opq 1507), (.opq 1510), (.ptr 13 0), (.ptr 16 0), (.ptr 19 0), (.opq 318), (.opq 321), (.opq 1528), (.opq 327), (.opq 330), (.opq 333), (.opq 336), (.opq 339), (.opq 342), (.opq 345), (.opq 348), (.opq 351), (.opq 354), (.opq 357), (.opq 360), (.opq 1567), (.opq 1570)]), (25, .blk 102 [(.row 28)]), (28, .arr 4 Jd), (31, .blk 3 [.int .i64]), (34, .blk 3 [.int .i64]), (13, .blk 107 [(.fn (.func 71) [] [])]), (16, .blk 4 [.bool]), (19, .blk 4 [.bool])]
 W := ([5, 6] ++ rg 10 16)
 outs := [⟨.exit 0, [], [(1, .lp LPtb [(.opq 1501), (.opq 1504), (.opq 1507), (.opq 1510), (.ptr 13 0), (.ptr 16 0), (.ptr 19 0), (.opq 618), (.opq 621), (.opq 1528), (.opq 627), (.opq 630), (.opq 633), (.opq 636), (.opq 639), (.opq 642), (.opq 645), (.opq 648), (.opq 651), (.opq 654), (.opq 657), (.opq 660), (.opq 1567), (.opq 1570)]), (618, .dead), (621, .dead), (627, .dead), (630, .dead), (633, .dead), (636, .dead), (639, .dead), (642, .dead), (645, .dead), (648, .dead), (651, .dead), (654, .dead), (657, .dead), (660, .dead), (25, .blk 102 [(.row 28)]), (28, .arr 4 Jd), (31, .blk 3 [.int .i64]), (34, .blk 3 [.int .i64]), (13, .blk 107 [(.fn (.func 71) [] [])]), (16, .blk 4 [.bool]), (19, .blk 4 [.bool])], (rg 0 4 ++ rg 5 21)⟩]
 spec := Xek
def Xdq [W : InW] (n i : Int) (ps : Dt) (a b : Int) (so al : Bool) (A : List Ed -> Prop) (K : Nat -> List Ed -> Prop) : Prop :=
 Vif (decide (i < n)) (Need (decide (0 <= i) && decide (i < (↑(ps.length) : Int))) (Need (decide (i.toNat < ps.length)) (Vif (decide (andI IntKind.i64 i a = b)) (Vif so (Vif al (Ar .i64 (i + 1) fun z => PreL LPtb LPtb (A [.i n, .i z, .l ps, .i a, .i b, .b true, .b (cel ps i.toNat Zm).bool])) (Ar .i64 (i + 1) fun z => PreL LPtb LPtb (A [.i n, .i z, .l ps, .i a, .i b, .b true, .b false]))) (Vif al (Ar .i64 (i + 1) fun z => PreL LPtb LPtb (A [.i n, .i z, .l ps, .i a, .i b, .b (cel ps i.toNat Zm).bool, .b (cel ps i.toNat Zm).bool])) (Ar .i64 (i + 1) fun z => PreL LPtb LPtb (A [.i n, .i z, .l ps, .i a, .i b, .b (cel ps i.toNat Zm).bool, .b false])))) (Ar .i64 (i + 1) fun z => PreL LPtb LPtb (A [.i n, .i z, .l ps, .i a, .i b, .b so, .b al]))))) (PreL LPtb LPtb (K 0 [.l ps, .i a, .i b, .b so, .b al]))
theorem Xj4 (W : InW) (n i ps a b so al A K) : Yfc { cxT Try.prog TT T0 1000 50 with fn := 69 } 1000 (Yn8 Try.prog 69 2) (Yd8 26 [(0, .yl 1), (1, .ptr 25 0), (2, .ptr 31 0), (3, .ptr 34 0), (7, .rw 28), (8, .si .i64 n), (9, .si .i64 i)] ([5, 6] ++ rg 10 16)) [(1, .lp LPtb [.opq 1501, .opq 1504, .opq 1507, .opq 1510, .ptr 13 0, .ptr 16 0, .ptr 19 0, .opq 318, .opq 321, .opq 1528, .opq 327, .opq 330, .opq 333, .opq 336, .opq 339, .opq 342, .opq 345, .opq 348, .opq 351, .opq 354, .opq 357, .opq 360, .opq 1567, .opq 1570]), (25, .blk 102 [.rw 28]), (28, .arr 4 Jd ps), (31, .blk 3 [.si .i64 a]), (34, .blk 3 [.si .i64 b]), (13, .blk 107 [.fn (.func 71) [] []]), (16, .blk 4 [.sb so]), (19, .blk 4 [.sb al])] (Yug Xf2 A K) = Xdq n i ps a b so al A K := by kernel_rfl
def Xfe : Prop := ∀ (W : InW) (body a : Code), (Try.prog.funcs[69]?).bind (·.body) = some body -> a ∈ Y0 body -> Yfw a = 2 -> @Ymr W Try.prog a (@Yto W Xf2)
theorem Xli (meas : [InW] -> List Ed -> Nat) (hyp_ : ∀ (W : InW) n i ps a b so al K, Xek [.i n, .i i, .l ps, .i a, .i b, .b so, .b al] K -> ∀ A : List Ed -> Prop, (∀ e, meas e < meas [.i n, .i i, .l ps, .i a, .i b, .b so, .b al] -> Xek e K -> A e) -> Xdq n i ps a b so al A K) : Xfe :=
 LE.okOf' (fun W => @TT W) (fun W => @Xe W) Xa T0 1000 50 (by kernel_rfl) Xf2 (fun W => @meas W) fun W n i ps a b so al K hs =>
  (Xj4 W n i ps a b so al (fun e => meas e < meas [.i n, .i i, .l ps, .i a, .i b, .b so, .b al] /\ Xek e K) K).mpr (hyp_ W n i ps a b so al K hs _ fun e h1 h2 => ⟨h1, h2⟩)
theorem Xnq : Xfe := Xli (fun e => match e with | .i n :: .i i :: _ => (n - i).toNat | _ => 0) fun W n i ps a b so al K hs A hA => by
 obtain ⟨⟨rfl, h0, h1, h2⟩, hk⟩ := hs;unfold Xdq;delta Zm;have ez : (i + 1).toNat = i.toNat + 1 := by omega
 have ei : ((i.toNat : Nat) : Int) = i := Int.toNat_of_nonneg h0;simp only [show (cel ps i.toNat 0).bool = Sp.psb ps i.toNat from rfl]
 by_cases hi : i < ps.length
 ·rw [show ((ps.length : Int) - i).toNat = ((ps.length : Int) - (i + 1)).toNat + 1 by omega] at hk;have hA' : ∀ c d, c = (so || (decide (andI .i64 i a = b) && Sp.psb ps i.toNat)) -> d = (al && (!decide (andI .i64 i a = b) || Sp.psb ps i.toNat)) -> A [.i ps.length, .i (i + 1), .l ps, .i a, .i b, .b c, .b d] := fun c d hc hd => hA _ (show ((ps.length : Int) - (i + 1)).toNat < ((ps.length : Int) - i).toNat by omega) ⟨⟨rfl, by omega, by omega, h2⟩, by
   simp only [Sp.anyF, Sp.allF, Sp.fitA, Sp.fitE, Sp.fit, ei] at hk;rw [ez, hc, hd, Bool.or_assoc, Bool.and_assoc];exact hk⟩
  clear hA hk
  repeat' (first | omega|intro _|with_reducible first|apply vifd|apply vifn|apply vifq|apply Xd|apply Xc|apply vifb|apply vif|apply nedd|apply ned2|apply ned|apply ar64|apply Xb|exact True.intro|assumption|rfl|apply And.intro)
  all_goals first | contradiction | (refine ⟨rfl, ?_⟩; refine hA' _ _ ?_ ?_ <;> simp [*]; done) | skip
 ·rw [show ((ps.length : Int) - i).toNat = 0 by omega] at hk;simp only [Sp.allF, Sp.anyF, Bool.and_true, Bool.or_false] at hk;clear hA
  repeat' (first | omega|intro _|with_reducible first|apply vifd|apply vifn|apply vifq|apply Xd|apply Xc|apply vifb|apply vif|apply nedd|apply ned2|apply ned|apply ar64|apply Xb|exact True.intro|assumption|rfl|apply And.intro)
  all_goals exact ⟨rfl, hk⟩
def Xoi : LE Try.prog := ⟨69, 2, fun W => @Yto W Xf2, Xnq⟩
def T80 : Tab Try.prog := ⟨[], [Xoi], []⟩
def Xgu [InW] (e : List Ed) (K : Nat -> List Ed -> Prop) : Prop := match e with
 | [.l ps, .i a, .i b] => Pre (ps.length <= 1000) (K 0 [.b (Sp.anyF (Sp.fitA ps a b) 0 ps.length), .b (Sp.allF (Sp.fitE ps a b) 0 ps.length), .l ps, .i a, .i b])
 | _ => False
def Xi : CC where
 g := 70
 args := [(.fn (.func 69) [] [(.ptr 25 0), (.ptr 31 0), (.ptr 34 0)]), (.fn (.func 71) [] [])]
 H := [(25, .blk 102 [(.row 28)]), (28, .arr 4 Jd), (31, .blk 3 [.int .i64]), (34, .blk 3 [.int .i64])]
 outs := [⟨false, .tup [.bool, .bool], [(25, .blk 102 [(.row 28)]), (28, .arr 4 Jd), (31, .blk 3 [.int .i64]), (34, .blk 3 [.int .i64])], false⟩]
 spec := Xgu
def Zba [W : InW] (ps : Dt) := (↑(ps.length) : Int)
def Xcm [W : InW] (ps : Dt) (a b : Int) (K : Nat -> List Ed -> Prop) : Prop :=
 PreL LPtb LPtb (Pre ((Zba ps) = (Zba ps) /\ (0 : Int) <= 0 /\ (0 : Int) <= (Zba ps) /\ (Zba ps) <= 1000) (K 0 [.b (false || Sp.anyF (Sp.fitA ps a b) Za ((Zba ps) - 0).toNat), .b (true && Sp.allF (Sp.fitE ps a b) Za ((Zba ps) - 0).toNat), .l ps, .i a, .i b]))
theorem Xh6 (W : InW) (ps a b K) : Ywu (cxT Try.prog TT T80 1000 50) 1000 70 [.fn (.func 69) [] [.ptr 25 0, .ptr 31 0, .ptr 34 0], .fn (.func 71) [] []] [(25, .blk 102 [.rw 28]), (28, .arr 4 Jd ps), (31, .blk 3 [.si .i64 a]), (34, .blk 3 [.si .i64 b])] (fun v h => outC Xi.H [.l ps, .i a, .i b] Xi.outs 0 false v h K) (fun v h => outC Xi.H [.l ps, .i a, .i b] Xi.outs 0 true v h K) = Xcm ps a b K := by kernel_rfl
theorem Xi2 (hyp_ : ∀ (W : InW) ps a b K, Xgu [.l ps, .i a, .i b] K -> Xcm ps a b K) : ∀ W : InW, @CallC W Try.prog Xi :=
 CC.okOf (fun W => @TT W) (fun W => @Xe W) Xa T80 1000 50 Xi fun W ps a b K hs => (Xh6 W ps a b K).mpr (hyp_ W ps a b K hs)
theorem Xhj : ∀ W : InW, @CallC W Try.prog Xi := Xi2 fun W ps a b K hs => by
 obtain ⟨h1, hk⟩ := hs;unfold Xcm;delta Za Zba Zb;simp only [show Int.toNat 0 = 0 from rfl, Int.sub_zero, Bool.true_and, Bool.false_or, Int.toNat_natCast];exact ⟨rfl, ⟨trivial, by omega, by omega, by omega⟩, hk⟩
structure LpR where
 n : Int
 i : Int
namespace Sp
def mixB (ps : Dt) (a b : Int) : Bool := anyF (fitA ps a b) 0 ps.length && !allF (fitE ps a b) 0 ps.length
def bitA (a i : Int) : Int := andI .i64 (a.fdiv (2 ^ min i.toNat 64)) 1
def orB (a i : Int) : Int := orI .i64 a ((1 : Int) * 2 ^ min i.toNat 64)
def lpF (c : Nat -> Int) (skip : Nat -> Bool) : Nat -> Nat -> LpR -> LpR
 | _, 0, r => r
 | i, n + 1, r => lpF c skip (i + 1) n (if skip i = true then r else if r.i < 0 \/ c i < r.n then ⟨c i, i⟩ else r)
def lpN (ps : Dt) (w : Nat) : Nat -> Int -> Int -> LpR
 | 0, _, _ => ⟨0, -1⟩
 | m + 1, a, b => if mixB ps a b = true then lpF (fun i => 1 + max (lpN ps w m (orB a i) b).n (lpN ps w m (orB a i) (orB b i)).n) (fun i => decide (bitA a i = 1)) 0 w ⟨0, -1⟩ else ⟨0, -1⟩
def free (w : Nat) (a : Nat) : Nat := ((List.range w).filter fun i => decide (a / 2 ^ i % 2 = 0)).length
def lpC (ps : Dt) (w : Nat) (a b : Int) : LpR := lpN ps w (free w a.toNat + 1) a b
def lpc (ps : Dt) (w : Nat) (a b : Int) (i : Nat) : Int := 1 + max (lpC ps w (orB a i) b).n (lpC ps w (orB a i) (orB b i)).n
def lps (a : Int) (i : Nat) : Bool := decide (bitA a i = 1)
structure MemoOk (ps : Dt) (w : Nat) (xs : Dt) : Prop where
 ok : ∀ a b, hasP xs a b = true -> getP xs a b 0 = (lpC ps w a b).n /\ getP xs a b 1 = (lpC ps w a b).i
structure StOk (ps u : Dt) (a b : Int) : Prop where
 few : u.length <= 7
 len : ps.length = 2 ^ u.length
 a0 : 0 <= a
 a1 : a < (2 ^ u.length : Nat)
 b0 : 0 <= b
 b1 : b < (2 ^ u.length : Nat)
inductive FaM (P : Dt -> Prop) (K : Dt -> Prop) : Prop where
 | mk (h : ∀ xs, P xs -> K xs)
end Sp
theorem Xmq : ∀ (w : Fin 8) (i : Fin 7) (a : Fin 128), i.1 < w.1 -> a.1 < 2 ^ w.1 -> 0 <= Sp.orB a.1 i.1 /\ Sp.orB a.1 i.1 < (2 ^ w.1 : Nat) /\ (Sp.bitA a.1 i.1 = 1 \/ Sp.free w.1 (Sp.orB a.1 i.1).toNat + 1 = Sp.free w.1 a.1) := by decide +kernel
theorem Xhn : ∀ (w : Fin 8) (a : Fin 128), Sp.free w.1 a.1 <= 7 := by decide +kernel
theorem Xio {i : Int} (h0 : 0 <= i) (h1 : i < 7) : 1 <= (1 : Int) * 2 ^ min i.toNat 64 /\ (1 : Int) * 2 ^ min i.toNat 64 <= 64 := by
 obtain ⟨k, rfl⟩ := Int.eq_ofNat_of_zero_le h0;have : ∀ k : Fin 7, 1 <= (1 : Int) * 2 ^ min ((k.1 : Int)).toNat 64 /\ (1 : Int) * 2 ^ min ((k.1 : Int)).toNat 64 <= 64 := by decide
 exact this ⟨k, by omega⟩
theorem X7 {w : Nat} {a i : Int} (hw : w <= 7) (a0 : 0 <= a) (a1 : a < (2 ^ w : Nat)) (i0 : 0 <= i) (i1 : i < w) : 0 <= Sp.orB a i /\ Sp.orB a i < (2 ^ w : Nat) /\ (Sp.bitA a i = 1 \/ Sp.free w (Sp.orB a i).toNat + 1 = Sp.free w a.toNat) := by
 obtain ⟨a, rfl⟩ := Int.eq_ofNat_of_zero_le a0;obtain ⟨i, rfl⟩ := Int.eq_ofNat_of_zero_le i0;have a2 : a < 2 ^ w := by omega
 have : 2 ^ w <= 2 ^ 7 := Nat.pow_le_pow_right (by decide) hw;have h7 : (2 : Nat) ^ 7 = 128 := rfl;exact Xmq ⟨w, by omega⟩ ⟨i, by omega⟩ ⟨a, by omega⟩ (by show i < w; omega) a2
theorem Xhm {w : Nat} {a : Int} (hw : w <= 7) (a0 : 0 <= a) (a1 : a < (2 ^ w : Nat)) : Sp.free w a.toNat <= 7 := by
 obtain ⟨a, rfl⟩ := Int.eq_ofNat_of_zero_le a0;have a2 : a < 2 ^ w := by omega
 have : 2 ^ w <= 2 ^ 7 := Nat.pow_le_pow_right (by decide) hw;have h7 : (2 : Nat) ^ 7 = 128 := rfl;exact Xhn ⟨w, by omega⟩ ⟨a, by omega⟩
theorem Xt {c : Nat -> Int} {skip : Nat -> Bool} {B : Int} (hc : ∀ i, 0 <= c i /\ c i <= B) : ∀ (n i : Nat) (r : LpR), 0 <= r.n -> r.n <= B -> 0 <= (Sp.lpF c skip i n r).n /\ (Sp.lpF c skip i n r).n <= B
 | 0, _, r, h0, h1 => ⟨h0, h1⟩
 | n + 1, i, r, h0, h1 => by
  unfold Sp.lpF
  split
  ·exact Xt hc n _ _ h0 h1
  ·split
   ·exact Xt hc n _ _ (hc i).1 (hc i).2
   ·exact Xt hc n _ _ h0 h1
theorem Xbe {ps : Dt} {w : Nat} : ∀ (m : Nat) (a b : Int), 0 <= (Sp.lpN ps w m a b).n /\ (Sp.lpN ps w m a b).n <= m
 | 0, _, _ => ⟨Int.le_refl _, Int.le_refl _⟩
 | m + 1, a, b => by
  unfold Sp.lpN
  split
  ·refine Xt (fun i => ?_) _ _ _ (Int.le_refl _) (by show (0 : Int) <= _; omega);have h1 := Xbe (ps := ps) (w := w) m (Sp.orB a i) b;have h2 := Xbe (ps := ps) (w := w) m (Sp.orB a i) (Sp.orB b i);constructor <;> omega
  ·exact ⟨Int.le_refl _, by show (0 : Int) <= _; omega⟩
theorem Xbf {c c' : Nat -> Int} {skip : Nat -> Bool} : ∀ (n i : Nat) (r : LpR), (∀ k, i <= k -> k < i + n -> skip k = false -> c k = c' k) -> Sp.lpF c skip i n r = Sp.lpF c' skip i n r
 | 0, _, _, _ => rfl
 | n + 1, i, r, h => by
  unfold Sp.lpF
  by_cases hs : skip i = true
  ·rw [if_pos hs, if_pos hs];exact Xbf n _ _ fun k h1 h2 h3 => h k (by omega) (by omega) h3
  ·rw [if_neg hs, if_neg hs, h i (Nat.le_refl _) (by omega) (by simpa using hs)];exact Xbf n _ _ fun k h1 h2 h3 => h k (by omega) (by omega) h3
theorem Xj1 {ps : Dt} {w : Nat} {a b : Int} (hw : w <= 7) (a0 : 0 <= a) (a1 : a < (2 ^ w : Nat)) : Sp.lpC ps w a b = if Sp.mixB ps a b = true then Sp.lpF (Sp.lpc ps w a b) (Sp.lps a) 0 w ⟨0, -1⟩ else ⟨0, -1⟩ := by
 show Sp.lpN ps w (Sp.free w a.toNat + 1) a b = _
 rw [Sp.lpN]
 split
 ·refine Xbf _ _ _ fun k _ hk hs => ?_;have hb : ¬ Sp.bitA a k = 1 := by simpa using hs
  have := (X7 hw a0 a1 (i := (k : Int)) (by omega) (by omega)).2.2.resolve_left hb
  show _ = 1 + max (Sp.lpN ps w (Sp.free w (Sp.orB a k).toNat + 1) _ _).n (Sp.lpN ps w (Sp.free w (Sp.orB a k).toNat + 1) _ _).n
  rw [this]
 ·rfl
theorem Xbg {ps : Dt} {w : Nat} {a b : Int} (hw : w <= 7) (a0 : 0 <= a) (a1 : a < (2 ^ w : Nat)) : 0 <= (Sp.lpC ps w a b).n /\ (Sp.lpC ps w a b).n <= 8 := by
 have h := Xbe (ps := ps) (w := w) (Sp.free w a.toNat + 1) a b;have := Xhm hw a0 a1;exact ⟨h.1, by have := h.2; show (Sp.lpN _ _ _ _ _).n <= 8; omega⟩
theorem Xgn : ∀ (xs : Dt) (a b u v c d : Int), hasP (setP xs a b u v) c d = true -> (c = a /\ d = b) \/ hasP xs c d = true
 | [], a, b, u, v, c, d, h => by
  by_cases e : a = c /\ b = d
  ·exact .inl ⟨e.1.symm, e.2.symm⟩
  ·rw [setP, hasP, if_neg (by simpa [rI] using e)] at h; cases h
 | r :: es, a, b, u, v, c, d, h => by
  rw [setP] at h
  split at h
  ·by_cases e : a = c /\ b = d
   ·exact .inl ⟨e.1.symm, e.2.symm⟩
   ·rw [hasP, if_neg (by simpa [rI] using e)] at h;refine .inr ?_;rw [hasP]
    split
    ·rfl
    ·exact h
  ·rw [hasP] at h;rw [hasP]
   split at h
   ·rename_i hx; rw [if_pos hx]; exact .inr rfl
   ·rename_i hx;rw [if_neg hx];exact Xgn es a b u v c d h
theorem Xb4 : ∀ (xs : Dt) (a b u v : Int) (k : Nat), getP (setP xs a b u v) a b k = rI [.i a, .i b, .i u, .i v] (2 + k)
 | [], a, b, u, v, k => by rw [setP, getP, if_pos ⟨rfl, rfl⟩]
 | r :: es, a, b, u, v, k => by
  rw [setP]
  split
  ·rw [getP, if_pos ⟨rfl, rfl⟩]
  ·rename_i hx;rw [getP, if_neg hx];exact Xb4 es a b u v k
theorem Xbh : ∀ (xs : Dt) (a b u v c d : Int) (k : Nat), ¬ (c = a /\ d = b) -> getP (setP xs a b u v) c d k = getP xs c d k
 | [], a, b, u, v, c, d, k, hn => if_neg (show ¬ (rI [.i a, .i b, .i u, .i v] 0 = c /\ rI [.i a, .i b, .i u, .i v] 1 = d) from fun e => hn ⟨e.1.symm, e.2.symm⟩)
 | r :: es, a, b, u, v, c, d, k, hn => by
  rw [setP]
  split
  ·rename_i hx;rw [getP, getP, if_neg (show ¬ (rI [.i a, .i b, .i u, .i v] 0 = c /\ rI [.i a, .i b, .i u, .i v] 1 = d) from fun e => hn ⟨e.1.symm, e.2.symm⟩), if_neg (fun e => hn ⟨e.1.symm.trans hx.1, e.2.symm.trans hx.2⟩)]
  ·rw [getP, getP, Xbh es a b u v c d k hn]
theorem Xfy {ps : Dt} {w : Nat} {xs : Dt} {a b u v : Int} (h : Sp.MemoOk ps w xs) (h0 : u = (Sp.lpC ps w a b).n) (h1 : v = (Sp.lpC ps w a b).i) : Sp.MemoOk ps w (setP xs a b u v) where
 ok c d hd := by
  by_cases e : c = a /\ d = b
  ·obtain ⟨rfl, rfl⟩ := e;rw [Xb4, Xb4];exact ⟨h0, h1⟩
  ·rw [Xbh _ _ _ _ _ _ _ _ e, Xbh _ _ _ _ _ _ _ _ e];exact h.ok c d ((Xgn _ _ _ _ _ _ _ hd).resolve_left e)
def Xe2 (m : Nat) [InW] (e : List Ed) (K : Nat -> List Ed -> Prop) : Prop := match e with
 | [.i a, .i b, .l xs, .l ps, .ro _ qs, .ro _ pz, .i all, .ro _ sh, .l u] => Pre (Sp.StOk ps u a b /\ Sp.MemoOk ps u.length xs /\ Sp.free u.length a.toNat < m) (Sp.FaM (Sp.MemoOk ps u.length) fun ys => K 0 [.i (Sp.lpC ps u.length a b).n, .i (Sp.lpC ps u.length a b).i, .l ys, .l ps, .ro _ qs, .ro _ pz, .i all, .ro _ sh, .l u])
 | _ => False
def Xbx (m : Nat) : CC where
 g := 68
 args := [.int .i64, .int .i64, (.ptr 37 0), (.ptr 25 0), (.ptr 43 0), (.ptr 46 0)]
 H := [(37, .blk 103 [(.mp 40)]), (40, .mpP), (25, .blk 102 [(.row 28)]), (28, .arr 4 Jd), (43, .blk 85 [(.ptr 4 0)]), (4, .blk 89 [.rs Iv5, .rs Jc, .int .i64, .rs Jb, (.row 7)]), (7, .arr 44 Ja), (46, .blk 104 [(.fn (.func 68) [] [(.ptr 37 0), (.ptr 25 0), (.ptr 43 0), (.ptr 46 0)])])]
 outs := [⟨false, .agg [.int .i64, .int .i64], [(37, .blk 103 [(.mp 40)]), (40, .mpP), (25, .blk 102 [(.row 28)]), (28, .arr 4 Jd), (43, .blk 85 [(.ptr 4 0)]), (4, .blk 89 [.rs Iv5, .rs Jc, .int .i64, .rs Jb, (.row 7)]), (7, .arr 44 Ja), (46, .blk 104 [(.fn (.func 68) [] [(.ptr 37 0), (.ptr 25 0), (.ptr 43 0), (.ptr 46 0)])])], false⟩]
 spec := Xe2 m
def Xe1 (m : Nat) [InW] (e : List Ed) (K : Nat -> List Ed -> Prop) : Prop := match e with
 | [.i n, .i i, .l xs, .l ps, .ro _ qs, .ro _ pz, .i all, .ro _ sh, .l u, .i a, .i b, .i bn, .i bi, .i za, .i zb] => Pre (n = u.length /\ 0 <= i /\ i <= n /\ Sp.StOk ps u a b /\ Sp.MemoOk ps u.length xs /\ Sp.free u.length a.toNat < m + 1 /\ 0 <= bn /\ bn <= 1000)
  (Sp.FaM (Sp.MemoOk ps u.length) fun ys => K 0 [.l ys, .l ps, .ro _ qs, .ro _ pz, .i all, .ro _ sh, .l u, .i a, .i b, .i (Sp.lpF (Sp.lpc ps u.length a b) (Sp.lps a) i.toNat (n - i).toNat ⟨bn, bi⟩).n, .i (Sp.lpF (Sp.lpc ps u.length a b) (Sp.lps a) i.toNat (n - i).toNat ⟨bn, bi⟩).i, .i za, .i zb])
 | _ => False
def Xcx (m : Nat) : LC where
 len := 92
 T := [(2, (.ptr 37 0)), (3, (.ptr 25 0)), (4, (.ptr 43 0)), (5, (.ptr 46 0)), (6, (.ptr 31 0)), (7, (.ptr 34 0)), (8, (.ptr 52 0)), (12, (.ptr 49 0)), (42, (.row 7)), (43, .int .i64), (44, .int .i64)]
 H := [(37, .blk 103 [(.mp 40)]), (40, .mpP), (25, .blk 102 [(.row 28)]), (28, .arr 4 Jd), (43, .blk 85 [(.ptr 4 0)]), (4, .blk 89 [.rs Iv5, .rs Jc, .int .i64, .rs Jb, (.row 7)]), (7, .arr 44 Ja), (46, .blk 104 [(.fn (.func 68) [] [(.ptr 37 0), (.ptr 25 0), (.ptr 43 0), (.ptr 46 0)])]), (31, .blk 3 [.int .i64]), (34, .blk 3 [.int .i64]), (49, .blk 105 [.int .i64, .int .i64]), (52, .blk 105 [.int .i64, .int .i64])]
 W := ([15, 16] ++ rg 45 41)
 outs := [⟨.exit 0, [(2, (.ptr 37 0)), (3, (.ptr 25 0)), (4, (.ptr 43 0)), (5, (.ptr 46 0)), (6, (.ptr 31 0)), (7, (.ptr 34 0)), (8, (.ptr 52 0)), (12, (.ptr 49 0))], [(37, .blk 103 [(.mp 40)]), (40, .mpP), (25, .blk 102 [(.row 28)]), (28, .arr 4 Jd), (43, .blk 85 [(.ptr 4 0)]), (4, .blk 89 [.rs Iv5, .rs Jc, .int .i64, .rs Jb, (.row 7)]), (7, .arr 44 Ja), (46, .blk 104 [(.fn (.func 68) [] [(.ptr 37 0), (.ptr 25 0), (.ptr 43 0), (.ptr 46 0)])]), (31, .blk 3 [.int .i64]), (34, .blk 3 [.int .i64]), (49, .blk 105 [.int .i64, .int .i64]), (52, .blk 105 [.int .i64, .int .i64])], ([15, 16] ++ rg 42 44)⟩]
 spec := Xe1 m
def Zbb [W : InW] (i : Int) := (1 : Int) * 2 ^ min i.toNat (64 : Nat)
def Xd7 [W : InW] (m : Nat) (n i : Int) (xs ps : Dt) (qs : Ro Iv5) (pz : Ro Jc) (all : Int) (sh : Ro Jb) (u : Dt) (a b bn bi za zb : Int) (A : List Ed -> Prop) (K : Nat -> List Ed -> Prop) : Prop :=
 Vif (decide (i < n)) (Need (decide (0 <= i)) (Vif (decide (andI IntKind.i64 (a.fdiv ((2 : Int) ^ min i.toNat (64 : Nat))) (1 : Int) = 1)) (Ar .i64 (i + 1) fun z => A [.i n, .i z, .l xs, .l ps, .ro _ qs, .ro _ pz, .i all, .ro Zi sh, .l u, .i a, .i b, .i bn, .i bi, .i za, .i zb]) (Need (decide (0 <= i)) (Ar .i64 (Zbb i) fun z => Pre (Sp.StOk ps u (orI IntKind.i64 a z) b /\ Sp.MemoOk ps (u.length) xs /\ Sp.free (u.length) (orI IntKind.i64 a z).toNat < m) (Sp.FaM (Sp.MemoOk ps (u.length)) fun ys => Need (decide (0 <= i)) (Ar .i64 (Zbb i) fun z_1 => Need (decide (0 <= i)) (Ar .i64 (Zbb i) fun z_2 => Pre (Sp.StOk ps u (orI IntKind.i64 a z_1) (orI IntKind.i64 b z_2) /\ Sp.MemoOk ps (u.length) ys /\ Sp.free (u.length) (orI IntKind.i64 a z_1).toNat < m) (Sp.FaM (Sp.MemoOk ps (u.length)) fun ys => Ar .i64 ((1 : Int) + max (Sp.lpC ps (u.length) (orI IntKind.i64 a z) b).1 (Sp.lpC ps (u.length) (orI IntKind.i64 a z_1) (orI IntKind.i64 b z_2)).1) fun z => Vif (decide (bi < 0)) (Ar .i64 (i + 1) fun z_3 => A [.i n, .i z_3, .l ys, .l ps, .ro _ qs, .ro _ pz, .i all, .ro Zi sh, .l u, .i a, .i b, .i z, .i i, .i za, .i zb]) (Vif (decide (z < bn)) (Ar .i64 (i + 1) fun z_3 => A [.i n, .i z_3, .l ys, .l ps, .ro _ qs, .ro _ pz, .i all, .ro Zi sh, .l u, .i a, .i b, .i z, .i i, .i za, .i zb]) (Ar .i64 (i + 1) fun z => A [.i n, .i z, .l ys, .l ps, .ro _ qs, .ro _ pz, .i all, .ro Zi sh, .l u, .i a, .i b, .i bn, .i bi, .i za, .i zb])))))))))) (K 0 [.l xs, .l ps, .ro _ qs, .ro _ pz, .i all, .ro Zi sh, .l u, .i a, .i b, .i bn, .i bi, .i za, .i zb])
theorem Xkl (W : InW) (m h n i xs ps qs pz all sh u a b bn bi za zb A K) : Yfc { cxT Try.prog TT (⟨[], [], [ceOf (Xbx m) h]⟩) 1000 50 with fn := 68 } 1000 (Yn8 Try.prog 68 10) (Yd8 92 [(2, .ptr 37 0), (3, .ptr 25 0), (4, .ptr 43 0), (5, .ptr 46 0), (6, .ptr 31 0), (7, .ptr 34 0), (8, .ptr 52 0), (12, .ptr 49 0), (42, .rw 7), (43, .si .i64 n), (44, .si .i64 i)] ([15, 16] ++ rg 45 41)) [(37, .blk 103 [.mp 40]), (40, .obj (.mpP xs)), (25, .blk 102 [.rw 28]), (28, .arr 4 Jd ps), (43, .blk 85 [.ptr 4 0]), (4, .blk 89 [.rs _ qs, .rs _ pz, .si .i64 all, .rs _ sh, .rw 7]), (7, .arr 44 Ja u), (46, .blk 104 [.fn (.func 68) [] [.ptr 37 0, .ptr 25 0, .ptr 43 0, .ptr 46 0]]), (31, .blk 3 [.si .i64 a]), (34, .blk 3 [.si .i64 b]), (49, .blk 105 [.si .i64 bn, .si .i64 bi]), (52, .blk 105 [.si .i64 za, .si .i64 zb])] (Yug (Xcx m) A K) = Xd7 m n i xs ps qs pz all sh u a b bn bi za zb A K := by kernel_rfl
def X6 (m : Nat) : Prop := ∀ (W : InW) (body a : Code), (Try.prog.funcs[68]?).bind (·.body) = some body -> a ∈ Y0 body -> Yfw a = 10 -> @Ymr W Try.prog a (@Yto W (Xcx m))
theorem Xlz (m : Nat) (h : ∀ W : InW, @CallC W Try.prog (Xbx m)) (meas : [InW] -> List Ed -> Nat) (hyp_ : ∀ (W : InW) n i xs ps qs pz all sh u a b bn bi za zb K, Xe1 m [.i n, .i i, .l xs, .l ps, .ro _ qs, .ro _ pz, .i all, .ro _ sh, .l u, .i a, .i b, .i bn, .i bi, .i za, .i zb] K -> ∀ A : List Ed -> Prop, (∀ e, meas e < meas [.i n, .i i, .l xs, .l ps, .ro _ qs, .ro _ pz, .i all, .ro _ sh, .l u, .i a, .i b, .i bn, .i bi, .i za, .i zb] -> Xe1 m e K -> A e) -> Xd7 m n i xs ps qs pz all sh u a b bn bi za zb A K) : X6 m :=
 LE.okOf' (fun W => @TT W) (fun W => @Xe W) Xa (⟨[], [], [ceOf (Xbx m) h]⟩) 1000 50 (by kernel_rfl) (Xcx m) (fun W => @meas W) fun W n i xs ps qs pz all sh u a b bn bi za zb K hs =>
  (Xkl W m h n i xs ps qs pz all sh u a b bn bi za zb (fun e => meas e < meas [.i n, .i i, .l xs, .l ps, .ro _ qs, .ro _ pz, .i all, .ro _ sh, .l u, .i a, .i b, .i bn, .i bi, .i za, .i zb] /\ Xe1 m e K) K).mpr (hyp_ W n i xs ps qs pz all sh u a b bn bi za zb K hs _ fun e h1 h2 => ⟨h1, h2⟩)
def Xjt (m : Nat) [InW] (e : List Ed) (K : Nat -> List Ed -> Prop) : Prop := Xe2 (m + 1) e K
def Xbj (m : Nat) : CC where
 g := 68
 args := [.int .i64, .int .i64, (.ptr 37 0), (.ptr 25 0), (.ptr 43 0), (.ptr 46 0)]
 H := [(37, .blk 103 [(.mp 40)]), (40, .mpP), (25, .blk 102 [(.row 28)]), (28, .arr 4 Jd), (43, .blk 85 [(.ptr 4 0)]), (4, .blk 89 [.rs Iv5, .rs Jc, .int .i64, .rs Jb, (.row 7)]), (7, .arr 44 Ja), (46, .blk 104 [(.fn (.func 68) [] [(.ptr 37 0), (.ptr 25 0), (.ptr 43 0), (.ptr 46 0)])])]
 outs := [⟨false, .agg [.int .i64, .int .i64], [(37, .blk 103 [(.mp 40)]), (40, .mpP), (25, .blk 102 [(.row 28)]), (28, .arr 4 Jd), (43, .blk 85 [(.ptr 4 0)]), (4, .blk 89 [.rs Iv5, .rs Jc, .int .i64, .rs Jb, (.row 7)]), (7, .arr 44 Ja), (46, .blk 104 [(.fn (.func 68) [] [(.ptr 37 0), (.ptr 25 0), (.ptr 43 0), (.ptr 46 0)])])], false⟩]
 spec := Xjt m
def Zbc [W : InW] (a b : Int) (ps u : Dt) := Sp.lpF (Sp.lpc ps (u.length) a b) (Sp.lps a) (Int.toNat Zb) ((↑(u.length) : Int) - 0).toNat { n := Zb, i := (-1 : Int) }
def Xee [W : InW] (m : Nat) (a b : Int) (xs ps : Dt) (qs : Ro Iv5) (pz : Ro Jc) (all : Int) (sh : Ro Jb) (u : Dt) (K : Nat -> List Ed -> Prop) : Prop :=
 Vif (hasP xs a b) (K 0 [.i (getP xs a b Zm), .i (getP xs a b (1 : Nat)), .l xs, .l ps, .ro _ qs, .ro _ pz, .i all, .ro Zi sh, .l u]) (Pre (ps.length <= 1000) (Vif (Sp.anyF (Sp.fitA ps a b) Zm (ps.length)) (Vif (!Sp.allF (Sp.fitE ps a b) Zm (ps.length)) (Pre ((↑(u.length) : Int) = (↑(u.length) : Int) /\ Zb <= 0 /\ Zb <= (↑(u.length) : Int) /\ Sp.StOk ps u a b /\ Sp.MemoOk ps (u.length) xs /\ Sp.free (u.length) a.toNat < m + 1 /\ Zb <= 0 /\ Zb <= 1000) (Sp.FaM (Sp.MemoOk ps (u.length)) fun ys => K 0 [.i (Zbc a b ps u).1, .i (Zbc a b ps u).2, .l (setP ys a b (Zbc a b ps u).n (Zbc a b ps u).i), .l ps, .ro _ qs, .ro _ pz, .i all, .ro Zi sh, .l u])) (K 0 [.i Zb, .i (-1 : Int), .l (setP xs a b Zb (-1 : Int)), .l ps, .ro _ qs, .ro _ pz, .i all, .ro Zi sh, .l u])) (K 0 [.i Zb, .i (-1 : Int), .l (setP xs a b Zb (-1 : Int)), .l ps, .ro _ qs, .ro _ pz, .i all, .ro Zi sh, .l u])))
theorem Xks (W : InW) (m h a b xs ps qs pz all sh u K) : Ywu (cxT Try.prog TT (⟨[], [⟨68, 10, fun W => @Yto W (Xcx m), h⟩], [ceOf Xi Xhj]⟩) 1000 50) 1000 68 [.si .i64 a, .si .i64 b, .ptr 37 0, .ptr 25 0, .ptr 43 0, .ptr 46 0] [(37, .blk 103 [.mp 40]), (40, .obj (.mpP xs)), (25, .blk 102 [.rw 28]), (28, .arr 4 Jd ps), (43, .blk 85 [.ptr 4 0]), (4, .blk 89 [.rs _ qs, .rs _ pz, .si .i64 all, .rs _ sh, .rw 7]), (7, .arr 44 Ja u), (46, .blk 104 [.fn (.func 68) [] [.ptr 37 0, .ptr 25 0, .ptr 43 0, .ptr 46 0]])] (fun v h => outC (Xbj m).H [.l xs, .l ps, .ro _ qs, .ro _ pz, .i all, .ro _ sh, .l u] (Xbj m).outs 0 false v h K) (fun v h => outC (Xbj m).H [.l xs, .l ps, .ro _ qs, .ro _ pz, .i all, .ro _ sh, .l u] (Xbj m).outs 0 true v h K) = Xee m a b xs ps qs pz all sh u K := by kernel_rfl
theorem Xl6 (m : Nat) (h : X6 m) (hyp_ : ∀ (W : InW) a b xs ps qs pz all sh u K, Xjt m [.i a, .i b, .l xs, .l ps, .ro _ qs, .ro _ pz, .i all, .ro _ sh, .l u] K -> Xee m a b xs ps qs pz all sh u K) : ∀ W : InW, @CallC W Try.prog (Xbj m) :=
 CC.okOf (fun W => @TT W) (fun W => @Xe W) Xa (⟨[], [⟨68, 10, fun W => @Yto W (Xcx m), h⟩], [ceOf Xi Xhj]⟩) 1000 50 (Xbj m) fun W a b xs ps qs pz all sh u K hs => (Xks W m h a b xs ps qs pz all sh u K).mpr (hyp_ W a b xs ps qs pz all sh u K hs)
theorem Xn7 (m : Nat) (hc : ∀ W : InW, @CallC W Try.prog (Xbx m)) : X6 m := Xlz m hc (fun e => match e with | .i n :: .i i :: _ => (n - i).toNat | _ => 0) fun W n i xs ps qs pz all sh u a b bn bi za zb K hs A hA => by
 obtain ⟨⟨rfl, h0, h1, st, mo, fr, b0, b1⟩, ⟨hk⟩⟩ := hs;unfold Xd7;delta Zi Zbb;have ez : (i + 1).toNat = i.toNat + 1 := by omega
 have ei : ((i.toNat : Nat) : Int) = i := Int.toNat_of_nonneg h0;have hw := st.few
 by_cases hi : i < u.length
 ·have hn : ((u.length : Int) - i).toNat = ((u.length : Int) - (i + 1)).toNat + 1 := by omega
  have go : ∀ (ys : Dt) (r : LpR), Sp.MemoOk ps u.length ys -> 0 <= r.n -> r.n <= 1000 -> (if Sp.lps a i.toNat = true then (⟨bn, bi⟩ : LpR) else if bi < 0 \/ Sp.lpc ps u.length a b i.toNat < bn then ⟨Sp.lpc ps u.length a b i.toNat, (i.toNat : Nat)⟩ else ⟨bn, bi⟩) = r -> A [.i u.length, .i (i + 1), .l ys, .l ps, .ro _ qs, .ro _ pz, .i all, .ro _ sh, .l u, .i a, .i b, .i r.n, .i r.i, .i za, .i zb] := fun ys r hy r0 r1 hr => hA _ (show ((u.length : Int) - (i + 1)).toNat < ((u.length : Int) - i).toNat by omega) ⟨⟨rfl, by omega, by omega, st, hy, fr, r0, r1⟩, ⟨fun zs hz => by
   have := hk zs hz;rw [hn] at this;rw [ez, <- hr];exact this⟩⟩
  clear hA hk;refine vifd (fun _ => ?_) (fun h => absurd hi h);refine nedd h0 (vifd (fun hb => ?_) (fun hb => ?_))
  ·refine ar64 (by omega) (go xs ⟨bn, bi⟩ mo b0 b1 ?_);exact if_pos (show decide (Sp.bitA a (i.toNat : Nat) = 1) = true by rw [ei]; exact decide_eq_true hb)
  ·have hs : ¬ Sp.lps a i.toNat = true := by
    show ¬ decide (Sp.bitA a (i.toNat : Nat) = 1) = true
    rw [ei];exact fun e => hb (of_decide_eq_true e)
   obtain ⟨p0, p1, p2⟩ := X7 st.few st.a0 st.a1 h0 hi;obtain ⟨q0, q1, _⟩ := X7 st.few st.b0 st.b1 h0 hi;have p2 := p2.resolve_left hb;have sm := Xio h0 (by omega);have st1 : Sp.StOk ps u (Sp.orB a i) b := ⟨st.few, st.len, p0, p1, st.b0, st.b1⟩;have st2 : Sp.StOk ps u (Sp.orB a i) (Sp.orB b i) := ⟨st.few, st.len, p0, p1, q0, q1⟩;have B1 := Xbg (ps := ps) (b := b) st.few p0 p1;have B2 := Xbg (ps := ps) (b := Sp.orB b i) st.few p0 p1;have f1 : Sp.free u.length (Sp.orB a i).toNat < m := by omega
   have ec : Sp.lpc ps u.length a b i.toNat = 1 + max (Sp.lpC ps u.length (Sp.orB a i) b).n (Sp.lpC ps u.length (Sp.orB a i) (Sp.orB b i)).n := by
    show 1 + max (Sp.lpC ps u.length (Sp.orB a (i.toNat : Nat)) b).n (Sp.lpC ps u.length (Sp.orB a (i.toNat : Nat)) (Sp.orB b (i.toNat : Nat))).n = _
    rw [ei]
   have rg : -9223372036854775808 <= 1 + max (Sp.lpC ps u.length (Sp.orB a i) b).n (Sp.lpC ps u.length (Sp.orB a i) (Sp.orB b i)).n /\ 1 + max (Sp.lpC ps u.length (Sp.orB a i) b).n (Sp.lpC ps u.length (Sp.orB a i) (Sp.orB b i)).n <= 9223372036854775807 := by omega
   have r0 : 0 <= 1 + max (Sp.lpC ps u.length (Sp.orB a i) b).n (Sp.lpC ps u.length (Sp.orB a i) (Sp.orB b i)).n := by omega
   have r1 : 1 + max (Sp.lpC ps u.length (Sp.orB a i) b).n (Sp.lpC ps u.length (Sp.orB a i) (Sp.orB b i)).n <= 1000 := by omega
   refine nedd h0 (ar64 (by omega) ⟨⟨st1, mo, f1⟩, ⟨fun ys hy => ?_⟩⟩);refine nedd h0 (ar64 (by omega) (nedd h0 (ar64 (by omega) ⟨⟨st2, hy, f1⟩, ⟨fun zs hz => ?_⟩⟩)));refine ar64 rg ?_;refine vifd (fun hb1 => ar64 (by omega) ?_) (fun hb1 => vifd (fun hb2 => ar64 (by omega) ?_) (fun hb2 => ar64 (by omega) ?_))
   ·exact go zs ⟨_, i⟩ hz r0 r1 (by rw [if_neg hs, if_pos (.inl hb1), ec, ei]; rfl)
   ·exact go zs ⟨_, i⟩ hz r0 r1 (by rw [if_neg hs, if_pos (.inr (by rw [ec]; exact hb2)), ec, ei]; rfl)
   ·exact go zs ⟨bn, bi⟩ hz b0 b1 (by rw [if_neg hs, if_neg fun e => e.elim hb1 fun e => hb2 (by rw [ec] at e; exact e)])
 ·refine vifd (fun h => absurd h hi) (fun _ => ?_);have := hk xs mo;rw [show ((u.length : Int) - i).toNat = 0 by omega] at this;exact this
theorem Xob (m : Nat) (h : X6 m) : ∀ W : InW, @CallC W Try.prog (Xbj m) := Xl6 m h fun W a b xs ps qs pz all sh u K hs => by
 obtain ⟨⟨st, mo, fr⟩, ⟨hk⟩⟩ := hs;unfold Xee;delta Zbc Zi Zb Zm;refine vif (fun hh => ?_) (fun hh => ?_)
 ·have := hk xs mo;rw [<- (mo.ok a b hh).1, <- (mo.ok a b hh).2] at this;exact this
 ·refine ⟨by
   rw [st.len];have : 2 ^ u.length <= 2 ^ 7 := Nat.pow_le_pow_right (by decide) st.few;have h7 : (2 : Nat) ^ 7 = 128 := rfl;omega, ?_⟩
  have eq := Xj1 (ps := ps) (b := b) st.few st.a0 st.a1;have no : Sp.mixB ps a b = false -> K 0 [.i 0, .i (-1), .l (setP xs a b 0 (-1)), .l ps, .ro _ qs, .ro _ pz, .i all, .ro _ sh, .l u] := fun hm => by
   rw [hm, if_neg (by decide)] at eq;have := hk (setP xs a b 0 (-1)) (Xfy mo (by rw [eq]) (by rw [eq]));rw [eq] at this;exact this
  refine vif (fun ha => vifb (fun hb => ?_) (fun hb => ?_)) (fun ha => ?_)
  ·have hm : Sp.mixB ps a b = true := by unfold Sp.mixB; rw [ha, hb]; rfl
   rw [hm, if_pos rfl] at eq;refine ⟨⟨rfl, by omega, by omega, st, mo, fr, by omega, by omega⟩, ⟨fun ys hy => ?_⟩⟩;simp only [show Int.toNat 0 = 0 from rfl, Int.sub_zero, Int.toNat_natCast];rw [<- eq];exact hk _ (Xfy hy rfl rfl)
  ·exact no (by unfold Sp.mixB; rw [ha, hb]; rfl)
  ·exact no (by unfold Sp.mixB; rw [ha]; rfl)
theorem Xj0 : ∀ (m : Nat) (W : InW), @CallC W Try.prog (Xbx m)
 | 0, W => fun xs ys e1 e2 m1 n1 K hs => by
  have hs : Xe2 0 (e1 ++ e2) K := hs;unfold Xe2 at hs
  split at hs
  ·obtain ⟨⟨_, _, h⟩, _⟩ := hs;exact absurd h (Nat.not_lt_zero _)
  ·exact hs.elim
 | m + 1, W => Xob m (Xn7 m (Xj0 m)) W
abbrev LPlo : LI := lpAt Try.prog 30 0
namespace Sp
def fillP (f : Nat -> Bool) : Nat -> Nat -> Dt -> Dt
 | _, 0, p => p
 | i, n + 1, p => fillP f (i + 1) n (p.set i [.b (f i)])
end Sp
def Xe3 [InW] (e : List Ed) (K : Nat -> List Ed -> Prop) : Prop := match e with
 | [.i n, .i i, .i ra, .i rb, .ro _ qs, .ro _ ps, .i all, .ro _ sh, .l u, .l p] => Pre (0 <= i /\ i <= n /\ n <= 1000 /\ n = p.length /\ Sp.KeyOk qs.xs ps.xs all /\ Sp.SeOk qs.xs sh.xs u) (K 0 [.i ra, .i rb, .ro _ qs, .ro _ ps, .i all, .ro _ sh, .l u, .l (Sp.fillP (Sp.psB qs.xs ps.xs all sh.xs u) i.toNat (n - i).toNat p)])
 | _ => False
def Xgj : LC where
 len := 18
 T := [(0, (.yl 1)), (1, (.ptr 10 0)), (9, .int .i64), (10, .int .i64)]
 H := [(1, .lp LPlo [(.opq 1501), (.opq 1504), (.opq 1507), (.opq 1510), (.opq 1513), (.ptr 49 0), (.opq 1519), (.opq 1522), (.ptr 13 0), (.ptr 25 0), (.opq 327), (.opq 1534), (.opq 1537), (.opq 1540), (.opq 1543), (.opq 1546), (.opq 1549), (.opq 1552), (.opq 1555), (.opq 1558), (.opq 1561), (.opq 1564), (.opq 1567), (.opq 1570), (.opq 1573), (.opq 1576), (.opq 1579), (.opq 1582), (.opq 1585), (.opq 1588), (.opq 1591), (.opq 1594), (.opq 1597), (.opq 396), (.opq 399), (.opq 402), (.opq 405), (.opq 408), (.opq 411), (.opq 414), (.opq 1621), (.opq 1624), (.opq 1627), (.opq 1630), (.opq 1633), (.opq 1636), (.opq 1639), (.opq 1642), (.opq 1645), (.opq 1648), (.opq 1651), (.opq 1654), (.opq 1657), (.opq 1660), (.opq 1663), (.opq 1666), (.opq 1669), (.opq 1672)]), (49, .blk 44 [.int .i64, .int .i64]), (10, .blk 85 [(.ptr 4 0)]), (13, .blk 85 [(.ptr 4 0)]), (4, .blk 89 [.rs Iv5, .rs Jc, .int .i64, .rs Jb, (.row 7)]), (7, .arr 44 Ja), (25, .blk 102 [(.row 28)]), (28, .arr 4 Jd)]
 W := ([3] ++ rg 11 7)
 outs := [⟨.exit 0, [], [(1, .lp LPlo [(.opq 1501), (.opq 1504), (.opq 1507), (.opq 1510), (.opq 1513), (.ptr 49 0), (.opq 1519), (.opq 1522), (.ptr 13 0), (.ptr 25 0), (.opq 627), (.opq 1534), (.opq 1537), (.opq 1540), (.opq 1543), (.opq 1546), (.opq 1549), (.opq 1552), (.opq 1555), (.opq 1558), (.opq 1561), (.opq 1564), (.opq 1567), (.opq 1570), (.opq 1573), (.opq 1576), (.opq 1579), (.opq 1582), (.opq 1585), (.opq 1588), (.opq 1591), (.opq 1594), (.opq 1597), (.opq 696), (.opq 699), (.opq 702), (.opq 705), (.opq 708), (.opq 711), (.opq 714), (.opq 1621), (.opq 1624), (.opq 1627), (.opq 1630), (.opq 1633), (.opq 1636), (.opq 1639), (.opq 1642), (.opq 1645), (.opq 1648), (.opq 1651), (.opq 1654), (.opq 1657), (.opq 1660), (.opq 1663), (.opq 1666), (.opq 1669), (.opq 1672)]), (627, .dead), (696, .dead), (699, .dead), (702, .dead), (705, .dead), (708, .dead), (711, .dead), (714, .dead), (49, .blk 44 [.int .i64, .int .i64]), (10, .blk 85 [(.ptr 4 0)]), (13, .blk 85 [(.ptr 4 0)]), (4, .blk 89 [.rs Iv5, .rs Jc, .int .i64, .rs Jb, (.row 7)]), (7, .arr 44 Ja), (25, .blk 102 [(.row 28)]), (28, .arr 4 Jd)], ([0, 1, 3] ++ rg 9 9)⟩]
 spec := Xe3
def Xd8 [W : InW] (n i ra rb : Int) (qs : Ro Iv5) (ps : Ro Jc) (all : Int) (sh : Ro Jb) (u p : Dt) (A : List Ed -> Prop) (K : Nat -> List Ed -> Prop) : Prop :=
 Vif (decide (i < n)) (Pre (0 <= i /\ Sp.KeyOk qs.xs ps.xs all /\ Sp.SeOk qs.xs sh.xs u) (Need (decide (0 <= i) && decide (i < (↑(p.length) : Int))) (Need (decide (i.toNat < p.length)) (Ar .i64 (i + 1) fun z => PreL LPlo LPlo (A [.i n, .i z, .i ra, .i rb, .ro _ qs, .ro _ ps, .i all, .ro Zi sh, .l u, .l (List.set p i.toNat [Cl.b (Sp.psW qs.xs ps.xs all sh.xs u i)])]))))) (PreL LPlo LPlo (K 0 [.i ra, .i rb, .ro _ qs, .ro _ ps, .i all, .ro Zi sh, .l u, .l p]))
theorem Xkm (W : InW) (n i ra rb qs ps all sh u p A K) : Yfc { cxT Try.prog TT T60 1000 50 with fn := 83 } 1000 (Yn8 Try.prog 83 2) (Yd8 18 [(0, .yl 1), (1, .ptr 10 0), (9, .si .i64 n), (10, .si .i64 i)] ([3] ++ rg 11 7)) [(1, .lp LPlo [.opq 1501, .opq 1504, .opq 1507, .opq 1510, .opq 1513, .ptr 49 0, .opq 1519, .opq 1522, .ptr 13 0, .ptr 25 0, .opq 327, .opq 1534, .opq 1537, .opq 1540, .opq 1543, .opq 1546, .opq 1549, .opq 1552, .opq 1555, .opq 1558, .opq 1561, .opq 1564, .opq 1567, .opq 1570, .opq 1573, .opq 1576, .opq 1579, .opq 1582, .opq 1585, .opq 1588, .opq 1591, .opq 1594, .opq 1597, .opq 396, .opq 399, .opq 402, .opq 405, .opq 408, .opq 411, .opq 414, .opq 1621, .opq 1624, .opq 1627, .opq 1630, .opq 1633, .opq 1636, .opq 1639, .opq 1642, .opq 1645, .opq 1648, .opq 1651, .opq 1654, .opq 1657, .opq 1660, .opq 1663, .opq 1666, .opq 1669, .opq 1672]), (49, .blk 44 [.si .i64 ra, .si .i64 rb]), (10, .blk 85 [.ptr 4 0]), (13, .blk 85 [.ptr 4 0]), (4, .blk 89 [.rs _ qs, .rs _ ps, .si .i64 all, .rs _ sh, .rw 7]), (7, .arr 44 Ja u), (25, .blk 102 [.rw 28]), (28, .arr 4 Jd p)] (Yug Xgj A K) = Xd8 n i ra rb qs ps all sh u p A K := by kernel_rfl
def Xfv : Prop := ∀ (W : InW) (body a : Code), (Try.prog.funcs[83]?).bind (·.body) = some body -> a ∈ Y0 body -> Yfw a = 2 -> @Ymr W Try.prog a (@Yto W Xgj)
theorem Xl0 (meas : [InW] -> List Ed -> Nat) (hyp_ : ∀ (W : InW) n i ra rb qs ps all sh u p K, Xe3 [.i n, .i i, .i ra, .i rb, .ro _ qs, .ro _ ps, .i all, .ro _ sh, .l u, .l p] K -> ∀ A : List Ed -> Prop, (∀ e, meas e < meas [.i n, .i i, .i ra, .i rb, .ro _ qs, .ro _ ps, .i all, .ro _ sh, .l u, .l p] -> Xe3 e K -> A e) -> Xd8 n i ra rb qs ps all sh u p A K) : Xfv :=
 LE.okOf' (fun W => @TT W) (fun W => @Xe W) Xa T60 1000 50 (by kernel_rfl) Xgj (fun W => @meas W) fun W n i ra rb qs ps all sh u p K hs =>
  (Xkm W n i ra rb qs ps all sh u p (fun e => meas e < meas [.i n, .i i, .i ra, .i rb, .ro _ qs, .ro _ ps, .i all, .ro _ sh, .l u, .l p] /\ Xe3 e K) K).mpr (hyp_ W n i ra rb qs ps all sh u p K hs _ fun e h1 h2 => ⟨h1, h2⟩)
theorem Xn8 : Xfv := Xl0 (fun e => match e with | .i n :: .i i :: _ => (n - i).toNat | _ => 0) fun W n i ra rb qs ps all sh u p K hs A hA => by
 obtain ⟨⟨h0, h1, h2, h3, hkey, hse⟩, hk⟩ := hs;unfold Xd8;delta Zi;have ez : (i + 1).toNat = i.toNat + 1 := by omega
 have ei : ((i.toNat : Nat) : Int) = i := Int.toNat_of_nonneg h0
 by_cases hi : i < n
 ·refine vifd (fun _ => ⟨⟨h0, hkey, hse⟩, ned (by simp; omega) (nedd (by omega) (ar64 (by omega) ⟨rfl, hA _ (show (n - (i + 1)).toNat < (n - i).toNat by omega) ⟨⟨by omega, by omega, h2, by rw [List.length_set]; exact h3, hkey, hse⟩, ?_⟩⟩))⟩) (fun h => absurd hi h);rw [show (n - i).toNat = (n - (i + 1)).toNat + 1 by omega, Sp.fillP] at hk;simp only [Sp.psB, ei] at hk;rw [ez];exact hk
 ·rw [show (n - i).toNat = 0 by omega] at hk;exact vifd (fun h => absurd h hi) fun _ => ⟨rfl, hk⟩
def Xoz : LE Try.prog := ⟨83, 2, fun W => @Yto W Xgj, Xn8⟩
def T84b : Tab Try.prog := ⟨[], [Xoz], [ceOf Xg Xbd, ceOf (Xbx 9) (Xj0 9)]⟩
def Zbe [W : InW] (sh : Ro Jb) := List.length (Sp.uns sh.xs)
def Zbd := Ybr [Ty.bool]
def Zbf := Int.toNat Zb
def Zbh [W : InW] (kQ : Ro Iv5) (kP : Ro Jc) (kA : Int) (sh : Ro Jb) := Sp.psB kQ.xs kP.xs kA (sh).xs (Sp.uns (sh).xs)
def Zbg [W : InW] (sh : Ro Jb) := List.length (Sp.uns (sh).xs)
def Xch [W : InW] (kQ : Ro Iv5) (kP : Ro Jc) (kA : Int) (sh : Ro Jb) (Q : DS -> Prop) : Prop :=
 Vif (decide (Sp.askE kQ.xs kP.xs kA sh.xs = 0)) (Need (decide (Zb <= (↑(Zbe sh) : Int))) (Ar .i64 ((1 : Int) * 2 ^ min (↑(Zbe sh) : Int).toNat (64 : Nat)) fun z => Need (decide (z = z) && decide (0 <= z) && decide ((1 : Nat) * z.toNat <= 281474976710656)) (Need (decide (Zb <= (↑(Zbe sh) : Int))) (Ar .i64 ((1 : Int) * 2 ^ min (↑(Zbe sh) : Int).toNat (64 : Nat)) fun z_1 => PreL LPlo LPlo (Pre (Zb <= 0 /\ 0 <= z_1 /\ z_1 <= 1000 /\ z_1 = (↑(List.replicate z.toNat Zbd).length : Int) /\ Sp.KeyOk kQ.xs kP.xs kA /\ Sp.SeOk kQ.xs sh.xs (Sp.uns sh.xs)) (Pre (Sp.StOk (Sp.fillP (Sp.psB kQ.xs kP.xs kA sh.xs (Sp.uns sh.xs)) Zbf (z_1 - 0).toNat (List.replicate z.toNat Zbd)) (Sp.uns sh.xs) Zb Zb /\ Sp.MemoOk (Sp.fillP (Sp.psB kQ.xs kP.xs kA sh.xs (Sp.uns sh.xs)) Zbf (z_1 - 0).toNat (List.replicate z.toNat Zbd)) (Zbe sh) [] /\ Sp.free (Zbe sh) Zbf < 9) (Sp.FaM (Sp.MemoOk (Sp.fillP (Sp.psB kQ.xs kP.xs kA sh.xs (Sp.uns sh.xs)) Zbf (z_1 - 0).toNat (List.replicate z.toNat Zbd)) (Zbe sh)) fun ys => Vif (decide ((Sp.lpC (Sp.fillP (Zbh kQ kP kA sh) Zbf (z_1 - 0).toNat (List.replicate z.toNat Zbd)) (Zbg sh) Zb Zb).2 < 0)) (Q [[Cl.i 0, Cl.i 0], [Cl.i 0], [Cl.i 4]]) (Need (decide (Zb <= (Sp.lpC (Sp.fillP (Zbh kQ kP kA sh) Zbf (z_1 - 0).toNat (List.replicate z.toNat Zbd)) (Zbg sh) Zb Zb).2) && decide ((Sp.lpC (Sp.fillP (Zbh kQ kP kA sh) Zbf (z_1 - 0).toNat (List.replicate z.toNat Zbd)) (Zbg sh) Zb Zb).2 < (↑(Zbe sh) : Int))) (Need (decide ((Sp.lpC (Sp.fillP (Zbh kQ kP kA sh) Zbf (z_1 - 0).toNat (List.replicate z.toNat Zbd)) (Zbg sh) Zb Zb).2.toNat < List.length (Sp.uns sh.xs))) (Q [[Cl.i (cel (Sp.uns sh.xs) (Sp.lpC (Sp.fillP (Zbh kQ kP kA sh) Zbf (z_1 - 0).toNat (List.replicate z.toNat Zbd)) (Zbg sh) Zb Zb).2.toNat (0 : Nat)).int, Cl.i (cel (Sp.uns sh.xs) (Sp.lpC (Sp.fillP (Zbh kQ kP kA sh) Zbf (z_1 - 0).toNat (List.replicate z.toNat Zbd)) (Zbg sh) Zb Zb).2.toNat (0+1)).int], [Cl.i (Sp.lpC (Sp.fillP (Zbh kQ kP kA sh) Zbf (z_1 - 0).toNat (List.replicate z.toNat Zbd)) (Zbg sh) Zb Zb).1], [Cl.i 0]])))))))))) (Vif (!decide (Sp.askE kQ.xs kP.xs kA sh.xs = 0)) (Q [[Cl.i 0, Cl.i 0], [Cl.i 0], [Cl.i (Sp.askE kQ.xs kP.xs kA sh.xs)]]) ((16 : Nat) = 16 + 1))
theorem Xie (W : InW) (kQ kP kA sh Q) : Ywx (cxT Try.prog TT T84b 1000 50) 1000 30 [.agg [.rs _ kQ, .rs _ kP, .si .i64 kA], .rs _ sh] [] 0 (Y04 [(true, [.int .i64, .int .i64]), (false, [.int .i64]), (false, [.int .i64])] Q) (fun _ _ _ _ => Stuck 421) = Xch kQ kP kA sh Q := by kernel_rfl
abbrev Xw : List AT := [.agg [.sl Iv5, .sl Jc, .int .i64], .one (.sl Jb)]
theorem Xja {pre : DS -> Prop} {res : DS -> DS} (hyp_ : ∀ (W : InW) (kQ : Ro Iv5) (kP : Ro Jc) (kA : Int) (sh : Ro Jb), pre [[.l kQ.xs, .l kP.xs, .i kA], [.l sh.xs]] -> ∀ Q : DS -> Prop, Q (res [[.l kQ.xs, .l kP.xs, .i kA], [.l sh.xs]]) -> Xch kQ kP kA sh Q) : PureOk Try.prog 30 Xw [(true, [.int .i64, .int .i64]), (false, [.int .i64]), (false, [.int .i64])] pre res :=
 PureOk.of' (fun W => @TT W) (fun W => @Xe W) Xa T84b 1000 50 fun W kQ kP kA sh hp =>
  (Xie W kQ kP kA sh (fun o => o = res [[.l kQ.xs, .l kP.xs, .i kA], [.l sh.xs]])).mpr (hyp_ W kQ kP kA sh hp _ rfl)
namespace Sp
def lpP (qs ps : Dt) (all : Int) (sh : Dt) : Dt := fillP (psB qs ps all sh (uns sh)) 0 (2 ^ (uns sh).length) (List.replicate (2 ^ (uns sh).length) (Ybr [Ty.bool]))
def lpR (qs ps : Dt) (all : Int) (sh : Dt) : LpR := lpC (lpP qs ps all sh) (uns sh).length 0 0
def plE (qs ps : Dt) (all : Int) (sh : Dt) : Int := if askE qs ps all sh = 0 then (if (lpR qs ps all sh).i < 0 then 4 else 0) else askE qs ps all sh
def plR (qs ps : Dt) (all : Int) (sh : Dt) : LkR := if plE qs ps all sh = 0 then ⟨(lpR qs ps all sh).n, cA (uns sh) (lpR qs ps all sh).i.toNat, cB (uns sh) (lpR qs ps all sh).i.toNat⟩ else ⟨0, 0, 0⟩
end Sp
abbrev Xr (ds : DS) : DS := match ds with | [[.l qs, .l ps, .i all], [.l sh]] => [[.i (Sp.plR qs ps all sh).a, .i (Sp.plR qs ps all sh).b], [.i (Sp.plR qs ps all sh).n], [.i (Sp.plE qs ps all sh)]] | _ => []
theorem Xbi {f : Nat -> Bool} : ∀ (n i : Nat) (p : Dt), (Sp.fillP f i n p).length = p.length
 | 0, _, _ => rfl
 | n + 1, i, p => by rw [Sp.fillP, Xbi n, List.length_set]
theorem Xfz {c : Nat -> Int} {skip : Nat -> Bool} : ∀ (n i : Nat) (r : LpR), (Sp.lpF c skip i n r).i = r.i \/ ((i : Int) <= (Sp.lpF c skip i n r).i /\ (Sp.lpF c skip i n r).i < ((i + n : Nat) : Int))
 | 0, _, _ => .inl rfl
 | n + 1, i, r => by
  rw [Sp.lpF]
  split
  ·rcases Xfz (c := c) (skip := skip) n (i + 1) r with h | h
   ·exact .inl h
   ·exact .inr (by omega)
  ·split
   ·rcases Xfz (c := c) (skip := skip) n (i + 1) ⟨c i, i⟩ with h | h
    ·right; rw [h]; show (i : Int) <= (i : Int) /\ (i : Int) < _; omega
    ·exact .inr (by omega)
   ·rcases Xfz (c := c) (skip := skip) n (i + 1) r with h | h
    ·exact .inl h
    ·exact .inr (by omega)
theorem Xoe {ps : Dt} {w : Nat} {a b : Int} : (Sp.lpC ps w a b).i < 0 \/ (0 <= (Sp.lpC ps w a b).i /\ (Sp.lpC ps w a b).i < w) := by
 unfold Sp.lpC;rw [Sp.lpN]
 split
 ·rcases Xfz (c := fun i => 1 + max (Sp.lpN ps w (Sp.free w a.toNat) (Sp.orB a i) b).n (Sp.lpN ps w (Sp.free w a.toNat) (Sp.orB a i) (Sp.orB b i)).n) (skip := fun i => decide (Sp.bitA a i = 1)) w 0 ⟨0, -1⟩ with h | h
  ·exact .inl (by rw [h]; show (-1 : Int) < 0; decide)
  ·exact .inr (by omega)
 ·exact .inl (by show (-1 : Int) < 0; decide)
theorem Xlf : PureOk Try.prog 30 Xw [(true, [.int .i64, .int .i64]), (false, [.int .i64]), (false, [.int .i64])] (fun _ => True) Xr :=
 Xja fun W qs ps all sh hp Q h => by
  unfold Xch;delta Zbf Zb Zbg Zbd Zbh Zbe;simp only [Xr, Sp.plR] at h;refine vifd (fun e => ?_) fun e => vifn (fun _ => ?_) fun c => absurd c e
  ·obtain ⟨hk, hs⟩ := Sp.askE_ok e;have h7 := hs.seven;obtain ⟨p1, p2, p3⟩ := Xn h7;rw [p1];have hse := hs.se hk;have hfl : (Sp.lpP qs.xs ps.xs all sh.xs).length = 2 ^ (Sp.uns sh.xs).length := by unfold Sp.lpP; rw [Xbi, List.length_replicate]
   have e1 : Sp.plE qs.xs ps.xs all sh.xs = if (Sp.lpR qs.xs ps.xs all sh.xs).i < 0 then 4 else 0 := by unfold Sp.plE; rw [if_pos e]
   refine nedd (by omega) (ar64 (by omega) (ned (by simp only [Bool.and_eq_true, decide_eq_true_eq]; exact ⟨⟨trivial, Int.natCast_nonneg _⟩, by rw [Int.toNat_natCast]; omega⟩) (nedd (by omega) (ar64 (by omega) ⟨rfl, ?_⟩))));simp only [show Int.toNat 0 = 0 from rfl, Int.sub_zero, Int.toNat_natCast];simp only [show Sp.fillP (Sp.psB qs.xs ps.xs all sh.xs (Sp.uns sh.xs)) 0 (2 ^ (Sp.uns sh.xs).length) (List.replicate (2 ^ (Sp.uns sh.xs).length) (Ybr [.bool])) = Sp.lpP qs.xs ps.xs all sh.xs from rfl, show Sp.lpC (Sp.lpP qs.xs ps.xs all sh.xs) (Sp.uns sh.xs).length 0 0 = Sp.lpR qs.xs ps.xs all sh.xs from rfl];refine ⟨⟨by omega, by omega, by omega, by rw [List.length_replicate], hk, hse⟩, ⟨⟨⟨h7, hfl, by omega, Int.natCast_pos.2 p2, by omega, Int.natCast_pos.2 p2⟩, ⟨fun a b c => by cases c⟩, ?_⟩, ⟨fun ys hy => ?_⟩⟩⟩
   ·have := Xhm (a := 0) h7 (by omega) (Int.natCast_pos.2 p2);exact Nat.lt_of_le_of_lt this (by decide)
   ·have ix : (Sp.lpR qs.xs ps.xs all sh.xs).i < 0 \/ _ := Xoe (ps := Sp.lpP qs.xs ps.xs all sh.xs) (w := (Sp.uns sh.xs).length) (a := 0) (b := 0);refine vifd (fun hi => ?_) fun hi => ?_
    ·rw [if_pos hi] at e1;rw [if_neg (by omega), e1] at h;exact h
    ·rw [if_neg hi] at e1;rw [if_pos e1, e1] at h;have ix2 := ix.resolve_left hi;have ix3 : 0 <= (Sp.lpR qs.xs ps.xs all sh.xs).i /\ (Sp.lpR qs.xs ps.xs all sh.xs).i < (Sp.uns sh.xs).length := ix2;exact ned (by simp only [Bool.and_eq_true, decide_eq_true_eq]; exact ⟨ix3.1, ix3.2⟩) (nedd (show (Sp.lpR qs.xs ps.xs all sh.xs).i.toNat < (Sp.uns sh.xs).length by omega) h)
  ·have e1 : Sp.plE qs.xs ps.xs all sh.xs = Sp.askE qs.xs ps.xs all sh.xs := by unfold Sp.plE; rw [if_neg e]
   rw [if_neg (by omega), e1] at h;exact h
namespace Sp
def shA : List (Nat × Nat) -> Nat -> Nat -> Dt -> Dt
 | [], _, _, s => s
 | p :: ps, a, b, s => shA ps (a / 2) (b / 2) (if a % 2 = 1 then withD s p.1 p.2 ((b % 2 : Nat) : Int) else s)
def frA : List (Nat × Nat) -> Nat -> List (Nat × Nat)
 | [], _ => []
 | p :: ps, a => if a % 2 = 1 then frA ps (a / 2) else p :: frA ps (a / 2)
theorem shA_with : ∀ (ps : List (Nat × Nat)) (a b : Nat) (s : Dt) (p : Nat × Nat) (v : Int), p ∉ ps -> withD (shA ps a b s) p.1 p.2 v = shA ps a b (withD s p.1 p.2 v)
 | [], _, _, _, _, _, _ => rfl
 | q :: ps, a, b, s, p, v, h => by
  have h1 : q ≠ p := fun e => h (e ▸ List.mem_cons_self);have h2 : p ∉ ps := fun e => h (List.mem_cons_of_mem _ e);unfold shA;rw [shA_with ps _ _ _ p v h2]
  split
  ·rw [withD_comm _ _ _ _ _ h1]
  ·rfl
theorem shA_step : ∀ (ps : List (Nat × Nat)) (i a b : Nat) (s : Dt) (v : Nat), ps.Nodup -> (h : i < ps.length) -> a / 2 ^ i % 2 = 0 -> b / 2 ^ i % 2 = 0 -> v < 2 -> withD (shA ps a b s) ps[i].1 ps[i].2 v = shA ps (a + 2 ^ i) (b + v * 2 ^ i) s
 | [], i, _, _, _, _, _, h, _, _, _ => absurd h (Nat.not_lt_zero _)
 | p :: ps, 0, a, b, s, v, hn, _, ha, hb, hv => by
  have hn' := List.nodup_cons.1 hn;have ha : a % 2 = 0 := by simpa using ha
  have hb : b % 2 = 0 := by simpa using hb
  show withD (shA (p :: ps) a b s) p.1 p.2 v = _
  rw [shA, if_neg (by omega), shA_with ps _ _ _ p v hn'.1, shA, Nat.pow_zero, if_pos (by omega), show (a + 1) / 2 = a / 2 by omega, show (b + v * 1) / 2 = b / 2 by omega, show (b + v * 1) % 2 = v by omega]
 | p :: ps, i + 1, a, b, s, v, hn, h, ha, hb, hv => by
  have hn' := List.nodup_cons.1 hn;have e2 : 2 ^ (i + 1) = 2 * 2 ^ i := by rw [Nat.pow_succ, Nat.mul_comm]
  have e3 : v * (2 * 2 ^ i) = 2 * (v * 2 ^ i) := by rw [<- Nat.mul_assoc, Nat.mul_comm v 2, Nat.mul_assoc]
  rw [e2, <- Nat.div_div_eq_div_mul] at ha hb;have hi : i < ps.length := by simpa using h
  show withD (shA (p :: ps) a b s) (ps[i]'hi).1 (ps[i]'hi).2 v = _
  rw [shA, shA_step ps i (a / 2) (b / 2) _ v hn'.2 (by simpa using h) ha hb hv, shA, e2, e3, show (a + 2 * 2 ^ i) / 2 = a / 2 + 2 ^ i by omega, show (b + 2 * (v * 2 ^ i)) / 2 = b / 2 + v * 2 ^ i by omega, show (a + 2 * 2 ^ i) % 2 = a % 2 by omega, show (b + 2 * (v * 2 ^ i)) % 2 = b % 2 by omega]
theorem pos_shA : ∀ (ps : List (Nat × Nat)) (a b : Nat) (s : Dt) (l : List (Nat × Nat)), ps.Nodup -> (∀ p ∈ l, p ∉ ps) -> pos s = l ++ ps -> pos (shA ps a b s) = l ++ frA ps a
 | [], _, _, _, _, _, _, h => h
 | p :: ps, a, b, s, l, hn, hl, h => by
  have hn' := List.nodup_cons.1 hn;unfold shA frA
  split
  ·refine pos_shA ps _ _ _ l hn'.2 (fun q hq hq2 => hl q hq (List.mem_cons_of_mem _ hq2)) ?_;rw [pos_with (by omega), h, List.filter_append, filter_ne_tl (fun hq => hl _ hq List.mem_cons_self), List.filter_cons, if_neg (by simp), filter_ne_tl hn'.1]
  ·have := pos_shA ps (a / 2) (b / 2) s (l ++ [p]) hn'.2 (fun q hq hq2 => by
    rcases List.mem_append.1 hq with hq | hq
    ·exact hl q hq (List.mem_cons_of_mem _ hq2)
    ·rw [List.mem_singleton.1 hq] at hq2; exact hn'.1 hq2) (by rw [h, List.append_assoc]; rfl)
   rw [this, List.append_assoc];rfl
theorem it_shA : ∀ (ps : List (Nat × Nat)) (a b : Nat) (s r : Dt), ps.Nodup -> b &&& a = b -> ((∃ c, c < 2 ^ (frA ps a).length /\ r = itW (frA ps a) c (shA ps a b s)) ↔ ∃ c, c < 2 ^ ps.length /\ (∀ i, i < ps.length -> a / 2 ^ i % 2 = 1 -> c / 2 ^ i % 2 = b / 2 ^ i % 2) /\ r = itW ps c s)
 | [], a, b, s, r, hn, hb => by
  constructor
  ·rintro ⟨c, hc, e⟩;exact ⟨c, hc, fun i hi => absurd hi (Nat.not_lt_zero _), e⟩
  ·rintro ⟨c, hc, _, e⟩;exact ⟨c, hc, e⟩
 | p :: ps, a, b, s, r, hn, hb => by
  have hn' := List.nodup_cons.1 hn;have hb2 : b / 2 &&& a / 2 = b / 2 := by rw [<- Nat.and_div_two]; rw [hb]
  have up : ∀ (c : Nat), (∀ i, i < (p :: ps).length -> a / 2 ^ i % 2 = 1 -> c / 2 ^ i % 2 = b / 2 ^ i % 2) ↔ (a % 2 = 1 -> c % 2 = b % 2) /\ ∀ i, i < ps.length -> a / 2 / 2 ^ i % 2 = 1 -> c / 2 / 2 ^ i % 2 = b / 2 / 2 ^ i % 2 := fun c => by
   constructor
   ·intro h;refine ⟨fun ha => by simpa using h 0 (by simp) (by simpa using ha), fun i hi ha => ?_⟩;have := h (i + 1) (by simpa using hi);rw [Nat.pow_succ, Nat.mul_comm (2 ^ i) 2, <- Nat.div_div_eq_div_mul, <- Nat.div_div_eq_div_mul, <- Nat.div_div_eq_div_mul] at this;exact this ha
   ·rintro ⟨h0, h1⟩ i hi ha;cases i with
    | zero => simpa using h0 (by simpa using ha)
    | succ i =>
     rw [Nat.pow_succ, Nat.mul_comm (2 ^ i) 2, <- Nat.div_div_eq_div_mul] at ha ⊢;rw [<- Nat.div_div_eq_div_mul];exact h1 i (by simpa using hi) ha
  simp only [up]
  by_cases ha : a % 2 = 1
  ·unfold frA shA;rw [if_pos ha, if_pos ha, it_shA ps (a / 2) (b / 2) _ r hn'.2 hb2, List.length_cons, Nat.pow_succ];constructor
   ·rintro ⟨c, hc, h1, e⟩;refine ⟨2 * c + b % 2, by omega, ⟨fun _ => by omega, ?_⟩, ?_⟩
    ·rw [show (2 * c + b % 2) / 2 = c by omega]; exact h1
    ·rw [itW, show (2 * c + b % 2) / 2 = c by omega, show (2 * c + b % 2) % 2 = b % 2 by omega]; exact e
   ·rintro ⟨c, hc, ⟨h0, h1⟩, e⟩;refine ⟨c / 2, by omega, h1, ?_⟩;rw [itW, h0 ha] at e;exact e
  ·unfold frA shA;rw [if_neg ha, if_neg ha, List.length_cons, List.length_cons, Nat.pow_succ, Nat.pow_succ];have ih := fun v => it_shA ps (a / 2) (b / 2) (withD s p.1 p.2 v) r hn'.2 hb2;constructor
   ·rintro ⟨c, hc, e⟩;rw [itW, shA_with ps _ _ _ p _ hn'.1] at e;obtain ⟨d, hd, h1, e⟩ := (ih _).1 ⟨c / 2, by omega, e⟩;refine ⟨2 * d + c % 2, by omega, ⟨fun h => absurd h ha, ?_⟩, ?_⟩
    ·rw [show (2 * d + c % 2) / 2 = d by omega]; exact h1
    ·rw [itW, show (2 * d + c % 2) / 2 = d by omega, show (2 * d + c % 2) % 2 = c % 2 by omega]; exact e
   ·rintro ⟨c, hc, ⟨_, h1⟩, e⟩;rw [itW] at e;obtain ⟨d, hd, e⟩ := (ih _).2 ⟨c / 2, by omega, h1, e⟩;refine ⟨2 * d + c % 2, by omega, ?_⟩;rw [itW, shA_with ps _ _ _ p _ hn'.1, show (2 * d + c % 2) / 2 = d by omega, show (2 * d + c % 2) % 2 = c % 2 by omega];exact e
end Sp
namespace Sp
theorem and7 : ∀ k a : Fin 128, andI .i64 (k.val : Int) (a.val : Int) = ((k.val &&& a.val : Nat) : Int) := by decide +kernel
theorem and_iff {w k a b : Nat} (ha : a < 2 ^ w) (hb : b &&& a = b) : (k &&& a = b) ↔ ∀ i, i < w -> a / 2 ^ i % 2 = 1 -> k / 2 ^ i % 2 = b / 2 ^ i % 2 := by
 constructor
 ·rintro rfl i hi h1;have t := Nat.testBit_and k a i;simp only [Nat.testBit_eq_decide_div_mod_eq, h1, decide_true, Bool.and_true, decide_eq_decide] at t;omega
 ·intro h;apply Nat.eq_of_testBit_eq;intro i;rw [Nat.testBit_and];cases hta : a.testBit i with
  | false => rw [Bool.and_false, <- hb, Nat.testBit_and, hta, Bool.and_false]
  | true =>
   have hi : i < w := by
    rcases Nat.lt_or_ge i w with h | h
    ·exact h
    ·rw [Nat.testBit_lt_two_pow (Nat.lt_of_lt_of_le ha (Nat.pow_le_pow_right (by decide) h))] at hta;cases hta
   have := h i hi (by simpa [Nat.testBit_eq_decide_div_mod_eq] using hta);rw [Bool.and_true, Nat.testBit_eq_decide_div_mod_eq, Nat.testBit_eq_decide_div_mod_eq, this]
theorem fillP_get {f : Nat -> Bool} : ∀ (n i : Nat) (p : Dt) (k : Nat), i + n <= p.length -> psb (fillP f i n p) k = if i <= k /\ k < i + n then f k else psb p k
 | 0, i, p, k, _ => by rw [if_neg (by omega)]; rfl
 | n + 1, i, p, k, h => by
  rw [fillP, fillP_get n (i + 1) _ k (by rw [List.length_set]; omega)]
  by_cases e : k = i
  ·subst e;rw [if_neg (by omega), if_pos (by omega)];unfold psb cel;rw [List.getD_eq_getElem?_getD (l := p.set k _), List.getElem?_set_self (by omega)];rfl
  ·have : psb (p.set i [.b (f i)]) k = psb p k := by
    unfold psb cel;rw [List.getD_eq_getElem?_getD (l := p.set i _), List.getElem?_set_ne (Ne.symm e), <- List.getD_eq_getElem?_getD]
   rw [this]
   by_cases c : i + 1 <= k /\ k < i + 1 + n
   ·rw [if_pos c, if_pos (by omega)]
   ·rw [if_neg c, if_neg (by omega)]
theorem lpP_len (qs ps : Dt) (all : Int) (sh : Dt) : (lpP qs ps all sh).length = 2 ^ (uns sh).length := by unfold lpP; rw [Xbi, List.length_replicate]
theorem lpP_get {qs ps sh : Dt} {all : Int} {k : Nat} (h : k < 2 ^ (uns sh).length) : psb (lpP qs ps all sh) k = psB qs ps all sh (uns sh) k := by
 unfold lpP;rw [fillP_get _ _ _ _ (by rw [List.length_replicate]; omega), if_pos (by omega)]
theorem oc2 {qs ps s : Dt} {all : Int} : ocV qs ps all s = 2 ↔ (∃ r ∈ rds s, psS qs ps all r = true) /\ ∃ r ∈ rds s, psS qs ps all r = false := by
 have h1 : anyP qs ps all (rdD s) = true ↔ ∃ r ∈ rds s, psS qs ps all r = true := by
  refine (anyF_0 (f := fun k => psS qs ps all (row (rdD s) k))).trans ?_;constructor
  ·rintro ⟨k, hk, e⟩; exact ⟨_, rds_ix.2 ⟨k, hk, rfl⟩, e⟩
  ·rintro ⟨r, hr, e⟩; obtain ⟨k, hk, e2⟩ := rds_ix.1 hr; exact ⟨k, hk, by rw [e2]; exact e⟩
 have h2 : allP qs ps all (rdD s) = true ↔ ∀ r ∈ rds s, psS qs ps all r = true := by
  refine (allF_0 (f := fun k => psS qs ps all (row (rdD s) k))).trans ?_;constructor
  ·intro h r hr; obtain ⟨k, hk, e2⟩ := rds_ix.1 hr; rw [<- e2]; exact h k hk
  ·intro h k hk; exact h _ (rds_ix.2 ⟨k, hk, rfl⟩)
 have h3 : (∃ r ∈ rds s, psS qs ps all r = false) ↔ ¬ ∀ r ∈ rds s, psS qs ps all r = true := by
  constructor
  ·rintro ⟨r, hr, e⟩ h; rw [h r hr] at e; cases e
  ·intro h
   by_cases c : ∃ r ∈ rds s, psS qs ps all r = false
   ·exact c
   ·exact absurd (fun r hr => by cases e : psS qs ps all r with | true => rfl | false => exact absurd ⟨r, hr, e⟩ c) h
 rw [h3, <- h1, <- h2];unfold ocV
 split
 ·rename_i h; simp [h]
 ·rename_i h
  split
  ·rename_i h'; simp [h, h']
  ·rename_i h'; simp [h, h']
theorem fit_iff {w k a b : Nat} (hw : w <= 7) (hk : k < 2 ^ w) (ha : a < 2 ^ w) (hb : b &&& a = b) : fit a b k = true ↔ ∀ i, i < w -> a / 2 ^ i % 2 = 1 -> k / 2 ^ i % 2 = b / 2 ^ i % 2 := by
 have p : 2 ^ w <= 2 ^ 7 := Nat.pow_le_pow_right (by decide) hw;have h7 : (2 : Nat) ^ 7 = 128 := rfl;unfold fit;rw [decide_eq_true_eq, <- and_iff ha hb];have := and7 ⟨k, by omega⟩ ⟨a, by omega⟩;rw [this];exact ⟨fun e => Int.ofNat.inj e, fun e => congrArg _ e⟩
theorem mix_iff {qs ps sh : Dt} {all : Int} {a b : Nat} (hk : KeyOk qs ps all) (hs : ShOk qs sh) (ha : a < 2 ^ (pos sh).length) (hb : b &&& a = b) : mixB (lpP qs ps all sh) a b = true ↔ ocV qs ps all (shA (pos sh) a b sh) = 2 := by
 have h7 := hs.seven;rw [uns_len] at h7;have hp : pos (shA (pos sh) a b sh) = frA (pos sh) a := by
  have := pos_shA (pos sh) a b sh [] (pos_nd sh) (fun p hp => by cases hp) rfl;exact this
 have hr : ∀ r, r ∈ rds (shA (pos sh) a b sh) ↔ ∃ c, c < 2 ^ (pos sh).length /\ fit a b c = true /\ r = itW (pos sh) c sh := fun r => by
  rw [rds_it _ _ r hp, it_shA _ a b sh r (pos_nd sh) hb];constructor
  ·rintro ⟨c, hc, h, e⟩; exact ⟨c, hc, (fit_iff h7 hc ha hb).2 h, e⟩
  ·rintro ⟨c, hc, h, e⟩; exact ⟨c, hc, (fit_iff h7 hc ha hb).1 h, e⟩
 have hg : ∀ c, c < 2 ^ (pos sh).length -> psb (lpP qs ps all sh) c = psS qs ps all (itW (pos sh) c sh) := fun c hc => by
  rw [lpP_get (by rw [uns_len]; exact hc)];exact psW_it hk hs.n h7 hc
 have hl : (lpP qs ps all sh).length = 2 ^ (pos sh).length := by rw [lpP_len, uns_len]
 have m1 : anyF (fitA (lpP qs ps all sh) a b) 0 (lpP qs ps all sh).length = true ↔ ∃ r ∈ rds (shA (pos sh) a b sh), psS qs ps all r = true := by
  rw [anyF_0, hl];constructor
  ·rintro ⟨c, hc, e⟩;unfold fitA at e;rw [Bool.and_eq_true] at e;exact ⟨_, (hr _).2 ⟨c, hc, e.1, rfl⟩, by rw [<- hg c hc]; exact e.2⟩
  ·rintro ⟨r, h, e⟩;obtain ⟨c, hc, h1, rfl⟩ := (hr _).1 h;exact ⟨c, hc, by unfold fitA; rw [h1, hg c hc, e]; rfl⟩
 have m2 : (!allF (fitE (lpP qs ps all sh) a b) 0 (lpP qs ps all sh).length) = true ↔ ∃ r ∈ rds (shA (pos sh) a b sh), psS qs ps all r = false := by
  rw [Bool.not_eq_true', <- Bool.not_eq_true, allF_0, hl];constructor
  ·intro h
   by_cases c : ∃ r ∈ rds (shA (pos sh) a b sh), psS qs ps all r = false
   ·exact c
   ·refine absurd (fun k hk => ?_) h;unfold fitE;cases e : fit a b k with
    | false => rfl
    | true =>
     cases e2 : psS qs ps all (itW (pos sh) k sh) with
     | true => rw [hg k hk, e2]; rfl
     | false => exact absurd ⟨_, (hr _).2 ⟨k, hk, e, rfl⟩, e2⟩ c
  ·rintro ⟨r, h, e⟩ h2;obtain ⟨c, hc, h1, rfl⟩ := (hr _).1 h;have := h2 c hc;unfold fitE at this;rw [h1, hg c hc, e] at this;cases this
 unfold mixB;rw [Bool.and_eq_true, oc2, m1, m2]
end Sp
namespace Sp
theorem orFacts : ∀ (a : Fin 128) (i : Fin 7), bitA (a.val : Int) (i.val : Int) = ((a.val / 2 ^ i.val % 2 : Nat) : Int) /\ (a.val / 2 ^ i.val % 2 = 0 -> orB (a.val : Int) (i.val : Int) = ((a.val + 2 ^ i.val : Nat) : Int) /\ a.val + 2 ^ i.val = a.val ||| 2 ^ i.val) := by decide +kernel
theorem sub_or {a b y : Nat} (h : b &&& a = b) : b &&& (a ||| y) = b /\ (b ||| y) &&& (a ||| y) = b ||| y := by
 have hj : ∀ j, (b.testBit j && a.testBit j) = b.testBit j := fun j => by rw [<- Nat.testBit_and, h]
 constructor <;> apply Nat.eq_of_testBit_eq <;> intro j <;> have := hj j <;> simp only [Nat.testBit_and, Nat.testBit_or] <;> revert this <;> cases b.testBit j <;> cases a.testBit j <;> cases y.testBit j <;> simp
theorem sub_bit {a b i : Nat} (h : b &&& a = b) (ha : a / 2 ^ i % 2 = 0) : b / 2 ^ i % 2 = 0 := by
 have : (b.testBit i && a.testBit i) = b.testBit i := by rw [<- Nat.testBit_and, h]
 simp only [Nat.testBit_eq_decide_div_mod_eq, ha] at this;simp at this;omega
theorem frA_mem : ∀ {ps : List (Nat × Nat)} {a i : Nat} (h : i < ps.length), a / 2 ^ i % 2 = 0 -> ps[i] ∈ frA ps a
 | [], _, i, h, _ => absurd h (Nat.not_lt_zero _)
 | p :: ps, a, 0, h, ha => by
  have ha : a % 2 = 0 := by simpa using ha
  unfold frA;rw [if_neg (by omega)];exact List.mem_cons_self
 | p :: ps, a, i + 1, h, ha => by
  have hi : i < ps.length := by simpa using h
  rw [Nat.pow_succ, Nat.mul_comm (2 ^ i) 2, <- Nat.div_div_eq_div_mul] at ha;have := frA_mem (a := a / 2) hi ha;unfold frA
  split
  ·exact this
  ·exact List.mem_cons_of_mem _ this
def lkL (c : Nat × Nat -> Int) : List (Nat × Nat) -> LkR -> LkR
 | [], r => r
 | p :: l, r => lkL c l (if r.n < 0 \/ c p < r.n then ⟨c p, p.1, p.2⟩ else r)
theorem lkF_L {c : Nat -> Int} {c' : Nat × Nat -> Int} (l : List (Nat × Nat)) (hc : ∀ i (h : i < l.length), c i = c' l[i]) : ∀ (n i : Nat) (r : LkR), i + n = l.length -> lkF c (l.map prC) i n r = lkL c' (l.drop i) r
 | 0, i, r, h => by rw [List.drop_eq_nil_of_le (by omega)]; rfl
 | n + 1, i, r, h => by
  have hi : i < l.length := by omega
  rw [List.drop_eq_getElem_cons hi];unfold lkF lkL;rw [(prC_cel l i hi).1, (prC_cel l i hi).2, hc i hi, lkF_L l hc n (i + 1) _ (by omega)]
structure LkRel (us : List (Nat × Nat)) (r : LkR) (t : LpR) : Prop where
 neg : r.n < 0 ↔ t.i < 0
 pos : 0 <= t.i -> r.n = t.n /\ ∃ h : t.i.toNat < us.length, r.a = us[t.i.toNat].1 /\ r.b = us[t.i.toNat].2
theorem lk_lp {c : Nat -> Int} {c' : Nat × Nat -> Int} (us : List (Nat × Nat)) (A : Nat) (hc : ∀ k (h : k < us.length), A / 2 ^ k % 2 = 0 -> c k = c' us[k] /\ 0 <= c k) : ∀ (n k : Nat) (r : LkR) (t : LpR), k + n = us.length -> LkRel us r t -> LkRel us (lkL c' (frA (us.drop k) (A / 2 ^ k)) r) (lpF c (fun i => decide (A / 2 ^ i % 2 = 1)) k n t)
 | 0, k, r, t, h, hr => by rw [List.drop_eq_nil_of_le (by omega)]; exact hr
 | n + 1, k, r, t, h, hr => by
  have hk : k < us.length := by omega
  have ih := lk_lp us A hc n (k + 1);rw [Nat.pow_succ, <- Nat.div_div_eq_div_mul] at ih;rw [List.drop_eq_getElem_cons hk];unfold frA lpF
  by_cases e : A / 2 ^ k % 2 = 1
  ·rw [if_pos e, if_pos (by simpa using e)];exact ih r t (by omega) hr
  ·rw [if_neg e, if_neg (by simpa using e)];obtain ⟨c1, c2⟩ := hc k hk (by omega);unfold lkL;refine ih _ _ (by omega) ?_;rw [<- c1];have hiff : (r.n < 0 \/ c k < r.n) ↔ (t.i < 0 \/ c k < t.n) := by
    by_cases ht : t.i < 0
    ·exact ⟨fun _ => .inl ht, fun _ => .inl (hr.neg.2 ht)⟩
    ·have h1 := (hr.pos (by omega)).1;have h2 : ¬ r.n < 0 := fun x => ht (hr.neg.1 x);rw [h1];constructor
     ·rintro (x | x)
      ·rw [<- h1] at x; exact absurd x h2
      ·exact .inr x
     ·rintro (x | x)
      ·exact absurd x ht
      ·exact .inr x
   by_cases x : r.n < 0 \/ c k < r.n
   ·rw [if_pos x, if_pos (hiff.1 x)];refine ⟨⟨fun y => ?_, fun y => ?_⟩, fun _ => ⟨rfl, ?_⟩⟩
    ·have : c k < 0 := y;omega
    ·have : ((k : Nat) : Int) < 0 := y;omega
    ·show ∃ h : ((k : Nat) : Int).toNat < us.length, _
     simp only [Int.toNat_natCast];exact ⟨hk, by simp⟩
   ·rw [if_neg x, if_neg fun y => x (hiff.2 y)];exact hr
end Sp
namespace Sp
theorem lpF_skip {c : Nat -> Int} {s s' : Nat -> Bool} : ∀ (n i : Nat) (r : LpR), (∀ k, i <= k -> k < i + n -> s k = s' k) -> lpF c s i n r = lpF c s' i n r
 | 0, _, _, _ => rfl
 | n + 1, i, r, h => by
  unfold lpF;rw [h i (Nat.le_refl _) (by omega)];exact lpF_skip n _ _ fun k h1 h2 => h k (by omega) (by omega)
theorem lkL_pos {c : Nat × Nat -> Int} (hc : ∀ p, 0 <= c p) : ∀ (l : List (Nat × Nat)) (r : LkR), (0 <= r.n \/ l ≠ []) -> 0 <= (lkL c l r).n
 | [], r, h => h.elim id fun x => absurd rfl x
 | p :: l, r, h => by
  unfold lkL;refine lkL_pos hc l _ (.inl ?_)
  split
  ·exact hc p
  ·omega
theorem oc_free {qs ps s : Dt} {all : Int} (h : ocV qs ps all s = 2) : pos s ≠ [] := fun e => by
 obtain ⟨⟨r, hr, h1⟩, r', hr', h2⟩ := oc2.1 h;rw [rds_nil e, List.mem_singleton] at hr hr';rw [hr] at h1;rw [hr', h1] at h2;cases h2
theorem look_same {qs ps sh : Dt} {all : Int} (hk : KeyOk qs ps all) (hs : ShOk qs sh) : ∀ (n A B : Nat), A < 2 ^ (pos sh).length -> B &&& A = B -> (pos (shA (pos sh) A B sh)).length < n ->
  (lkN qs ps all n (shA (pos sh) A B sh)).n = (lpC (lpP qs ps all sh) (pos sh).length A B).n /\
  ((lpC (lpP qs ps all sh) (pos sh).length A B).i < 0 -> ocV qs ps all (shA (pos sh) A B sh) ≠ 2) /\
  (0 <= (lpC (lpP qs ps all sh) (pos sh).length A B).i -> ocV qs ps all (shA (pos sh) A B sh) = 2 /\ ∃ h : (lpC (lpP qs ps all sh) (pos sh).length A B).i.toNat < (pos sh).length, (lkN qs ps all n (shA (pos sh) A B sh)).a = (pos sh)[(lpC (lpP qs ps all sh) (pos sh).length A B).i.toNat].1 /\ (lkN qs ps all n (shA (pos sh) A B sh)).b = (pos sh)[(lpC (lpP qs ps all sh) (pos sh).length A B).i.toNat].2)
 | 0, _, _, _, _, h => absurd h (Nat.not_lt_zero _)
 | n + 1, A, B, hA, hB, hn => by
  have h7 := hs.seven;rw [uns_len] at h7;have p7 : 2 ^ (pos sh).length <= 2 ^ 7 := Nat.pow_le_pow_right (by decide) h7;have e7 : (2 : Nat) ^ 7 = 128 := rfl;have hAi : (A : Int) < ((2 ^ (pos sh).length : Nat) : Int) := Int.ofNat_lt.2 hA;have mi := mix_iff (ps := ps) (all := all) hk hs hA hB;have hp : pos (shA (pos sh) A B sh) = frA (pos sh) A := pos_shA (pos sh) A B sh [] (pos_nd sh) (fun p hp => by cases hp) rfl;have hB2 : B < 2 ^ (pos sh).length := Nat.lt_of_le_of_lt (by rw [<- hB]; exact Nat.and_le_right) hA;have hu : uns (shA (pos sh) A B sh) = (frA (pos sh) A).map prC := by rw [uns_pos, hp]
  have leq := Xj1 (ps := lpP qs ps all sh) (w := (pos sh).length) (a := (A : Int)) (b := (B : Int)) h7 (Int.natCast_nonneg _) hAi
  by_cases m : ocV qs ps all (shA (pos sh) A B sh) = 2
  ·rw [if_pos (mi.2 m)] at leq;obtain ⟨cc, hcc⟩ : ∃ c : Nat × Nat -> Int, ∀ p, c p = 1 + max (lkN qs ps all n (withD (shA (pos sh) A B sh) p.1 p.2 0)).n (lkN qs ps all n (withD (shA (pos sh) A B sh) p.1 p.2 1)).n := ⟨_, fun _ => rfl⟩;have c1 : ∀ k (h : k < (pos sh).length), A / 2 ^ k % 2 = 0 -> lpc (lpP qs ps all sh) (pos sh).length A B k = cc (pos sh)[k] /\ 0 <= lpc (lpP qs ps all sh) (pos sh).length A B k := fun k h ha => by
    have hb := sub_bit hB ha;obtain ⟨oa, oa2⟩ := (orFacts ⟨A, by omega⟩ ⟨k, by omega⟩).2 ha;obtain ⟨ob, ob2⟩ := (orFacts ⟨B, by omega⟩ ⟨k, by omega⟩).2 hb;have lt := (X7 (a := (A : Int)) (i := (k : Int)) h7 (Int.natCast_nonneg _) hAi (Int.natCast_nonneg _) (Int.ofNat_lt.2 h)).2.1;have oa : orB (A : Int) (k : Int) = ((A + 2 ^ k : Nat) : Int) := oa;have ob : orB (B : Int) (k : Int) = ((B + 2 ^ k : Nat) : Int) := ob;have oa2 : A + 2 ^ k = A ||| 2 ^ k := oa2
    have ob2 : B + 2 ^ k = B ||| 2 ^ k := ob2
    rw [oa] at lt;have lt := Int.ofNat_lt.1 lt;have so := sub_or (y := 2 ^ k) hB;have hm : (pos sh)[k] ∈ pos (shA (pos sh) A B sh) := by rw [hp]; exact frA_mem h ha
    have s0 := shA_step (pos sh) k A B sh 0 (pos_nd sh) h ha hb (by decide);have s1 := shA_step (pos sh) k A B sh 1 (pos_nd sh) h ha hb (by decide);rw [Nat.zero_mul, Nat.add_zero] at s0;rw [Nat.one_mul] at s1;have l0 : (pos (withD (shA (pos sh) A B sh) (pos sh)[k].1 (pos sh)[k].2 0)).length + 1 = (pos (shA (pos sh) A B sh)).length := pos_with_len (v := 0) (by decide) hm;have l1 : (pos (withD (shA (pos sh) A B sh) (pos sh)[k].1 (pos sh)[k].2 1)).length + 1 = (pos (shA (pos sh) A B sh)).length := pos_with_len (v := 1) (by decide) hm;have s0 : withD (shA (pos sh) A B sh) (pos sh)[k].1 (pos sh)[k].2 0 = shA (pos sh) (A + 2 ^ k) B sh := s0;have s1 : withD (shA (pos sh) A B sh) (pos sh)[k].1 (pos sh)[k].2 1 = shA (pos sh) (A + 2 ^ k) (B + 2 ^ k) sh := s1;rw [s0] at l0;rw [s1] at l1;have i0 := (look_same hk hs n (A + 2 ^ k) B lt (by rw [oa2]; exact so.1) (by omega)).1;have i1 := (look_same hk hs n (A + 2 ^ k) (B + 2 ^ k) lt (by rw [oa2, ob2]; exact so.2) (by omega)).1;have bd := Xbg (ps := lpP qs ps all sh) (w := (pos sh).length) (a := ((A + 2 ^ k : Nat) : Int)) (b := (B : Int)) h7 (Int.natCast_nonneg _) (Int.ofNat_lt.2 lt);have e : lpc (lpP qs ps all sh) (pos sh).length A B k = 1 + max (lpC (lpP qs ps all sh) (pos sh).length ((A + 2 ^ k : Nat) : Int) B).n (lpC (lpP qs ps all sh) (pos sh).length ((A + 2 ^ k : Nat) : Int) ((B + 2 ^ k : Nat) : Int)).n := by
     unfold lpc;rw [oa, ob]
    refine ⟨?_, by rw [e]; omega⟩;rw [hcc, e, s0, s1, i0, i1]
   have rel := lk_lp (pos sh) A (c := lpc (lpP qs ps all sh) (pos sh).length A B) c1 (pos sh).length 0 ⟨-1, 0, 0⟩ ⟨0, -1⟩ (by omega) ⟨⟨fun _ => by decide, fun _ => by decide⟩, fun h => absurd h (by decide)⟩;rw [lpF_skip (s' := lps A) _ _ _ (fun k _ h => by
    unfold lps;rw [(orFacts ⟨A, by omega⟩ ⟨k, by omega⟩).1];simp only [decide_eq_decide];omega), <- leq, Nat.pow_zero, Nat.div_one, List.drop_zero] at rel
   have er : lkN qs ps all (n + 1) (shA (pos sh) A B sh) = lkL cc (frA (pos sh) A) ⟨-1, 0, 0⟩ := by
    rw [lkN, if_pos m, hu, List.length_map];refine (lkF_L (frA (pos sh) A) (fun i h => ?_) _ 0 _ (by omega)).trans (by rw [List.drop_zero]);rw [hcc, (prC_cel _ i h).1, (prC_cel _ i h).2, Int.toNat_natCast, Int.toNat_natCast]
   rw [<- er] at rel;have ge : 0 <= (lkN qs ps all (n + 1) (shA (pos sh) A B sh)).n := by
    rw [er];refine lkL_pos (fun p => ?_) _ _ (.inr (by rw [<- hp]; exact oc_free m));have := (lkN_in qs ps all n (withD (shA (pos sh) A B sh) p.1 p.2 0)).1;rw [hcc];omega
   have hi : ¬ (lpC (lpP qs ps all sh) (pos sh).length A B).i < 0 := fun x => by have := rel.neg.2 x; omega
   obtain ⟨r1, r2⟩ := rel.pos (by omega);exact ⟨r1, fun x => absurd x hi, fun _ => ⟨m, r2⟩⟩
  ·rw [if_neg fun x => m (mi.1 x)] at leq;rw [leq, lkN, if_neg m];exact ⟨rfl, fun _ => m, fun h => absurd h (by decide)⟩
end Sp
namespace Sp
theorem shA_zero : ∀ (ps : List (Nat × Nat)) (b : Nat) (s : Dt), shA ps 0 b s = s
 | [], _, _ => rfl
 | p :: ps, b, s => by
  rw [shA, if_neg (by decide)];exact shA_zero ps _ s
theorem lpR_eq (qs ps : Dt) (all : Int) (sh : Dt) : lpR qs ps all sh = lpC (lpP qs ps all sh) (pos sh).length ((0 : Nat) : Int) ((0 : Nat) : Int) := by
 unfold lpR;rw [uns_len];rfl
theorem lk_lpR {qs ps sh : Dt} {all : Int} (hk : KeyOk qs ps all) (hs : ShOk qs sh) : (ocV qs ps all sh = 2 ↔ ¬ (lpR qs ps all sh).i < 0) /\ (ocV qs ps all sh = 2 -> lkN qs ps all 8 sh = ⟨(lpR qs ps all sh).n, cA (uns sh) (lpR qs ps all sh).i.toNat, cB (uns sh) (lpR qs ps all sh).i.toNat⟩) := by
 have h7 := hs.seven;rw [uns_len] at h7;have L := look_same (ps := ps) (all := all) hk hs 8 0 0 (Nat.two_pow_pos _) rfl (by rw [shA_zero]; omega);rw [shA_zero, <- lpR_eq] at L;obtain ⟨l1, l2, l3⟩ := L;refine ⟨⟨fun h x => l2 x h, fun h => (l3 (by omega)).1⟩, fun h => ?_⟩;have hi : 0 <= (lpR qs ps all sh).i := by
  rcases Int.lt_or_le (lpR qs ps all sh).i 0 with x | x
  ·exact absurd h (l2 x)
  ·exact x
 obtain ⟨_, hj, ha, hb⟩ := l3 hi;have e := prC_cel (pos sh) _ hj;rw [uns_pos, e.1, e.2, <- ha, <- hb, <- l1]
theorem plE_eq (qs ps : Dt) (all : Int) (sh : Dt) : plE qs ps all sh = lookE qs ps all sh := by
 unfold plE lookE
 by_cases e : askE qs ps all sh = 0
 ·obtain ⟨hk, hs⟩ := askE_ok e;rw [if_pos e, if_pos e];have h := (lk_lpR hk hs).1
  by_cases x : (lpR qs ps all sh).i < 0
  ·rw [if_pos x, if_neg fun y => h.1 y x]
  ·rw [if_neg x, if_pos (h.2 x)]
 ·rw [if_neg e, if_neg e]
theorem plR_eq (qs ps : Dt) (all : Int) (sh : Dt) : plR qs ps all sh = lookR qs ps all sh := by
 unfold plR lookR;rw [plE_eq]
 by_cases e : lookE qs ps all sh = 0
 ·rw [if_pos e, if_pos e];have ea : askE qs ps all sh = 0 := by
   unfold lookE at e
   split at e
   ·assumption
   ·exact e
  obtain ⟨hk, hs⟩ := askE_ok ea;have eo : ocV qs ps all sh = 2 := by
   unfold lookE at e;rw [if_pos ea] at e
   split at e
   ·assumption
   ·cases e
  exact ((lk_lpR hk hs).2 eo).symm
 ·rw [if_neg e, if_neg e]
end Sp
theorem Xix : PureOk Try.prog 30 Xw [(true, [.int .i64, .int .i64]), (false, [.int .i64]), (false, [.int .i64])] (fun _ => True) Xb0 := by
 have e : Xr = Xb0 := by
  funext ds
  unfold Xr;simp only [Sp.plR_eq, Sp.plE_eq];rfl
 rw [<- e];exact Xlf
def Xis : PC Try.prog := ⟨30, Xw, [(true, [.int .i64, .int .i64]), (false, [.int .i64]), (false, [.int .i64])], fun _ => True, Xb0, Xix⟩
end Go.Proofs.Ytifhdbgciehicaa
