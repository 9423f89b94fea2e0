/-
  'CourseSpans': for every input the law returns true, and what is handed in reads as before. No condition.
-/
import Derived.Test.YtmogofidmchdoaaQi
import Derived.Test.YtmogofidmchdoaaRows
import Derived.WalkKit
import Derived.ProofKit
set_option linter.unusedVariables false
set_option linter.unusedSectionVars false
set_option linter.unusedSimpArgs false
namespace Go.Proofs.Ytmogofidmchdoaa
open Go.RowKit
set_option maxRecDepth 100000
set_option maxHeartbeats 1600000
namespace Sp
def lowD (hd : Dt) (n : Nat) : Dt := (List.range n).map fun s => [Cl.i (hLo hd s)]
def higD (hd : Dt) (n : Nat) : Dt := (List.range n).map fun s => [Cl.i (hHi hd s)]
end Sp
def Xg [InW] (e : List Ed) (K : Nat -> List Ed -> Prop) : Prop := match e with
 | [.i s, .ro _ pl, .ro _ sh, .ro _ ti, .ro _ st, .i ce, .ro _ hd, .ro _ rt, .l lo, .l hi] => Pre (hd.xs.length <= 40 /\ 0 <= s /\ s <= hd.xs.length /\ lo = Sp.lowD hd.xs s.toNat /\ hi = Sp.higD hd.xs s.toNat)
   (K 0 [.ro _ pl, .ro _ sh, .ro _ ti, .ro _ st, .i ce, .ro _ hd, .ro _ rt, .l (Sp.lowD hd.xs hd.xs.length), .l (Sp.higD hd.xs hd.xs.length)])
 | _ => False
noncomputable def Xi : LC where
 len := 222
 T := [(3, (.ptr 1 0)), (20, (.row 6)), (21, (.row 9)), (22, .int .i64)]
 H := [(1, .blk 29 [.rs Jb, .rs Jb, .rs Jb, .rs Jd, .int .i64, .rs Iv4, .rs Je]), (6, .arr 3 Ja), (9, .arr 3 Ja)]
 W := [142, 143, 144, 145, 146, 147, 148, 149, 150, 151, 152, 153, 154, 155, 156, 157, 158, 159, 160, 161, 162, 163, 164, 165, 166, 167, 168]
 outs := [⟨.exit 0, [(3, (.ptr 1 0)), (20, (.row 12)), (21, (.row 15))], [(1, .blk 29 [.rs Jb, .rs Jb, .rs Jb, .rs Jd, .int .i64, .rs Iv4, .rs Je]), (12, .arr 3 Ja), (15, .arr 3 Ja)], [22, 142, 143, 144, 145, 146, 147, 148, 149, 150, 151, 152, 153, 154, 155, 156, 157, 158, 159, 160, 161, 162, 163, 164, 165, 166, 167, 168]⟩]
 spec := Xg
def Xf [W : InW] (s : Int) (pl sh ti : Ro Jb) (st : Ro Jd) (ce : Int) (hd : Ro Iv4) (rt : Ro Je) (lo hi : Dt) (A : List Ed -> Prop) (K : Nat -> List Ed -> Prop) : Prop :=
 Vif (decide (s < (↑(hd.xs.length) : Int))) (Need (decide ((0 : Int) <= s) && decide (s < (↑(hd.xs.length) : Int))) (Need (decide (s.toNat < hd.xs.length)) (Need (decide ((lo.length + [[Cl.i (cel hd.xs s.toNat (1+1 : Nat)).int]].length) * (8 : Nat) <= Zbo)) (Need (decide ((0 : Int) <= s) && decide (s < (↑(hd.xs.length) : Int))) (Need (decide (s.toNat < hd.xs.length)) (Need (decide ((hi.length + [[Cl.i (cel hd.xs s.toNat (2+1 : Nat)).int]].length) * (8 : Nat) <= Zbo)) (Ar .i64 (s + (1 : Int)) fun z => A [.i z, .ro _ pl, .ro _ sh, .ro _ ti, .ro Zb st, .i ce, .ro _ hd, .ro Zw rt, .l (lo ++ [[Cl.i (cel hd.xs s.toNat (1+1 : Nat)).int]]), .l (hi ++ [[Cl.i (cel hd.xs s.toNat (2+1 : Nat)).int]])]))))))) (K (0 : Nat) [.ro _ pl, .ro _ sh, .ro _ ti, .ro Zb st, .i ce, .ro _ hd, .ro Zw rt, .l lo, .l hi])
theorem Xl (W : InW) (s pl sh ti st ce hd rt lo hi A K) : Ybd { cxT Try.prog TT T111 1000 50 with fn := 8 } 1000 (Y1 Try.prog 8 17) (Y4 222 [(3, .ptr 1 0), (20, .rw 6), (21, .rw 9), (22, .si .i64 s)] [142, 143, 144, 145, 146, 147, 148, 149, 150, 151, 152, 153, 154, 155, 156, 157, 158, 159, 160, 161, 162, 163, 164, 165, 166, 167, 168]) [(1, .blk 29 [.rs _ pl, .rs _ sh, .rs _ ti, .rs _ st, .si .i64 ce, .rs _ hd, .rs _ rt]), (6, .arr 3 Ja lo), (9, .arr 3 Ja hi)] (Y6 Xi A K) = Xf s pl sh ti st ce hd rt lo hi A K := by kernel_rfl
def Xh : Prop := ∀ (W : InW) (body a : Code), (Try.prog.funcs[8]?).bind (·.body) = some body -> a ∈ Yi body -> Ybe a = 17 -> @Y0 W Try.prog a (@Yh W Xi)
theorem Xm (meas : [InW] -> List Ed -> Nat) (hyp_ : ∀ (W : InW) (s : Int) (pl sh ti : Ro Jb) (st : Ro Jd) (ce : Int) (hd : Ro Iv4) (rt : Ro Je) (lo hi : Dt) (K : Nat -> List Ed -> Prop), Xg [.i s, .ro _ pl, .ro _ sh, .ro _ ti, .ro _ st, .i ce, .ro _ hd, .ro _ rt, .l lo, .l hi] K -> ∀ A : List Ed -> Prop, (∀ e, meas e < meas [.i s, .ro _ pl, .ro _ sh, .ro _ ti, .ro _ st, .i ce, .ro _ hd, .ro _ rt, .l lo, .l hi] -> Xg e K -> A e) -> Xf s pl sh ti st ce hd rt lo hi A K) : Xh :=
 LE.okOf' (fun W => @TT W) (fun W => @Yo W) Yd T111 1000 50 (by kernel_rfl) Xi (fun W => @meas W) fun W s pl sh ti st ce hd rt lo hi K hs =>
  (Xl W s pl sh ti st ce hd rt lo hi (fun e => meas e < meas [.i s, .ro _ pl, .ro _ sh, .ro _ ti, .ro _ st, .i ce, .ro _ hd, .ro _ rt, .l lo, .l hi] /\ Xg e K) K).mpr (hyp_ W s pl sh ti st ce hd rt lo hi K hs _ fun e h1 h2 => ⟨h1, h2⟩)
theorem Xj (hd : Dt) (n : Nat) : Sp.lowD hd (n + 1) = Sp.lowD hd n ++ [[Cl.i (Sp.hLo hd n)]] := by
 unfold Sp.lowD;rw [show List.range (n + 1) = List.range n ++ [n] from List.range_succ, List.map_append];rfl
theorem Xk (hd : Dt) (n : Nat) : Sp.higD hd (n + 1) = Sp.higD hd n ++ [[Cl.i (Sp.hHi hd n)]] := by
 unfold Sp.higD;rw [show List.range (n + 1) = List.range n ++ [n] from List.range_succ, List.map_append];rfl
theorem Xq {hd : Dt} (h : ∀ i, i < hd.length -> Sp.HdOk hd i) : Sp.TrOk hd (Sp.lowD hd hd.length) := ⟨by unfold Sp.lowD; simp, fun s hs => by unfold Sp.lowD; rw [Sp.cel_gen hs]; have := (h s hs).le; exact ⟨by show _ <= Sp.hLo hd s; omega, by show Sp.hLo hd s <= _; omega⟩⟩
theorem Xs {hd : Dt} (h : ∀ i, i < hd.length -> Sp.HdOk hd i) : Sp.TrOk hd (Sp.higD hd hd.length) := ⟨by unfold Sp.higD; simp, fun s hs => by unfold Sp.higD; rw [Sp.cel_gen hs]; have := (h s hs).le; exact ⟨by show _ <= Sp.hHi hd s; omega, by show Sp.hHi hd s <= _; omega⟩⟩
theorem Xn (hd rt : Dt) (a : Nat) : Sp.sumT hd rt a (Sp.lowD hd hd.length) = Sp.haLo hd rt a := by
 unfold Sp.sumT Sp.haLo Sp.lowD;exact Sp.sumF_congr fun k _ hk => by rw [Sp.cel_gen (by omega)]; rfl
theorem Xo (hd rt : Dt) (a : Nat) : Sp.sumT hd rt a (Sp.higD hd hd.length) = Sp.haHi hd rt a := by
 unfold Sp.sumT Sp.haHi Sp.higD;exact Sp.sumF_congr fun k _ hk => by rw [Sp.cel_gen (by omega)]; rfl
theorem Xp : Xh := Xm (fun e => match e with | .i s :: _ :: _ :: _ :: _ :: _ :: .ro _ hd :: _ => ((hd.xs.length : Int) - s).toNat | _ => 0) fun W s pl sh ti st ce hd rt lo hi K hs A hA => by
 obtain ⟨⟨hl, s0, s1, rfl, rfl⟩, hk⟩ := hs;unfold Xf;delta Zw Zb Zbo;have l1 : (Sp.lowD hd.xs s.toNat).length = s.toNat := by unfold Sp.lowD; simp
 have l2 : (Sp.higD hd.xs s.toNat).length = s.toNat := by unfold Sp.higD; simp
 refine vifd (fun e => Yhj ⟨s0, e⟩ (nedd (by omega) (nedd (by simp; omega) (Yhj ⟨s0, e⟩ (nedd (by omega) (nedd (by simp; omega) (ar64 (by omega) ?_))))))) fun e => ?_
 ·refine hA _ (by show ((hd.xs.length : Int) - (s + 1)).toNat < ((hd.xs.length : Int) - s).toNat; omega) ⟨⟨hl, by omega, by omega, ?_, ?_⟩, hk⟩
  ·rw [show (s + 1).toNat = s.toNat + 1 by omega, Xj]; rfl
  ·rw [show (s + 1).toNat = s.toNat + 1 by omega, Xk]; rfl
 ·rw [show s.toNat = hd.xs.length by omega];exact hk
noncomputable def Xr : LE Try.prog := ⟨8, 17, fun W => @Yh W Xi, Xp⟩
noncomputable def TH8 : Tab Try.prog := ⟨[pc_valid, Ybbp, Y6q, Yyc, pc_traf, Ybkd, Y6k, pc_Awake], [Xr], []⟩
def Zek [W : InW] (c_Pl c_Sh c_Ti : Ro Jb) := Sp.NamesOk c_Pl.xs /\ Sp.NamesOk c_Sh.xs /\ Sp.NamesOk c_Ti.xs
def Zej [W : InW] (c_Rt : Ro Je) := (↑(c_Rt.xs.length) : Int)
def Zel [W : InW] (c_Hd : Ro Iv4) (x : Ro [.int .u8]) := Sp.trafF c_Hd.xs x.xs (c_Hd.xs.length)
def Xb [W : InW] (c_Pl c_Sh c_Ti : Ro Jb) (c_St : Ro Jd) (c_Ce : Int) (c_Hd : Ro Iv4) (c_Rt : Ro Je) (y_a y_b : Int) (x : Ro [.int .u8]) (Q : DS -> Prop) : Prop :=
 Pre (Zek c_Pl c_Sh c_Ti) (Vif (!decide (Sp.cE c_Pl.xs c_Sh.xs c_Ti.xs c_St.xs c_Ce c_Hd.xs c_Rt.xs = Zf)) (Pre (Zek c_Pl c_Sh c_Ti) (Vif (!decide (Sp.haE c_Pl.xs c_Sh.xs c_Ti.xs c_St.xs c_Ce c_Hd.xs c_Rt.xs Zf = Zf)) (Pre True (Q [[Cl.b true]])) (Q Zee))) (Vif (decide ((Zej c_Rt) = Zf)) (Pre (Zek c_Pl c_Sh c_Ti) (Vif (!decide (Sp.haE c_Pl.xs c_Sh.xs c_Ti.xs c_St.xs c_Ce c_Hd.xs c_Rt.xs Zf = Zf)) (Pre True (Q [[Cl.b true]])) (Q Zee))) (Ar .i64 y_a fun z => Need (!decide ((Zej c_Rt) = Zf)) (Ar .i64 y_b fun z_1 => Need (!decide ((Zej c_Rt) = Zf)) (Pre (Zek c_Pl c_Sh c_Ti) (Pre (Zek c_Pl c_Sh c_Ti) (Vif (!decide (Sp.haE c_Pl.xs c_Sh.xs c_Ti.xs c_St.xs c_Ce c_Hd.xs c_Rt.xs (z.tmod (Zej c_Rt)) = Zf)) (Q Zee) (Vif (!decide (Sp.pairE c_Pl.xs c_Sh.xs c_Ti.xs c_St.xs c_Ce c_Hd.xs c_Rt.xs (z.tmod (Zej c_Rt)) (z_1.tmod (Zej c_Rt)) = Zf)) (Q Zee) (Pre True (Vif (!decide (Sp.trErr c_Hd.xs (Sp.paLe c_Pl.xs c_Sh.xs c_Ti.xs c_St.xs c_Ce c_Hd.xs c_Rt.xs (z.tmod (Zej c_Rt)) (z_1.tmod (Zej c_Rt))) = Zf)) (Q Zee) (Pre True (Vif (!decide (Sp.trErr c_Hd.xs (Sp.paGr c_Pl.xs c_Sh.xs c_Ti.xs c_St.xs c_Ce c_Hd.xs c_Rt.xs (z.tmod (Zej c_Rt)) (z_1.tmod (Zej c_Rt))) = Zf)) (Q Zee) (Pre (Sp.TfOk c_Hd.xs x.xs) (Pre (Zek c_Pl c_Sh c_Ti) (Pre (Zek c_Pl c_Sh c_Ti) (Vif (!decide (Sp.aeE c_Pl.xs c_Sh.xs c_Ti.xs c_St.xs c_Ce c_Hd.xs c_Rt.xs (z.tmod (Zej c_Rt)) (Zel c_Hd x) = Zf)) (Q Zee) (Vif (!decide (Sp.aeE c_Pl.xs c_Sh.xs c_Ti.xs c_St.xs c_Ce c_Hd.xs c_Rt.xs (z_1.tmod (Zej c_Rt)) (Zel c_Hd x) = Zf)) (Q Zee) (Vif (decide (Sp.avN c_Pl.xs c_Sh.xs c_Ti.xs c_St.xs c_Ce c_Hd.xs c_Rt.xs (z.tmod (Zej c_Rt)) (Zel c_Hd x) < Sp.hvLo c_Pl.xs c_Sh.xs c_Ti.xs c_St.xs c_Ce c_Hd.xs c_Rt.xs (z.tmod (Zej c_Rt)))) (Q Zee) (Vif (decide (Sp.hvHi c_Pl.xs c_Sh.xs c_Ti.xs c_St.xs c_Ce c_Hd.xs c_Rt.xs (z.tmod (Zej c_Rt)) < Sp.avN c_Pl.xs c_Sh.xs c_Ti.xs c_St.xs c_Ce c_Hd.xs c_Rt.xs (z.tmod (Zej c_Rt)) (Zel c_Hd x))) (Q Zee) (Ar .i64 (Sp.avN c_Pl.xs c_Sh.xs c_Ti.xs c_St.xs c_Ce c_Hd.xs c_Rt.xs (z.tmod (Zej c_Rt)) (Zel c_Hd x) - Sp.avN c_Pl.xs c_Sh.xs c_Ti.xs c_St.xs c_Ce c_Hd.xs c_Rt.xs (z_1.tmod (Zej c_Rt)) (Zel c_Hd x)) fun z_2 => Vif (decide (z_2 < Sp.paLo c_Pl.xs c_Sh.xs c_Ti.xs c_St.xs c_Ce c_Hd.xs c_Rt.xs (z.tmod (Zej c_Rt)) (z_1.tmod (Zej c_Rt)))) (Q Zee) (Ar .i64 (Sp.avN c_Pl.xs c_Sh.xs c_Ti.xs c_St.xs c_Ce c_Hd.xs c_Rt.xs (z.tmod (Zej c_Rt)) (Zel c_Hd x) - Sp.avN c_Pl.xs c_Sh.xs c_Ti.xs c_St.xs c_Ce c_Hd.xs c_Rt.xs (z_1.tmod (Zej c_Rt)) (Zel c_Hd x)) fun z_3 => Vif (decide (Sp.paHi c_Pl.xs c_Sh.xs c_Ti.xs c_St.xs c_Ce c_Hd.xs c_Rt.xs (z.tmod (Zej c_Rt)) (z_1.tmod (Zej c_Rt)) < z_3)) (Q Zee) (Pre (c_Hd.xs.length <= (40 : Nat) /\ Zf <= Zf /\ Zf <= (↑(c_Hd.xs.length) : Int) /\ [] = Sp.lowD c_Hd.xs Zg /\ [] = Sp.higD c_Hd.xs Zg) (Pre (Sp.RfOk c_Hd.xs c_Rt.xs (z.tmod (Zej c_Rt)) /\ Sp.TrOk c_Hd.xs (Sp.lowD c_Hd.xs (c_Hd.xs.length))) (Vif (decide (Sp.sumT c_Hd.xs c_Rt.xs (z.tmod (Zej c_Rt)).toNat (Sp.lowD c_Hd.xs (c_Hd.xs.length)) = Sp.hvLo c_Pl.xs c_Sh.xs c_Ti.xs c_St.xs c_Ce c_Hd.xs c_Rt.xs (z.tmod (Zej c_Rt)))) (Pre (Sp.RfOk c_Hd.xs c_Rt.xs (z.tmod (Zej c_Rt)) /\ Sp.TrOk c_Hd.xs (Sp.higD c_Hd.xs (c_Hd.xs.length))) (Vif (decide (Sp.sumT c_Hd.xs c_Rt.xs (z.tmod (Zej c_Rt)).toNat (Sp.higD c_Hd.xs (c_Hd.xs.length)) = Sp.hvHi c_Pl.xs c_Sh.xs c_Ti.xs c_St.xs c_Ce c_Hd.xs c_Rt.xs (z.tmod (Zej c_Rt)))) (Pre (Sp.RfOk c_Hd.xs c_Rt.xs (z.tmod (Zej c_Rt)) /\ Sp.TrOk c_Hd.xs (Sp.paLe c_Pl.xs c_Sh.xs c_Ti.xs c_St.xs c_Ce c_Hd.xs c_Rt.xs (z.tmod (Zej c_Rt)) (z_1.tmod (Zej c_Rt)))) (Pre (Sp.RfOk c_Hd.xs c_Rt.xs (z_1.tmod (Zej c_Rt)) /\ Sp.TrOk c_Hd.xs (Sp.paLe c_Pl.xs c_Sh.xs c_Ti.xs c_St.xs c_Ce c_Hd.xs c_Rt.xs (z.tmod (Zej c_Rt)) (z_1.tmod (Zej c_Rt)))) (Ar .i64 (Sp.sumT c_Hd.xs c_Rt.xs (z.tmod (Zej c_Rt)).toNat (Sp.paLe c_Pl.xs c_Sh.xs c_Ti.xs c_St.xs c_Ce c_Hd.xs c_Rt.xs (z.tmod (Zej c_Rt)) (z_1.tmod (Zej c_Rt))) - Sp.sumT c_Hd.xs c_Rt.xs (z_1.tmod (Zej c_Rt)).toNat (Sp.paLe c_Pl.xs c_Sh.xs c_Ti.xs c_St.xs c_Ce c_Hd.xs c_Rt.xs (z.tmod (Zej c_Rt)) (z_1.tmod (Zej c_Rt)))) fun z_4 => Vif (decide (z_4 = Sp.paLo c_Pl.xs c_Sh.xs c_Ti.xs c_St.xs c_Ce c_Hd.xs c_Rt.xs (z.tmod (Zej c_Rt)) (z_1.tmod (Zej c_Rt)))) (Pre (Sp.RfOk c_Hd.xs c_Rt.xs (z.tmod (Zej c_Rt)) /\ Sp.TrOk c_Hd.xs (Sp.paGr c_Pl.xs c_Sh.xs c_Ti.xs c_St.xs c_Ce c_Hd.xs c_Rt.xs (z.tmod (Zej c_Rt)) (z_1.tmod (Zej c_Rt)))) (Pre (Sp.RfOk c_Hd.xs c_Rt.xs (z_1.tmod (Zej c_Rt)) /\ Sp.TrOk c_Hd.xs (Sp.paGr c_Pl.xs c_Sh.xs c_Ti.xs c_St.xs c_Ce c_Hd.xs c_Rt.xs (z.tmod (Zej c_Rt)) (z_1.tmod (Zej c_Rt)))) (Ar .i64 (Sp.sumT c_Hd.xs c_Rt.xs (z.tmod (Zej c_Rt)).toNat (Sp.paGr c_Pl.xs c_Sh.xs c_Ti.xs c_St.xs c_Ce c_Hd.xs c_Rt.xs (z.tmod (Zej c_Rt)) (z_1.tmod (Zej c_Rt))) - Sp.sumT c_Hd.xs c_Rt.xs (z_1.tmod (Zej c_Rt)).toNat (Sp.paGr c_Pl.xs c_Sh.xs c_Ti.xs c_St.xs c_Ce c_Hd.xs c_Rt.xs (z.tmod (Zej c_Rt)) (z_1.tmod (Zej c_Rt)))) fun z_5 => Vif (decide (z_5 = Sp.paHi c_Pl.xs c_Sh.xs c_Ti.xs c_St.xs c_Ce c_Hd.xs c_Rt.xs (z.tmod (Zej c_Rt)) (z_1.tmod (Zej c_Rt)))) (Pre True (Q [[Cl.b true]])) (Q Zee)))) (Q Zee)))) (Q Zee))) (Q Zee)))))))))))))))))))))))))
theorem Xd (W : InW) (c_Pl c_Sh c_Ti c_St c_Ce c_Hd c_Rt y_a y_b x Q) : Ybh (cxT Try.prog TT TH8 1000 50) 1000 8 [.agg [.rs _ c_Pl, .rs _ c_Sh, .rs _ c_Ti, .rs _ c_St, .si .i64 c_Ce, .rs _ c_Hd, .rs _ c_Rt], .agg [.si .u8 y_a, .si .u8 y_b], .rs _ x] [] 0 (Ybj [(false, [.bool])] Q) (fun _ _ _ _ => Stuck 421) = Xb c_Pl c_Sh c_Ti c_St c_Ce c_Hd c_Rt y_a y_b x Q := by kernel_rfl
abbrev Xa : List AT := [.agg [.sl Jb, .sl Jb, .sl Jb, .sl Jd, .int .i64, .sl Iv4, .sl Je], .agg [.int .u8, .int .u8], .one (.sl [.int .u8])]
theorem Xe {pre : DS -> Prop} {res : DS -> DS} (hyp_ : ∀ (W : InW) (c_Pl c_Sh c_Ti : Ro Jb) (c_St : Ro Jd) (c_Ce : Int) (c_Hd : Ro Iv4) (c_Rt : Ro Je) (y_a y_b : Int) (x : Ro [.int .u8]), pre [[.l c_Pl.xs, .l c_Sh.xs, .l c_Ti.xs, .l c_St.xs, .i c_Ce, .l c_Hd.xs, .l c_Rt.xs], [.i y_a, .i y_b], [.l x.xs]] -> ∀ Q : DS -> Prop, Q (res [[.l c_Pl.xs, .l c_Sh.xs, .l c_Ti.xs, .l c_St.xs, .i c_Ce, .l c_Hd.xs, .l c_Rt.xs], [.i y_a, .i y_b], [.l x.xs]]) -> Xb c_Pl c_Sh c_Ti c_St c_Ce c_Hd c_Rt y_a y_b x Q) : PureOk Try.prog 8 Xa [(false, [.bool])] pre res :=
 PureOk.of' (fun W => @TT W) (fun W => @Yo W) Yd TH8 1000 50 fun W c_Pl c_Sh c_Ti c_St c_Ce c_Hd c_Rt y_a y_b x hp =>
  (Xd W c_Pl c_Sh c_Ti c_St c_Ce c_Hd c_Rt y_a y_b x (fun o => o = res [[.l c_Pl.xs, .l c_Sh.xs, .l c_Ti.xs, .l c_St.xs, .i c_Ce, .l c_Hd.xs, .l c_Rt.xs], [.i y_a, .i y_b], [.l x.xs]])).mpr (hyp_ W c_Pl c_Sh c_Ti c_St c_Ce c_Hd c_Rt y_a y_b x hp _ rfl)
theorem Xc : PureOk Try.prog 8 Xa [(false, [.bool])] (WfD Xa) fun _ => [[.b true]] :=
 Xe fun W pl sh ti st ce hd rt a b x hp Q h => by
  obtain ⟨d, ds, e1, hp1, hp2⟩ := hp;cases e1;have hn := Ybe9 hp1;obtain ⟨d, ds, e2, hp3, hp4⟩ := hp2;cases e2;obtain ⟨d, ds, e3, hp5, hp6⟩ := hp4;cases e3;have ab : (0 <= a /\ a <= 255) /\ 0 <= b /\ b <= 255 := by
   cases hp3 with
   | cons h1 h2 =>
    cases h2 with
    | cons h2 h3 => exact ⟨u8_in h1, u8_in h2⟩
  have hx : WfC (.sl [.int .u8]) (.l x.xs) := by
   cases hp5 with
   | cons h1 h2 => exact h1
  unfold Xb;delta Zg Zee Zej Zf Zel Zek
  by_cases hce : Sp.cE pl.xs sh.xs ti.xs st.xs ce hd.xs rt.xs = 0
  ·by_cases hr : (rt.xs.length : Int) = 0
   ·have hb := ha_bad (pl := pl.xs) (sh := sh.xs) (ti := ti.xs) (st := st.xs) (ce := ce) (hd := hd.xs) (rt := rt.xs) (a := 0) fun _ => by omega
    exact Ybo hn (vifn (fun e => absurd hce e) fun _ => vifd (fun _ => Ybo hn (vifn (fun _ => Ybo trivial h) fun e => absurd e hb)) fun e => absurd hr e)
   ·refine Ybo hn (vifn (fun e => absurd hce e) fun _ => vifd (fun e => absurd e hr) fun _ => ar64 (by omega) (Ysb hr (ar64 (by omega) (Ysb hr (Ybo hn (Ybo hn ?_))))));obtain ⟨i0, i1⟩ := tm_in (a := a) (n := rt.xs.length) ab.1.1 (by omega);obtain ⟨j0, j1⟩ := tm_in (a := b) (n := rt.xs.length) ab.2.1 (by omega);generalize a.tmod (rt.xs.length : Int) = i at *;generalize b.tmod (rt.xs.length : Int) = j at *;obtain ⟨a1, a2, a3⟩ := ha_ok hce i0 i1;obtain ⟨b1, b2, b3, b4, b5⟩ := pa_ok hce i0 i1 j0 j1;have hC := (Yil b1).1;have ri := Ypg hC i0 i1;have rj := Ypg hC j0 j1;have tf := tf_ok hC hx;have tr := tf_tr tf;obtain ⟨c1, c2⟩ := ae_ok hce i0 i1 tr;obtain ⟨d1, d2⟩ := ae_ok hce j0 j1 tr;have tl := Sp.le_tr (hd := hd.xs) (rt := rt.xs) (a := i.toNat) (b := j.toNat) hC.hdO;have tg := Sp.gr_tr (hd := hd.xs) (rt := rt.xs) (a := i.toNat) (b := j.toNat) hC.hdO;have k1 := Sp.ha_in (rt := rt.xs) (a := i.toNat) hC.hdO tr;have k2 := Sp.far_in (rt := rt.xs) (a := i.toNat) (b := j.toNat) hC.hdO tr;have k3 := Yto ri rj;have k4 := Sp.sum_le hd.xs rt.xs i.toNat j.toNat;have k5 := Sp.sum_gr hd.xs rt.xs i.toNat j.toNat;rw [b4, b5, a2, a3, b2, b3, c2, d2];refine vifn (fun e => absurd a1 e) fun _ => vifn (fun e => absurd b1 e) fun _ => Ybo trivial ?_;refine vifn (fun e => absurd (Sp.trErr_ok.2 tl) e) fun _ => Ybo trivial (vifn (fun e => absurd (Sp.trErr_ok.2 tg) e) fun _ => ?_);refine Ybo tf (Ybo hn (Ybo hn (vifn (fun e => absurd c1 e) fun _ => vifn (fun e => absurd d1 e) fun _ => ?_)));refine vifd (fun e => by omega) fun _ => vifd (fun e => by omega) fun _ => ar64 (by omega) (vifd (fun e => by omega) fun _ => ar64 (by omega) (vifd (fun e => by omega) fun _ => ?_));refine Ybo ⟨Ybd4 hC, by omega, by omega, rfl, rfl⟩ (Ybo ⟨ri, Xq hC.hdO⟩ (vifd (fun _ => ?_) fun e => absurd (Xn _ _ _) e));refine Ybo ⟨ri, Xs hC.hdO⟩ (vifd (fun _ => ?_) fun e => absurd (Xo _ _ _) e);refine Ybo ⟨ri, tl⟩ (Ybo ⟨rj, tl⟩ (ar64 (by omega) (vifd (fun _ => ?_) fun e => absurd k4 e)));exact Ybo ⟨ri, tg⟩ (Ybo ⟨rj, tg⟩ (ar64 (by omega) (vifd (fun _ => Ybo trivial h) fun e => absurd k5 e)))
  ·have hb := ha_bad (pl := pl.xs) (sh := sh.xs) (ti := ti.xs) (st := st.xs) (ce := ce) (hd := hd.xs) (rt := rt.xs) (a := 0) fun e => absurd e hce;exact Ybo hn (vifn (fun _ => Ybo hn (vifn (fun _ => Ybo trivial h) fun e => absurd e hb)) fun e => absurd e hce)
end Go.Proofs.Ytmogofidmchdoaa
namespace Go.Proofs.Ytmogofidmchdoaa.courseSpans
open Go.ChangeShapes Go.WideShapes Go.ChangeAt Go.RowKit
set_option maxRecDepth 100000
theorem own : ownKnob Try.prog.godebug = none := by kernel_rfl
theorem laid : laidOutB Try.prog = true := by kernel_rfl
theorem lifted (os : Os) (started : os.Started) (H : Type) (enc : TypeId × Value -> H) :
  ReturnsInHanded {} Try.checked os 8 .any (Rows.courseSpansSpec.pre6 enc Try.prog Try.f8 Rows.courseSpansRow.domain false) (Rows.courseSpansSpec.post enc Try.prog Try.f8 false true false false) := by
 refine returnsInHanded_of_change (C := Try.checked) own started (by kernel_rfl) Try.func8
  (ChangeSpec.witness6 (enc := enc) (C := Try.checked) false ⟨#[], #[(.agg #[.slice none 0 0, .slice none 0 0, .slice none 0 0, .slice none 0 0, .int .i64 0, .slice none 0 0, .slice none 0 0]), (.agg #[.int .u8 0, .int .u8 0]), (.slice none 0 0)], []⟩ 8 (by kernel_rfl) (by kernel_rfl) (by kernel_rfl) (by kernel_rfl)) ?_
 intro W base args ds gs before hval hW _ _;exact law_end (f := Try.f8) (s := Rows.courseSpansSpec) (by kernel_rfl) Try.underlying4 (by kernel_rfl) rfl laid (by kernel_rfl)
  (fun ds h => by match ds, (show ds.length = 3 from h) with | [_, _, _], _ => exact ⟨rfl, rfl, rfl⟩) Xc hval hW
theorem over : Rows.courseSpansRow.holds Try.pinned (OpenSpec.ofChange Rows.courseSpansSpec) :=
 OpenClaim.holds_of_wide 8 Try.f8 rfl rfl rfl rfl rfl rfl rfl ⟨rfl, rfl, rfl, rfl, rfl⟩ rfl rfl rfl rfl rfl (by kernel_rfl) Try.func8 (by kernel_rfl)
  (of_decide_eq_true (by kernel_rfl)) (by unfold Func.isWrapper; first | (rw [if_pos (by decide +kernel)]; kernel_rfl) | (rw [if_neg (by decide +kernel)]; exact ⟨rfl, rfl⟩))
  (fun os started H enc _ => lifted os started H enc)
theorem proved : Rows.CourseSpansSaid := over
end Go.Proofs.Ytmogofidmchdoaa.courseSpans
