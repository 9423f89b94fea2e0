/-
  'CourseShared': for every input the law returns true, and what is handed in reads as before. No condition.
-/
import Derived.Test.YtmogofidmchdoaaQi
import Derived.Test.YtmogofidmchdoaaRows
import Derived.WalkKit
import Derived.ProofKit
set_option linter.unusedVariables false
set_option linter.unusedSectionVars false
set_option linter.unusedSimpArgs false
namespace Go.Proofs.Ytmogofidmchdoaa
open Go.RowKit
set_option maxRecDepth 100000
set_option maxHeartbeats 1600000
namespace Sp
def shH (hd rt : Dt) (a b : Nat) (h : List Cl) (n : Nat) : Dt := (List.range hd.length).map fun s => if s < n /\ tms rt a s = tms rt b s then h else hd.getD s []
structure ShOk (hd rt : Dt) (a b : Int) : Prop where
 ra : RfOk hd rt a
 rb : RfOk hd rt b
end Sp
noncomputable def TH10 : Tab Try.prog := ⟨[Ybbq], [], []⟩
def Xi [InW] (e : List Ed) (K : Nat -> List Ed -> Prop) : Prop := match e with
 | [.i a, .i b, .i s, .ro _ pl, .ro _ sh, .ro _ ti, .ro _ st, .i ce, .ro _ hd, .ro _ rt, .i hb, .i hp, .i hl, .i hh, .l hx] => Pre (Sp.ShOk hd.xs rt.xs a b /\ 0 <= s /\ s <= hd.xs.length /\ hx = Sp.shH hd.xs rt.xs a.toNat b.toNat [.i hb, .i hp, .i hl, .i hh] s.toNat)
   (K 0 [.i a, .i b, .ro _ pl, .ro _ sh, .ro _ ti, .ro _ st, .i ce, .ro _ hd, .ro _ rt, .l (Sp.shH hd.xs rt.xs a.toNat b.toNat [.i hb, .i hp, .i hl, .i hh] hd.xs.length)])
 | _ => False
noncomputable def Xk : LC where
 len := 182
 T := [(3, (.ptr 1 0)), (5, (.ptr 4 0)), (7, .int .i64), (8, .int .i64), (18, (.ptr 7 0)), (19, .int .i64)]
 H := [(1, .blk 29 [.rs Jb, .rs Jb, .rs Jb, .rs Jd, .int .i64, .rs Iv4, .rs Je]), (4, .blk 79 [.int .i64, .int .i64, .int .i64, .int .i64]), (7, .blk 29 [(.opq 1021), (.opq 1024), (.opq 1027), (.opq 1030), (.opq 1033), (.row 10), (.opq 1036)]), (10, .arr 79 Iv4)]
 W := [138, 139, 140, 141, 142, 143, 144, 145, 146, 147, 148, 149, 150, 151, 152, 153, 154, 155, 156, 157, 158]
 outs := [⟨.exit 0, [(3, (.ptr 1 0)), (7, .int .i64), (8, .int .i64), (18, (.ptr 7 0))], [(1, .blk 29 [.rs Jb, .rs Jb, .rs Jb, .rs Jd, .int .i64, .rs Iv4, .rs Je]), (7, .blk 29 [(.opq 1021), (.opq 1024), (.opq 1027), (.opq 1030), (.opq 1033), (.row 10), (.opq 1036)]), (10, .arr 79 Iv4)], [5, 19, 138, 139, 140, 141, 142, 143, 144, 145, 146, 147, 148, 149, 150, 151, 152, 153, 154, 155, 156, 157, 158]⟩]
 spec := Xi
def Xh [W : InW] (a b s : Int) (pl sh ti : Ro Jb) (st : Ro Jd) (ce : Int) (hd : Ro Iv4) (rt : Ro Je) (hb hp hl hh : Int) (hx : Dt) (A : List Ed -> Prop) (K : Nat -> List Ed -> Prop) : Prop :=
 Vif (decide (s < (↑(hd.xs.length) : Int))) (Pre ((Zf <= a /\ a < (↑(rt.xs.length) : Int)) /\ Zf <= s /\ List.length (Sp.rtL rt.xs a.toNat) <= (60 : Nat)) (Pre ((Zf <= b /\ b < (↑(rt.xs.length) : Int)) /\ Zf <= s /\ List.length (Sp.rtL rt.xs b.toNat) <= (60 : Nat)) (Vif (decide (Sp.tms rt.xs a.toNat s.toNat = Sp.tms rt.xs b.toNat s.toNat)) (Need (decide (Zf <= s) && decide (s < (↑(hx.length) : Int))) (Need (decide (s.toNat < hx.length)) (Ar .i64 (s + (1 : Int)) fun z => A [.i a, .i b, .i z, .ro _ pl, .ro _ sh, .ro _ ti, .ro Zb st, .i ce, .ro _ hd, .ro Zw rt, .i hb, .i hp, .i hl, .i hh, .l (List.set hx s.toNat [Cl.i hb, Cl.i hp, Cl.i hl, Cl.i hh])]))) (Ar .i64 (s + (1 : Int)) fun z => A [.i a, .i b, .i z, .ro _ pl, .ro _ sh, .ro _ ti, .ro Zb st, .i ce, .ro _ hd, .ro Zw rt, .i hb, .i hp, .i hl, .i hh, .l hx])))) (K (0 : Nat) [.i a, .i b, .ro _ pl, .ro _ sh, .ro _ ti, .ro Zb st, .i ce, .ro _ hd, .ro Zw rt, .l hx])
theorem Xo (W : InW) (a b s pl sh ti st ce hd rt hb hp hl hh hx A K) : Ybd { cxT Try.prog TT TH10 1000 50 with fn := 10 } 1000 (Y1 Try.prog 10 16) (Y4 182 [(3, .ptr 1 0), (5, .ptr 4 0), (7, .si .i64 a), (8, .si .i64 b), (18, .ptr 7 0), (19, .si .i64 s)] [138, 139, 140, 141, 142, 143, 144, 145, 146, 147, 148, 149, 150, 151, 152, 153, 154, 155, 156, 157, 158]) [(1, .blk 29 [.rs _ pl, .rs _ sh, .rs _ ti, .rs _ st, .si .i64 ce, .rs _ hd, .rs _ rt]), (4, .blk 79 [.si .i64 hb, .si .i64 hp, .si .i64 hl, .si .i64 hh]), (7, .blk 29 [.opq 1021, .opq 1024, .opq 1027, .opq 1030, .opq 1033, .rw 10, .opq 1036]), (10, .arr 79 Iv4 hx)] (Y6 Xk A K) = Xh a b s pl sh ti st ce hd rt hb hp hl hh hx A K := by kernel_rfl
def Xj : Prop := ∀ (W : InW) (body a : Code), (Try.prog.funcs[10]?).bind (·.body) = some body -> a ∈ Yi body -> Ybe a = 16 -> @Y0 W Try.prog a (@Yh W Xk)
theorem Xr (meas : [InW] -> List Ed -> Nat) (hyp_ : ∀ (W : InW) (a b s : Int) (pl sh ti : Ro Jb) (st : Ro Jd) (ce : Int) (hd : Ro Iv4) (rt : Ro Je) (hb hp hl hh : Int) (hx : Dt) (K : Nat -> List Ed -> Prop), Xi [.i a, .i b, .i s, .ro _ pl, .ro _ sh, .ro _ ti, .ro _ st, .i ce, .ro _ hd, .ro _ rt, .i hb, .i hp, .i hl, .i hh, .l hx] K -> ∀ A : List Ed -> Prop, (∀ e, meas e < meas [.i a, .i b, .i s, .ro _ pl, .ro _ sh, .ro _ ti, .ro _ st, .i ce, .ro _ hd, .ro _ rt, .i hb, .i hp, .i hl, .i hh, .l hx] -> Xi e K -> A e) -> Xh a b s pl sh ti st ce hd rt hb hp hl hh hx A K) : Xj :=
 LE.okOf' (fun W => @TT W) (fun W => @Yo W) Yd TH10 1000 50 (by kernel_rfl) Xk (fun W => @meas W) fun W a b s pl sh ti st ce hd rt hb hp hl hh hx K hs =>
  (Xo W a b s pl sh ti st ce hd rt hb hp hl hh hx (fun e => meas e < meas [.i a, .i b, .i s, .ro _ pl, .ro _ sh, .ro _ ti, .ro _ st, .i ce, .ro _ hd, .ro _ rt, .i hb, .i hp, .i hl, .i hh, .l hx] /\ Xi e K) K).mpr (hyp_ W a b s pl sh ti st ce hd rt hb hp hl hh hx K hs _ fun e h1 h2 => ⟨h1, h2⟩)
theorem Xl {α : Type} {p q : Prop} [Decidable p] [Decidable q] {x y : α} (h : p ↔ q) : (if p then x else y) = if q then x else y := by
 by_cases c : p
 ·rw [if_pos c, if_pos (h.1 c)]
 ·rw [if_neg c, if_neg fun g => c (h.2 g)]
theorem Xb (hd rt : Dt) (a b : Nat) (h : List Cl) (n : Nat) : (Sp.shH hd rt a b h n).length = hd.length := by unfold Sp.shH; simp
theorem Xd {hd rt : Dt} {a b : Nat} {h : List Cl} {n k : Nat} (hk : k < (Sp.shH hd rt a b h n).length) : (Sp.shH hd rt a b h n)[k] = if k < n /\ Sp.tms rt a k = Sp.tms rt b k then h else hd.getD k [] := by
 simp only [Sp.shH, List.getElem_map, List.getElem_range]
theorem Xp {hd rt : Dt} {a b : Nat} {h : List Cl} {s : Nat} (he : Sp.tms rt a s = Sp.tms rt b s) : (Sp.shH hd rt a b h s).set s h = Sp.shH hd rt a b h (s + 1) := by
 refine List.ext_getElem (by rw [List.length_set, Xb, Xb]) fun k h1 h2 => ?_;rw [List.getElem_set]
 split
 ·rename_i e;subst e;rw [Xd, if_pos ⟨by omega, he⟩]
 ·rename_i e;rw [Xd, Xd];exact Xl ⟨fun g => ⟨by have := g.1; omega, g.2⟩, fun g => ⟨by have := g.1; omega, g.2⟩⟩
theorem Xn {hd rt : Dt} {a b : Nat} {h : List Cl} {s : Nat} (he : ¬ Sp.tms rt a s = Sp.tms rt b s) : Sp.shH hd rt a b h s = Sp.shH hd rt a b h (s + 1) := by
 refine List.ext_getElem (by rw [Xb, Xb]) fun k h1 h2 => ?_;rw [Xd, Xd];refine Xl ⟨fun g => ⟨by have := g.1; omega, g.2⟩, fun g => ⟨?_, g.2⟩⟩;have h3 := g.1
 by_cases e : k = s
 ·exact absurd (e ▸ g.2) he
 ·omega
theorem Xm (hd rt : Dt) (a b : Nat) (h : List Cl) : hd = Sp.shH hd rt a b h 0 := by
 refine List.ext_getElem (by rw [Xb]) fun k h1 h2 => ?_;rw [Xd, if_neg fun g => absurd g.1 (by omega), List.getD_eq_getElem?_getD, List.getElem?_eq_getElem h1];rfl
theorem Xq {hd rt : Dt} {a b : Nat} {h : List Cl} {s : Nat} (hs : s < hd.length) (he : ¬ Sp.tms rt a s = Sp.tms rt b s) (k : Nat) : cel (Sp.shH hd rt a b h hd.length) s k = cel hd s k := by
 unfold cel;rw [show (Sp.shH hd rt a b h hd.length).getD s [] = hd.getD s [] by
  rw [List.getD_eq_getElem?_getD, List.getElem?_eq_getElem (by rw [Xb]; exact hs), Option.getD_some, Xd, if_neg fun g => he g.2]]
theorem Xs : Xj := Xr (fun e => match e with | _ :: _ :: .i s :: _ :: _ :: _ :: _ :: _ :: .ro _ hd :: _ => ((hd.xs.length : Int) - s).toNat | _ => 0) fun W a b s pl sh ti st ce hd rt hb hp hl hh hx K hs A hA => by
 obtain ⟨⟨hS, s0, s1, rfl⟩, hk⟩ := hs;unfold Xh;delta Zw Zb Zf;have hl4 := hS.ra.hl;have ez : (s + 1).toNat = s.toNat + 1 := by omega
 have dm : ((hd.xs.length : Int) - (s + 1)).toNat < ((hd.xs.length : Int) - s).toNat \/ ¬ s < (hd.xs.length : Int) := by omega
 refine vifd (fun e => ?_) fun e => ?_
 ·have dm : ((hd.xs.length : Int) - (s + 1)).toNat < ((hd.xs.length : Int) - s).toNat := by omega
  refine Ybo ⟨⟨hS.ra.a0, hS.ra.a1⟩, s0, hS.ra.ln⟩ (Ybo ⟨⟨hS.rb.a0, hS.rb.a1⟩, s0, hS.rb.ln⟩ (vifd (fun f => ?_) fun f => ?_))
  ·rw [Xb];refine Yhj ⟨s0, e⟩ (nedd (by omega) (ar64 (by omega) (hA _ dm ⟨⟨hS, by omega, by omega, ?_⟩, hk⟩)));rw [ez, Xp f]
  ·refine ar64 (by omega) (hA _ dm ⟨⟨hS, by omega, by omega, ?_⟩, hk⟩);rw [ez, Xn f]
 ·rw [show s.toNat = hd.xs.length by omega];exact hk
noncomputable def Xt : LE Try.prog := ⟨10, 16, fun W => @Yh W Xk, Xs⟩
noncomputable def Xu : Tab Try.prog := ⟨[pc_valid, Y6q, pc_Awake], [Xt], []⟩
def Zek [W : InW] (c_Pl c_Sh c_Ti : Ro Jb) := Sp.NamesOk c_Pl.xs /\ Sp.NamesOk c_Sh.xs /\ Sp.NamesOk c_Ti.xs
def Zej [W : InW] (c_Rt : Ro Je) := (↑(c_Rt.xs.length) : Int)
def Xc [W : InW] (c_Pl c_Sh c_Ti : Ro Jb) (c_St : Ro Jd) (c_Ce : Int) (c_Hd : Ro Iv4) (c_Rt : Ro Je) (y_a y_b y_m h_Ba h_Pe h_Lo h_Hi : Int) (Q : DS -> Prop) : Prop :=
 Pre (Zek c_Pl c_Sh c_Ti) (Vif (!decide (Sp.cE c_Pl.xs c_Sh.xs c_Ti.xs c_St.xs c_Ce c_Hd.xs c_Rt.xs = Zf)) (Pre True (Q [[Cl.b true]])) (Vif (decide ((Zej c_Rt) = Zf)) (Pre True (Q [[Cl.b true]])) (Ar .i64 y_a fun z => Need (!decide ((Zej c_Rt) = Zf)) (Ar .i64 y_b fun z_1 => Need (!decide ((Zej c_Rt) = Zf)) (Ar .i64 y_m fun z_2 => Need (!decide ((Zej c_Rt) = Zf)) (Pre (Zek c_Pl c_Sh c_Ti) (Pre (Zek c_Pl c_Sh c_Ti) (Pre (Zek c_Pl c_Sh c_Ti) (Pre (Zek c_Pl c_Sh c_Ti) (Vif (!decide (Sp.pairE c_Pl.xs c_Sh.xs c_Ti.xs c_St.xs c_Ce c_Hd.xs c_Rt.xs (z.tmod (Zej c_Rt)) (z_1.tmod (Zej c_Rt)) = Zf)) (Q Zee) (Vif (!decide (Sp.pairE c_Pl.xs c_Sh.xs c_Ti.xs c_St.xs c_Ce c_Hd.xs c_Rt.xs (z_1.tmod (Zej c_Rt)) (z.tmod (Zej c_Rt)) = Zf)) (Q Zee) (Vif (!decide (Sp.pairE c_Pl.xs c_Sh.xs c_Ti.xs c_St.xs c_Ce c_Hd.xs c_Rt.xs (z.tmod (Zej c_Rt)) (z_2.tmod (Zej c_Rt)) = Zf)) (Q Zee) (Vif (!decide (Sp.pairE c_Pl.xs c_Sh.xs c_Ti.xs c_St.xs c_Ce c_Hd.xs c_Rt.xs (z_2.tmod (Zej c_Rt)) (z_1.tmod (Zej c_Rt)) = Zf)) (Q Zee) (Ar .i64 (Zf - Sp.paHi c_Pl.xs c_Sh.xs c_Ti.xs c_St.xs c_Ce c_Hd.xs c_Rt.xs (z.tmod (Zej c_Rt)) (z_1.tmod (Zej c_Rt))) fun z_3 => Ar .i64 (Zf - Sp.paLo c_Pl.xs c_Sh.xs c_Ti.xs c_St.xs c_Ce c_Hd.xs c_Rt.xs (z.tmod (Zej c_Rt)) (z_1.tmod (Zej c_Rt))) fun z_4 => Vif (!(decide (Sp.paLo c_Pl.xs c_Sh.xs c_Ti.xs c_St.xs c_Ce c_Hd.xs c_Rt.xs (z_1.tmod (Zej c_Rt)) (z.tmod (Zej c_Rt)) = z_3) && (decide (Sp.paHi c_Pl.xs c_Sh.xs c_Ti.xs c_St.xs c_Ce c_Hd.xs c_Rt.xs (z_1.tmod (Zej c_Rt)) (z.tmod (Zej c_Rt)) = z_4) && true))) (Q Zee) (Ar .i64 (Sp.paLo c_Pl.xs c_Sh.xs c_Ti.xs c_St.xs c_Ce c_Hd.xs c_Rt.xs (z.tmod (Zej c_Rt)) (z_2.tmod (Zej c_Rt)) + Sp.paLo c_Pl.xs c_Sh.xs c_Ti.xs c_St.xs c_Ce c_Hd.xs c_Rt.xs (z_2.tmod (Zej c_Rt)) (z_1.tmod (Zej c_Rt))) fun z_5 => Vif (decide (Sp.paLo c_Pl.xs c_Sh.xs c_Ti.xs c_St.xs c_Ce c_Hd.xs c_Rt.xs (z.tmod (Zej c_Rt)) (z_1.tmod (Zej c_Rt)) < z_5)) (Q Zee) (Ar .i64 (Sp.paHi c_Pl.xs c_Sh.xs c_Ti.xs c_St.xs c_Ce c_Hd.xs c_Rt.xs (z.tmod (Zej c_Rt)) (z_2.tmod (Zej c_Rt)) + Sp.paHi c_Pl.xs c_Sh.xs c_Ti.xs c_St.xs c_Ce c_Hd.xs c_Rt.xs (z_2.tmod (Zej c_Rt)) (z_1.tmod (Zej c_Rt))) fun z_6 => Vif (decide (z_6 < Sp.paHi c_Pl.xs c_Sh.xs c_Ti.xs c_St.xs c_Ce c_Hd.xs c_Rt.xs (z.tmod (Zej c_Rt)) (z_1.tmod (Zej c_Rt)))) (Q Zee) (Need (decide (((0 : Nat) + c_Hd.xs.length) * (32 : Nat) <= Zbo)) (Pre (Sp.ShOk c_Hd.xs c_Rt.xs (z.tmod (Zej c_Rt)) (z_1.tmod (Zej c_Rt)) /\ Zf <= Zf /\ Zf <= (↑(c_Hd.xs.length) : Int) /\ c_Hd.xs = Sp.shH c_Hd.xs c_Rt.xs (z.tmod (Zej c_Rt)).toNat (z_1.tmod (Zej c_Rt)).toNat [Cl.i h_Ba, Cl.i h_Pe, Cl.i h_Lo, Cl.i h_Hi] (Int.toNat Zf)) (Pre (Zek c_Pl c_Sh c_Ti) (Vif (!decide (Sp.cE c_Pl.xs c_Sh.xs c_Ti.xs c_St.xs c_Ce (Sp.shH c_Hd.xs c_Rt.xs (z.tmod (Zej c_Rt)).toNat (z_1.tmod (Zej c_Rt)).toNat [Cl.i h_Ba, Cl.i h_Pe, Cl.i h_Lo, Cl.i h_Hi] (c_Hd.xs.length)) c_Rt.xs = Zf)) (Pre True (Q [[Cl.b true]])) (Pre (Zek c_Pl c_Sh c_Ti) (Vif (decide (Sp.pairE c_Pl.xs c_Sh.xs c_Ti.xs c_St.xs c_Ce (Sp.shH c_Hd.xs c_Rt.xs (z.tmod (Zej c_Rt)).toNat (z_1.tmod (Zej c_Rt)).toNat [Cl.i h_Ba, Cl.i h_Pe, Cl.i h_Lo, Cl.i h_Hi] (c_Hd.xs.length)) c_Rt.xs (z.tmod (Zej c_Rt)) (z_1.tmod (Zej c_Rt)) = Zf)) (Vif (decide (Sp.paLo c_Pl.xs c_Sh.xs c_Ti.xs c_St.xs c_Ce (Sp.shH c_Hd.xs c_Rt.xs (z.tmod (Zej c_Rt)).toNat (z_1.tmod (Zej c_Rt)).toNat [Cl.i h_Ba, Cl.i h_Pe, Cl.i h_Lo, Cl.i h_Hi] (c_Hd.xs.length)) c_Rt.xs (z.tmod (Zej c_Rt)) (z_1.tmod (Zej c_Rt)) = Sp.paLo c_Pl.xs c_Sh.xs c_Ti.xs c_St.xs c_Ce c_Hd.xs c_Rt.xs (z.tmod (Zej c_Rt)) (z_1.tmod (Zej c_Rt))) && (decide (Sp.paHi c_Pl.xs c_Sh.xs c_Ti.xs c_St.xs c_Ce (Sp.shH c_Hd.xs c_Rt.xs (z.tmod (Zej c_Rt)).toNat (z_1.tmod (Zej c_Rt)).toNat [Cl.i h_Ba, Cl.i h_Pe, Cl.i h_Lo, Cl.i h_Hi] (c_Hd.xs.length)) c_Rt.xs (z.tmod (Zej c_Rt)) (z_1.tmod (Zej c_Rt)) = Sp.paHi c_Pl.xs c_Sh.xs c_Ti.xs c_St.xs c_Ce c_Hd.xs c_Rt.xs (z.tmod (Zej c_Rt)) (z_1.tmod (Zej c_Rt))) && true)) (Pre True (Q [[Cl.b true]])) (Q Zee)) (Q Zee)))))))))))))))))))))))
theorem Xf (W : InW) (c_Pl c_Sh c_Ti c_St c_Ce c_Hd c_Rt y_a y_b y_m h_Ba h_Pe h_Lo h_Hi Q) : Ybh (cxT Try.prog TT Xu 1000 50) 1000 10 [.agg [.rs _ c_Pl, .rs _ c_Sh, .rs _ c_Ti, .rs _ c_St, .si .i64 c_Ce, .rs _ c_Hd, .rs _ c_Rt], .agg [.si .u8 y_a, .si .u8 y_b, .si .u8 y_m], .agg [.si .i64 h_Ba, .si .i64 h_Pe, .si .i64 h_Lo, .si .i64 h_Hi]] [] 0 (Ybj [(false, [.bool])] Q) (fun _ _ _ _ => Stuck 421) = Xc c_Pl c_Sh c_Ti c_St c_Ce c_Hd c_Rt y_a y_b y_m h_Ba h_Pe h_Lo h_Hi Q := by kernel_rfl
abbrev Xa : List AT := [.agg [.sl Jb, .sl Jb, .sl Jb, .sl Jd, .int .i64, .sl Iv4, .sl Je], .agg [.int .u8, .int .u8, .int .u8], .agg [.int .i64, .int .i64, .int .i64, .int .i64]]
theorem Xg {pre : DS -> Prop} {res : DS -> DS} (hyp_ : ∀ (W : InW) (c_Pl c_Sh c_Ti : Ro Jb) (c_St : Ro Jd) (c_Ce : Int) (c_Hd : Ro Iv4) (c_Rt : Ro Je) (y_a y_b y_m h_Ba h_Pe h_Lo h_Hi : Int), pre [[.l c_Pl.xs, .l c_Sh.xs, .l c_Ti.xs, .l c_St.xs, .i c_Ce, .l c_Hd.xs, .l c_Rt.xs], [.i y_a, .i y_b, .i y_m], [.i h_Ba, .i h_Pe, .i h_Lo, .i h_Hi]] -> ∀ Q : DS -> Prop, Q (res [[.l c_Pl.xs, .l c_Sh.xs, .l c_Ti.xs, .l c_St.xs, .i c_Ce, .l c_Hd.xs, .l c_Rt.xs], [.i y_a, .i y_b, .i y_m], [.i h_Ba, .i h_Pe, .i h_Lo, .i h_Hi]]) -> Xc c_Pl c_Sh c_Ti c_St c_Ce c_Hd c_Rt y_a y_b y_m h_Ba h_Pe h_Lo h_Hi Q) : PureOk Try.prog 10 Xa [(false, [.bool])] pre res :=
 PureOk.of' (fun W => @TT W) (fun W => @Yo W) Yd Xu 1000 50 fun W c_Pl c_Sh c_Ti c_St c_Ce c_Hd c_Rt y_a y_b y_m h_Ba h_Pe h_Lo h_Hi hp =>
  (Xf W c_Pl c_Sh c_Ti c_St c_Ce c_Hd c_Rt y_a y_b y_m h_Ba h_Pe h_Lo h_Hi (fun o => o = res [[.l c_Pl.xs, .l c_Sh.xs, .l c_Ti.xs, .l c_St.xs, .i c_Ce, .l c_Hd.xs, .l c_Rt.xs], [.i y_a, .i y_b, .i y_m], [.i h_Ba, .i h_Pe, .i h_Lo, .i h_Hi]])).mpr (hyp_ W c_Pl c_Sh c_Ti c_St c_Ce c_Hd c_Rt y_a y_b y_m h_Ba h_Pe h_Lo h_Hi hp _ rfl)
theorem Xe : PureOk Try.prog 10 Xa [(false, [.bool])] (WfD Xa) fun _ => [[.b true]] :=
 Xg fun W pl sh ti st ce hd rt a b m hb hp_ hl hh hp Q h => by
  obtain ⟨d, ds, e1, hp1, hp2⟩ := hp;cases e1;have hn := Ybe9 hp1;unfold Xc;delta Zee Zej Zf Zek Zbo;obtain ⟨d, ds, e2, hp3, hp4⟩ := hp2;cases e2;have ab : (0 <= a /\ a <= 255) /\ (0 <= b /\ b <= 255) /\ 0 <= m /\ m <= 255 := by
   cases hp3 with
   | cons h1 h2 =>
    cases h2 with
    | cons h2 h3 =>
     cases h3 with
     | cons h3 h4 => exact ⟨u8_in h1, u8_in h2, u8_in h3⟩
  by_cases hce : Sp.cE pl.xs sh.xs ti.xs st.xs ce hd.xs rt.xs = 0
  ·refine Ybo hn (vifn (fun g => absurd hce g) fun _ => vifd (fun _ => Ybo trivial h) fun hr => ?_);refine ar64 (by omega) (Ysb hr (ar64 (by omega) (Ysb hr (ar64 (by omega) (Ysb hr (Ybo hn (Ybo hn (Ybo hn (Ybo hn ?_)))))))));obtain ⟨i0, i1⟩ := tm_in (a := a) (n := rt.xs.length) ab.1.1 (by omega);obtain ⟨j0, j1⟩ := tm_in (a := b) (n := rt.xs.length) ab.2.1.1 (by omega);obtain ⟨k0, k1⟩ := tm_in (a := m) (n := rt.xs.length) ab.2.2.1 (by omega);generalize a.tmod (rt.xs.length : Int) = i at *;generalize b.tmod (rt.xs.length : Int) = j at *;generalize m.tmod (rt.xs.length : Int) = k at *;obtain ⟨b1, b2, b3, _⟩ := pa_ok hce i0 i1 j0 j1;obtain ⟨c1, c2, c3, _⟩ := pa_ok hce j0 j1 i0 i1;obtain ⟨d1, d2, d3, _⟩ := pa_ok hce i0 i1 k0 k1;obtain ⟨f1, f2, f3, _⟩ := pa_ok hce k0 k1 j0 j1;have hC := (Yil b1).1;have ri := Ypg hC i0 i1;have rj := Ypg hC j0 j1;have rk := Ypg hC k0 k1;have hl4 := Ybd4 hC;have g1 := Yto ri rj;have g2 := Yto ri rk;have g3 := Yto rk rj;have g4 := Sp.apLo_swap hd.xs rt.xs i.toNat j.toNat;have g5 := Sp.apHi_swap hd.xs rt.xs i.toNat j.toNat;have g6 := Sp.tri_lo hd.xs rt.xs i.toNat j.toNat k.toNat hC.hdO;rw [b2, b3, c2, c3, d2, d3, f2, f3, g4, g5];refine vifn (fun g => absurd b1 g) fun _ => vifn (fun g => absurd c1 g) fun _ => vifn (fun g => absurd d1 g) fun _ => vifn (fun g => absurd f1 g) fun _ => ?_;refine ar64 (by omega) (ar64 (by omega) (vifb (fun g => ?_) fun _ => ar64 (by omega) (vifd (fun g => by omega) fun _ => ar64 (by omega) (vifd (fun g => by omega) fun _ => nedd (by omega) ?_))))
   ·rw [decide_eq_true (by omega), decide_eq_true (by omega)] at g;exact absurd g (by decide)
   refine Ybo ⟨⟨ri, rj⟩, by omega, by omega, Xm _ _ _ _ _⟩ (Ybo hn (vifn (fun _ => Ybo trivial h) fun hc2 => Ybo hn ?_));obtain ⟨p1, p2, p3, _⟩ := pa_ok hc2 i0 i1 j0 j1;obtain ⟨q1, q2⟩ := Sp.ap_shared (hd := hd.xs) (rt := rt.xs) (a := i.toNat) (b := j.toNat) (Xb hd.xs rt.xs i.toNat j.toNat [.i hb, .i hp_, .i hl, .i hh] hd.xs.length) fun s hs => by
    by_cases c : Sp.tms rt.xs i.toNat s = Sp.tms rt.xs j.toNat s
    ·exact .inl c
    ·exact .inr fun k => Xq hs c k
   rw [p2, p3, q1, q2];refine vifd (fun _ => ?_) fun g => absurd p1 g;rw [decide_eq_true rfl, decide_eq_true rfl];exact ⟨fun _ => Ybo trivial h, fun g => absurd g (by decide)⟩
  ·exact Ybo hn (vifn (fun _ => Ybo trivial h) fun g => absurd g hce)
end Go.Proofs.Ytmogofidmchdoaa
namespace Go.Proofs.Ytmogofidmchdoaa.courseShared
open Go.ChangeShapes Go.WideShapes Go.ChangeAt Go.RowKit
set_option maxRecDepth 100000
theorem own : ownKnob Try.prog.godebug = none := by kernel_rfl
theorem laid : laidOutB Try.prog = true := by kernel_rfl
theorem lifted (os : Os) (started : os.Started) (H : Type) (enc : TypeId × Value -> H) :
  ReturnsInHanded {} Try.checked os 10 .any (Rows.courseSharedSpec.pre6 enc Try.prog Try.f10 Rows.courseSharedRow.domain false) (Rows.courseSharedSpec.post enc Try.prog Try.f10 false true false false) := by
 refine returnsInHanded_of_change (C := Try.checked) own started (by kernel_rfl) Try.func10
  (ChangeSpec.witness6 (enc := enc) (C := Try.checked) false ⟨#[], #[(.agg #[.slice none 0 0, .slice none 0 0, .slice none 0 0, .slice none 0 0, .int .i64 0, .slice none 0 0, .slice none 0 0]), (.agg #[.int .u8 0, .int .u8 0, .int .u8 0]), (.agg #[.int .i64 0, .int .i64 0, .int .i64 0, .int .i64 0])], []⟩ 8 (by kernel_rfl) (by kernel_rfl) (by kernel_rfl) (by kernel_rfl)) ?_
 intro W base args ds gs before hval hW _ _;exact law_end (f := Try.f10) (s := Rows.courseSharedSpec) (by kernel_rfl) Try.underlying4 (by kernel_rfl) rfl laid (by kernel_rfl)
  (fun ds h => by match ds, (show ds.length = 3 from h) with | [_, _, _], _ => exact ⟨rfl, rfl, rfl⟩) Xe hval hW
theorem over : Rows.courseSharedRow.holds Try.pinned (OpenSpec.ofChange Rows.courseSharedSpec) :=
 OpenClaim.holds_of_wide 10 Try.f10 rfl rfl rfl rfl rfl rfl rfl ⟨rfl, rfl, rfl, rfl, rfl⟩ rfl rfl rfl rfl rfl (by kernel_rfl) Try.func10 (by kernel_rfl)
  (of_decide_eq_true (by kernel_rfl)) (by unfold Func.isWrapper; first | (rw [if_pos (by decide +kernel)]; kernel_rfl) | (rw [if_neg (by decide +kernel)]; exact ⟨rfl, rfl⟩))
  (fun os started H enc _ => lifted os started H enc)
theorem proved : Rows.CourseSharedSaid := over
end Go.Proofs.Ytmogofidmchdoaa.courseShared
