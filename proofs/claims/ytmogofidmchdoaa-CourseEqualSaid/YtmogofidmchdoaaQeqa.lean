/-
  'CourseEqual': for every input the law returns true, and what is handed in reads as before. No condition.
-/
import Derived.Test.YtmogofidmchdoaaQi
import Derived.Test.YtmogofidmchdoaaRows
import Derived.WalkKit
import Derived.ProofKit
set_option linter.unusedVariables false
set_option linter.unusedSectionVars false
set_option linter.unusedSimpArgs false
namespace Go.Proofs.Ytmogofidmchdoaa
open Go.RowKit
set_option maxRecDepth 100000
set_option maxHeartbeats 1600000
namespace Sp
structure EqOk (pl sh ti st : Dt) (ce : Int) (hd rt l tr : Dt) (bd : Int) : Prop where
 nm : NamesOk pl /\ NamesOk sh /\ NamesOk ti
 c0 : cE pl sh ti st ce hd rt = 0
 ls : LsOk rt.length l
 ln : l.length <= 10
 t1 : TrOk hd tr
 fr : ∀ i k : Nat, k < i -> i < l.length -> far hd rt (rI l i) (rI l k) tr <= bd
end Sp
noncomputable def TH6 : Tab Try.prog := ⟨[pc_far, Y6q, Yyc], [], []⟩
def Xi [InW] (e : List Ed) (K : Nat -> List Ed -> Prop) : Prop := match e with
 | [.b f, .i i, .i a, .i k, .ro _ pl, .ro _ sh, .ro _ ti, .ro _ st, .i ce, .ro _ hd, .ro _ rt, .i bd, .l l, .l tr] => Pre (Sp.EqOk pl.xs sh.xs ti.xs st.xs ce hd.xs rt.xs l tr bd /\ 0 <= i /\ i < l.length /\ 0 <= k /\ k <= i /\ a = (cel l i.toNat 0).int)
   (K 0 [.b (Sp.rcK hd.xs rt.xs l bd i.toNat k.toNat (i.toNat - k.toNat) f), .i i, .ro _ pl, .ro _ sh, .ro _ ti, .ro _ st, .i ce, .ro _ hd, .ro _ rt, .i bd, .l l, .l tr])
 | _ => False
noncomputable def Xm : LC where
 len := 142
 T := [(3, (.ptr 1 0)), (7, (.ptr 4 0)), (9, (.row 10)), (10, .bool), (11, .int .i64), (12, .int .i64), (13, .int .i64)]
 H := [(1, .blk 29 [.rs Jb, .rs Jb, .rs Jb, .rs Jd, .int .i64, .rs Iv4, .rs Je]), (4, .blk 49 [(.row 7), .int .i64]), (7, .arr 3 Ja), (10, .arr 3 Ja)]
 W := [6, 14, 15, 16, 74, 75, 76, 77, 78, 79, 80, 81, 82, 83, 84, 85, 86, 87, 88, 89, 90, 91, 92, 93, 94, 95, 96, 97, 98, 99, 100, 101, 102, 103, 104, 105, 106, 107, 108, 109, 110, 111, 112, 113, 114, 115, 116, 117, 118, 119, 120, 121, 122, 123, 124, 125, 126, 127, 128, 129, 130, 131, 132, 133, 134, 135, 136, 137]
 outs := [⟨.exit 2, [(3, (.ptr 1 0)), (7, (.ptr 4 0)), (9, (.row 10)), (10, .bool), (11, .int .i64)], [(1, .blk 29 [.rs Jb, .rs Jb, .rs Jb, .rs Jd, .int .i64, .rs Iv4, .rs Je]), (4, .blk 49 [(.row 7), .int .i64]), (7, .arr 3 Ja), (10, .arr 3 Ja)], [6, 12, 13, 14, 15, 16, 74, 75, 76, 77, 78, 79, 80, 81, 82, 83, 84, 85, 86, 87, 88, 89, 90, 91, 92, 93, 94, 95, 96, 97, 98, 99, 100, 101, 102, 103, 104, 105, 106, 107, 108, 109, 110, 111, 112, 113, 114, 115, 116, 117, 118, 119, 120, 121, 122, 123, 124, 125, 126, 127, 128, 129, 130, 131, 132, 133, 134, 135, 136, 137]⟩, ⟨.ret, [(6, (.lit (.bool false)))], [], [3, 7, 9, 10, 11, 12, 13, 14, 15, 16, 74, 75, 76, 77, 78, 79, 80, 81, 82, 83, 84, 85, 86, 87, 88, 89, 90, 91, 92, 93, 94, 95, 96, 97, 98, 99, 100, 101, 102, 103, 104, 105, 106, 107, 108, 109, 110, 111, 112, 113, 114, 115, 116, 117, 118, 119, 120, 121, 122, 123, 124, 125, 126, 127, 128, 129, 130, 131, 132, 133, 134, 135, 136, 137]⟩]
 spec := Xi
def Zej [W : InW] (k : Int) (l : Dt) := cel l k.toNat (0 : Nat)
def Xg [W : InW] (f : Bool) (i a k : Int) (pl sh ti : Ro Jb) (st : Ro Jd) (ce : Int) (hd : Ro Iv4) (rt : Ro Je) (bd : Int) (l tr : Dt) (A : List Ed -> Prop) (K : Nat -> List Ed -> Prop) : Prop :=
 Vif (decide (k < i)) (Need (decide (Zf <= k) && decide (k < (↑(l.length) : Int))) (Need (decide (k.toNat < l.length)) (Pre (Sp.RfOk hd.xs rt.xs a /\ Sp.RfOk hd.xs rt.xs (Zej k l).int /\ Sp.TrOk hd.xs tr) (Vif (decide (bd < Sp.far hd.xs rt.xs a.toNat (Zej k l).int.toNat tr)) (K (0+1 : Nat) []) (Pre (Sp.NamesOk pl.xs /\ Sp.NamesOk sh.xs /\ Sp.NamesOk ti.xs) (Vif (!decide (Sp.pairE pl.xs sh.xs ti.xs st.xs ce hd.xs rt.xs a (Zej k l).int = Zf)) (K (0+1 : Nat) []) (Pre True (Vif (!decide (Sp.trErr hd.xs (Sp.paLe pl.xs sh.xs ti.xs st.xs ce hd.xs rt.xs a (Zej k l).int) = Zf)) (K (0+1 : Nat) []) (Pre True (Vif (!decide (Sp.trErr hd.xs (Sp.paGr pl.xs sh.xs ti.xs st.xs ce hd.xs rt.xs a (Zej k l).int) = Zf)) (K (0+1 : Nat) []) (Vif f (Ar .i64 (k + Zed) fun z => A [.b true, .i i, .i a, .i z, .ro _ pl, .ro _ sh, .ro _ ti, .ro Zb st, .i ce, .ro _ hd, .ro Zw rt, .i bd, .l l, .l tr]) (Pre (Sp.RfOk hd.xs rt.xs a /\ Sp.RfOk hd.xs rt.xs (Zej k l).int /\ Sp.TrOk hd.xs (Sp.paLe pl.xs sh.xs ti.xs st.xs ce hd.xs rt.xs a (Zej k l).int)) (Vif (decide (Sp.far hd.xs rt.xs a.toNat (Zej k l).int.toNat (Sp.paLe pl.xs sh.xs ti.xs st.xs ce hd.xs rt.xs a (Zej k l).int) = bd)) (Ar .i64 (k + Zed) fun z => A [.b true, .i i, .i a, .i z, .ro _ pl, .ro _ sh, .ro _ ti, .ro Zb st, .i ce, .ro _ hd, .ro Zw rt, .i bd, .l l, .l tr]) (Pre (Sp.RfOk hd.xs rt.xs a /\ Sp.RfOk hd.xs rt.xs (Zej k l).int /\ Sp.TrOk hd.xs (Sp.paGr pl.xs sh.xs ti.xs st.xs ce hd.xs rt.xs a (Zej k l).int)) (Ar .i64 (k + Zed) fun z => A [.b (decide (Sp.far hd.xs rt.xs a.toNat (Zej k l).int.toNat (Sp.paGr pl.xs sh.xs ti.xs st.xs ce hd.xs rt.xs a (Zej k l).int) = bd)), .i i, .i a, .i z, .ro _ pl, .ro _ sh, .ro _ ti, .ro Zb st, .i ce, .ro _ hd, .ro Zw rt, .i bd, .l l, .l tr]))))))))))))))) (K (0 : Nat) [.b f, .i i, .ro _ pl, .ro _ sh, .ro _ ti, .ro Zb st, .i ce, .ro _ hd, .ro Zw rt, .i bd, .l l, .l tr])
theorem Xo (W : InW) (f i a k pl sh ti st ce hd rt bd l tr A K) : Ybd { cxT Try.prog TT TH6 1000 50 with fn := 6 } 1000 (Y1 Try.prog 6 14) (Y4 142 [(3, .ptr 1 0), (7, .ptr 4 0), (9, .rw 10), (10, .sb f), (11, .si .i64 i), (12, .si .i64 a), (13, .si .i64 k)] [6, 14, 15, 16, 74, 75, 76, 77, 78, 79, 80, 81, 82, 83, 84, 85, 86, 87, 88, 89, 90, 91, 92, 93, 94, 95, 96, 97, 98, 99, 100, 101, 102, 103, 104, 105, 106, 107, 108, 109, 110, 111, 112, 113, 114, 115, 116, 117, 118, 119, 120, 121, 122, 123, 124, 125, 126, 127, 128, 129, 130, 131, 132, 133, 134, 135, 136, 137]) [(1, .blk 29 [.rs _ pl, .rs _ sh, .rs _ ti, .rs _ st, .si .i64 ce, .rs _ hd, .rs _ rt]), (4, .blk 49 [.rw 7, .si .i64 bd]), (7, .arr 3 Ja l), (10, .arr 3 Ja tr)] (Y6 Xm A K) = Xg f i a k pl sh ti st ce hd rt bd l tr A K := by kernel_rfl
def Xk : Prop := ∀ (W : InW) (body a : Code), (Try.prog.funcs[6]?).bind (·.body) = some body -> a ∈ Yi body -> Ybe a = 14 -> @Y0 W Try.prog a (@Yh W Xm)
theorem Xq (meas : [InW] -> List Ed -> Nat) (hyp_ : ∀ (W : InW) (f : Bool) (i a k : Int) (pl sh ti : Ro Jb) (st : Ro Jd) (ce : Int) (hd : Ro Iv4) (rt : Ro Je) (bd : Int) (l tr : Dt) (K : Nat -> List Ed -> Prop), Xi [.b f, .i i, .i a, .i k, .ro _ pl, .ro _ sh, .ro _ ti, .ro _ st, .i ce, .ro _ hd, .ro _ rt, .i bd, .l l, .l tr] K -> ∀ A : List Ed -> Prop, (∀ e, meas e < meas [.b f, .i i, .i a, .i k, .ro _ pl, .ro _ sh, .ro _ ti, .ro _ st, .i ce, .ro _ hd, .ro _ rt, .i bd, .l l, .l tr] -> Xi e K -> A e) -> Xg f i a k pl sh ti st ce hd rt bd l tr A K) : Xk :=
 LE.okOf' (fun W => @TT W) (fun W => @Yo W) Yd TH6 1000 50 (by kernel_rfl) Xm (fun W => @meas W) fun W f i a k pl sh ti st ce hd rt bd l tr K hs =>
  (Xo W f i a k pl sh ti st ce hd rt bd l tr (fun e => meas e < meas [.b f, .i i, .i a, .i k, .ro _ pl, .ro _ sh, .ro _ ti, .ro _ st, .i ce, .ro _ hd, .ro _ rt, .i bd, .l l, .l tr] /\ Xi e K) K).mpr (hyp_ W f i a k pl sh ti st ce hd rt bd l tr K hs _ fun e h1 h2 => ⟨h1, h2⟩)
theorem Xt : Xk := Xq (fun e => match e with | _ :: .i i :: _ :: .i k :: _ => (i - k).toNat | _ => 0) fun W f i a k pl sh ti st ce hd rt bd l tr K hs A hA => by
 obtain ⟨⟨hE, i0, i1, k0, k1, rfl⟩, hk⟩ := hs;unfold Xg;delta Zw Zb Zej Zed Zf;have hC := Sp.cchk_ok hE.c0;have ln := hE.ln;refine vifd (fun e => ?_) fun e => ?_
 ·rw [show i.toNat - k.toNat = (i.toNat - (k.toNat + 1)) + 1 by omega] at hk;simp only [Sp.rcK] at hk;have ez : (k + 1).toNat = k.toNat + 1 := by omega
  have a0 := hE.ls.at0 i.toNat (by omega);have a1 := hE.ls.at1 i.toNat (by omega);have b0 := hE.ls.at0 k.toNat (by omega);have b1 := hE.ls.at1 k.toNat (by omega);have ri := Ypg hC a0 a1;have rk := Ypg hC b0 b1;obtain ⟨c1, c2, c3, c4, c5⟩ := pa_ok hE.c0 a0 a1 b0 b1;have tl := Sp.le_tr (hd := hd.xs) (rt := rt.xs) (a := (cel l i.toNat 0).int.toNat) (b := (cel l k.toNat 0).int.toNat) hC.hdO;have tg := Sp.gr_tr (hd := hd.xs) (rt := rt.xs) (a := (cel l i.toNat 0).int.toNat) (b := (cel l k.toNat 0).int.toNat) hC.hdO;have hf := hE.fr i.toNat k.toNat (by omega) (by omega);have dm : (i - (k + 1)).toNat < (i - k).toNat := by omega
  rw [c4, c5];refine Yhj ⟨k0, by omega⟩ (nedd (by omega) (Ybo ⟨ri, rk, hE.t1⟩ (vifd (fun g => absurd g (Int.not_lt.2 hf)) fun _ => Ybo hE.nm (vifn (fun g => absurd c1 g) fun _ => Ybo trivial (vifn (fun g => absurd (Sp.trErr_ok.2 tl) g) fun _ => Ybo trivial (vifn (fun g => absurd (Sp.trErr_ok.2 tg) g) fun _ => ?_))))));refine vif (fun f1 => ar64 (by omega) (hA _ dm ⟨⟨hE, i0, i1, by omega, by omega, rfl⟩, ?_⟩)) fun f1 => Ybo ⟨ri, rk, tl⟩ (vifd (fun g => ar64 (by omega) (hA _ dm ⟨⟨hE, i0, i1, by omega, by omega, rfl⟩, ?_⟩)) fun g => Ybo ⟨ri, rk, tg⟩ (ar64 (by omega) (hA _ dm ⟨⟨hE, i0, i1, by omega, by omega, rfl⟩, ?_⟩)))
  ·rw [f1, Bool.true_or] at hk;rw [ez]; exact hk
  ·rw [f1, Bool.false_or, decide_eq_true (p := Sp.far hd.xs rt.xs (Sp.rI l i.toNat) (Sp.rI l k.toNat) (Sp.apLe hd.xs rt.xs (Sp.rI l i.toNat) (Sp.rI l k.toNat) hd.xs.length) = bd) g, Bool.true_or] at hk;rw [ez]; exact hk
  ·rw [f1, Bool.false_or, decide_eq_false (p := Sp.far hd.xs rt.xs (Sp.rI l i.toNat) (Sp.rI l k.toNat) (Sp.apLe hd.xs rt.xs (Sp.rI l i.toNat) (Sp.rI l k.toNat) hd.xs.length) = bd) g, Bool.false_or] at hk;rw [ez]; exact hk
 ·rw [show i.toNat - k.toNat = 0 by omega] at hk;exact hk
noncomputable def Xv : LE Try.prog := ⟨6, 14, fun W => @Yh W Xm, Xt⟩
noncomputable def TH6a : Tab Try.prog := ⟨[], [Xv], []⟩
def Xh [InW] (e : List Ed) (K : Nat -> List Ed -> Prop) : Prop := match e with
 | [.b f, .i i, .ro _ pl, .ro _ sh, .ro _ ti, .ro _ st, .i ce, .ro _ hd, .ro _ rt, .i bd, .l l, .l tr] => Pre (Sp.EqOk pl.xs sh.xs ti.xs st.xs ce hd.xs rt.xs l tr bd /\ 0 <= i /\ i <= l.length)
   (K 0 [.b (Sp.rcF hd.xs rt.xs l bd i.toNat (l.length - i.toNat) f)])
 | _ => False
noncomputable def Xl : LC where
 len := 142
 T := [(3, (.ptr 1 0)), (7, (.ptr 4 0)), (9, (.row 10)), (10, .bool), (11, .int .i64)]
 H := [(1, .blk 29 [.rs Jb, .rs Jb, .rs Jb, .rs Jd, .int .i64, .rs Iv4, .rs Je]), (4, .blk 49 [(.row 7), .int .i64]), (7, .arr 3 Ja), (10, .arr 3 Ja)]
 W := [6, 12, 13, 14, 15, 16, 53, 54, 55, 56, 57, 58, 59, 60, 61, 62, 63, 64, 65, 66, 67, 68, 69, 70, 71, 72, 73, 74, 75, 76, 77, 78, 79, 80, 81, 82, 83, 84, 85, 86, 87, 88, 89, 90, 91, 92, 93, 94, 95, 96, 97, 98, 99, 100, 101, 102, 103, 104, 105, 106, 107, 108, 109, 110, 111, 112, 113, 114, 115, 116, 117, 118, 119, 120, 121, 122, 123, 124, 125, 126, 127, 128, 129, 130, 131, 132, 133, 134, 135, 136, 137]
 outs := [⟨.exit 0, [(10, .bool)], [], [3, 6, 7, 9, 11, 12, 13, 14, 15, 16, 53, 54, 55, 56, 57, 58, 59, 60, 61, 62, 63, 64, 65, 66, 67, 68, 69, 70, 71, 72, 73, 74, 75, 76, 77, 78, 79, 80, 81, 82, 83, 84, 85, 86, 87, 88, 89, 90, 91, 92, 93, 94, 95, 96, 97, 98, 99, 100, 101, 102, 103, 104, 105, 106, 107, 108, 109, 110, 111, 112, 113, 114, 115, 116, 117, 118, 119, 120, 121, 122, 123, 124, 125, 126, 127, 128, 129, 130, 131, 132, 133, 134, 135, 136, 137]⟩, ⟨.ret, [(6, (.lit (.bool false)))], [], [3, 7, 9, 10, 11, 12, 13, 14, 15, 16, 53, 54, 55, 56, 57, 58, 59, 60, 61, 62, 63, 64, 65, 66, 67, 68, 69, 70, 71, 72, 73, 74, 75, 76, 77, 78, 79, 80, 81, 82, 83, 84, 85, 86, 87, 88, 89, 90, 91, 92, 93, 94, 95, 96, 97, 98, 99, 100, 101, 102, 103, 104, 105, 106, 107, 108, 109, 110, 111, 112, 113, 114, 115, 116, 117, 118, 119, 120, 121, 122, 123, 124, 125, 126, 127, 128, 129, 130, 131, 132, 133, 134, 135, 136, 137]⟩]
 spec := Xh
def Xf [W : InW] (f : Bool) (i : Int) (pl sh ti : Ro Jb) (st : Ro Jd) (ce : Int) (hd : Ro Iv4) (rt : Ro Je) (bd : Int) (l tr : Dt) (A : List Ed -> Prop) (K : Nat -> List Ed -> Prop) : Prop :=
 Vif (decide (i < (↑(l.length) : Int))) (Need (decide (Zf <= i) && decide (i < (↑(l.length) : Int))) (Need (decide (i.toNat < l.length)) (Vif (decide ((cel l i.toNat Zbc).int < Zf)) (K (0+1 : Nat) []) (Vif (decide ((↑(rt.xs.length) : Int) <= (cel l i.toNat Zbc).int)) (K (0+1 : Nat) []) (Pre (Sp.EqOk pl.xs sh.xs ti.xs st.xs ce hd.xs rt.xs l tr bd /\ Zf <= i /\ i < (↑(l.length) : Int) /\ Zf <= Zf /\ Zf <= i /\ (cel l i.toNat Zbc).int = (cel l i.toNat Zbc).int) (Ar .i64 (i + (1 : Int)) fun z => A [.b (Sp.rcK hd.xs rt.xs l bd i.toNat (Int.toNat Zf) (i.toNat - Int.toNat Zf) f), .i z, .ro _ pl, .ro _ sh, .ro _ ti, .ro Zb st, .i ce, .ro _ hd, .ro Zw rt, .i bd, .l l, .l tr])))))) (K Zbc [.b f])
theorem Xn (W : InW) (f i pl sh ti st ce hd rt bd l tr A K) : Ybd { cxT Try.prog TT TH6a 1000 50 with fn := 6 } 1000 (Y1 Try.prog 6 8) (Y4 142 [(3, .ptr 1 0), (7, .ptr 4 0), (9, .rw 10), (10, .sb f), (11, .si .i64 i)] [6, 12, 13, 14, 15, 16, 53, 54, 55, 56, 57, 58, 59, 60, 61, 62, 63, 64, 65, 66, 67, 68, 69, 70, 71, 72, 73, 74, 75, 76, 77, 78, 79, 80, 81, 82, 83, 84, 85, 86, 87, 88, 89, 90, 91, 92, 93, 94, 95, 96, 97, 98, 99, 100, 101, 102, 103, 104, 105, 106, 107, 108, 109, 110, 111, 112, 113, 114, 115, 116, 117, 118, 119, 120, 121, 122, 123, 124, 125, 126, 127, 128, 129, 130, 131, 132, 133, 134, 135, 136, 137]) [(1, .blk 29 [.rs _ pl, .rs _ sh, .rs _ ti, .rs _ st, .si .i64 ce, .rs _ hd, .rs _ rt]), (4, .blk 49 [.rw 7, .si .i64 bd]), (7, .arr 3 Ja l), (10, .arr 3 Ja tr)] (Y6 Xl A K) = Xf f i pl sh ti st ce hd rt bd l tr A K := by kernel_rfl
def Xj : Prop := ∀ (W : InW) (body a : Code), (Try.prog.funcs[6]?).bind (·.body) = some body -> a ∈ Yi body -> Ybe a = 8 -> @Y0 W Try.prog a (@Yh W Xl)
theorem Xp (meas : [InW] -> List Ed -> Nat) (hyp_ : ∀ (W : InW) (f : Bool) (i : Int) (pl sh ti : Ro Jb) (st : Ro Jd) (ce : Int) (hd : Ro Iv4) (rt : Ro Je) (bd : Int) (l tr : Dt) (K : Nat -> List Ed -> Prop), Xh [.b f, .i i, .ro _ pl, .ro _ sh, .ro _ ti, .ro _ st, .i ce, .ro _ hd, .ro _ rt, .i bd, .l l, .l tr] K -> ∀ A : List Ed -> Prop, (∀ e, meas e < meas [.b f, .i i, .ro _ pl, .ro _ sh, .ro _ ti, .ro _ st, .i ce, .ro _ hd, .ro _ rt, .i bd, .l l, .l tr] -> Xh e K -> A e) -> Xf f i pl sh ti st ce hd rt bd l tr A K) : Xj :=
 LE.okOf' (fun W => @TT W) (fun W => @Yo W) Yd TH6a 1000 50 (by kernel_rfl) Xl (fun W => @meas W) fun W f i pl sh ti st ce hd rt bd l tr K hs =>
  (Xn W f i pl sh ti st ce hd rt bd l tr (fun e => meas e < meas [.b f, .i i, .ro _ pl, .ro _ sh, .ro _ ti, .ro _ st, .i ce, .ro _ hd, .ro _ rt, .i bd, .l l, .l tr] /\ Xh e K) K).mpr (hyp_ W f i pl sh ti st ce hd rt bd l tr K hs _ fun e h1 h2 => ⟨h1, h2⟩)
theorem Xs : Xj := Xp (fun e => match e with | _ :: .i i :: _ :: _ :: _ :: _ :: _ :: _ :: _ :: _ :: .l l :: _ => ((l.length : Int) - i).toNat | _ => 0) fun W f i pl sh ti st ce hd rt bd l tr K hs A hA => by
 obtain ⟨⟨hE, i0, i1⟩, hk⟩ := hs;unfold Xf;delta Zbc Zw Zb Zf;have ln := hE.ln;refine vifd (fun e => ?_) fun e => ?_
 ·rw [show l.length - i.toNat = (l.length - (i.toNat + 1)) + 1 by omega] at hk;simp only [Sp.rcF] at hk;have ez : (i + 1).toNat = i.toNat + 1 := by omega
  have b0 := hE.ls.at0 i.toNat (by omega);have b1 := hE.ls.at1 i.toNat (by omega);refine Yhj ⟨i0, e⟩ (nedd (by omega) (vifd (fun g => by omega) fun _ => vifd (fun g => by omega) fun _ => Ybo ⟨hE, i0, e, by omega, i0, rfl⟩ (ar64 (by omega) (hA _ (by show ((l.length : Int) - (i + 1)).toNat < ((l.length : Int) - i).toNat; omega) ⟨⟨hE, by omega, by omega⟩, ?_⟩))));rw [ez]; exact hk
 ·rw [show l.length - i.toNat = 0 by omega] at hk;exact hk
noncomputable def Xu : LE Try.prog := ⟨6, 8, fun W => @Yh W Xl, Xs⟩
noncomputable def TH6c : Tab Try.prog := ⟨[Ybbo, pc_valid, pc_traf, pc_Awake], [Xu], []⟩
theorem Xr {pl sh ti st : Dt} {ce : Int} {hd rt : Dt} {wm wd ws wt : Int} : (¬ Sp.pkE pl sh ti st ce hd rt wm wd ws wt = 0 /\ Sp.pkL pl sh ti st ce hd rt wm wd ws wt = []) \/
  (Sp.pkE pl sh ti st ce hd rt wm wd ws wt = 0 /\ Sp.cE pl sh ti st ce hd rt = 0 /\ Sp.wsE sh ti wm wd ws wt = 0 /\ Sp.pkL pl sh ti st ce hd rt wm wd ws wt ≠ [] /\ Sp.Asc rt.length (Sp.pkL pl sh ti st ce hd rt wm wd ws wt) /\ Sp.meets (Sp.shP pl sh ti st ce rt ws wt) rt hd.length wd wm (Sp.pkL pl sh ti st ce hd rt wm wd ws wt) = true /\
   Sp.bound hd rt (Sp.pkL pl sh ti st ce hd rt wm wd ws wt) = Sp.pkB pl sh ti st ce hd rt wm wd ws wt /\
   ∀ l, Sp.Asc rt.length l -> Sp.meets (Sp.shP pl sh ti st ce rt ws wt) rt hd.length wd wm l = true -> Sp.pkB pl sh ti st ce hd rt wm wd ws wt <= Sp.bound hd rt l) := by
 by_cases hc : Sp.cE pl sh ti st ce hd rt = 0
 ·by_cases hw : Sp.wsE sh ti wm wd ws wt = 0
  ·rcases pk_get (pl := pl) (st := st) (hd := hd) (rt := rt) hc hw with ⟨h1, h2⟩ | ⟨h1, h2⟩
   ·refine .inl ⟨by rw [h1]; decide, ?_⟩;rcases Sp.pick_facts (Sp.shP pl sh ti st ce rt ws wt) hd rt wd wm (Ybek hw).wm0 with g | ⟨g1, g2, g3, _⟩
    ·unfold Sp.pkL;rw [if_pos hc, if_pos hw];unfold Sp.pkX;rw [g.1]
    ·exact absurd (h2 _ g2) (by rw [g3]; decide)
   ·exact .inr ⟨h1, hc, hw, h2⟩
  ·obtain ⟨h1, h2⟩ := pk_bad2 (pl := pl) (st := st) (hd := hd) (rt := rt) hc hw;exact .inl ⟨by rw [h1]; exact hw, h2⟩
 ·obtain ⟨h1, h2⟩ := pk_bad (wm := wm) (wd := wd) (ws := ws) (wt := wt) hc;exact .inl ⟨by rw [h1]; exact hc, h2⟩
def Xb [W : InW] (c_Pl c_Sh c_Ti : Ro Jb) (c_St : Ro Jd) (c_Ce : Int) (c_Hd : Ro Iv4) (c_Rt : Ro Je) (w_Wm w_Wd w_Ws w_Wt : Int) (x : Ro [.int .u8]) (Q : DS -> Prop) : Prop :=
 Pre (Sp.NamesOk c_Pl.xs /\ Sp.NamesOk c_Sh.xs /\ Sp.NamesOk c_Ti.xs) (Vif (!decide (Sp.pkE c_Pl.xs c_Sh.xs c_Ti.xs c_St.xs c_Ce c_Hd.xs c_Rt.xs w_Wm w_Wd w_Ws w_Wt = Zf)) (Vif (!decide (Sp.pkE c_Pl.xs c_Sh.xs c_Ti.xs c_St.xs c_Ce c_Hd.xs c_Rt.xs w_Wm w_Wd w_Ws w_Wt = Zf)) (Vif (decide ((↑(List.length (Sp.pkL c_Pl.xs c_Sh.xs c_Ti.xs c_St.xs c_Ce c_Hd.xs c_Rt.xs w_Wm w_Wd w_Ws w_Wt)) : Int) = Zf)) (Pre True (Q [[Cl.b true]])) (Q Zee)) (Q Zee)) (Pre (Sp.NamesOk c_Pl.xs /\ Sp.NamesOk c_Sh.xs /\ Sp.NamesOk c_Ti.xs) (Vif (!decide (Sp.cE c_Pl.xs c_Sh.xs c_Ti.xs c_St.xs c_Ce c_Hd.xs c_Rt.xs = Zf)) (Vif (!decide (Sp.pkE c_Pl.xs c_Sh.xs c_Ti.xs c_St.xs c_Ce c_Hd.xs c_Rt.xs w_Wm w_Wd w_Ws w_Wt = Zf)) (Vif (decide ((↑(List.length (Sp.pkL c_Pl.xs c_Sh.xs c_Ti.xs c_St.xs c_Ce c_Hd.xs c_Rt.xs w_Wm w_Wd w_Ws w_Wt)) : Int) = Zf)) (Pre True (Q [[Cl.b true]])) (Q Zee)) (Q Zee)) (Pre (Sp.TfOk c_Hd.xs x.xs) (Vif (decide ((↑(List.length (Sp.pkL c_Pl.xs c_Sh.xs c_Ti.xs c_St.xs c_Ce c_Hd.xs c_Rt.xs w_Wm w_Wd w_Ws w_Wt)) : Int) < (2 : Int))) (Pre (Sp.EqOk c_Pl.xs c_Sh.xs c_Ti.xs c_St.xs c_Ce c_Hd.xs c_Rt.xs (Sp.pkL c_Pl.xs c_Sh.xs c_Ti.xs c_St.xs c_Ce c_Hd.xs c_Rt.xs w_Wm w_Wd w_Ws w_Wt) (Sp.trafF c_Hd.xs x.xs (c_Hd.xs.length)) (Sp.pkB c_Pl.xs c_Sh.xs c_Ti.xs c_St.xs c_Ce c_Hd.xs c_Rt.xs w_Wm w_Wd w_Ws w_Wt) /\ Zf <= Zf /\ Zf <= (↑(List.length (Sp.pkL c_Pl.xs c_Sh.xs c_Ti.xs c_St.xs c_Ce c_Hd.xs c_Rt.xs w_Wm w_Wd w_Ws w_Wt)) : Int)) (Vif (Sp.rcF c_Hd.xs c_Rt.xs (Sp.pkL c_Pl.xs c_Sh.xs c_Ti.xs c_St.xs c_Ce c_Hd.xs c_Rt.xs w_Wm w_Wd w_Ws w_Wt) (Sp.pkB c_Pl.xs c_Sh.xs c_Ti.xs c_St.xs c_Ce c_Hd.xs c_Rt.xs w_Wm w_Wd w_Ws w_Wt) Zg (List.length (Sp.pkL c_Pl.xs c_Sh.xs c_Ti.xs c_St.xs c_Ce c_Hd.xs c_Rt.xs w_Wm w_Wd w_Ws w_Wt) - Int.toNat Zf) (decide (Sp.pkB c_Pl.xs c_Sh.xs c_Ti.xs c_St.xs c_Ce c_Hd.xs c_Rt.xs w_Wm w_Wd w_Ws w_Wt = Zf))) (Pre True (Q [[Cl.b true]])) (Q Zee))) (Pre (Sp.EqOk c_Pl.xs c_Sh.xs c_Ti.xs c_St.xs c_Ce c_Hd.xs c_Rt.xs (Sp.pkL c_Pl.xs c_Sh.xs c_Ti.xs c_St.xs c_Ce c_Hd.xs c_Rt.xs w_Wm w_Wd w_Ws w_Wt) (Sp.trafF c_Hd.xs x.xs (c_Hd.xs.length)) (Sp.pkB c_Pl.xs c_Sh.xs c_Ti.xs c_St.xs c_Ce c_Hd.xs c_Rt.xs w_Wm w_Wd w_Ws w_Wt) /\ Zf <= Zf /\ Zf <= (↑(List.length (Sp.pkL c_Pl.xs c_Sh.xs c_Ti.xs c_St.xs c_Ce c_Hd.xs c_Rt.xs w_Wm w_Wd w_Ws w_Wt)) : Int)) (Vif (Sp.rcF c_Hd.xs c_Rt.xs (Sp.pkL c_Pl.xs c_Sh.xs c_Ti.xs c_St.xs c_Ce c_Hd.xs c_Rt.xs w_Wm w_Wd w_Ws w_Wt) (Sp.pkB c_Pl.xs c_Sh.xs c_Ti.xs c_St.xs c_Ce c_Hd.xs c_Rt.xs w_Wm w_Wd w_Ws w_Wt) Zg (List.length (Sp.pkL c_Pl.xs c_Sh.xs c_Ti.xs c_St.xs c_Ce c_Hd.xs c_Rt.xs w_Wm w_Wd w_Ws w_Wt) - Int.toNat Zf) false) (Pre True (Q [[Cl.b true]])) (Q Zee))))))))
theorem Xd (W : InW) (c_Pl c_Sh c_Ti c_St c_Ce c_Hd c_Rt w_Wm w_Wd w_Ws w_Wt x Q) : Ybh (cxT Try.prog TT TH6c 1000 50) 1000 6 [.agg [.rs _ c_Pl, .rs _ c_Sh, .rs _ c_Ti, .rs _ c_St, .si .i64 c_Ce, .rs _ c_Hd, .rs _ c_Rt], .agg [.si .i64 w_Wm, .si .i64 w_Wd, .si .i64 w_Ws, .si .i64 w_Wt], .rs _ x] [] 0 (Ybj [(false, [.bool])] Q) (fun _ _ _ _ => Stuck 421) = Xb c_Pl c_Sh c_Ti c_St c_Ce c_Hd c_Rt w_Wm w_Wd w_Ws w_Wt x Q := by kernel_rfl
abbrev Xa : List AT := [.agg [.sl Jb, .sl Jb, .sl Jb, .sl Jd, .int .i64, .sl Iv4, .sl Je], .agg [.int .i64, .int .i64, .int .i64, .int .i64], .one (.sl [.int .u8])]
theorem Xe {pre : DS -> Prop} {res : DS -> DS} (hyp_ : ∀ (W : InW) (c_Pl c_Sh c_Ti : Ro Jb) (c_St : Ro Jd) (c_Ce : Int) (c_Hd : Ro Iv4) (c_Rt : Ro Je) (w_Wm w_Wd w_Ws w_Wt : Int) (x : Ro [.int .u8]), pre [[.l c_Pl.xs, .l c_Sh.xs, .l c_Ti.xs, .l c_St.xs, .i c_Ce, .l c_Hd.xs, .l c_Rt.xs], [.i w_Wm, .i w_Wd, .i w_Ws, .i w_Wt], [.l x.xs]] -> ∀ Q : DS -> Prop, Q (res [[.l c_Pl.xs, .l c_Sh.xs, .l c_Ti.xs, .l c_St.xs, .i c_Ce, .l c_Hd.xs, .l c_Rt.xs], [.i w_Wm, .i w_Wd, .i w_Ws, .i w_Wt], [.l x.xs]]) -> Xb c_Pl c_Sh c_Ti c_St c_Ce c_Hd c_Rt w_Wm w_Wd w_Ws w_Wt x Q) : PureOk Try.prog 6 Xa [(false, [.bool])] pre res :=
 PureOk.of' (fun W => @TT W) (fun W => @Yo W) Yd TH6c 1000 50 fun W c_Pl c_Sh c_Ti c_St c_Ce c_Hd c_Rt w_Wm w_Wd w_Ws w_Wt x hp =>
  (Xd W c_Pl c_Sh c_Ti c_St c_Ce c_Hd c_Rt w_Wm w_Wd w_Ws w_Wt x (fun o => o = res [[.l c_Pl.xs, .l c_Sh.xs, .l c_Ti.xs, .l c_St.xs, .i c_Ce, .l c_Hd.xs, .l c_Rt.xs], [.i w_Wm, .i w_Wd, .i w_Ws, .i w_Wt], [.l x.xs]])).mpr (hyp_ W c_Pl c_Sh c_Ti c_St c_Ce c_Hd c_Rt w_Wm w_Wd w_Ws w_Wt x hp _ rfl)
theorem Xc : PureOk Try.prog 6 Xa [(false, [.bool])] (WfD Xa) fun _ => [[.b true]] :=
 Xe fun W pl sh ti st ce hd rt wm wd ws wt x hp Q h => by
  obtain ⟨d, ds, e1, hp1, hp2⟩ := hp;cases e1;have hn := Ybe9 hp1;unfold Xb;delta Zg Zee Zf;have hx : WfC (.sl [.int .u8]) (.l x.xs) := by
   obtain ⟨d, ds, e2, hp3, hp4⟩ := hp2;cases e2;obtain ⟨d, ds, e3, hp5, hp6⟩ := hp4;cases e3;cases hp5 with
   | cons h1 h2 => exact h1
  rcases Xr (pl := pl.xs) (sh := sh.xs) (ti := ti.xs) (st := st.xs) (ce := ce) (hd := hd.xs) (rt := rt.xs) (wm := wm) (wd := wd) (ws := ws) (wt := wt) with ⟨g1, g2⟩ | ⟨g1, hce, hw, g2, g3, g4, g5, g6⟩
  ·rw [g2];exact Ybo hn (vifn (fun _ => vifn (fun _ => vifd (fun _ => Ybo trivial h) fun g => absurd rfl g) fun g => absurd g g1) fun g => absurd g g1)
  ·have hC := Sp.cchk_ok hce;have tf := tf_ok hC hx;have tr := tf_tr tf;have la := asc_len g3;have hr := hC.rl;have hE : Sp.EqOk pl.xs sh.xs ti.xs st.xs ce hd.xs rt.xs (Sp.pkL pl.xs sh.xs ti.xs st.xs ce hd.xs rt.xs wm wd ws wt) (Sp.trafF hd.xs x.xs hd.xs.length) (Sp.pkB pl.xs sh.xs ti.xs st.xs ce hd.xs rt.xs wm wd ws wt) := ⟨hn, hce, asc_ls g3, by omega, tr, fun i k h1 h2 => by
    have h3 := (@Sp.bd_le hd.xs rt.xs (Sp.pkL pl.xs sh.xs ti.xs st.xs ce hd.xs rt.xs wm wd ws wt) (Sp.pkL pl.xs sh.xs ti.xs st.xs ce hd.xs rt.xs wm wd ws wt).length 0 0).2 i (by omega) (by omega) k h1;rw [<- Sp.most_swap] at h3;rw [<- g5];exact Int.le_trans (Sp.far_most hC.hdO tr) h3⟩
   refine Ybo hn (vifn (fun g => absurd g1 g) fun _ => Ybo hn (vifn (fun g => absurd hce g) fun _ => Ybo tf (vifd (fun e => ?_) fun e => ?_)))
   ·refine Ybo ⟨hE, by omega, by omega⟩ ?_;have e0 : Sp.pkB pl.xs sh.xs ti.xs st.xs ce hd.xs rt.xs wm wd ws wt = 0 := by
     rw [<- g5];have e1 : (Sp.pkL pl.xs sh.xs ti.xs st.xs ce hd.xs rt.xs wm wd ws wt).length = 1 := by
      have := List.length_pos_iff.2 g2;omega
     unfold Sp.bound;rw [e1];rfl
    rw [decide_eq_true e0, Sp.rcF_tt];exact ⟨fun _ => Ybo trivial h, fun g => absurd g (by decide)⟩
   ·refine Ybo ⟨hE, by omega, by omega⟩ ?_;rw [<- g5];simp only [show Int.toNat 0 = 0 from rfl, Nat.sub_zero];rw [Sp.bound_got hC.hdO (by omega)];exact ⟨fun _ => Ybo trivial h, fun g => absurd g (by decide)⟩
end Go.Proofs.Ytmogofidmchdoaa
namespace Go.Proofs.Ytmogofidmchdoaa.courseEqual
open Go.ChangeShapes Go.WideShapes Go.ChangeAt Go.RowKit
set_option maxRecDepth 100000
theorem own : ownKnob Try.prog.godebug = none := by kernel_rfl
theorem laid : laidOutB Try.prog = true := by kernel_rfl
theorem lifted (os : Os) (started : os.Started) (H : Type) (enc : TypeId × Value -> H) :
  ReturnsInHanded {} Try.checked os 6 .any (Rows.courseEqualSpec.pre6 enc Try.prog Try.f6 Rows.courseEqualRow.domain false) (Rows.courseEqualSpec.post enc Try.prog Try.f6 false true false false) := by
 refine returnsInHanded_of_change (C := Try.checked) own started (by kernel_rfl) Try.func6
  (ChangeSpec.witness6 (enc := enc) (C := Try.checked) false ⟨#[], #[(.agg #[.slice none 0 0, .slice none 0 0, .slice none 0 0, .slice none 0 0, .int .i64 0, .slice none 0 0, .slice none 0 0]), (.agg #[.int .i64 0, .int .i64 0, .int .i64 0, .int .i64 0]), (.slice none 0 0)], []⟩ 8 (by kernel_rfl) (by kernel_rfl) (by kernel_rfl) (by kernel_rfl)) ?_
 intro W base args ds gs before hval hW _ _;exact law_end (f := Try.f6) (s := Rows.courseEqualSpec) (by kernel_rfl) Try.underlying4 (by kernel_rfl) rfl laid (by kernel_rfl)
  (fun ds h => by match ds, (show ds.length = 3 from h) with | [_, _, _], _ => exact ⟨rfl, rfl, rfl⟩) Xc hval hW
theorem over : Rows.courseEqualRow.holds Try.pinned (OpenSpec.ofChange Rows.courseEqualSpec) :=
 OpenClaim.holds_of_wide 6 Try.f6 rfl rfl rfl rfl rfl rfl rfl ⟨rfl, rfl, rfl, rfl, rfl⟩ rfl rfl rfl rfl rfl (by kernel_rfl) Try.func6 (by kernel_rfl)
  (of_decide_eq_true (by kernel_rfl)) (by unfold Func.isWrapper; first | (rw [if_pos (by decide +kernel)]; kernel_rfl) | (rw [if_neg (by decide +kernel)]; exact ⟨rfl, rfl⟩))
  (fun os started H enc _ => lifted os started H enc)
theorem proved : Rows.CourseEqualSaid := over
end Go.Proofs.Ytmogofidmchdoaa.courseEqual
