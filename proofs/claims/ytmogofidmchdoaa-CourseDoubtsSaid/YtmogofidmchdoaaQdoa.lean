/-
  'CourseDoubts': for every input the law returns true, and what is handed in reads as before. No condition.
-/
import Derived.Test.YtmogofidmchdoaaQi
import Derived.Test.YtmogofidmchdoaaRows
import Derived.WalkKit
import Derived.ProofKit
set_option linter.unusedVariables false
set_option linter.unusedSectionVars false
set_option linter.unusedSimpArgs false
namespace Go.Proofs.Ytmogofidmchdoaa
open Go.RowKit
set_option maxRecDepth 100000
set_option maxHeartbeats 1600000
noncomputable def TH9 : Tab Try.prog := ⟨[pc_far], [], []⟩
def Xk [InW] (e : List Ed) (K : Nat -> List Ed -> Prop) : Prop := match e with
 | [.b f, .i i, .i k, .ro _ pl, .ro _ sh, .ro _ ti, .ro _ st, .i ce, .ro _ hd, .ro _ rt, .ro _ y, .i bd, .l tr] => Pre ((Sp.RdB pl.xs sh.xs ti.xs st.xs ce hd.xs rt.xs y.xs /\ Sp.TrOk hd.xs tr) /\ 0 <= i /\ i < y.xs.length /\ 0 <= k /\ k <= i)
   (K 0 [.b (Sp.fdK hd.xs rt.xs y.xs tr bd i.toNat k.toNat (i.toNat - k.toNat) f), .i i, .ro _ pl, .ro _ sh, .ro _ ti, .ro _ st, .i ce, .ro _ hd, .ro _ rt, .ro _ y, .i bd, .l tr])
 | _ => False
noncomputable def Xq : LC where
 len := 187
 T := [(3, (.ptr 1 0)), (4, (.ptr 4 0)), (9, (.row 7)), (10, .bool), (11, .int .i64), (12, .int .i64)]
 H := [(1, .blk 29 [.rs Jb, .rs Jb, .rs Jb, .rs Jd, .int .i64, .rs Iv4, .rs Je]), (4, .blk 48 [.rs Ja, .int .i64]), (7, .arr 3 Ja)]
 W := [75, 76, 77, 78, 79, 80, 81, 82, 83, 84, 85, 86, 87, 88, 89, 90, 91, 92, 93, 94, 95, 96, 97, 98]
 outs := [⟨.exit 2, [(3, (.ptr 1 0)), (4, (.ptr 4 0)), (9, (.row 7)), (10, .bool), (11, .int .i64)], [(1, .blk 29 [.rs Jb, .rs Jb, .rs Jb, .rs Jd, .int .i64, .rs Iv4, .rs Je]), (4, .blk 48 [.rs Ja, .int .i64]), (7, .arr 3 Ja)], [12, 75, 76, 77, 78, 79, 80, 81, 82, 83, 84, 85, 86, 87, 88, 89, 90, 91, 92, 93, 94, 95, 96, 97, 98]⟩]
 spec := Xk
def Xh [W : InW] (f : Bool) (i k : Int) (pl sh ti : Ro Jb) (st : Ro Jd) (ce : Int) (hd : Ro Iv4) (rt : Ro Je) (y : Ro Ja) (bd : Int) (tr : Dt) (A : List Ed -> Prop) (K : Nat -> List Ed -> Prop) : Prop :=
 Vif (decide (k < i)) (Vif f (Ar .i64 (k + (1 : Int)) fun z => A [.b true, .i i, .i z, .ro _ pl, .ro _ sh, .ro _ ti, .ro Zb st, .i ce, .ro _ hd, .ro Zw rt, .ro _ y, .i bd, .l tr]) (Need (decide ((0 : Int) <= k) && decide (k < (↑(y.xs.length) : Int))) (Need (decide (k.toNat < y.xs.length)) (Need (decide ((0 : Int) <= i) && decide (i < (↑(y.xs.length) : Int))) (Need (decide (i.toNat < y.xs.length)) (Pre (Sp.RfOk hd.xs rt.xs (cel y.xs k.toNat Zbc).int /\ Sp.RfOk hd.xs rt.xs (cel y.xs i.toNat Zbc).int /\ Sp.TrOk hd.xs tr) (Ar .i64 (k + (1 : Int)) fun z => A [.b (decide (bd < Sp.far hd.xs rt.xs (cel y.xs k.toNat Zbc).int.toNat (cel y.xs i.toNat Zbc).int.toNat tr)), .i i, .i z, .ro _ pl, .ro _ sh, .ro _ ti, .ro Zb st, .i ce, .ro _ hd, .ro Zw rt, .ro _ y, .i bd, .l tr]))))))) (K Zbc [.b f, .i i, .ro _ pl, .ro _ sh, .ro _ ti, .ro Zb st, .i ce, .ro _ hd, .ro Zw rt, .ro _ y, .i bd, .l tr])
theorem Xt (W : InW) (f i k pl sh ti st ce hd rt y bd tr A K) : Ybd { cxT Try.prog TT TH9 1000 50 with fn := 9 } 1000 (Y1 Try.prog 9 13) (Y4 187 [(3, .ptr 1 0), (4, .ptr 4 0), (9, .rw 7), (10, .sb f), (11, .si .i64 i), (12, .si .i64 k)] [75, 76, 77, 78, 79, 80, 81, 82, 83, 84, 85, 86, 87, 88, 89, 90, 91, 92, 93, 94, 95, 96, 97, 98]) [(1, .blk 29 [.rs _ pl, .rs _ sh, .rs _ ti, .rs _ st, .si .i64 ce, .rs _ hd, .rs _ rt]), (4, .blk 48 [.rs _ y, .si .i64 bd]), (7, .arr 3 Ja tr)] (Y6 Xq A K) = Xh f i k pl sh ti st ce hd rt y bd tr A K := by kernel_rfl
def Xn : Prop := ∀ (W : InW) (body a : Code), (Try.prog.funcs[9]?).bind (·.body) = some body -> a ∈ Yi body -> Ybe a = 13 -> @Y0 W Try.prog a (@Yh W Xq)
theorem Xw (meas : [InW] -> List Ed -> Nat) (hyp_ : ∀ (W : InW) (f : Bool) (i k : Int) (pl sh ti : Ro Jb) (st : Ro Jd) (ce : Int) (hd : Ro Iv4) (rt : Ro Je) (y : Ro Ja) (bd : Int) (tr : Dt) (K : Nat -> List Ed -> Prop), Xk [.b f, .i i, .i k, .ro _ pl, .ro _ sh, .ro _ ti, .ro _ st, .i ce, .ro _ hd, .ro _ rt, .ro _ y, .i bd, .l tr] K -> ∀ A : List Ed -> Prop, (∀ e, meas e < meas [.b f, .i i, .i k, .ro _ pl, .ro _ sh, .ro _ ti, .ro _ st, .i ce, .ro _ hd, .ro _ rt, .ro _ y, .i bd, .l tr] -> Xk e K -> A e) -> Xh f i k pl sh ti st ce hd rt y bd tr A K) : Xn :=
 LE.okOf' (fun W => @TT W) (fun W => @Yo W) Yd TH9 1000 50 (by kernel_rfl) Xq (fun W => @meas W) fun W f i k pl sh ti st ce hd rt y bd tr K hs =>
  (Xt W f i k pl sh ti st ce hd rt y bd tr (fun e => meas e < meas [.b f, .i i, .i k, .ro _ pl, .ro _ sh, .ro _ ti, .ro _ st, .i ce, .ro _ hd, .ro _ rt, .ro _ y, .i bd, .l tr] /\ Xk e K) K).mpr (hyp_ W f i k pl sh ti st ce hd rt y bd tr K hs _ fun e h1 h2 => ⟨h1, h2⟩)
theorem X0 : Xn := Xw (fun e => match e with | _ :: .i i :: .i k :: _ => (i - k).toNat | _ => 0) fun W f i k pl sh ti st ce hd rt y bd tr K hs A hA => by
 obtain ⟨⟨⟨hR, ht⟩, i0, i1, k0, k1⟩, hk⟩ := hs;unfold Xh;delta Zw Zb Zbc;have hC := hR.cr;have ln := hR.ln;refine vifd (fun e => ?_) fun e => ?_
 ·rw [show i.toNat - k.toNat = (i.toNat - (k.toNat + 1)) + 1 by omega] at hk;simp only [Sp.fdK] at hk;have ez : (k + 1).toNat = k.toNat + 1 := by omega
  have b0 := hR.ls.at0 i.toNat (by omega);have b1 := hR.ls.at1 i.toNat (by omega);have a0 := hR.ls.at0 k.toNat (by omega);have a1 := hR.ls.at1 k.toNat (by omega);refine vif (fun f1 => ar64 (by omega) (hA _ (by show (i - (k + 1)).toNat < (i - k).toNat; omega) ⟨⟨⟨hR, ht⟩, i0, i1, by omega, by omega⟩, ?_⟩)) fun f1 => Yhj ⟨k0, by omega⟩ (nedd (by omega) (Yhj ⟨i0, i1⟩ (nedd (by omega) (Ybo ⟨Ypg hC a0 a1, Ypg hC b0 b1, ht⟩ (ar64 (by omega) (hA _ (by show (i - (k + 1)).toNat < (i - k).toNat; omega) ⟨⟨⟨hR, ht⟩, i0, i1, by omega, by omega⟩, ?_⟩))))))
  ·rw [f1, Bool.true_or] at hk;rw [ez]; exact hk
  ·rw [f1, Bool.false_or] at hk;rw [ez]; exact hk
 ·rw [show i.toNat - k.toNat = 0 by omega] at hk;exact hk
noncomputable def X3 : LE Try.prog := ⟨9, 13, fun W => @Yh W Xq, X0⟩
noncomputable def TH9a : Tab Try.prog := ⟨[], [X3], []⟩
def Xj [InW] (e : List Ed) (K : Nat -> List Ed -> Prop) : Prop := match e with
 | [.b f, .i i, .ro _ pl, .ro _ sh, .ro _ ti, .ro _ st, .i ce, .ro _ hd, .ro _ rt, .ro _ y, .i bd, .l tr] => Pre ((Sp.RdB pl.xs sh.xs ti.xs st.xs ce hd.xs rt.xs y.xs /\ Sp.TrOk hd.xs tr) /\ 0 <= i /\ i <= y.xs.length)
   (K 0 [.b (Sp.fdF hd.xs rt.xs y.xs tr bd i.toNat (y.xs.length - i.toNat) f), .ro _ pl, .ro _ sh, .ro _ ti, .ro _ st, .i ce, .ro _ hd, .ro _ rt, .ro _ y, .i bd, .l tr])
 | _ => False
noncomputable def Xp : LC where
 len := 187
 T := [(3, (.ptr 1 0)), (4, (.ptr 4 0)), (9, (.row 7)), (10, .bool), (11, .int .i64)]
 H := [(1, .blk 29 [.rs Jb, .rs Jb, .rs Jb, .rs Jd, .int .i64, .rs Iv4, .rs Je]), (4, .blk 48 [.rs Ja, .int .i64]), (7, .arr 3 Ja)]
 W := [6, 12, 51, 52, 53, 54, 55, 56, 57, 58, 59, 60, 61, 62, 63, 64, 65, 66, 67, 68, 69, 70, 71, 72, 73, 74, 75, 76, 77, 78, 79, 80, 81, 82, 83, 84, 85, 86, 87, 88, 89, 90, 91, 92, 93, 94, 95, 96, 97, 98]
 outs := [⟨.exit 0, [(3, (.ptr 1 0)), (4, (.ptr 4 0)), (9, (.row 7)), (10, .bool)], [(1, .blk 29 [.rs Jb, .rs Jb, .rs Jb, .rs Jd, .int .i64, .rs Iv4, .rs Je]), (4, .blk 48 [.rs Ja, .int .i64]), (7, .arr 3 Ja)], [6, 11, 12, 51, 52, 53, 54, 55, 56, 57, 58, 59, 60, 61, 62, 63, 64, 65, 66, 67, 68, 69, 70, 71, 72, 73, 74, 75, 76, 77, 78, 79, 80, 81, 82, 83, 84, 85, 86, 87, 88, 89, 90, 91, 92, 93, 94, 95, 96, 97, 98]⟩, ⟨.ret, [(6, (.lit (.bool false)))], [], [3, 4, 9, 10, 11, 12, 51, 52, 53, 54, 55, 56, 57, 58, 59, 60, 61, 62, 63, 64, 65, 66, 67, 68, 69, 70, 71, 72, 73, 74, 75, 76, 77, 78, 79, 80, 81, 82, 83, 84, 85, 86, 87, 88, 89, 90, 91, 92, 93, 94, 95, 96, 97, 98]⟩]
 spec := Xj
def Xg [W : InW] (f : Bool) (i : Int) (pl sh ti : Ro Jb) (st : Ro Jd) (ce : Int) (hd : Ro Iv4) (rt : Ro Je) (y : Ro Ja) (bd : Int) (tr : Dt) (A : List Ed -> Prop) (K : Nat -> List Ed -> Prop) : Prop :=
 Vif (decide (i < (↑(y.xs.length) : Int))) (Need (decide (Zf <= i) && decide (i < (↑(y.xs.length) : Int))) (Need (decide (i.toNat < y.xs.length)) (Vif (decide ((cel y.xs i.toNat Zbc).int < Zf)) (K (0+1 : Nat) []) (Need (decide (Zf <= i) && decide (i < (↑(y.xs.length) : Int))) (Need (decide (i.toNat < y.xs.length)) (Vif (decide ((↑(rt.xs.length) : Int) <= (cel y.xs i.toNat Zbc).int)) (K (0+1 : Nat) []) (Pre ((Sp.RdB pl.xs sh.xs ti.xs st.xs ce hd.xs rt.xs y.xs /\ Sp.TrOk hd.xs tr) /\ Zf <= i /\ i < (↑(y.xs.length) : Int) /\ Zf <= Zf /\ Zf <= i) (Ar .i64 (i + (1 : Int)) fun z => A [.b (Sp.fdK hd.xs rt.xs y.xs tr bd i.toNat (Int.toNat Zf) (i.toNat - Int.toNat Zf) f), .i z, .ro _ pl, .ro _ sh, .ro _ ti, .ro Zb st, .i ce, .ro _ hd, .ro Zw rt, .ro _ y, .i bd, .l tr])))))))) (K Zbc [.b f, .ro _ pl, .ro _ sh, .ro _ ti, .ro Zb st, .i ce, .ro _ hd, .ro Zw rt, .ro _ y, .i bd, .l tr])
theorem Xs (W : InW) (f i pl sh ti st ce hd rt y bd tr A K) : Ybd { cxT Try.prog TT TH9a 1000 50 with fn := 9 } 1000 (Y1 Try.prog 9 8) (Y4 187 [(3, .ptr 1 0), (4, .ptr 4 0), (9, .rw 7), (10, .sb f), (11, .si .i64 i)] [6, 12, 51, 52, 53, 54, 55, 56, 57, 58, 59, 60, 61, 62, 63, 64, 65, 66, 67, 68, 69, 70, 71, 72, 73, 74, 75, 76, 77, 78, 79, 80, 81, 82, 83, 84, 85, 86, 87, 88, 89, 90, 91, 92, 93, 94, 95, 96, 97, 98]) [(1, .blk 29 [.rs _ pl, .rs _ sh, .rs _ ti, .rs _ st, .si .i64 ce, .rs _ hd, .rs _ rt]), (4, .blk 48 [.rs _ y, .si .i64 bd]), (7, .arr 3 Ja tr)] (Y6 Xp A K) = Xg f i pl sh ti st ce hd rt y bd tr A K := by kernel_rfl
def Xm : Prop := ∀ (W : InW) (body a : Code), (Try.prog.funcs[9]?).bind (·.body) = some body -> a ∈ Yi body -> Ybe a = 8 -> @Y0 W Try.prog a (@Yh W Xp)
theorem Xv (meas : [InW] -> List Ed -> Nat) (hyp_ : ∀ (W : InW) (f : Bool) (i : Int) (pl sh ti : Ro Jb) (st : Ro Jd) (ce : Int) (hd : Ro Iv4) (rt : Ro Je) (y : Ro Ja) (bd : Int) (tr : Dt) (K : Nat -> List Ed -> Prop), Xj [.b f, .i i, .ro _ pl, .ro _ sh, .ro _ ti, .ro _ st, .i ce, .ro _ hd, .ro _ rt, .ro _ y, .i bd, .l tr] K -> ∀ A : List Ed -> Prop, (∀ e, meas e < meas [.b f, .i i, .ro _ pl, .ro _ sh, .ro _ ti, .ro _ st, .i ce, .ro _ hd, .ro _ rt, .ro _ y, .i bd, .l tr] -> Xj e K -> A e) -> Xg f i pl sh ti st ce hd rt y bd tr A K) : Xm :=
 LE.okOf' (fun W => @TT W) (fun W => @Yo W) Yd TH9a 1000 50 (by kernel_rfl) Xp (fun W => @meas W) fun W f i pl sh ti st ce hd rt y bd tr K hs =>
  (Xs W f i pl sh ti st ce hd rt y bd tr (fun e => meas e < meas [.b f, .i i, .ro _ pl, .ro _ sh, .ro _ ti, .ro _ st, .i ce, .ro _ hd, .ro _ rt, .ro _ y, .i bd, .l tr] /\ Xj e K) K).mpr (hyp_ W f i pl sh ti st ce hd rt y bd tr K hs _ fun e h1 h2 => ⟨h1, h2⟩)
theorem Xz : Xm := Xv (fun e => match e with | _ :: .i i :: _ :: _ :: _ :: _ :: _ :: _ :: _ :: .ro _ y :: _ => ((y.xs.length : Int) - i).toNat | _ => 0) fun W f i pl sh ti st ce hd rt y bd tr K hs A hA => by
 obtain ⟨⟨⟨hR, ht⟩, i0, i1⟩, hk⟩ := hs;unfold Xg;delta Zw Zb Zbc Zf;have hC := hR.cr;have ln := hR.ln;refine vifd (fun e => ?_) fun e => ?_
 ·rw [show y.xs.length - i.toNat = (y.xs.length - (i.toNat + 1)) + 1 by omega] at hk;simp only [Sp.fdF] at hk;have ez : (i + 1).toNat = i.toNat + 1 := by omega
  have b0 := hR.ls.at0 i.toNat (by omega);have b1 := hR.ls.at1 i.toNat (by omega);refine Yhj ⟨i0, e⟩ (nedd (by omega) (vifd (fun g => by omega) fun _ => Yhj ⟨i0, e⟩ (nedd (by omega) (vifd (fun g => by omega) fun _ => Ybo ⟨⟨hR, ht⟩, i0, e, by omega, i0⟩ (ar64 (by omega) (hA _ (by show ((y.xs.length : Int) - (i + 1)).toNat < ((y.xs.length : Int) - i).toNat; omega) ⟨⟨⟨hR, ht⟩, by omega, by omega⟩, ?_⟩))))));rw [ez]; exact hk
 ·rw [show y.xs.length - i.toNat = 0 by omega] at hk;exact hk
noncomputable def X2 : LE Try.prog := ⟨9, 8, fun W => @Yh W Xp, Xz⟩
noncomputable def TH9b : Tab Try.prog := ⟨[], [], []⟩
def Xi [InW] (e : List Ed) (K : Nat -> List Ed -> Prop) : Prop := match e with
 | [.i n, .i i, .ro _ y, .i bd, .i da, .i db, .l dt] => Pre (y.xs.length <= 10 /\ 0 <= i /\ i <= y.xs.length /\ 0 <= n /\ n <= i)
   (K 0 [.i (Sp.nmd y.xs da db i.toNat (y.xs.length - i.toNat) n), .ro _ y, .i bd, .i da, .i db, .l dt])
 | _ => False
noncomputable def Xo : LC where
 len := 187
 T := [(4, (.ptr 4 0)), (7, (.ptr 7 0)), (13, .int .i64), (14, .int .i64)]
 H := [(4, .blk 48 [.rs Ja, .int .i64]), (7, .blk 54 [.int .i64, .int .i64, (.row 10)]), (10, .arr 3 Ja)]
 W := [128, 129, 130, 131, 132, 133, 134, 135, 136, 137, 138, 139, 140, 141, 142, 143, 144, 145, 146, 147, 148, 149, 150, 151, 152, 153, 154]
 outs := [⟨.exit 4, [(4, (.ptr 4 0)), (7, (.ptr 7 0)), (13, .int .i64)], [(4, .blk 48 [.rs Ja, .int .i64]), (7, .blk 54 [.int .i64, .int .i64, (.row 10)]), (10, .arr 3 Ja)], [14, 128, 129, 130, 131, 132, 133, 134, 135, 136, 137, 138, 139, 140, 141, 142, 143, 144, 145, 146, 147, 148, 149, 150, 151, 152, 153, 154]⟩]
 spec := Xi
def Xf [W : InW] (n i : Int) (y : Ro Ja) (bd da db : Int) (dt : Dt) (A : List Ed -> Prop) (K : Nat -> List Ed -> Prop) : Prop :=
 Vif (decide (i < (↑(y.xs.length) : Int))) (Need (decide ((0 : Int) <= i) && decide (i < (↑(y.xs.length) : Int))) (Need (decide (i.toNat < y.xs.length)) (Vif (decide ((cel y.xs i.toNat Zbc).int = da)) (Ar .i64 (n + Zed) fun z => Ar .i64 (i + Zed) fun z_1 => A [.i z, .i z_1, .ro _ y, .i bd, .i da, .i db, .l dt]) (Need (decide ((0 : Int) <= i) && decide (i < (↑(y.xs.length) : Int))) (Need (decide (i.toNat < y.xs.length)) (Vif (decide ((cel y.xs i.toNat Zbc).int = db)) (Ar .i64 (n + Zed) fun z => Ar .i64 (i + Zed) fun z_1 => A [.i z, .i z_1, .ro _ y, .i bd, .i da, .i db, .l dt]) (Ar .i64 (i + Zed) fun z => A [.i n, .i z, .ro _ y, .i bd, .i da, .i db, .l dt]))))))) (K Zbc [.i n, .ro _ y, .i bd, .i da, .i db, .l dt])
theorem Xr (W : InW) (n i y bd da db dt A K) : Ybd { cxT Try.prog TT TH9b 1000 50 with fn := 9 } 1000 (Y1 Try.prog 9 20) (Y4 187 [(4, .ptr 4 0), (7, .ptr 7 0), (13, .si .i64 n), (14, .si .i64 i)] [128, 129, 130, 131, 132, 133, 134, 135, 136, 137, 138, 139, 140, 141, 142, 143, 144, 145, 146, 147, 148, 149, 150, 151, 152, 153, 154]) [(4, .blk 48 [.rs _ y, .si .i64 bd]), (7, .blk 54 [.si .i64 da, .si .i64 db, .rw 10]), (10, .arr 3 Ja dt)] (Y6 Xo A K) = Xf n i y bd da db dt A K := by kernel_rfl
def Xl : Prop := ∀ (W : InW) (body a : Code), (Try.prog.funcs[9]?).bind (·.body) = some body -> a ∈ Yi body -> Ybe a = 20 -> @Y0 W Try.prog a (@Yh W Xo)
theorem Xu (meas : [InW] -> List Ed -> Nat) (hyp_ : ∀ (W : InW) (n i : Int) (y : Ro Ja) (bd da db : Int) (dt : Dt) (K : Nat -> List Ed -> Prop), Xi [.i n, .i i, .ro _ y, .i bd, .i da, .i db, .l dt] K -> ∀ A : List Ed -> Prop, (∀ e, meas e < meas [.i n, .i i, .ro _ y, .i bd, .i da, .i db, .l dt] -> Xi e K -> A e) -> Xf n i y bd da db dt A K) : Xl :=
 LE.okOf' (fun W => @TT W) (fun W => @Yo W) Yd TH9b 1000 50 (by kernel_rfl) Xo (fun W => @meas W) fun W n i y bd da db dt K hs =>
  (Xr W n i y bd da db dt (fun e => meas e < meas [.i n, .i i, .ro _ y, .i bd, .i da, .i db, .l dt] /\ Xi e K) K).mpr (hyp_ W n i y bd da db dt K hs _ fun e h1 h2 => ⟨h1, h2⟩)
theorem Xy : Xl := Xu (fun e => match e with | _ :: .i i :: .ro _ y :: _ => ((y.xs.length : Int) - i).toNat | _ => 0) fun W n i y bd da db dt K hs A hA => by
 obtain ⟨⟨hl, i0, i1, n0, n1⟩, hk⟩ := hs;unfold Xf;delta Zbc Zed;refine vifd (fun e => ?_) fun e => ?_
 ·rw [show y.xs.length - i.toNat = (y.xs.length - (i.toNat + 1)) + 1 by omega] at hk;simp only [Sp.nmd] at hk;have ez : (i + 1).toNat = i.toNat + 1 := by omega
  have dm : ((y.xs.length : Int) - (i + 1)).toNat < ((y.xs.length : Int) - i).toNat := by omega
  refine Yhj ⟨i0, e⟩ (nedd (by omega) (vifd (fun g => ar64 (by omega) (ar64 (by omega) (hA _ dm ⟨⟨hl, by omega, by omega, by omega, by omega⟩, ?_⟩))) fun g => Yhj ⟨i0, e⟩ (nedd (by omega) (vifd (fun g2 => ar64 (by omega) (ar64 (by omega) (hA _ dm ⟨⟨hl, by omega, by omega, by omega, by omega⟩, ?_⟩))) fun g2 => ar64 (by omega) (hA _ dm ⟨⟨hl, by omega, by omega, by omega, by omega⟩, ?_⟩)))))
  ·rw [if_pos (.inl g)] at hk;rw [ez]; exact hk
  ·rw [if_pos (.inr g2)] at hk;rw [ez]; exact hk
  ·rw [if_neg (fun g3 => g3.elim g g2)] at hk;rw [ez]; exact hk
 ·rw [show y.xs.length - i.toNat = 0 by omega] at hk;exact hk
noncomputable def X1 : LE Try.prog := ⟨9, 20, fun W => @Yh W Xo, Xy⟩
noncomputable def TH9c : Tab Try.prog := ⟨[Y6p, pc_valid, pc_traf, Yyc, pc_far, pc_Awake], [X2, X1], []⟩
theorem Xx {pl sh ti st : Dt} {ce : Int} {hd rt l : Dt} {bd : Int} (h : Sp.dbE pl sh ti st ce hd rt l bd = 0) : Sp.cE pl sh ti st ce hd rt = 0 /\ l.length <= 10 /\ Sp.LsOk rt.length l /\ 0 <= bd := by
 unfold Sp.dbE at h
 by_cases e : Sp.cE pl sh ti st ce hd rt = 0
 ·rw [if_pos e] at h;unfold Sp.daE at h
  by_cases e1 : 10 < (l.length : Int)
  ·rw [if_pos e1] at h; exact absurd h (by decide)
  ·rw [if_neg e1] at h;cases f2 : Sp.out 0 ((rt.length : Int) - 1) l with
   | true => rw [f2, if_pos rfl] at h; exact absurd h (by decide)
   | false =>
    rw [f2, if_neg (by decide)] at h;cases f3 : Sp.inr bd 0 1000000 with
    | true => exact ⟨e, by omega, Ybkg f2, (Sp.inr_iff.1 f3).1⟩
    | false => rw [f3, if_neg (by decide)] at h; exact absurd h (by decide)
 ·rw [if_neg e] at h; exact absurd h e
def Zek [W : InW] (c_Pl c_Sh c_Ti : Ro Jb) (c_St : Ro Jd) (c_Ce : Int) (c_Hd : Ro Iv4) (c_Rt : Ro Je) (a_y : Ro Ja) (a_bd : Int) (Q : DS -> Prop) := Vif (!decide (Sp.dbE c_Pl.xs c_Sh.xs c_Ti.xs c_St.xs c_Ce c_Hd.xs c_Rt.xs a_y.xs a_bd = Zf)) (Vif (decide ((↑(List.length (Sp.ddT c_Pl.xs c_Sh.xs c_Ti.xs c_St.xs c_Ce c_Hd.xs c_Rt.xs a_y.xs a_bd)) : Int) = Zf)) (Pre True (Q [[Cl.b true]])) (Q Zee)) (Q Zee)
def Zej [W : InW] (c_Pl c_Sh c_Ti : Ro Jb) (c_St : Ro Jd) (c_Ce : Int) (c_Hd : Ro Iv4) (c_Rt : Ro Je) (a_y : Ro Ja) (a_bd : Int) (x : Ro [.int .u8]) (Q : DS -> Prop) := Vif (decide (Sp.ddA c_Pl.xs c_Sh.xs c_Ti.xs c_St.xs c_Ce c_Hd.xs c_Rt.xs a_y.xs a_bd = (-1 : Int))) (Vif (decide (Sp.ddB c_Pl.xs c_Sh.xs c_Ti.xs c_St.xs c_Ce c_Hd.xs c_Rt.xs a_y.xs a_bd = (-1 : Int))) (Vif (decide ((↑(List.length (Sp.ddT c_Pl.xs c_Sh.xs c_Ti.xs c_St.xs c_Ce c_Hd.xs c_Rt.xs a_y.xs a_bd)) : Int) = Zf)) (Vif (!Sp.fdF c_Hd.xs c_Rt.xs a_y.xs (Sp.trafF c_Hd.xs x.xs (c_Hd.xs.length)) a_bd Zg (a_y.xs.length - Int.toNat Zf) false) (Pre True (Q [[Cl.b true]])) (Q Zee)) (Q Zee)) (Q Zee)) (Q Zee)
def Xb [W : InW] (c_Pl c_Sh c_Ti : Ro Jb) (c_St : Ro Jd) (c_Ce : Int) (c_Hd : Ro Iv4) (c_Rt : Ro Je) (a_y : Ro Ja) (a_bd : Int) (x : Ro [.int .u8]) (Q : DS -> Prop) : Prop :=
 Pre (Sp.NamesOk c_Pl.xs /\ Sp.NamesOk c_Sh.xs /\ Sp.NamesOk c_Ti.xs) (Vif (!decide (Sp.dbE c_Pl.xs c_Sh.xs c_Ti.xs c_St.xs c_Ce c_Hd.xs c_Rt.xs a_y.xs a_bd = Zf)) (Zek c_Pl c_Sh c_Ti c_St c_Ce c_Hd c_Rt a_y a_bd Q) (Pre (Sp.NamesOk c_Pl.xs /\ Sp.NamesOk c_Sh.xs /\ Sp.NamesOk c_Ti.xs) (Vif (!decide (Sp.cE c_Pl.xs c_Sh.xs c_Ti.xs c_St.xs c_Ce c_Hd.xs c_Rt.xs = Zf)) (Zek c_Pl c_Sh c_Ti c_St c_Ce c_Hd c_Rt a_y a_bd Q) (Vif (decide ((10 : Int) < (↑(a_y.xs.length) : Int))) (Zek c_Pl c_Sh c_Ti c_St c_Ce c_Hd c_Rt a_y a_bd Q) (Pre (Sp.TfOk c_Hd.xs x.xs) (Pre ((Sp.RdB c_Pl.xs c_Sh.xs c_Ti.xs c_St.xs c_Ce c_Hd.xs c_Rt.xs a_y.xs /\ Sp.TrOk c_Hd.xs (Sp.trafF c_Hd.xs x.xs (c_Hd.xs.length))) /\ Zf <= Zf /\ Zf <= (↑(a_y.xs.length) : Int)) (Vif (decide (Sp.ddA c_Pl.xs c_Sh.xs c_Ti.xs c_St.xs c_Ce c_Hd.xs c_Rt.xs a_y.xs a_bd < Zf)) (Zej c_Pl c_Sh c_Ti c_St c_Ce c_Hd c_Rt a_y a_bd x Q) (Vif (decide (Sp.ddB c_Pl.xs c_Sh.xs c_Ti.xs c_St.xs c_Ce c_Hd.xs c_Rt.xs a_y.xs a_bd < Zf)) (Zej c_Pl c_Sh c_Ti c_St c_Ce c_Hd c_Rt a_y a_bd x Q) (Pre (a_y.xs.length <= (10 : Nat) /\ Zf <= Zf /\ Zf <= (↑(a_y.xs.length) : Int) /\ Zf <= Zf /\ Zf <= Zf) (Vif (decide ((2 : Int) <= Sp.nmd a_y.xs (Sp.ddA c_Pl.xs c_Sh.xs c_Ti.xs c_St.xs c_Ce c_Hd.xs c_Rt.xs a_y.xs a_bd) (Sp.ddB c_Pl.xs c_Sh.xs c_Ti.xs c_St.xs c_Ce c_Hd.xs c_Rt.xs a_y.xs a_bd) Zg (a_y.xs.length - Int.toNat Zf) Zf)) (Vif (!decide (Sp.ddA c_Pl.xs c_Sh.xs c_Ti.xs c_St.xs c_Ce c_Hd.xs c_Rt.xs a_y.xs a_bd = Sp.ddB c_Pl.xs c_Sh.xs c_Ti.xs c_St.xs c_Ce c_Hd.xs c_Rt.xs a_y.xs a_bd)) (Pre True (Vif (decide (Sp.trErr c_Hd.xs (Sp.ddT c_Pl.xs c_Sh.xs c_Ti.xs c_St.xs c_Ce c_Hd.xs c_Rt.xs a_y.xs a_bd) = Zf)) (Pre (Sp.RfOk c_Hd.xs c_Rt.xs (Sp.ddA c_Pl.xs c_Sh.xs c_Ti.xs c_St.xs c_Ce c_Hd.xs c_Rt.xs a_y.xs a_bd) /\ Sp.RfOk c_Hd.xs c_Rt.xs (Sp.ddB c_Pl.xs c_Sh.xs c_Ti.xs c_St.xs c_Ce c_Hd.xs c_Rt.xs a_y.xs a_bd) /\ Sp.TrOk c_Hd.xs (Sp.ddT c_Pl.xs c_Sh.xs c_Ti.xs c_St.xs c_Ce c_Hd.xs c_Rt.xs a_y.xs a_bd)) (Vif (decide (a_bd < Sp.far c_Hd.xs c_Rt.xs (Sp.ddA c_Pl.xs c_Sh.xs c_Ti.xs c_St.xs c_Ce c_Hd.xs c_Rt.xs a_y.xs a_bd).toNat (Sp.ddB c_Pl.xs c_Sh.xs c_Ti.xs c_St.xs c_Ce c_Hd.xs c_Rt.xs a_y.xs a_bd).toNat (Sp.ddT c_Pl.xs c_Sh.xs c_Ti.xs c_St.xs c_Ce c_Hd.xs c_Rt.xs a_y.xs a_bd))) (Pre True (Q [[Cl.b true]])) (Q Zee))) (Q Zee))) (Q Zee)) (Q Zee)))))))))))
theorem Xd (W : InW) (c_Pl c_Sh c_Ti c_St c_Ce c_Hd c_Rt a_y a_bd x Q) : Ybh (cxT Try.prog TT TH9c 1000 50) 1000 9 [.agg [.rs _ c_Pl, .rs _ c_Sh, .rs _ c_Ti, .rs _ c_St, .si .i64 c_Ce, .rs _ c_Hd, .rs _ c_Rt], .agg [.rs _ a_y, .si .i64 a_bd], .rs _ x] [] 0 (Ybj [(false, [.bool])] Q) (fun _ _ _ _ => Stuck 421) = Xb c_Pl c_Sh c_Ti c_St c_Ce c_Hd c_Rt a_y a_bd x Q := by kernel_rfl
abbrev Xa : List AT := [.agg [.sl Jb, .sl Jb, .sl Jb, .sl Jd, .int .i64, .sl Iv4, .sl Je], .agg [.sl Ja, .int .i64], .one (.sl [.int .u8])]
theorem Xe {pre : DS -> Prop} {res : DS -> DS} (hyp_ : ∀ (W : InW) (c_Pl c_Sh c_Ti : Ro Jb) (c_St : Ro Jd) (c_Ce : Int) (c_Hd : Ro Iv4) (c_Rt : Ro Je) (a_y : Ro Ja) (a_bd : Int) (x : Ro [.int .u8]), pre [[.l c_Pl.xs, .l c_Sh.xs, .l c_Ti.xs, .l c_St.xs, .i c_Ce, .l c_Hd.xs, .l c_Rt.xs], [.l a_y.xs, .i a_bd], [.l x.xs]] -> ∀ Q : DS -> Prop, Q (res [[.l c_Pl.xs, .l c_Sh.xs, .l c_Ti.xs, .l c_St.xs, .i c_Ce, .l c_Hd.xs, .l c_Rt.xs], [.l a_y.xs, .i a_bd], [.l x.xs]]) -> Xb c_Pl c_Sh c_Ti c_St c_Ce c_Hd c_Rt a_y a_bd x Q) : PureOk Try.prog 9 Xa [(false, [.bool])] pre res :=
 PureOk.of' (fun W => @TT W) (fun W => @Yo W) Yd TH9c 1000 50 fun W c_Pl c_Sh c_Ti c_St c_Ce c_Hd c_Rt a_y a_bd x hp =>
  (Xd W c_Pl c_Sh c_Ti c_St c_Ce c_Hd c_Rt a_y a_bd x (fun o => o = res [[.l c_Pl.xs, .l c_Sh.xs, .l c_Ti.xs, .l c_St.xs, .i c_Ce, .l c_Hd.xs, .l c_Rt.xs], [.l a_y.xs, .i a_bd], [.l x.xs]])).mpr (hyp_ W c_Pl c_Sh c_Ti c_St c_Ce c_Hd c_Rt a_y a_bd x hp _ rfl)
theorem Xc : PureOk Try.prog 9 Xa [(false, [.bool])] (WfD Xa) fun _ => [[.b true]] :=
 Xe fun W pl sh ti st ce hd rt y bd x hp Q h => by
  obtain ⟨d, ds, e1, hp1, hp2⟩ := hp;cases e1;have hn := Ybe9 hp1;unfold Xb;delta Zej Zg Zek Zee Zf;have hx : WfC (.sl [.int .u8]) (.l x.xs) := by
   obtain ⟨d, ds, e2, hp3, hp4⟩ := hp2;cases e2;obtain ⟨d, ds, e3, hp5, hp6⟩ := hp4;cases e3;cases hp5 with
   | cons h1 h2 => exact h1
  by_cases hdb : Sp.dbE pl.xs sh.xs ti.xs st.xs ce hd.xs rt.xs y.xs bd = 0
  ·obtain ⟨hce, ln, ls, bd0⟩ := Xx hdb;have hC := Sp.cchk_ok hce;have tf := tf_ok hC hx;have tr := tf_tr tf;have hR : Sp.RdB pl.xs sh.xs ti.xs st.xs ce hd.xs rt.xs y.xs := ⟨hC, ls, by omega⟩;refine Ybo hn (vifn (fun g => absurd hdb g) fun _ => Ybo hn (vifn (fun g => absurd hce g) fun _ => vifd (fun g => by omega) fun _ => Ybo tf (Ybo ⟨⟨hR, tr⟩, by omega, by omega⟩ ?_)));simp only [show Int.toNat 0 = 0 from rfl, Nat.sub_zero];unfold Sp.ddA Sp.ddB Sp.ddT;rw [if_pos hdb, if_pos hdb, if_pos hdb];unfold Sp.dbA Sp.dbB Sp.dbT;cases hh : Sp.hasD hd.xs rt.xs y.xs bd 0 y.xs.length with
   | false =>
    rw [if_neg (by decide), if_neg (by decide), if_neg (by decide)];refine vifd (fun _ => vifd (fun _ => vifd (fun _ => vifd (fun _ => ?_) fun g => absurd rfl g) fun g => absurd rfl g) fun g => absurd rfl g) fun g => by omega
    rw [Sp.fdF_ff fun j _ h2 k h3 => Int.le_trans (Sp.far_most hC.hdO tr) (Sp.hasD_ff hh k (by omega) j h3 (by omega))];exact vifb (fun _ => Ybo trivial h) fun g => absurd g (by decide)
   | true =>
    rw [if_pos rfl, if_pos rfl, if_pos rfl];obtain ⟨x0, x1, x2, x3⟩ := Sp.hasD_ix hh;generalize Sp.ixD hd.xs rt.xs y.xs bd 0 y.xs.length = ij at *;obtain ⟨i, j⟩ := ij;dsimp only at *;have a0 := ls.at0 i (by omega);have a1 := ls.at1 i (by omega);have b0 := ls.at0 j (by omega);have b1 := ls.at1 j (by omega);obtain ⟨w1, w2⟩ := Sp.worst_far (rt := rt.xs) (a := Sp.rI y.xs i) (b := Sp.rI y.xs j) hC.hdO;have nn := Sp.nmd_two (l := y.xs) x1 rfl rfl y.xs.length 0 0 (by omega) (by omega);have ne : (cel y.xs i 0).int ≠ (cel y.xs j 0).int := fun g => by
     have : Sp.rI y.xs i = Sp.rI y.xs j := by unfold Sp.rI; rw [g]
     rw [this, Sp.most_self] at x3;omega
    refine vifd (fun g => by omega) fun _ => vifd (fun g => by omega) fun _ => Ybo ⟨ln, by omega, by omega, by omega, by omega⟩ (vifd (fun _ => ?_) fun g => by omega);refine vifn (fun _ => Ybo trivial (vifd (fun _ => Ybo ⟨Ypg hC a0 a1, Ypg hC b0 b1, w1⟩ (vifd (fun _ => Ybo trivial h) fun g => ?_)) fun g => absurd (Sp.trErr_ok.2 w1) g)) fun g => absurd g ne;exact absurd (show bd < Sp.far hd.xs rt.xs (Sp.rI y.xs i) (Sp.rI y.xs j) _ by rw [w2]; exact x3) g
  ·have e0 : Sp.ddT pl.xs sh.xs ti.xs st.xs ce hd.xs rt.xs y.xs bd = [] := by unfold Sp.ddT; rw [if_neg hdb]
   refine Ybo hn (vifn (fun _ => vifn (fun _ => vifd (fun _ => Ybo trivial h) fun g => ?_) fun g => absurd g hdb) fun g => absurd g hdb);rw [e0] at g;exact absurd rfl g
end Go.Proofs.Ytmogofidmchdoaa
namespace Go.Proofs.Ytmogofidmchdoaa.courseDoubts
open Go.ChangeShapes Go.WideShapes Go.ChangeAt Go.RowKit
set_option maxRecDepth 100000
theorem own : ownKnob Try.prog.godebug = none := by kernel_rfl
theorem laid : laidOutB Try.prog = true := by kernel_rfl
theorem lifted (os : Os) (started : os.Started) (H : Type) (enc : TypeId × Value -> H) :
  ReturnsInHanded {} Try.checked os 9 .any (Rows.courseDoubtsSpec.pre6 enc Try.prog Try.f9 Rows.courseDoubtsRow.domain false) (Rows.courseDoubtsSpec.post enc Try.prog Try.f9 false true false false) := by
 refine returnsInHanded_of_change (C := Try.checked) own started (by kernel_rfl) Try.func9
  (ChangeSpec.witness6 (enc := enc) (C := Try.checked) false ⟨#[], #[(.agg #[.slice none 0 0, .slice none 0 0, .slice none 0 0, .slice none 0 0, .int .i64 0, .slice none 0 0, .slice none 0 0]), (.agg #[.slice none 0 0, .int .i64 0]), (.slice none 0 0)], []⟩ 8 (by kernel_rfl) (by kernel_rfl) (by kernel_rfl) (by kernel_rfl)) ?_
 intro W base args ds gs before hval hW _ _;exact law_end (f := Try.f9) (s := Rows.courseDoubtsSpec) (by kernel_rfl) Try.underlying4 (by kernel_rfl) rfl laid (by kernel_rfl)
  (fun ds h => by match ds, (show ds.length = 3 from h) with | [_, _, _], _ => exact ⟨rfl, rfl, rfl⟩) Xc hval hW
theorem over : Rows.courseDoubtsRow.holds Try.pinned (OpenSpec.ofChange Rows.courseDoubtsSpec) :=
 OpenClaim.holds_of_wide 9 Try.f9 rfl rfl rfl rfl rfl rfl rfl ⟨rfl, rfl, rfl, rfl, rfl⟩ rfl rfl rfl rfl rfl (by kernel_rfl) Try.func9 (by kernel_rfl)
  (of_decide_eq_true (by kernel_rfl)) (by unfold Func.isWrapper; first | (rw [if_pos (by decide +kernel)]; kernel_rfl) | (rw [if_neg (by decide +kernel)]; exact ⟨rfl, rfl⟩))
  (fun os started H enc _ => lifted os started H enc)
theorem proved : Rows.CourseDoubtsSaid := over
end Go.Proofs.Ytmogofidmchdoaa.courseDoubts
