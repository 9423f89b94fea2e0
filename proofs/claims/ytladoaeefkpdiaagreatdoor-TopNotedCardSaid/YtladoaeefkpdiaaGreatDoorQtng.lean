/-
  'TopNoted', the tied card: for every input the law returns true, and what is handed in reads as before.
-/
import Derived.Test.YtladoaeefkpdiaaGreatDoorQtnf
import Derived.Test.YtladoaeefkpdiaaGreatDoorCards
import Derived.Test.YtladoaeefkpdiaaGreatDoorTie
import Derived.WalkKit
import Derived.ProofKit
import Derived.Deep.DeepWitnessRowRef
import Derived.LaidMore
set_option linter.unusedVariables false
set_option linter.unusedSectionVars false
set_option linter.unusedSimpArgs false
noncomputable section
namespace Go.Proofs.YtladoaeefkpdiaaGreatDoor
def Xkg : PC Tryz.prog := ⟨6, [], [(false, [.bool])], fun _ => True, fun _ => [[.b true]], Y3b ok_M2 rfl rfl rfl fun _ _ _ => rfl⟩
def Xjf : PC Tryz.prog := ⟨7, [], [(false, [.bool])], fun _ => True, fun _ => [[.b true]], Y3b Xta rfl rfl rfl fun _ _ _ => rfl⟩
open Go.RowKit
set_option maxRecDepth 100000
set_option maxHeartbeats 3200000
def Tq1 : Tab Tryz.prog := ⟨[Xck], [], []⟩
namespace Tt
def kpA (fs te lo : Dt) : Dt := kpD fs te lo 0 te.length
def totA (fs l : Dt) : Int := tot fs l 0 l.length
def gvA (p : Int) : Int := max 0 (1000 - 4 * p)
def tnF (fs l : Dt) : Nat -> Nat -> Int -> Int
 | _, 0, a => a
 | i, n + 1, a => tnF fs l (i + 1) n (min a (tot fs (cel l i 0).lst 0 (cel l i 0).lst.length))
def tnM (fs l : Dt) : Nat -> Nat -> Int -> Int
 | _, 0, a => a
 | i, n + 1, a => tnM fs l (i + 1) n (max a (tot fs (cel l i 0).lst 0 (cel l i 0).lst.length))
end Tt
namespace Tt
structure LsOk (l : Dt) : Prop where
 r : ∀ a, a < l.length -> LOk (cel l a 0).lst
end Tt
def Xmn [InW] (e : List Ed) (K : Nat -> List Ed -> Prop) : Prop := match e with
 | [.i few, .i most, .i i, .ro _ fs, .ro _ ms, .i all, .l l] => Pre (0 <= i /\ i <= l.length /\ Tt.FOk fs.xs /\ Tt.LsOk l /\ l.length <= 282429536481 /\ (0 <= few /\ few <= 240) /\ (0 <= most /\ most <= 240)) (Ar .i64 (Tt.tnF fs.xs l i.toNat (l.length - i.toNat) few) fun a => Ar .i64 (Tt.tnM fs.xs l i.toNat (l.length - i.toNat) most) fun b => K 0 [.i a, .i b])
 | _ => False
def Xnh : LC where
 len := 208
 T := [(4, (.ptr 1 0)), (18, (.row 7)), (19, .int .i64), (20, .int .i64), (21, .int .i64)]
 H := [(1, .blk 29 [.rs Jb, .rs Jd, .int .i64]), (7, .nst 41 [.sl Jc])]
 W := ([22] ++ rgg 101 18)
 outs := [⟨.exit 0, [(19, .int .i64), (20, .int .i64)], [], ([4, 18, 21, 22] ++ rgg 101 18)⟩]
 spec := Xmn
def Xlu [W : InW] (few most i : Int) (fs : Ro Jb) (ms : Ro Jd) (all : Int) (l : Dt) (A : List Ed -> Prop) (K : Nat -> List Ed -> Prop) : Prop :=
 Vif (decide (i < (↑(l.length) : Int))) (Need (decide (0 <= i) && decide (i < (↑(l.length) : Int))) (Need (decide (i.toNat < l.length)) (Pre (Tt.FOk fs.xs /\ Tt.LOk (cel l i.toNat Zh).lst) (Ar .i64 (i + 1) fun z => A [.i (min few (Tt.tot fs.xs (cel l i.toNat Zh).lst Zh (List.length (cel l i.toNat Zh).lst))), .i (max most (Tt.tot fs.xs (cel l i.toNat Zh).lst Zh (List.length (cel l i.toNat Zh).lst))), .i z, .ro _ fs, .ro _ ms, .i all, .l l])))) (K 0 [.i few, .i most])
theorem Xre (W : InW) (few most i fs ms all l A K) : Ygb { cxT Tryz.prog TT Tq1 1000 50 with fn := 3 } 1000 (Ypx Tryz.prog 3 14) (Yeo 208 [(4, .ptr 1 0), (18, .rw 7), (19, .si .i64 few), (20, .si .i64 most), (21, .si .i64 i)] ([22] ++ rgg 101 18)) [(1, .blk 29 [.rs _ fs, .rs _ ms, .si .i64 all]), (7, .nst 41 [.sl Jc] l)] (Yw5 Xnh A K) = Xlu few most i fs ms all l A K := by kernel_rfl
def Xkn : Prop := ∀ (W : InW) (body a : Code), (Tryz.prog.funcs[3]?).bind (·.body) = some body -> a ∈ Y1 body -> Yg1 a = 14 -> @Yod W Tryz.prog a (@Yv5 W Xnh)
theorem Xsm (meas : [InW] -> List Ed -> Nat) (hyp_ : ∀ (W : InW) few most i fs ms all l K, Xmn [.i few, .i most, .i i, .ro _ fs, .ro _ ms, .i all, .l l] K -> ∀ A : List Ed -> Prop, (∀ e, meas e < meas [.i few, .i most, .i i, .ro _ fs, .ro _ ms, .i all, .l l] -> Xmn e K -> A e) -> Xlu few most i fs ms all l A K) : Xkn :=
 LE.okOf' (fun W => @TT W) (fun W => @Xc W) Xa Tq1 1000 50 (by kernel_rfl) Xnh (fun W => @meas W) fun W few most i fs ms all l K hs =>
  (Xre W few most i fs ms all l (fun e => meas e < meas [.i few, .i most, .i i, .ro _ fs, .ro _ ms, .i all, .l l] /\ Xmn e K) K).mpr (hyp_ W few most i fs ms all l K hs _ fun e h1 h2 => ⟨h1, h2⟩)
theorem okLtn : Xkn := Xsm (fun e => match e with | [_, _, .i i, _, _, _, .l l] => ((l.length : Int) - i).toNat | _ => 0) fun W few most i fs ms all l K hs A hA => by
 obtain ⟨⟨h0, h1, hf, hL, hn, b1, b2⟩, hk⟩ := hs;unfold Xlu;delta Zh
 by_cases hi : i < l.length
 ·have hl := hL.r i.toNat (by omega);have hb := Xc2 (l := (cel l i.toNat 0).lst) hf (cel l i.toNat 0).lst.length 0 fun k _ hk => hl.w k (by omega);have hn12 := hl.n;rw [show l.length - i.toNat = (l.length - (i.toNat + 1)) + 1 by omega] at hk;simp only [Tt.tnF, Tt.tnM] at hk;generalize Tt.tot fs.xs (cel l i.toNat 0).lst 0 (cel l i.toNat 0).lst.length = v at *;have go := hA [.i (min few v), .i (max most v), .i (i + 1), .ro _ fs, .ro _ ms, .i all, .l l] (by show ((l.length : Int) - (i + 1)).toNat < ((l.length : Int) - i).toNat; omega) ⟨⟨by omega, by omega, hf, hL, hn, by omega, by omega⟩, by rw [show (i + 1).toNat = i.toNat + 1 by omega]; exact hk⟩;clear hA hk;exact vifd (fun _ => ned (by simp only [Bool.and_eq_true, decide_eq_true_eq]; omega) (nedd (by omega) (Xb ⟨hf, hl⟩ (ar64 (by omega) go)))) fun x => absurd hi x
 ·rw [show l.length - i.toNat = 0 by omega] at hk;simp only [Tt.tnF, Tt.tnM] at hk;obtain ⟨⟨hk⟩⟩ := hk;rw [IntWalk.i64_in few (by omega), IntWalk.i64_in most (by omega)] at hk;exact vifd (fun e => by omega) fun _ => hk
theorem Xr1 {fs l : Dt} (hf : Tt.FOk fs) (hL : ∀ a, a < l.length -> Tt.LOk (cel l a 0).lst) : ∀ n i a b, i + n <= l.length -> 0 <= a -> b <= 240 -> (0 <= Tt.tnF fs l i n a /\ Tt.tnF fs l i n a <= a) /\ b <= Tt.tnM fs l i n b /\ Tt.tnM fs l i n b <= 240
 | 0, i, a, b, _, h1, h2 => ⟨⟨h1, Int.le_refl _⟩, Int.le_refl _, h2⟩
 | n + 1, i, a, b, hi, h1, h2 => by
  have hl := hL i (by omega);have hb := Xc2 (l := (cel l i 0).lst) hf (cel l i 0).lst.length 0 fun k _ hk => hl.w k (by omega);have hn12 := hl.n;rw [Tt.tnF, Tt.tnM];generalize Tt.tot fs (cel l i 0).lst 0 (cel l i 0).lst.length = v at *;have := Xr1 hf hL n (i + 1) (min a v) (max b v) (by omega) (by omega) (by omega);omega
def le_tn : LE Tryz.prog := ⟨3, 14, fun W => @Yv5 W Xnh, okLtn⟩
abbrev Xmo (ds : DS) : DS := match ds with | [[.l fs, .l ms, .i all], [.l te], [.l lo]] => [[.i te.length, .l (Tt.kpA fs te lo)], [.i 0]] | _ => []
def Xpl : PC Tryz.prog := ⟨10, Xcu, Xgn, Xj9, Xmo, Xsn⟩
abbrev Xmp (ds : DS) : DS := match ds with | [[.l fs, .l ms, .i all], [.l l]] => [[.i (Tt.totA fs l)], [.b (Tt.psd fs ms all (Tt.tly l))], [.i 0]] | _ => []
def Xpm : PC Tryz.prog := ⟨9, Xed, [(false, [.int .i64]), (false, [.bool]), (false, [.int .i64])], Xci, Xmp, okjdg⟩
abbrev Xmq (ds : DS) : DS := match ds with | [[.i p]] => [[.i (Tt.gvA p)]] | _ => []
def Xpn : PC Tryz.prog := ⟨16, Xef, [(false, [.int .i64])], Xka, Xmq, okgiv⟩
def Tq4 : Tab Tryz.prog := ⟨[Xmv, pc_rc, Xpk, Xpm, Xpl, Xr7, Xnr, Xr6, Xck, Xpn, Xkf, Xkg, Xjf], [le_tn], []⟩
def Zw := [[Cl.b false]]
def Zt [W : InW] (Q : DS -> Prop) := Pre True (Vif true (Pre True (Q [[Cl.b true]])) (Q Zw))
def Zu [W : InW] (s_Instrs : Ro Jb) := (↑(s_Instrs.xs.length) : Int)
def Zy [W : InW] (c_Fs : Ro Jb) (c_Ms : Ro Jd) (x_Lines : Int) (x_What : Ro [.int .u8]) := Tt.wTe c_Fs.xs c_Ms.xs x_What.xs x_Lines
def Zv [W : InW] (c_Fs : Ro Jb) (c_Ms : Ro Jd) (x_Lines : Int) (x_What : Ro [.int .u8]) (x_Lost : Int) := Tt.tstD c_Fs.xs c_Ms.xs (Tt.kpA c_Fs.xs (Zy c_Fs c_Ms x_Lines x_What) (Tt.wLo x_Lines x_Lost)) (↑(List.length (Zy c_Fs c_Ms x_Lines x_What)) : Int)
def Zx [W : InW] (c_Fs : Ro Jb) (c_Ms : Ro Jd) (x_Lines : Int) (x_What : Ro [.int .u8]) := Tt.gvA (Tt.totA c_Fs.xs (Zy c_Fs c_Ms x_Lines x_What))
def Xbl [W : InW] (s_Skills : Ro Ja) (s_Instrs c_Fs : Ro Jb) (c_Ms : Ro Jd) (c_All x_Lines : Int) (x_What : Ro [.int .u8]) (x_Lost x_Ins : Int) (Q : DS -> Prop) : Prop :=
 Pre (Sp.NamesOk s_Skills.xs /\ Sp.NamesOk s_Instrs.xs) (Pre (Sp.NamesOk c_Fs.xs /\ Sp.NamesOk c_Ms.xs) (Vif (!decide (Sp.chkE s_Skills.xs s_Instrs.xs = 0)) (Zt Q) (Vif (!decide (Tt.chkE c_Fs.xs c_Ms.xs c_All = 0)) (Zt Q) (Vif (decide ((Zu s_Instrs) = 0)) (Zt Q) (Pre ((1 : Nat) <= c_Fs.xs.length /\ c_Fs.xs.length <= 6 /\ c_Ms.xs.length <= 3 /\ Tt.DrOk x_Lines x_What.xs x_Lost) (Pre (Tt.CodeOk c_Fs.xs c_Ms.xs c_All /\ Tt.TestOk c_Fs.xs c_Ms.xs (Zy c_Fs c_Ms x_Lines x_What)) (Pre (Tt.CodeOk c_Fs.xs c_Ms.xs c_All /\ Tt.TestOk c_Fs.xs c_Ms.xs (Zy c_Fs c_Ms x_Lines x_What) /\ Tt.RsOk (Tt.wLo x_Lines x_Lost) (List.length (Zy c_Fs c_Ms x_Lines x_What))) (Vif (!decide (Ze = 0)) (Q Zw) (Vif (!decide (Ze = 0)) (Q Zw) (Pre (c_Fs.xs.length <= 6 /\ c_Ms.xs.length <= 3 /\ Tt.ShOk c_Fs.xs c_Ms.xs (Tt.kpA c_Fs.xs (Zy c_Fs c_Ms x_Lines x_What) (Tt.wLo x_Lines x_Lost)) (↑(List.length (Zy c_Fs c_Ms x_Lines x_What)) : Int)) (Vif (!decide (Ze = 0)) (Q Zw) (Pre (Tt.FOk c_Fs.xs /\ Tt.LOk (Zy c_Fs c_Ms x_Lines x_What) /\ Tt.FtOk (Tt.kpA c_Fs.xs (Zy c_Fs c_Ms x_Lines x_What) (Tt.wLo x_Lines x_Lost)) (↑(List.length (Zy c_Fs c_Ms x_Lines x_What)) : Int)) (Vif (!Tt.fitB c_Fs.xs (Tt.kpA c_Fs.xs (Zy c_Fs c_Ms x_Lines x_What) (Tt.wLo x_Lines x_Lost)) (Zy c_Fs c_Ms x_Lines x_What) (↑(List.length (Zy c_Fs c_Ms x_Lines x_What)) : Int)) (Q Zw) (Pre (Tt.FOk c_Fs.xs /\ c_Ms.xs.length <= 3 /\ Tt.FtOk (Tt.kpA c_Fs.xs (Zy c_Fs c_Ms x_Lines x_What) (Tt.wLo x_Lines x_Lost)) (↑(List.length (Zy c_Fs c_Ms x_Lines x_What)) : Int) /\ Tt.WhOk (Tt.kpA c_Fs.xs (Zy c_Fs c_Ms x_Lines x_What) (Tt.wLo x_Lines x_Lost)) /\ (1 : Int) <= (↑(List.length (Zy c_Fs c_Ms x_Lines x_What)) : Int) /\ (↑(List.length (Zy c_Fs c_Ms x_Lines x_What)) : Int) <= 12) (Pre (Ze <= 0 /\ Ze <= (↑(List.length (Zv c_Fs c_Ms x_Lines x_What x_Lost)) : Int) /\ Tt.FOk c_Fs.xs /\ Tt.LsOk (Zv c_Fs c_Ms x_Lines x_What x_Lost) /\ List.length (Zv c_Fs c_Ms x_Lines x_What x_Lost) <= 282429536481 /\ (Ze <= Tt.totA c_Fs.xs (Zy c_Fs c_Ms x_Lines x_What) /\ Tt.totA c_Fs.xs (Zy c_Fs c_Ms x_Lines x_What) <= 240) /\ Ze <= Tt.totA c_Fs.xs (Zy c_Fs c_Ms x_Lines x_What) /\ Tt.totA c_Fs.xs (Zy c_Fs c_Ms x_Lines x_What) <= 240) (Ar .i64 (Tt.tnF c_Fs.xs (Zv c_Fs c_Ms x_Lines x_What x_Lost) Zk (List.length (Zv c_Fs c_Ms x_Lines x_What x_Lost) - Int.toNat Ze) (Tt.totA c_Fs.xs (Zy c_Fs c_Ms x_Lines x_What))) fun z => Ar .i64 (Tt.tnM c_Fs.xs (Zv c_Fs c_Ms x_Lines x_What x_Lost) Zk (List.length (Zv c_Fs c_Ms x_Lines x_What x_Lost) - Int.toNat Ze) (Tt.totA c_Fs.xs (Zy c_Fs c_Ms x_Lines x_What))) fun z_1 => Vif (decide (Tt.totA c_Fs.xs (Zy c_Fs c_Ms x_Lines x_What) < 0)) (Q Zw) (Vif (decide (240 < z_1)) (Q Zw) (Ar .i64 x_Ins fun z_2 => Need (!decide ((Zu s_Instrs) = 0)) (Pre (Ze <= Tt.totA c_Fs.xs (Zy c_Fs c_Ms x_Lines x_What) /\ Tt.totA c_Fs.xs (Zy c_Fs c_Ms x_Lines x_What) <= 240) (Pre True (Pre (0 <= z_1 /\ z_1 <= 240) (Pre True (Pre (0 <= z /\ z <= 240) (Pre True (Vif (decide (Sp.bdE s_Skills.xs s_Instrs.xs (z_2.tmod (Zu s_Instrs)) (Zx c_Fs c_Ms x_Lines x_What) = 0)) (Vif (decide (Sp.bdE s_Skills.xs s_Instrs.xs (z_2.tmod (Zu s_Instrs)) (Tt.gvA z_1) = 0)) (Vif (decide (Sp.bdLo s_Skills.xs s_Instrs.xs (z_2.tmod (Zu s_Instrs)) (Zx c_Fs c_Ms x_Lines x_What) < Sp.bdLo s_Skills.xs s_Instrs.xs (z_2.tmod (Zu s_Instrs)) (Tt.gvA z_1))) (Q Zw) (Vif (decide (Sp.bdE s_Skills.xs s_Instrs.xs (z_2.tmod (Zu s_Instrs)) (Tt.gvA z) = 0)) (Vif (decide (Sp.bdHi s_Skills.xs s_Instrs.xs (z_2.tmod (Zu s_Instrs)) (Tt.gvA z) < Sp.bdHi s_Skills.xs s_Instrs.xs (z_2.tmod (Zu s_Instrs)) (Zx c_Fs c_Ms x_Lines x_What))) (Q Zw) (Vif (decide (Sp.bdE s_Skills.xs s_Instrs.xs (z_2.tmod (Zu s_Instrs)) (Zx c_Fs c_Ms x_Lines x_What) = 0)) (Vif (decide (Sp.bdE s_Skills.xs s_Instrs.xs (z_2.tmod (Zu s_Instrs)) (Tt.gvA z_1) = 0)) (Vif (decide (Sp.bdE s_Skills.xs s_Instrs.xs (z_2.tmod (Zu s_Instrs)) (Tt.gvA z) = 0)) (Zt Q) (Vif (decide (Sp.bdE s_Skills.xs s_Instrs.xs (z_2.tmod (Zu s_Instrs)) (Tt.gvA z) = 9)) (Zt Q) (Q Zw))) (Vif (decide (Sp.bdE s_Skills.xs s_Instrs.xs (z_2.tmod (Zu s_Instrs)) (Tt.gvA z_1) = 9)) (Vif (decide (Sp.bdE s_Skills.xs s_Instrs.xs (z_2.tmod (Zu s_Instrs)) (Tt.gvA z) = 0)) (Zt Q) (Vif (decide (Sp.bdE s_Skills.xs s_Instrs.xs (z_2.tmod (Zu s_Instrs)) (Tt.gvA z) = 9)) (Zt Q) (Q Zw))) (Q Zw))) (Vif (decide (Sp.bdE s_Skills.xs s_Instrs.xs (z_2.tmod (Zu s_Instrs)) (Zx c_Fs c_Ms x_Lines x_What) = 9)) (Vif (decide (Sp.bdE s_Skills.xs s_Instrs.xs (z_2.tmod (Zu s_Instrs)) (Tt.gvA z_1) = 0)) (Vif (decide (Sp.bdE s_Skills.xs s_Instrs.xs (z_2.tmod (Zu s_Instrs)) (Tt.gvA z) = 0)) (Zt Q) (Vif (decide (Sp.bdE s_Skills.xs s_Instrs.xs (z_2.tmod (Zu s_Instrs)) (Tt.gvA z) = 9)) (Zt Q) (Q Zw))) (Vif (decide (Sp.bdE s_Skills.xs s_Instrs.xs (z_2.tmod (Zu s_Instrs)) (Tt.gvA z_1) = 9)) (Vif (decide (Sp.bdE s_Skills.xs s_Instrs.xs (z_2.tmod (Zu s_Instrs)) (Tt.gvA z) = 0)) (Zt Q) (Vif (decide (Sp.bdE s_Skills.xs s_Instrs.xs (z_2.tmod (Zu s_Instrs)) (Tt.gvA z) = 9)) (Zt Q) (Q Zw))) (Q Zw))) (Q Zw)))) (Vif (decide (Sp.bdE s_Skills.xs s_Instrs.xs (z_2.tmod (Zu s_Instrs)) (Zx c_Fs c_Ms x_Lines x_What) = 0)) (Vif (decide (Sp.bdE s_Skills.xs s_Instrs.xs (z_2.tmod (Zu s_Instrs)) (Tt.gvA z_1) = 0)) (Vif (decide (Sp.bdE s_Skills.xs s_Instrs.xs (z_2.tmod (Zu s_Instrs)) (Tt.gvA z) = 0)) (Zt Q) (Vif (decide (Sp.bdE s_Skills.xs s_Instrs.xs (z_2.tmod (Zu s_Instrs)) (Tt.gvA z) = 9)) (Zt Q) (Q Zw))) (Vif (decide (Sp.bdE s_Skills.xs s_Instrs.xs (z_2.tmod (Zu s_Instrs)) (Tt.gvA z_1) = 9)) (Vif (decide (Sp.bdE s_Skills.xs s_Instrs.xs (z_2.tmod (Zu s_Instrs)) (Tt.gvA z) = 0)) (Zt Q) (Vif (decide (Sp.bdE s_Skills.xs s_Instrs.xs (z_2.tmod (Zu s_Instrs)) (Tt.gvA z) = 9)) (Zt Q) (Q Zw))) (Q Zw))) (Vif (decide (Sp.bdE s_Skills.xs s_Instrs.xs (z_2.tmod (Zu s_Instrs)) (Zx c_Fs c_Ms x_Lines x_What) = 9)) (Vif (decide (Sp.bdE s_Skills.xs s_Instrs.xs (z_2.tmod (Zu s_Instrs)) (Tt.gvA z_1) = 0)) (Vif (decide (Sp.bdE s_Skills.xs s_Instrs.xs (z_2.tmod (Zu s_Instrs)) (Tt.gvA z) = 0)) (Zt Q) (Vif (decide (Sp.bdE s_Skills.xs s_Instrs.xs (z_2.tmod (Zu s_Instrs)) (Tt.gvA z) = 9)) (Zt Q) (Q Zw))) (Vif (decide (Sp.bdE s_Skills.xs s_Instrs.xs (z_2.tmod (Zu s_Instrs)) (Tt.gvA z_1) = 9)) (Vif (decide (Sp.bdE s_Skills.xs s_Instrs.xs (z_2.tmod (Zu s_Instrs)) (Tt.gvA z) = 0)) (Zt Q) (Vif (decide (Sp.bdE s_Skills.xs s_Instrs.xs (z_2.tmod (Zu s_Instrs)) (Tt.gvA z) = 9)) (Zt Q) (Q Zw))) (Q Zw))) (Q Zw))))) (Vif (decide (Sp.bdE s_Skills.xs s_Instrs.xs (z_2.tmod (Zu s_Instrs)) (Tt.gvA z) = 0)) (Vif (decide (Sp.bdHi s_Skills.xs s_Instrs.xs (z_2.tmod (Zu s_Instrs)) (Tt.gvA z) < Sp.bdHi s_Skills.xs s_Instrs.xs (z_2.tmod (Zu s_Instrs)) (Zx c_Fs c_Ms x_Lines x_What))) (Q Zw) (Vif (decide (Sp.bdE s_Skills.xs s_Instrs.xs (z_2.tmod (Zu s_Instrs)) (Zx c_Fs c_Ms x_Lines x_What) = 0)) (Vif (decide (Sp.bdE s_Skills.xs s_Instrs.xs (z_2.tmod (Zu s_Instrs)) (Tt.gvA z_1) = 0)) (Vif (decide (Sp.bdE s_Skills.xs s_Instrs.xs (z_2.tmod (Zu s_Instrs)) (Tt.gvA z) = 0)) (Zt Q) (Vif (decide (Sp.bdE s_Skills.xs s_Instrs.xs (z_2.tmod (Zu s_Instrs)) (Tt.gvA z) = 9)) (Zt Q) (Q Zw))) (Vif (decide (Sp.bdE s_Skills.xs s_Instrs.xs (z_2.tmod (Zu s_Instrs)) (Tt.gvA z_1) = 9)) (Vif (decide (Sp.bdE s_Skills.xs s_Instrs.xs (z_2.tmod (Zu s_Instrs)) (Tt.gvA z) = 0)) (Zt Q) (Vif (decide (Sp.bdE s_Skills.xs s_Instrs.xs (z_2.tmod (Zu s_Instrs)) (Tt.gvA z) = 9)) (Zt Q) (Q Zw))) (Q Zw))) (Vif (decide (Sp.bdE s_Skills.xs s_Instrs.xs (z_2.tmod (Zu s_Instrs)) (Zx c_Fs c_Ms x_Lines x_What) = 9)) (Vif (decide (Sp.bdE s_Skills.xs s_Instrs.xs (z_2.tmod (Zu s_Instrs)) (Tt.gvA z_1) = 0)) (Vif (decide (Sp.bdE s_Skills.xs s_Instrs.xs (z_2.tmod (Zu s_Instrs)) (Tt.gvA z) = 0)) (Zt Q) (Vif (decide (Sp.bdE s_Skills.xs s_Instrs.xs (z_2.tmod (Zu s_Instrs)) (Tt.gvA z) = 9)) (Zt Q) (Q Zw))) (Vif (decide (Sp.bdE s_Skills.xs s_Instrs.xs (z_2.tmod (Zu s_Instrs)) (Tt.gvA z_1) = 9)) (Vif (decide (Sp.bdE s_Skills.xs s_Instrs.xs (z_2.tmod (Zu s_Instrs)) (Tt.gvA z) = 0)) (Zt Q) (Vif (decide (Sp.bdE s_Skills.xs s_Instrs.xs (z_2.tmod (Zu s_Instrs)) (Tt.gvA z) = 9)) (Zt Q) (Q Zw))) (Q Zw))) (Q Zw)))) (Vif (decide (Sp.bdE s_Skills.xs s_Instrs.xs (z_2.tmod (Zu s_Instrs)) (Zx c_Fs c_Ms x_Lines x_What) = 0)) (Vif (decide (Sp.bdE s_Skills.xs s_Instrs.xs (z_2.tmod (Zu s_Instrs)) (Tt.gvA z_1) = 0)) (Vif (decide (Sp.bdE s_Skills.xs s_Instrs.xs (z_2.tmod (Zu s_Instrs)) (Tt.gvA z) = 0)) (Zt Q) (Vif (decide (Sp.bdE s_Skills.xs s_Instrs.xs (z_2.tmod (Zu s_Instrs)) (Tt.gvA z) = 9)) (Zt Q) (Q Zw))) (Vif (decide (Sp.bdE s_Skills.xs s_Instrs.xs (z_2.tmod (Zu s_Instrs)) (Tt.gvA z_1) = 9)) (Vif (decide (Sp.bdE s_Skills.xs s_Instrs.xs (z_2.tmod (Zu s_Instrs)) (Tt.gvA z) = 0)) (Zt Q) (Vif (decide (Sp.bdE s_Skills.xs s_Instrs.xs (z_2.tmod (Zu s_Instrs)) (Tt.gvA z) = 9)) (Zt Q) (Q Zw))) (Q Zw))) (Vif (decide (Sp.bdE s_Skills.xs s_Instrs.xs (z_2.tmod (Zu s_Instrs)) (Zx c_Fs c_Ms x_Lines x_What) = 9)) (Vif (decide (Sp.bdE s_Skills.xs s_Instrs.xs (z_2.tmod (Zu s_Instrs)) (Tt.gvA z_1) = 0)) (Vif (decide (Sp.bdE s_Skills.xs s_Instrs.xs (z_2.tmod (Zu s_Instrs)) (Tt.gvA z) = 0)) (Zt Q) (Vif (decide (Sp.bdE s_Skills.xs s_Instrs.xs (z_2.tmod (Zu s_Instrs)) (Tt.gvA z) = 9)) (Zt Q) (Q Zw))) (Vif (decide (Sp.bdE s_Skills.xs s_Instrs.xs (z_2.tmod (Zu s_Instrs)) (Tt.gvA z_1) = 9)) (Vif (decide (Sp.bdE s_Skills.xs s_Instrs.xs (z_2.tmod (Zu s_Instrs)) (Tt.gvA z) = 0)) (Zt Q) (Vif (decide (Sp.bdE s_Skills.xs s_Instrs.xs (z_2.tmod (Zu s_Instrs)) (Tt.gvA z) = 9)) (Zt Q) (Q Zw))) (Q Zw))) (Q Zw))))) (Vif (decide (Sp.bdE s_Skills.xs s_Instrs.xs (z_2.tmod (Zu s_Instrs)) (Zx c_Fs c_Ms x_Lines x_What) = 0)) (Vif (decide (Sp.bdE s_Skills.xs s_Instrs.xs (z_2.tmod (Zu s_Instrs)) (Tt.gvA z_1) = 0)) (Vif (decide (Sp.bdE s_Skills.xs s_Instrs.xs (z_2.tmod (Zu s_Instrs)) (Tt.gvA z) = 0)) (Zt Q) (Vif (decide (Sp.bdE s_Skills.xs s_Instrs.xs (z_2.tmod (Zu s_Instrs)) (Tt.gvA z) = 9)) (Zt Q) (Q Zw))) (Vif (decide (Sp.bdE s_Skills.xs s_Instrs.xs (z_2.tmod (Zu s_Instrs)) (Tt.gvA z_1) = 9)) (Vif (decide (Sp.bdE s_Skills.xs s_Instrs.xs (z_2.tmod (Zu s_Instrs)) (Tt.gvA z) = 0)) (Zt Q) (Vif (decide (Sp.bdE s_Skills.xs s_Instrs.xs (z_2.tmod (Zu s_Instrs)) (Tt.gvA z) = 9)) (Zt Q) (Q Zw))) (Q Zw))) (Vif (decide (Sp.bdE s_Skills.xs s_Instrs.xs (z_2.tmod (Zu s_Instrs)) (Zx c_Fs c_Ms x_Lines x_What) = 9)) (Vif (decide (Sp.bdE s_Skills.xs s_Instrs.xs (z_2.tmod (Zu s_Instrs)) (Tt.gvA z_1) = 0)) (Vif (decide (Sp.bdE s_Skills.xs s_Instrs.xs (z_2.tmod (Zu s_Instrs)) (Tt.gvA z) = 0)) (Zt Q) (Vif (decide (Sp.bdE s_Skills.xs s_Instrs.xs (z_2.tmod (Zu s_Instrs)) (Tt.gvA z) = 9)) (Zt Q) (Q Zw))) (Vif (decide (Sp.bdE s_Skills.xs s_Instrs.xs (z_2.tmod (Zu s_Instrs)) (Tt.gvA z_1) = 9)) (Vif (decide (Sp.bdE s_Skills.xs s_Instrs.xs (z_2.tmod (Zu s_Instrs)) (Tt.gvA z) = 0)) (Zt Q) (Vif (decide (Sp.bdE s_Skills.xs s_Instrs.xs (z_2.tmod (Zu s_Instrs)) (Tt.gvA z) = 9)) (Zt Q) (Q Zw))) (Q Zw))) (Q Zw))))))))))))))))))))))))))))
theorem Xdc (W : InW) (s_Skills s_Instrs c_Fs c_Ms c_All x_Lines x_What x_Lost x_Ins Q) : Yzs (cxT Tryz.prog TT Tq4 1000 50) 1000 3 [.agg [.rs _ s_Skills, .rs _ s_Instrs], .agg [.rs _ c_Fs, .rs _ c_Ms, .si .i64 c_All], .agg [.si .u8 x_Lines, .rs _ x_What, .si .u16 x_Lost, .si .u8 x_Ins]] [] 0 (Y4g [(false, [.bool])] Q) (fun _ _ _ _ => Stuck 421) = Xbl s_Skills s_Instrs c_Fs c_Ms c_All x_Lines x_What x_Lost x_Ins Q := by kernel_rfl
abbrev Xbc : List AT := [.agg [.sl Ja, .sl Jb], .agg [.sl Jb, .sl Jd, .int .i64], .agg [.int .u8, .sl [.int .u8], .int .u16, .int .u8]]
theorem Xdq {pre : DS -> Prop} {res : DS -> DS} (hyp_ : ∀ (W : InW) (s_Skills : Ro Ja) (s_Instrs c_Fs : Ro Jb) (c_Ms : Ro Jd) (c_All x_Lines : Int) (x_What : Ro [.int .u8]) (x_Lost x_Ins : Int), pre [[.l s_Skills.xs, .l s_Instrs.xs], [.l c_Fs.xs, .l c_Ms.xs, .i c_All], [.i x_Lines, .l x_What.xs, .i x_Lost, .i x_Ins]] -> ∀ Q : DS -> Prop, Q (res [[.l s_Skills.xs, .l s_Instrs.xs], [.l c_Fs.xs, .l c_Ms.xs, .i c_All], [.i x_Lines, .l x_What.xs, .i x_Lost, .i x_Ins]]) -> Xbl s_Skills s_Instrs c_Fs c_Ms c_All x_Lines x_What x_Lost x_Ins Q) : PureOk Tryz.prog 3 Xbc [(false, [.bool])] pre res :=
 PureOk.of' (fun W => @TT W) (fun W => @Xc W) Xa Tq4 1000 50 fun W s_Skills s_Instrs c_Fs c_Ms c_All x_Lines x_What x_Lost x_Ins hp =>
  (Xdc W s_Skills s_Instrs c_Fs c_Ms c_All x_Lines x_What x_Lost x_Ins (fun o => o = res [[.l s_Skills.xs, .l s_Instrs.xs], [.l c_Fs.xs, .l c_Ms.xs, .i c_All], [.i x_Lines, .l x_What.xs, .i x_Lost, .i x_Ins]])).mpr (hyp_ W s_Skills s_Instrs c_Fs c_Ms c_All x_Lines x_What x_Lost x_Ins hp _ rfl)
theorem Xn6 {n : Int} (h : WfC (.int .u8) (.i n)) : 0 <= n /\ n <= 255 := by
 cases h with
 | int _ _ h => simp [Lit.wf, IntKind.min, IntKind.max, IntKind.signed, IntKind.bits] at h; omega
theorem Xrd {n : Int} (h : WfC (.int .u16) (.i n)) : 0 <= n /\ n <= 65535 := by
 cases h with
 | int _ _ h => simp [Lit.wf, IntKind.min, IntKind.max, IntKind.signed, IntKind.bits] at h; omega
theorem WfL.head {t : Ty} {ts : List Ty} {c : Cl} {cs : List Cl} (h : WfL (t :: ts) (c :: cs)) : WfC t c /\ WfL ts cs := by
 cases h with
 | cons h hs => exact ⟨h, hs⟩
theorem WfD.head {a : AT} {ats : List AT} {d : List Cl} {ds : DS} (h : WfD (a :: ats) (d :: ds)) : WfA a d /\ WfD ats ds := by
 obtain ⟨d', ds', e, h1, h2⟩ := h;cases e;exact ⟨h1, h2⟩
theorem WfC.str_le {c : Cl} (h : WfC .str c) : c.str.size <= maxLen := by cases h; assumption
theorem WfC.cell {ts : List Ty} {xs : Dt} (h : WfC (.sl ts) (.l xs)) {i k : Nat} {t : Ty} (hi : i < xs.length) (ht : ts[k]? = some t) : WfC t (cel xs i k) := by
 cases h with
 | sl _ _ _ _ h => exact h i k t hi ht
theorem Xby {ts : List Ty} {xs : Dt} (h : WfC (.sl (.str :: ts)) (.l xs)) (i : Nat) : (cel xs i 0).str.size <= 9223372036854775807 := by
 by_cases hi : i < xs.length
 ·have := (h.cell hi (k := 0) rfl).str_le;simp only [maxLen] at this;omega
 ·have : cel xs i 0 = .z := by simp [cel, List.getD_eq_getElem?_getD, List.getElem?_eq_none (Nat.le_of_not_lt hi)]
  rw [this]; decide
theorem Xph {xs : Dt} (h : WfC (.sl [.int .u8]) (.l xs)) (i : Nat) (hi : i < xs.length) : 0 <= (cel xs i 0).int /\ (cel xs i 0).int <= 255 := by
 have h1 := h.cell hi (k := 0) rfl;have h2 : ∃ m, cel xs i 0 = .i m := by
  cases hc : cel xs i 0 <;> rw [hc] at h1 <;> cases h1;exact ⟨_, rfl⟩
 obtain ⟨m, e⟩ := h2;rw [e] at h1 ⊢;exact Xn6 h1
theorem vif_y [InW] {A B : Prop} (h : A) : Vif true A B := vif (fun _ => h) (fun g => absurd g (by decide))
theorem Xiz {sk is : Dt} {i m n : Int} (hs : Sp.SchOk sk is) (h1 : 0 <= i) (h2 : i < is.length) (h3 : 0 <= m) (h4 : m <= n) (h5 : n <= 1000) : (Sp.bdE sk is i m = 0 \/ Sp.bdE sk is i m = 9) /\ (Sp.bdE sk is i n = 0 \/ Sp.bdE sk is i n = 9) /\ (Sp.bdE sk is i m = 0 -> Sp.bdE sk is i n = 0 -> Sp.bdLo sk is i m <= Sp.bdLo sk is i n /\ Sp.bdHi sk is i m <= Sp.bdHi sk is i n) := by
 have ask : ∀ k, 0 <= k -> k <= 1000 -> Sp.askE sk is i k = 0 := fun k a b => by
  unfold Sp.askE;rw [if_pos (Xdv.2 hs), if_pos (Xd.2 (by omega)), if_pos (Xd.2 (by omega))]
 have e1 := ask m h3 (by omega);have e2 := ask n (by omega) h5;have two : ∀ k, Sp.askE sk is i k = 0 -> (Sp.bdE sk is i k = 0 \/ Sp.bdE sk is i k = 9) := fun k e => by
  unfold Sp.bdE;rw [if_pos e]
  split <;> simp
 refine ⟨two m e1, two n e2, fun g1 g2 => ?_⟩;unfold Sp.bdLo Sp.bdHi;rw [if_pos g1, if_pos g2, if_pos g1, if_pos g2];exact ⟨Xk6 h4 h3, Xk7 h4 h5⟩
theorem Xcn : PureOk Tryz.prog 3 Xbc [(false, [.bool])] (WfD Xbc) fun _ => [[.b true]] :=
 Xdq fun W sk is fs ms all li wh lo ins hp Q h => by
  have p1 := WfD.head hp;have p2 := WfD.head p1.2;have p3 := WfD.head p2.2;have w1 := WfL.head p1.1;have w2 := WfL.head w1.2;have w3 := WfL.head p2.1;have w4 := WfL.head w3.2;have w5 := WfL.head p3.1;have w6 := WfL.head w5.2;have w7 := WfL.head w6.2;have w8 := WfL.head w7.2;have hd : Tt.DrOk li wh.xs lo := ⟨Xn6 w5.1, Xph w6.1, Xrd w7.1⟩;have hin := Xn6 w8.1;have n1 : Sp.NamesOk sk.xs := Xby w1.1;have n2 : Sp.NamesOk is.xs := Xby w2.1;have n3 : Sp.NamesOk fs.xs := Xby w3.1;have n4 : Sp.NamesOk ms.xs := Xby w4.1;clear p1 p2 p3 w1 w2 w3 w4 w5 w6 w7 w8 hp;unfold Xbl;delta Zt Zx Zv Zk Zw Zu Zy Ze;have yes : Pre True (Vif true (Pre True (Q [[Cl.b true]])) (Q [[Cl.b false]])) := Xb trivial (vif_y (Xb trivial h));refine Xb ⟨n1, n2⟩ (Xb ⟨n3, n4⟩ (vifn (fun _ => yes) fun e1 => vifn (fun _ => yes) fun e2 => vifd (fun _ => yes) fun e3 => ?_));have hs := Xdv.1 e1;have hc := Xq8 e2;have ht := Xl4 (ms := ms.xs) hc hd;have hl := Xl5 (fs := fs.xs) (ms := ms.xs) (wh := wh.xs) (lines := li) (lo := lo);clear e1 e2 n1 n2 n3 n4;generalize Tt.wTe fs.xs ms.xs wh.xs li = te at *;generalize Tt.wLo li lo = ls at *;have hk : Tt.ShOk fs.xs ms.xs (Tt.kpA fs.xs te ls) te.length := Xq6 hc ht hl;have hfit : Tt.fitB fs.xs (Tt.kpA fs.xs te ls) te te.length = true := Xni;have h12 := ht.n12;have h1 := ht.n1;have hlok : Tt.LOk te := ⟨h12, fun i hi => (ht.w i hi).1⟩;have hpt : 0 <= Tt.totA fs.xs te /\ Tt.totA fs.xs te <= 240 := by
   have := Xc2 (l := te) hc.f te.length 0 fun k _ hk => hlok.w k (by omega);unfold Tt.totA;omega
  obtain ⟨t1, t2⟩ := Xr0 (fs := fs.xs) (ms := ms.xs) (lines := te.length) hk.wo hc.n6 hc.m3 (by omega) (by omega);have h912 : (9 : Nat) ^ 12 = 282429536481 := by decide
  refine Xb ⟨hc.n1, hc.n6, hc.m3, hd⟩ (Xb ⟨hc, ht⟩ (Xb ⟨hc, ht, hl⟩ (vifn (fun g => absurd rfl g) fun _ => vifn (fun g => absurd rfl g) fun _ => Xb ⟨hc.n6, hc.m3, hk⟩ (vifn (fun g => absurd rfl g) fun _ => Xb ⟨hc.f, hlok, hk.ft⟩ ?_))));refine vif (fun g => by rw [hfit] at g; cases g) fun _ => Xb ⟨hc.f, hc.m3, hk.ft, hk.wo, by omega, by omega⟩ ?_;generalize Tt.tstD fs.xs ms.xs (Tt.kpA fs.xs te ls) te.length = L at *;generalize Tt.totA fs.xs te = p at *;have nb := Xr1 hc.f t1 L.length 0 p p (by omega) hpt.1 hpt.2;rw [show Int.toNat 0 = 0 from rfl, Nat.sub_zero];generalize Tt.tnF fs.xs L 0 L.length p = few at *;generalize Tt.tnM fs.xs L 0 L.length p = most at *;refine Xb ⟨by omega, by omega, hc.f, ⟨t1⟩, by omega, hpt, hpt⟩ (ar64 (by omega) (ar64 (by omega) (vifd (fun g => absurd g (by omega)) fun _ => vifd (fun g => absurd g (by omega)) fun _ => ar64 (by omega) (ned (by rw [decide_eq_false e3]; rfl) (Xb hpt (Xb trivial (Xb ⟨by omega, by omega⟩ (Xb trivial (Xb ⟨by omega, by omega⟩ (Xb trivial ?_)))))))))) ;have hi1 := Int.tmod_nonneg (is.xs.length : Int) hin.1;have hi2 := Int.tmod_lt_of_pos ins (show (0 : Int) < is.xs.length by omega);generalize ins.tmod is.xs.length = i at *;have g1 : 0 <= Tt.gvA most /\ Tt.gvA most <= Tt.gvA p /\ Tt.gvA p <= Tt.gvA few /\ Tt.gvA few <= 1000 := by unfold Tt.gvA; omega
  obtain ⟨b1, b2, b3⟩ := Xiz hs hi1 hi2 g1.1 g1.2.1 (by omega);obtain ⟨_, b4, b5⟩ := Xiz hs hi1 hi2 (by omega : 0 <= Tt.gvA p) g1.2.2.1 g1.2.2.2;clear g1 hi1 hi2 hs hc ht hl hk hfit hlok t1 t2 h912 nb hpt hd hin;generalize Sp.bdE sk.xs is.xs i (Tt.gvA most) = eb at *;generalize Sp.bdE sk.xs is.xs i (Tt.gvA p) = ea at *;generalize Sp.bdE sk.xs is.xs i (Tt.gvA few) = ec at *;generalize Sp.bdLo sk.xs is.xs i (Tt.gvA most) = lb at *;generalize Sp.bdLo sk.xs is.xs i (Tt.gvA p) = la at *;generalize Sp.bdLo sk.xs is.xs i (Tt.gvA few) = lc at *;generalize Sp.bdHi sk.xs is.xs i (Tt.gvA most) = hb at *;generalize Sp.bdHi sk.xs is.xs i (Tt.gvA p) = ha at *;generalize Sp.bdHi sk.xs is.xs i (Tt.gvA few) = hc at *
  repeat' (first | exact yes | omega | refine vifd (fun _ => ?_) fun _ => ?_)
end Go.Proofs.YtladoaeefkpdiaaGreatDoor
namespace Go.Proofs.YtladoaeefkpdiaaGreatDoor.topNoted
open Go.ChangeShapes Go.WideShapes Go.ChangeAt Go.RowKit
set_option maxRecDepth 100000
theorem own : ownKnob Tryz.prog.godebug = none := by kernel_rfl
theorem laid : laidOutB Tryz.prog = true := by kernel_rfl
def laidWorld (os : Os) : World :=
  { World.holding Tryz.prog os ⟨#[], #[], []⟩ with heap := (World.doorLaid Tryz.prog 72 os).heap.modify 4 fun
      | .cells _ t frozen => .cells (Pinned.utf8FirstZ.map fun n : Nat => Value.int .u8 (n : Int)).toArray t frozen
      | o => o }
def wargs : Array Value := #[.agg #[.slice none 0 0, .slice none 0 0], .agg #[.slice none 0 0, .slice none 0 0, .int .i64 0], .agg #[.int .u8 0, .slice none 0 0, .int .u16 0, .int .u8 0]]
theorem laid_met (os : Os) : laidMet Tryz.prog Rows.topNotedRow.laid ((laidWorld os).forCall (fun _ _ => 0) ⟨#[], wargs, []⟩).memory :=
 laidMet_of_run' 8 (by kernel_rfl) (by kernel_rfl)
theorem reads (os : Os) {H : Type} (enc : TypeId × Value -> H) : ∃ places, DataW.whole enc Tryz.prog ((laidWorld os).forCall (fun _ _ => 0) ⟨#[], wargs, []⟩).memory Tryz.f3.params.toList Rows.topNotedSpec.vars false wargs.toList 8 = some ([.agg [.nil, .nil], .agg [.nil, .nil, .lit (.int .i64 0)], .agg [.agg [.lit (.int .u8 0), .nil, .lit (.int .u16 0)], .lit (.int .u8 0)]], [], places) :=
 ⟨[], by kernel_rfl⟩
theorem lifted (os : Os) (started : os.Started) (H : Type) (enc : TypeId × Value -> H) (F : Stop.Interp) :
  ReturnsInHanded {} Tryz.checked os 3 .any ((OpenSpec.ofChange Rows.topNotedSpec).preRow enc Tryz.prog Tryz.f3 Rows.topNotedRow.domain false Rows.topNotedRow.laid) (((OpenSpec.ofChange Rows.topNotedSpec).at F).post enc Tryz.prog Tryz.f3 false true false false) := by
 obtain ⟨places, hx⟩ := reads os enc;refine returnsInHanded_of_row (C := Tryz.checked) (s := OpenSpec.ofChange Rows.topNotedSpec) own started (by kernel_rfl) Tryz.func3
  (witness_row_atRef (enc := enc) (C := Tryz.checked) false (laidWorld os) wargs rfl (by kernel_rfl) (by kernel_rfl) (by kernel_rfl)
   (OpenSpec.preRow_of_cond 8 hx (by kernel_rfl) (fun k hk => by cases hk) (by kernel_rfl) (laid_met os))) ?_
 intro W base args ds gs before hval hW _ _ _ hL _ _;exact law_end (f := Tryz.f3) (s := Rows.topNotedSpec) (by kernel_rfl) Tryz.underlying4 (by kernel_rfl) rfl laid (by kernel_rfl)
  (fun ds h => by match ds, (show ds.length = 3 from h) with | [_, _, _], _ => exact ⟨rfl, rfl, rfl⟩) Xcn hval hW
theorem said : Rows.TopNotedSaid :=
 OpenClaim.holds_of_cond 3 Tryz.f3 rfl rfl rfl rfl rfl rfl rfl ⟨rfl, rfl, rfl, rfl, rfl⟩ rfl rfl rfl rfl rfl (by kernel_rfl) Tryz.func3 (by kernel_rfl)
  (of_decide_eq_true (by kernel_rfl)) (by unfold Func.isWrapper; first | (rw [if_pos (by decide +kernel)]; kernel_rfl) | (rw [if_neg (by decide +kernel)]; exact ⟨rfl, rfl⟩))
  (fun os started H enc _ F => by rw [OpenClaim.pre_eq_preRow]; exact lifted os started H enc F)
theorem plain (f : FuncId) (fn : Func) (hf : Tryz.pinned.checked.prog.funcNamed "bitepoint/bitepointtop.TopNoted" = some f) (hfn : Tryz.pinned.checked.prog.funcs[f]? = some fn) :
  true = Tryz.pinned.checked.prog.looks [] /\ ∀ (j : Nat) t, fn.params[j]? = some t -> Tryz.pinned.checked.prog.wantsStandIn t = false := by
 obtain rfl : f = 3 := Option.some.inj ((show Tryz.prog.funcNamed "bitepoint/bitepointtop.TopNoted" = some 3 by kernel_rfl).symm.trans hf) |>.symm
 obtain rfl : fn = Tryz.f3 := (Option.some.inj (Tryz.func3.symm.trans hfn)).symm;refine ⟨by kernel_rfl, fun j t ht => ?_⟩;rw [Tryz.params3] at ht;have hm : t ∈ [25, 29, 35] := by simpa using Array.mem_of_getElem? ht
 have hall : ([25, 29, 35].all fun u => !Tryz.prog.wantsStandIn u) = true := by kernel_rfl
 exact (show Tryz.prog.wantsStandIn t = false by simpa using List.all_eq_true.1 hall t hm)
theorem proved : Rows.TopNotedCardSaid :=
 Claim7.holds_tied_plain_at .later [] _ _ _ _ said (fun _ h => by cases h) (by kernel_rfl) (fun _ h => by cases h) topNoted_row_tie rfl ⟨rfl, rfl⟩ (by kernel_rfl) rfl plain (by kernel_rfl)
end Go.Proofs.YtladoaeefkpdiaaGreatDoor.topNoted
