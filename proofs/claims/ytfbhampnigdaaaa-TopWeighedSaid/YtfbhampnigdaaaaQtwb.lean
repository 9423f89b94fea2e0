/-
  'TopWeighed': for every input the law returns true, and what is handed in reads as before. No condition.
-/
import Derived.Test.YtfbhampnigdaaaaQtwa
set_option linter.unusedVariables false
set_option linter.unusedSectionVars false
set_option linter.unusedSimpArgs false
noncomputable section
namespace Go.Proofs.Ytfbhampnigdaaaa
open Go.RowKit
abbrev Jd : List Ty := [.int .i64, .int .i64, .int .i64]
set_option maxRecDepth 100000
set_option maxHeartbeats 1600000
namespace Sp
def eqI (xs : Dt) (x : Int) (k : Nat) : Bool := decide (x = num xs k)
def idxOf (xs : Dt) (x : Int) : Int := if anyF (eqI xs x) 0 xs.length = true then (fstF (eqI xs x) 0 xs.length : Nat) else -1
end Sp
def Xl1 [InW] (e : List Ed) (K : Nat -> List Ed -> Prop) : Prop := match e with
 | [.ro _ xs, .i x, .i n, .i i] => Pre (n = xs.xs.length /\ 0 <= i /\ i <= n) (Vif (Sp.anyF (Sp.eqI xs.xs x) i.toNat (xs.xs.length - i.toNat)) (K 1 [.i ((Sp.fstF (Sp.eqI xs.xs x) i.toNat (xs.xs.length - i.toNat) : Nat) : Int)]) (K 0 []))
 | _ => False
def Xm5 : LC where
 len := 19
 T := [(0, .rs Jc), (1, .int .i64), (7, .int .i64), (8, .int .i64)]
 H := []
 W := ([4, 5] ++ rgg 9 10)
 outs := [⟨.exit 0, [], [], ([0, 1, 4, 5] ++ rgg 7 12)⟩, ⟨.ret, [(4, .int .i64)], [], ([0, 1, 5] ++ rgg 7 12)⟩]
 spec := Xl1
def Xkr [W : InW] (xs : Ro Jc) (x n i : Int) (A : List Ed -> Prop) (K : Nat -> List Ed -> Prop) : Prop :=
 Vif (decide (i < n)) (Need (decide (0 <= i) && decide (i < (↑(xs.xs.length) : Int))) (Need (decide (i.toNat < xs.xs.length)) (Vif (decide (x = (cel xs.xs i.toNat (0 : Nat)).int)) (K (0+1) [.i i]) (Ar .i64 (i + 1) fun z => A [.ro _ xs, .i x, .i n, .i z])))) (K 0 [])
theorem Xru (W : InW) (xs x n i A K) : Yfh { cxT Try.prog TT T0 1000 50 with fn := 52 } 1000 (Yor Try.prog 52 3) (Yd9 19 [(0, .rs _ xs), (1, .si .i64 x), (7, .si .i64 n), (8, .si .i64 i)] ([4, 5] ++ rgg 9 10)) [] (Yvi Xm5 A K) = Xkr xs x n i A K := by kernel_rfl
def Xka : Prop := ∀ (W : InW) (body a : Code), (Try.prog.funcs[52]?).bind (·.body) = some body -> a ∈ Y1 body -> Yf2 a = 3 -> @Ym8 W Try.prog a (@Yum W Xm5)
theorem Xsf (meas : [InW] -> List Ed -> Nat) (hyp_ : ∀ (W : InW) xs x n i K, Xl1 [.ro _ xs, .i x, .i n, .i i] K -> ∀ A : List Ed -> Prop, (∀ e, meas e < meas [.ro _ xs, .i x, .i n, .i i] -> Xl1 e K -> A e) -> Xkr xs x n i A K) : Xka :=
 LE.okOf' (fun W => @TT W) (fun W => @Xc W) Xa T0 1000 50 (by kernel_rfl) Xm5 (fun W => @meas W) fun W xs x n i K hs =>
  (Xru W xs x n i (fun e => meas e < meas [.ro _ xs, .i x, .i n, .i i] /\ Xl1 e K) K).mpr (hyp_ W xs x n i K hs _ fun e h1 h2 => ⟨h1, h2⟩)
theorem okLix : Xka := Xsf (fun e => match e with | [_, _, .i n, .i i] => (n - i).toNat | _ => 0) fun W xs x n i K hs A hA => by
 obtain ⟨⟨rfl, h0, h1⟩, hk⟩ := hs;unfold Xkr;have hm := xs.len;simp only [maxLen] at hm;have ez : (i + 1).toNat = i.toNat + 1 := by omega
 have ei : ((i.toNat : Nat) : Int) = i := Int.toNat_of_nonneg h0
 by_cases hi : i < xs.xs.length
 ·rw [show xs.xs.length - i.toNat = (xs.xs.length - (i.toNat + 1)) + 1 by omega] at hk;simp only [Sp.anyF, Sp.fstF] at hk;simp only [show ∀ k, (cel xs.xs k 0).int = Sp.num xs.xs k from fun _ => rfl]
  by_cases c : x = Sp.num xs.xs i.toNat
  ·have c2 : Sp.eqI xs.xs x i.toNat = true := decide_eq_true c;rw [c2, Bool.true_or, if_pos rfl, ei] at hk;have hk := hk.1 rfl;clear hA
   repeat' (first | omega|intro _|with_reducible first|apply vifd|apply vifn|apply vifq|apply Xf|apply Xe|apply vifb|apply vif|apply nedd|apply ned2|apply ned|apply ar64|apply Xb|exact True.intro|assumption|rfl|apply And.intro)
   all_goals first | contradiction | exact hk | skip
  ·have c2 : Sp.eqI xs.xs x i.toNat = false := decide_eq_false c;rw [c2, Bool.false_or, if_neg (by decide)] at hk;have hA' := hA [.ro _ xs, .i x, .i xs.xs.length, .i (i + 1)] (show ((xs.xs.length : Int) - (i + 1)).toNat < ((xs.xs.length : Int) - i).toNat by omega) ⟨⟨rfl, by omega, by omega⟩, by rw [ez]; exact hk⟩;clear hA hk
   repeat' (first | omega|intro _|with_reducible first|apply vifd|apply vifn|apply vifq|apply Xf|apply Xe|apply vifb|apply vif|apply nedd|apply ned2|apply ned|apply ar64|apply Xb|exact True.intro|assumption|rfl|apply And.intro)
   all_goals first | contradiction | exact hA' | skip
 ·rw [show xs.xs.length - i.toNat = 0 by omega] at hk;clear hA
  repeat' (first | omega|intro _|with_reducible first|apply vifd|apply vifn|apply vifq|apply Xf|apply Xe|apply vifb|apply vif|apply nedd|apply ned2|apply ned|apply ar64|apply Xb|exact True.intro|assumption|rfl|apply And.intro)
  all_goals exact hk.2 rfl
def le_ix : LE Try.prog := ⟨52, 3, fun W => @Yum W Xm5, okLix⟩
def T40 : Tab Try.prog := ⟨[], [le_ix], []⟩
def Xrr [W : InW] (xs : Ro Jc) (x : Int) (Q : DS -> Prop) : Prop :=
 Pre ((↑(xs.xs.length) : Int) = (↑(xs.xs.length) : Int) /\ Zb <= 0 /\ Zb <= (↑(xs.xs.length) : Int)) (Vif (Sp.anyF (Sp.eqI xs.xs x) (Int.toNat Zb) (xs.xs.length - Int.toNat Zb)) (Q [[Cl.i (↑(Sp.fstF (Sp.eqI xs.xs x) (Int.toNat Zb) (xs.xs.length - Int.toNat Zb)) : Int)]]) (Q [[Cl.i (-1 : Int)]]))
theorem vc_ix (W : InW) (xs x Q) : Yx2 (cxT Try.prog TT T40 1000 50) 1000 52 [.rs _ xs, .si .i64 x] [] 0 (Y2i [(false, [.int .i64])] Q) (fun _ _ _ _ => Stuck 421) = Xrr xs x Q := by kernel_rfl
abbrev Xkj : List AT := [.one (.sl Jc), .one (.int .i64)]
theorem ok_ix {pre : DS -> Prop} {res : DS -> DS} (hyp_ : ∀ (W : InW) (xs : Ro Jc) (x : Int), pre [[.l xs.xs], [.i x]] -> ∀ Q : DS -> Prop, Q (res [[.l xs.xs], [.i x]]) -> Xrr xs x Q) : PureOk Try.prog 52 Xkj [(false, [.int .i64])] pre res :=
 PureOk.of' (fun W => @TT W) (fun W => @Xc W) Xa T40 1000 50 fun W xs x hp =>
  (vc_ix W xs x (fun o => o = res [[.l xs.xs], [.i x]])).mpr (hyp_ W xs x hp _ rfl)
abbrev Xjs (ds : DS) : DS := match ds with | [[.l xs], [.i x]] => [[.i (Sp.idxOf xs x)]] | _ => []
theorem okix : PureOk Try.prog 52 Xkj [(false, [.int .i64])] (fun _ => True) Xjs :=
 ok_ix fun W xs x hp Q h => by
  unfold Xrr;delta Zb;simp only [Xjs, Sp.idxOf] at h;simp only [show Int.toNat 0 = 0 from rfl, Nat.sub_zero];refine ⟨⟨trivial, by omega, by omega⟩, vif (fun e => ?_) fun e => ?_⟩
  ·rw [if_pos e] at h; exact h
  ·rw [if_neg (by simp [e])] at h; exact h
def Xr2 : PC Try.prog := ⟨52, Xkj, [(false, [.int .i64])], fun _ => True, Xjs, okix⟩
def T41 : Tab Try.prog := ⟨[Xr2], [], []⟩
def Xrs [W : InW] (xs : Ro Jc) (x : Int) (Q : DS -> Prop) : Prop :=
 Pre True (Q [[Cl.b (decide ((0 : Int) <= Sp.idxOf xs.xs x))]])
theorem vc_cn (W : InW) (xs x Q) : Yx2 (cxT Try.prog TT T41 1000 50) 1000 53 [.rs _ xs, .si .i64 x] [] 0 (Y2i [(false, [.bool])] Q) (fun _ _ _ _ => Stuck 421) = Xrs xs x Q := by kernel_rfl
abbrev Xkl : List AT := [.one (.sl Jc), .one (.int .i64)]
theorem ok_cn {pre : DS -> Prop} {res : DS -> DS} (hyp_ : ∀ (W : InW) (xs : Ro Jc) (x : Int), pre [[.l xs.xs], [.i x]] -> ∀ Q : DS -> Prop, Q (res [[.l xs.xs], [.i x]]) -> Xrs xs x Q) : PureOk Try.prog 53 Xkl [(false, [.bool])] pre res :=
 PureOk.of' (fun W => @TT W) (fun W => @Xc W) Xa T41 1000 50 fun W xs x hp =>
  (vc_cn W xs x (fun o => o = res [[.l xs.xs], [.i x]])).mpr (hyp_ W xs x hp _ rfl)
abbrev Xnj (ds : DS) : DS := match ds with | [[.l xs], [.i x]] => [[.b (decide (0 <= Sp.idxOf xs x))]] | _ => []
theorem okcn : PureOk Try.prog 53 Xkl [(false, [.bool])] (fun _ => True) Xnj :=
 ok_cn fun W xs x hp Q h => by
  unfold Xrs;exact ⟨trivial, h⟩
def pc_cn : PC Try.prog := ⟨53, Xkl, [(false, [.bool])], fun _ => True, Xnj, okcn⟩
def Xfd [W : InW] (a b : Bool) (Q : DS -> Prop) : Prop :=
 Vif b (Q [[Cl.i 1]]) (Vif a (Q [[Cl.i 2]]) (Q [[Cl.i 0]]))
theorem Xor (W : InW) (a b Q) : Yx2 (cxT Try.prog TT T0 1000 50) 1000 17 [.sb a, .sb b] [] 0 (Y2i [(false, [.int .i64])] Q) (fun _ _ _ _ => Stuck 421) = Xfd a b Q := by kernel_rfl
abbrev Xdz : List AT := [.one (.bool), .one (.bool)]
theorem Xqs {pre : DS -> Prop} {res : DS -> DS} (hyp_ : ∀ (W : InW) (a b : Bool), pre [[.b a], [.b b]] -> ∀ Q : DS -> Prop, Q (res [[.b a], [.b b]]) -> Xfd a b Q) : PureOk Try.prog 17 Xdz [(false, [.int .i64])] pre res :=
 PureOk.of' (fun W => @TT W) (fun W => @Xc W) Xa T0 1000 50 fun W a b hp =>
  (Xor W a b (fun o => o = res [[.b a], [.b b]])).mpr (hyp_ W a b hp _ rfl)
namespace Sp
def ocB (a b : Bool) : Int := if b = true then 1 else if a = true then 2 else 0
end Sp
abbrev Xhe (ds : DS) : DS := match ds with | [[.b a], [.b b]] => [[.i (Sp.ocB a b)]] | _ => []
theorem Xse : PureOk Try.prog 17 Xdz [(false, [.int .i64])] (fun _ => True) Xhe :=
 Xqs fun W a b hp Q h => by
  unfold Xfd;cases a <;> cases b <;> (repeat' (first | omega|intro _|with_reducible first|apply vifd|apply vifn|apply vifq|apply Xf|apply Xe|apply vifb|apply vif|apply nedd|apply ned2|apply ned|apply ar64|apply Xb|exact True.intro|assumption|rfl|apply And.intro)) <;> first | exact h | contradiction | skip
def Xpg : PC Try.prog := ⟨17, Xdz, [(false, [.int .i64])], fun _ => True, Xhe, Xse⟩
namespace Sp
def bitV (b : Int) (i : Int) : Int := andI .i64 (b.fdiv (2 ^ min i.toNat 64)) 1
def ansW (u : Dt) (q b : Int) : Nat -> Nat -> Dt -> Dt
 | _, 0, l => l
 | i, n + 1, l => ansW u q b (i + 1) n (if cA u i = q then l.set (cB u i).toNat [.i (bitV b i)] else l)
structure UqOk (u : Dt) (q : Int) (l : Nat) : Prop where
 few : u.length <= 64
 low : l <= 1000
 in_ : ∀ i, i < u.length -> cA u i = q -> 0 <= cB u i /\ cB u i < l
end Sp
def Xl2 [InW] (e : List Ed) (K : Nat -> List Ed -> Prop) : Prop := match e with
 | [.i q, .i b, .i n, .i i, .ro _ qs, .ro _ ps, .i all, .ro _ sh, .l u, .l l] => Pre (n = u.length /\ 0 <= i /\ i <= u.length /\ 0 <= b /\ Sp.UqOk u q l.length) (K 0 [.i q, .i b, .ro _ qs, .ro _ ps, .i all, .ro _ sh, .l u, .l (Sp.ansW u q b i.toNat (u.length - i.toNat) l)])
 | _ => False
def Xm6 : LC where
 len := 64
 T := [(0, (.ptr 1 0)), (1, .int .i64), (2, .int .i64), (7, (.row 3)), (32, (.row 4)), (33, .int .i64), (34, .int .i64)]
 H := [(1, .blk 114 [.rs Iv5, .rs Jc, .int .i64, .rs Jb, (.row 4)]), (4, .arr 74 Ja), (3, .arr 3 Jc)]
 W := ([8, 9] ++ rgg 35 17)
 outs := [⟨.exit 0, [(0, (.ptr 1 0)), (1, .int .i64), (2, .int .i64), (7, (.row 6))], [(1, .blk 114 [.rs Iv5, .rs Jc, .int .i64, .rs Jb, (.row 4)]), (4, .arr 74 Ja), (6, .arr 3 Jc)], ([8, 9] ++ rgg 32 20)⟩]
 spec := Xl2
def Xks [W : InW] (q b n i : Int) (qs : Ro Iv5) (ps : Ro Jc) (all : Int) (sh : Ro Jb) (u l : Dt) (A : List Ed -> Prop) (K : Nat -> List Ed -> Prop) : Prop :=
 Vif (decide (i < n)) (Need (decide (0 <= i) && decide (i < (↑(u.length) : Int))) (Need (decide (i.toNat < u.length)) (Vif (decide ((cel u i.toNat (0 : Nat)).int = q)) (Need (decide (0 <= i)) (Need (decide ((0 : Int) <= (cel u i.toNat (0+1)).int) && decide ((cel u i.toNat (0+1)).int < (↑(l.length) : Int))) (Need (decide ((cel u i.toNat (0+1)).int.toNat < l.length)) (Ar .i64 (i + 1) fun z => A [.i q, .i b, .i n, .i z, .ro _ qs, .ro _ ps, .i all, .ro [Ty.sl [Ty.int IntKind.i64]] sh, .l u, .l (List.set l (cel u i.toNat (0+1)).int.toNat [Cl.i (andI IntKind.i64 (b.fdiv ((2 : Int) ^ min i.toNat (64 : Nat))) (1 : Int))])])))) (Ar .i64 (i + 1) fun z => A [.i q, .i b, .i n, .i z, .ro _ qs, .ro _ ps, .i all, .ro [Ty.sl [Ty.int IntKind.i64]] sh, .l u, .l l])))) (K 0 [.i q, .i b, .ro _ qs, .ro _ ps, .i all, .ro [Ty.sl [Ty.int IntKind.i64]] sh, .l u, .l l])
theorem Xrv (W : InW) (q b n i qs ps all sh u l A K) : Yfh { cxT Try.prog TT T0 1000 50 with fn := 21 } 1000 (Yor Try.prog 21 5) (Yd9 64 [(0, .ptr 1 0), (1, .si .i64 q), (2, .si .i64 b), (7, .rw 3), (32, .rw 4), (33, .si .i64 n), (34, .si .i64 i)] ([8, 9] ++ rgg 35 17)) [(1, .blk 114 [.rs _ qs, .rs _ ps, .si .i64 all, .rs _ sh, .rw 4]), (4, .arr 74 Ja u), (3, .arr 3 Jc l)] (Yvi Xm6 A K) = Xks q b n i qs ps all sh u l A K := by kernel_rfl
def Xkb : Prop := ∀ (W : InW) (body a : Code), (Try.prog.funcs[21]?).bind (·.body) = some body -> a ∈ Y1 body -> Yf2 a = 5 -> @Ym8 W Try.prog a (@Yum W Xm6)
theorem Xsg (meas : [InW] -> List Ed -> Nat) (hyp_ : ∀ (W : InW) q b n i qs ps all sh u l K, Xl2 [.i q, .i b, .i n, .i i, .ro _ qs, .ro _ ps, .i all, .ro _ sh, .l u, .l l] K -> ∀ A : List Ed -> Prop, (∀ e, meas e < meas [.i q, .i b, .i n, .i i, .ro _ qs, .ro _ ps, .i all, .ro _ sh, .l u, .l l] -> Xl2 e K -> A e) -> Xks q b n i qs ps all sh u l A K) : Xkb :=
 LE.okOf' (fun W => @TT W) (fun W => @Xc W) Xa T0 1000 50 (by kernel_rfl) Xm6 (fun W => @meas W) fun W q b n i qs ps all sh u l K hs =>
  (Xrv W q b n i qs ps all sh u l (fun e => meas e < meas [.i q, .i b, .i n, .i i, .ro _ qs, .ro _ ps, .i all, .ro _ sh, .l u, .l l] /\ Xl2 e K) K).mpr (hyp_ W q b n i qs ps all sh u l K hs _ fun e h1 h2 => ⟨h1, h2⟩)
theorem okLan : Xkb := Xsg (fun e => match e with | [_, _, .i n, .i i, _, _, _, _, _, _] => (n - i).toNat | _ => 0) fun W q b n i qs ps all sh u l K hs A hA => by
 obtain ⟨⟨rfl, h0, h1, hb, hu⟩, hk⟩ := hs;have h64 := hu.few;unfold Xks;simp only [Nat.zero_add, show ∀ k, (cel u k 0).int = Sp.cA u k from fun _ => rfl, show ∀ k, (cel u k 1).int = Sp.cB u k from fun _ => rfl];have ez : (i + 1).toNat = i.toNat + 1 := by omega
 by_cases hi : i < u.length
 ·rw [show u.length - i.toNat = (u.length - (i.toNat + 1)) + 1 by omega] at hk;simp only [Sp.ansW, Sp.bitV, Int.toNat_natCast] at hk
  by_cases c : Sp.cA u i.toNat = q
  ·have h3 := hu.in_ i.toNat (by omega) c;rw [if_pos c] at hk;have hA' := hA [.i q, .i b, .i u.length, .i (i + 1), .ro _ qs, .ro _ ps, .i all, .ro _ sh, .l u, .l (l.set (Sp.cB u i.toNat).toNat [.i (andI .i64 (b.fdiv (2 ^ min i.toNat 64)) 1)])] (show ((u.length : Int) - (i + 1)).toNat < ((u.length : Int) - i).toNat by omega) ⟨⟨rfl, by omega, by omega, hb, ⟨hu.few, by rw [List.length_set]; exact hu.low, fun k hk he => by rw [List.length_set]; exact hu.in_ k hk he⟩⟩, by rw [ez]; exact hk⟩;clear hA hk
   repeat' (first | omega|intro _|with_reducible first|apply vifd|apply vifn|apply vifq|apply Xf|apply Xe|apply vifb|apply vif|apply nedd|apply ned2|apply ned|apply ar64|apply Xb|exact True.intro|assumption|rfl|apply And.intro)
   all_goals first | contradiction | exact hA' | skip
  ·rw [if_neg c] at hk;have hA' := hA [.i q, .i b, .i u.length, .i (i + 1), .ro _ qs, .ro _ ps, .i all, .ro _ sh, .l u, .l l] (show ((u.length : Int) - (i + 1)).toNat < ((u.length : Int) - i).toNat by omega) ⟨⟨rfl, by omega, by omega, hb, hu⟩, by rw [ez]; exact hk⟩;clear hA hk
   repeat' (first | omega|intro _|with_reducible first|apply vifd|apply vifn|apply vifq|apply Xf|apply Xe|apply vifb|apply vif|apply nedd|apply ned2|apply ned|apply ar64|apply Xb|exact True.intro|assumption|rfl|apply And.intro)
   all_goals first | contradiction | exact hA' | skip
 ·rw [show u.length - i.toNat = 0 by omega] at hk;simp only [Sp.ansW] at hk;clear hA
  repeat' (first | omega|intro _|with_reducible first|apply vifd|apply vifn|apply vifq|apply Xf|apply Xe|apply vifb|apply vif|apply nedd|apply ned2|apply ned|apply ar64|apply Xb|exact True.intro|assumption|rfl|apply And.intro)
  all_goals exact hk
def le_an : LE Try.prog := ⟨21, 5, fun W => @Yum W Xm6, okLan⟩
namespace Sp
def ansX (l : Dt) : Int := if 0 <= idxOf l 1 /\ 0 <= idxOf (l.drop (idxOf l 1 + 1).toNat) 1 then -1 else idxOf l 1
def rowW (sh u : Dt) (q b : Int) : Dt := ansW u q b 0 u.length (row sh q.toNat)
end Sp
def T43 : Tab Try.prog := ⟨[Xr2, pc_cn], [le_an], []⟩
def Xni [InW] (e : List Ed) (K : Nat -> List Ed -> Prop) : Prop := match e with
 | [.i q, .i b, .ro _ qs, .ro _ ps, .i all, .ro _ sh, .l u] => Pre (0 <= q /\ q < sh.xs.length /\ 0 <= b /\ Sp.UqOk u q (Sp.row sh.xs q.toNat).length) (K 0 [.i (Sp.ansX (Sp.rowW sh.xs u q b)), .ro _ qs, .ro _ ps, .i all, .ro _ sh, .l u])
 | _ => False
def Xcm : CC where
 g := 21
 args := [(.ptr 1 0), .int .i64, .int .i64]
 H := [(1, .blk 114 [.rs Iv5, .rs Jc, .int .i64, .rs Jb, (.row 4)]), (4, .arr 74 Ja)]
 outs := [⟨false, .int .i64, [(1, .blk 114 [.rs Iv5, .rs Jc, .int .i64, .rs Jb, (.row 4)]), (4, .arr 74 Ja)], false⟩]
 spec := Xni
def Zds [W : InW] (q : Int) (sh : Ro Jb) := List.length (cel sh.xs q.toNat (0 : Nat)).lst
def Zdt [W : InW] (q : Int) (sh : Ro Jb) := List.replicate (↑(Zds q sh) : Int).toNat (Ybq [Ty.int IntKind.i64])
def Zdr [W : InW] (q : Int) (sh : Ro Jb) := List.take (min (Zds q sh) (Zdt q sh).length) (cel sh.xs q.toNat (0 : Nat)).lst ++ List.drop (min (Zds q sh) (Zdt q sh).length) (Zdt q sh)
def Zdq [W : InW] (q b : Int) (sh : Ro Jb) (u : Dt) := Sp.ansW u q b (Int.toNat Zb) (u.length - Int.toNat Zb) (Zdr q sh)
def Xgf [W : InW] (q b : Int) (qs : Ro Iv5) (ps : Ro Jc) (all : Int) (sh : Ro Jb) (u : Dt) (K : Nat -> List Ed -> Prop) : Prop :=
 Need (decide (0 <= q) && decide (q < (↑(sh.xs.length) : Int))) (Need (decide (q.toNat < sh.xs.length)) (Need (decide ((↑(Zds q sh) : Int) = (↑(Zds q sh) : Int)) && decide (Zb <= (↑(Zds q sh) : Int)) && decide ((8 : Nat) * (↑(Zds q sh) : Int).toNat <= 281474976710656)) (Need (decide (0 <= q) && decide (q < (↑(sh.xs.length) : Int))) (Need (decide (q.toNat < sh.xs.length)) (Pre ((↑(u.length) : Int) = (↑(u.length) : Int) /\ Zb <= 0 /\ Zb <= (↑(u.length) : Int) /\ 0 <= b /\ Sp.UqOk u q (Zdr q sh).length) (Pre True (Vif (decide (Zb <= Sp.idxOf (Zdq q b sh u) (1 : Int))) (Ar .i64 (Sp.idxOf (Zdq q b sh u) (1 : Int) + 1) fun z => Need (decide (0 <= z)) (Need (decide (z.toNat <= List.length (Zdq q b sh u)) && decide (List.length (Zdq q b sh u) <= List.length (Zdq q b sh u))) (Need (decide (z.toNat + (List.length (Zdq q b sh u) - z.toNat) <= List.length (Zdq q b sh u))) (Pre True (Vif (decide (Zb <= Sp.idxOf (List.take (List.length (Zdq q b sh u) - z.toNat) (List.drop z.toNat (Zdq q b sh u))) (1 : Int))) (K 0 [.i (-1 : Int), .ro _ qs, .ro _ ps, .i all, .ro [Ty.sl [Ty.int IntKind.i64]] sh, .l u]) (K 0 [.i (Sp.idxOf (Zdq q b sh u) (1 : Int)), .ro _ qs, .ro _ ps, .i all, .ro [Ty.sl [Ty.int IntKind.i64]] sh, .l u])))))) (K 0 [.i (Sp.idxOf (Zdq q b sh u) (1 : Int)), .ro _ qs, .ro _ ps, .i all, .ro [Ty.sl [Ty.int IntKind.i64]] sh, .l u]))))))))
theorem Xok (W : InW) (q b qs ps all sh u K) : Yxz (cxT Try.prog TT T43 1000 50) 1000 21 [.ptr 1 0, .si .i64 q, .si .i64 b] [(1, .blk 114 [.rs _ qs, .rs _ ps, .si .i64 all, .rs _ sh, .rw 4]), (4, .arr 74 Ja u)] (fun v h => outC Xcm.H [.ro _ qs, .ro _ ps, .i all, .ro _ sh, .l u] Xcm.outs 0 false v h K) (fun v h => outC Xcm.H [.ro _ qs, .ro _ ps, .i all, .ro _ sh, .l u] Xcm.outs 0 true v h K) = Xgf q b qs ps all sh u K := by kernel_rfl
theorem Xqk (hyp_ : ∀ (W : InW) q b qs ps all sh u K, Xni [.i q, .i b, .ro _ qs, .ro _ ps, .i all, .ro _ sh, .l u] K -> Xgf q b qs ps all sh u K) : ∀ W : InW, @CallC W Try.prog Xcm :=
 CC.okOf (fun W => @TT W) (fun W => @Xc W) Xa T43 1000 50 Xcm fun W q b qs ps all sh u K hs => (Xok W q b qs ps all sh u K).mpr (hyp_ W q b qs ps all sh u K hs)
theorem Xi2 (u : Dt) (q b : Int) : ∀ n i l, (Sp.ansW u q b i n l).length = l.length
 | 0, _, _ => rfl
 | n + 1, i, l => by
  simp only [Sp.ansW];rw [Xi2 u q b n (i + 1)]
  split <;> simp
theorem Xm7 (xs : Dt) (x : Int) : -1 <= Sp.idxOf xs x /\ Sp.idxOf xs x < xs.length := by
 unfold Sp.idxOf
 split
 ·rename_i h;have := Sp.fstF_spec h;omega
 ·omega
theorem Xtl : ∀ W : InW, @CallC W Try.prog Xcm := Xqk fun W q b qs ps all sh u K hs => by
 obtain ⟨⟨h0, h1, h2, h3⟩, hk⟩ := hs;unfold Xgf;delta Zdq Zdr Zdt Zds Zb;have hlow := h3.low;simp only [show Int.toNat 0 = 0 from rfl, Nat.sub_zero, Int.toNat_natCast, List.length_replicate, Nat.min_self, List.take_length, List.drop_replicate, Nat.sub_self, List.replicate_zero, List.append_nil, show (cel sh.xs q.toNat 0).lst = Sp.row sh.xs q.toNat from rfl, show Sp.ansW u q b 0 u.length (Sp.row sh.xs q.toNat) = Sp.rowW sh.xs u q b from rfl];have hl : (Sp.rowW sh.xs u q b).length = (Sp.row sh.xs q.toNat).length := Xi2 _ _ _ _ _ _;have hz : ∀ z : Nat, List.take ((Sp.rowW sh.xs u q b).length - z) (List.drop z (Sp.rowW sh.xs u q b)) = List.drop z (Sp.rowW sh.xs u q b) := fun z => List.take_of_length_le (by simp);simp only [hz];clear hz;unfold Sp.ansX at hk;generalize Sp.rowW sh.xs u q b = l at *;have hi := Xm7 l 1
 by_cases c : 0 <= Sp.idxOf l 1
 ·by_cases c2 : 0 <= Sp.idxOf (l.drop (Sp.idxOf l 1 + 1).toNat) 1
  ·rw [if_pos ⟨c, c2⟩] at hk
   repeat' (first | (with_reducible refine Xb ⟨rfl, by omega, by omega, h2, h3⟩ ?_) | (with_reducible refine Xb trivial ?_) | (with_reducible refine ned ?_ ?_; simp; omega) | omega|intro _|with_reducible first|apply vifd|apply vifn|apply vifq|apply Xf|apply Xe|apply vifb|apply vif|apply nedd|apply ned2|apply ned|apply ar64|apply Xb|exact True.intro|assumption|rfl|apply And.intro)
   all_goals first | contradiction | exact hk | skip
  ·rw [if_neg (fun x => c2 x.2)] at hk
   repeat' (first | (with_reducible refine Xb ⟨rfl, by omega, by omega, h2, h3⟩ ?_) | (with_reducible refine Xb trivial ?_) | (with_reducible refine ned ?_ ?_; simp; omega) | omega|intro _|with_reducible first|apply vifd|apply vifn|apply vifq|apply Xf|apply Xe|apply vifb|apply vif|apply nedd|apply ned2|apply ned|apply ar64|apply Xb|exact True.intro|assumption|rfl|apply And.intro)
   all_goals first | contradiction | exact hk | skip
 ·rw [if_neg (fun x => c x.1)] at hk
  repeat' (first | (with_reducible refine Xb ⟨rfl, by omega, by omega, h2, h3⟩ ?_) | (with_reducible refine Xb trivial ?_) | (with_reducible refine ned ?_ ?_; simp; omega) | omega|intro _|with_reducible first|apply vifd|apply vifn|apply vifq|apply Xf|apply Xe|apply vifb|apply vif|apply nedd|apply ned2|apply ned|apply ar64|apply Xb|exact True.intro|assumption|rfl|apply And.intro)
  all_goals first | contradiction | exact hk | skip
namespace Sp
structure SeOk (qs sh u : Dt) : Prop where
 n : sh.length = qs.length
 few : u.length <= 64
 uq : ∀ q, q < sh.length -> UqOk u q (row sh q).length
end Sp
def Xgq [InW] (e : List Ed) (K : Nat -> List Ed -> Prop) : Prop := match e with
 | [.i q, .ro _ bx, .i n, .i j, .ro _ qz, .ro _ pz, .i az, .ro _ sh, .l acc] => Pre (n = bx.xs.length /\ 0 <= j /\ j <= n /\ 0 <= q /\ q <= 12 /\ n <= 4 /\ (acc.length : Int) <= 4 * q + j) (K 0 [.i q, .ro _ qz, .ro _ pz, .i az, .ro _ sh, .l (acc ++ Sp.unsRow bx.xs q j.toNat (bx.xs.length - j.toNat))])
 | _ => False
def Xik : LC where
 len := 71
 T := [(6, (.ptr 7 0)), (7, .int .i64), (41, .rs Jc), (42, .int .i64), (43, .int .i64)]
 H := [(7, .blk 114 [.rs Iv5, .rs Jc, .int .i64, .rs Jb, (.row 6)]), (6, .arr 74 Ja)]
 W := ([9, 10] ++ rgg 44 19)
 outs := [⟨.exit 3, [(6, (.ptr 7 0)), (7, .int .i64)], [(7, .blk 114 [.rs Iv5, .rs Jc, .int .i64, .rs Jb, (.row 9)]), (9, .arr 74 Ja)], ([9, 10] ++ rgg 41 22)⟩]
 spec := Xgq
def Xfq [W : InW] (q : Int) (bx : Ro Jc) (n j : Int) (qz : Ro Iv5) (pz : Ro Jc) (az : Int) (sh : Ro Jb) (acc : Dt) (A : List Ed -> Prop) (K : Nat -> List Ed -> Prop) : Prop :=
 Vif (decide (j < n)) (Need (decide (0 <= j) && decide (j < (↑(bx.xs.length) : Int))) (Need (decide (j.toNat < bx.xs.length)) (Vif (decide ((cel bx.xs j.toNat (0 : Nat)).int = 2)) (Need (decide ((acc.length + [[Cl.i q, Cl.i j]].length) * 16 <= 140737488355328)) (Ar .i64 (j + 1) fun z => A [.i q, .ro _ bx, .i n, .i z, .ro _ qz, .ro _ pz, .i az, .ro [Ty.sl [Ty.int IntKind.i64]] sh, .l (acc ++ [[Cl.i q, Cl.i j]])])) (Ar .i64 (j + 1) fun z => A [.i q, .ro _ bx, .i n, .i z, .ro _ qz, .ro _ pz, .i az, .ro [Ty.sl [Ty.int IntKind.i64]] sh, .l acc])))) (K 0 [.i q, .ro _ qz, .ro _ pz, .i az, .ro [Ty.sl [Ty.int IntKind.i64]] sh, .l acc])
theorem Xnv (W : InW) (q bx n j qz pz az sh acc A K) : Yfh { cxT Try.prog TT T0 1000 50 with fn := 16 } 1000 (Yor Try.prog 16 13) (Yd9 71 [(6, .ptr 7 0), (7, .si .i64 q), (41, .rs _ bx), (42, .si .i64 n), (43, .si .i64 j)] ([9, 10] ++ rgg 44 19)) [(7, .blk 114 [.rs _ qz, .rs _ pz, .si .i64 az, .rs _ sh, .rw 6]), (6, .arr 74 Ja acc)] (Yvi Xik A K) = Xfq q bx n j qz pz az sh acc A K := by kernel_rfl
def Xht : Prop := ∀ (W : InW) (body a : Code), (Try.prog.funcs[16]?).bind (·.body) = some body -> a ∈ Y1 body -> Yf2 a = 13 -> @Ym8 W Try.prog a (@Yum W Xik)
theorem Xpv (meas : [InW] -> List Ed -> Nat) (hyp_ : ∀ (W : InW) q bx n j qz pz az sh acc K, Xgq [.i q, .ro _ bx, .i n, .i j, .ro _ qz, .ro _ pz, .i az, .ro _ sh, .l acc] K -> ∀ A : List Ed -> Prop, (∀ e, meas e < meas [.i q, .ro _ bx, .i n, .i j, .ro _ qz, .ro _ pz, .i az, .ro _ sh, .l acc] -> Xgq e K -> A e) -> Xfq q bx n j qz pz az sh acc A K) : Xht :=
 LE.okOf' (fun W => @TT W) (fun W => @Xc W) Xa T0 1000 50 (by kernel_rfl) Xik (fun W => @meas W) fun W q bx n j qz pz az sh acc K hs =>
  (Xnv W q bx n j qz pz az sh acc (fun e => meas e < meas [.i q, .ro _ bx, .i n, .i j, .ro _ qz, .ro _ pz, .i az, .ro _ sh, .l acc] /\ Xgq e K) K).mpr (hyp_ W q bx n j qz pz az sh acc K hs _ fun e h1 h2 => ⟨h1, h2⟩)
theorem Xsy : Xht := Xpv (fun e => match e with | [_, _, .i n, .i j, _, _, _, _, _] => (n - j).toNat | _ => 0) fun W q bx n j qz pz az sh acc K hs A hA => by
 obtain ⟨⟨rfl, h0, h1, h2, h3, h4, h5⟩, hk⟩ := hs;unfold Xfq;simp only [List.length_cons, List.length_nil];have ez : (j + 1).toNat = j.toNat + 1 := by omega
 have ej : ((j.toNat : Nat) : Int) = j := Int.toNat_of_nonneg h0
 by_cases hj : j < bx.xs.length
 ·rw [show bx.xs.length - j.toNat = (bx.xs.length - (j.toNat + 1)) + 1 by omega] at hk;simp only [Sp.unsRow, Sp.bx, ej] at hk
  by_cases c : (cel bx.xs j.toNat 0).int = 2
  ·simp only [c, if_true] at hk;rw [<- List.append_assoc] at hk;have hA' := hA [.i q, .ro _ bx, .i bx.xs.length, .i (j + 1), .ro _ qz, .ro _ pz, .i az, .ro _ sh, .l (acc ++ [[.i q, .i j]])] (show ((bx.xs.length : Int) - (j + 1)).toNat < ((bx.xs.length : Int) - j).toNat by omega) ⟨⟨rfl, by omega, by omega, h2, h3, h4, by simp; omega⟩, by rw [ez]; exact hk⟩;clear hA hk
   repeat' (first | omega|intro _|with_reducible first|apply vifd|apply vifn|apply vifq|apply Xf|apply Xe|apply vifb|apply vif|apply nedd|apply ned2|apply ned|apply ar64|apply Xb|exact True.intro|assumption|rfl|apply And.intro)
   all_goals first | contradiction | exact hA' | skip
  ·simp only [c, if_false, List.nil_append] at hk;have hA' := hA [.i q, .ro _ bx, .i bx.xs.length, .i (j + 1), .ro _ qz, .ro _ pz, .i az, .ro _ sh, .l acc] (show ((bx.xs.length : Int) - (j + 1)).toNat < ((bx.xs.length : Int) - j).toNat by omega) ⟨⟨rfl, by omega, by omega, h2, h3, h4, by omega⟩, by rw [ez]; exact hk⟩;clear hA hk
   repeat' (first | omega|intro _|with_reducible first|apply vifd|apply vifn|apply vifq|apply Xf|apply Xe|apply vifb|apply vif|apply nedd|apply ned2|apply ned|apply ar64|apply Xb|exact True.intro|assumption|rfl|apply And.intro)
   all_goals first | contradiction | exact hA' | skip
 ·rw [show bx.xs.length - j.toNat = 0 by omega] at hk;simp only [Sp.unsRow, List.append_nil] at hk;clear hA
  repeat' (first | omega|intro _|with_reducible first|apply vifd|apply vifn|apply vifq|apply Xf|apply Xe|apply vifb|apply vif|apply nedd|apply ned2|apply ned|apply ar64|apply Xb|exact True.intro|assumption|rfl|apply And.intro)
  all_goals exact hk
def Xtx : LE Try.prog := ⟨16, 13, fun W => @Yum W Xik, Xsy⟩
def T47 : Tab Try.prog := ⟨[Xeh], [Xtx], []⟩
def Xgp [InW] (e : List Ed) (K : Nat -> List Ed -> Prop) : Prop := match e with
 | [.ro _ s2, .i n, .i i, .ro _ qs, .ro _ ps, .i all, .ro _ qz, .ro _ pz, .i az, .ro _ sh, .l acc] => Pre (n = s2.xs.length /\ 0 <= i /\ i <= n /\ s2.xs.length = qs.xs.length /\ Sp.KeyOk qs.xs ps.xs all /\ (acc.length : Int) <= 4 * i) (Vif (Sp.hasE (Sp.rowE qs.xs s2.xs) i.toNat (s2.xs.length - i.toNat)) (K 1 [.i (Sp.rowE qs.xs s2.xs (Sp.idxE (Sp.rowE qs.xs s2.xs) i.toNat (s2.xs.length - i.toNat)))]) (K 0 [.ro _ qz, .ro _ pz, .i az, .ro _ sh, .l (acc ++ Sp.unsAll s2.xs i.toNat (s2.xs.length - i.toNat))]))
 | _ => False
def Xij : LC where
 len := 71
 T := [(2, (.ptr 1 0)), (6, (.ptr 7 0)), (21, .rs Jb), (22, .int .i64), (23, .int .i64)]
 H := [(1, .blk 25 [.rs Iv5, .rs Jc, .int .i64]), (7, .blk 114 [.rs Iv5, .rs Jc, .int .i64, .rs Jb, (.row 6)]), (6, .arr 74 Ja)]
 W := ([4, 5] ++ rgg 7 4 ++ rgg 24 40)
 outs := [⟨.exit 0, [(6, (.ptr 7 0))], [(7, .blk 114 [.rs Iv5, .rs Jc, .int .i64, .rs Jb, (.row 9)]), (9, .arr 74 Ja)], ([2, 4, 5] ++ rgg 7 4 ++ rgg 21 43)⟩, ⟨.ret, [(4, (.lit (.pointer none))), (5, .int .i64)], [], ([2] ++ rgg 6 5 ++ rgg 21 43)⟩]
 spec := Xgp
def Zdu [W : InW] (s2 : Ro Jb) (i : Int) := (↑(List.length (cel s2.xs i.toNat Zd).lst) : Int)
def Xfp [W : InW] (s2 : Ro Jb) (n i : Int) (qs : Ro Iv5) (ps : Ro Jc) (all : Int) (qz : Ro Iv5) (pz : Ro Jc) (az : Int) (sh : Ro Jb) (acc : Dt) (A : List Ed -> Prop) (K : Nat -> List Ed -> Prop) : Prop :=
 Vif (decide (i < n)) (Need (decide (0 <= i) && decide (i < (↑(s2.xs.length) : Int))) (Need (decide (i.toNat < s2.xs.length)) (Need (decide (0 <= i) && decide (i < (↑(qs.xs.length) : Int))) (Need (decide (i.toNat < qs.xs.length)) (Vif (!decide ((Zdu s2 i) = (cel qs.xs i.toNat (0+1)).int)) (K (0+1) [.i (3 : Int)]) (Pre True (Vif (Sp.out Zb (2 : Int) (cel s2.xs i.toNat Zd).lst) (K (0+1) [.i (7 : Int)]) (Pre ((Zdu s2 i) = (Zdu s2 i) /\ Zb <= 0 /\ Zb <= (Zdu s2 i) /\ 0 <= i /\ i <= 12 /\ (Zdu s2 i) <= 4 /\ (↑(acc.length) : Int) <= 4 * i + 0) (Ar .i64 (i + 1) fun z => A [.ro [Ty.sl [Ty.int IntKind.i64]] s2, .i n, .i z, .ro _ qs, .ro _ ps, .i all, .ro _ qz, .ro _ pz, .i az, .ro [Ty.sl [Ty.int IntKind.i64]] sh, .l (acc ++ Sp.unsRow (cel s2.xs i.toNat Zd).lst i (Int.toNat Zb) (List.length (cel s2.xs i.toNat Zd).lst - Int.toNat Zb))]))))))))) (K 0 [.ro _ qz, .ro _ pz, .i az, .ro [Ty.sl [Ty.int IntKind.i64]] sh, .l acc])
theorem Xnu (W : InW) (s2 n i qs ps all qz pz az sh acc A K) : Yfh { cxT Try.prog TT T47 1000 50 with fn := 16 } 1000 (Yor Try.prog 16 6) (Yd9 71 [(2, .ptr 1 0), (6, .ptr 7 0), (21, .rs _ s2), (22, .si .i64 n), (23, .si .i64 i)] ([4, 5] ++ rgg 7 4 ++ rgg 24 40)) [(1, .blk 25 [.rs _ qs, .rs _ ps, .si .i64 all]), (7, .blk 114 [.rs _ qz, .rs _ pz, .si .i64 az, .rs _ sh, .rw 6]), (6, .arr 74 Ja acc)] (Yvi Xij A K) = Xfp s2 n i qs ps all qz pz az sh acc A K := by kernel_rfl
def Xhs : Prop := ∀ (W : InW) (body a : Code), (Try.prog.funcs[16]?).bind (·.body) = some body -> a ∈ Y1 body -> Yf2 a = 6 -> @Ym8 W Try.prog a (@Yum W Xij)
theorem Xpu (meas : [InW] -> List Ed -> Nat) (hyp_ : ∀ (W : InW) s2 n i qs ps all qz pz az sh acc K, Xgp [.ro _ s2, .i n, .i i, .ro _ qs, .ro _ ps, .i all, .ro _ qz, .ro _ pz, .i az, .ro _ sh, .l acc] K -> ∀ A : List Ed -> Prop, (∀ e, meas e < meas [.ro _ s2, .i n, .i i, .ro _ qs, .ro _ ps, .i all, .ro _ qz, .ro _ pz, .i az, .ro _ sh, .l acc] -> Xgp e K -> A e) -> Xfp s2 n i qs ps all qz pz az sh acc A K) : Xhs :=
 LE.okOf' (fun W => @TT W) (fun W => @Xc W) Xa T47 1000 50 (by kernel_rfl) Xij (fun W => @meas W) fun W s2 n i qs ps all qz pz az sh acc K hs =>
  (Xnu W s2 n i qs ps all qz pz az sh acc (fun e => meas e < meas [.ro _ s2, .i n, .i i, .ro _ qs, .ro _ ps, .i all, .ro _ qz, .ro _ pz, .i az, .ro _ sh, .l acc] /\ Xgp e K) K).mpr (hyp_ W s2 n i qs ps all qz pz az sh acc K hs _ fun e h1 h2 => ⟨h1, h2⟩)
theorem Xsx : Xhs := Xpu (fun e => match e with | .ro _ _ :: .i n :: .i i :: _ => (n - i).toNat | _ => 0) fun W s2 n i qs ps all qz pz az sh acc K hs A hA => by
 obtain ⟨⟨rfl, h0, h1, h2, hkey, h5⟩, hk⟩ := hs;have n2 := hkey.n2;unfold Xfp;delta Zdu Zb Zd;simp only [show Int.toNat 0 = 0 from rfl, Nat.sub_zero, Nat.zero_add, show (cel s2.xs i.toNat 0).lst = Sp.row s2.xs i.toNat from rfl, show (cel qs.xs i.toNat 1).int = Sp.qBoxes qs.xs i.toNat from rfl];have ez : (i + 1).toNat = i.toNat + 1 := by omega
 have ei : ((i.toNat : Nat) : Int) = i := Int.toNat_of_nonneg h0
 by_cases hi : i < s2.xs.length
 ·have hb := hkey.boxes i.toNat (by omega);rw [show s2.xs.length - i.toNat = (s2.xs.length - (i.toNat + 1)) + 1 by omega] at hk;obtain ⟨g1, g2⟩ := Xdf (K1 := fun _ e => K 1 [.i e]) hk;simp only [Sp.unsAll, ei] at g2;have hul := Sp.unsRow_len (Sp.row s2.xs i.toNat) i (Sp.row s2.xs i.toNat).length 0;have hA' : Sp.rowE qs.xs s2.xs i.toNat = 0 -> (Sp.row s2.xs i.toNat).length <= 4 -> A [.ro _ s2, .i s2.xs.length, .i (i + 1), .ro _ qs, .ro _ ps, .i all, .ro _ qz, .ro _ pz, .i az, .ro _ sh, .l (acc ++ Sp.unsRow (Sp.row s2.xs i.toNat) i 0 (Sp.row s2.xs i.toNat).length)] := fun f f4 => hA _ (by show ((s2.xs.length : Int) - (i + 1)).toNat < ((s2.xs.length : Int) - i).toNat; omega) ⟨⟨rfl, by omega, by omega, h2, hkey, by simp; omega⟩, by
   have g2 := g2 f;rw [<- List.append_assoc] at g2;rw [ez]; exact g2⟩
  clear hA hk g2;unfold Sp.rowE at hA' g1
  by_cases c : ((Sp.row s2.xs i.toNat).length : Int) = Sp.qBoxes qs.xs i.toNat
  ·have f4 : (Sp.row s2.xs i.toNat).length <= 4 := by omega
   rw [if_pos c] at hA' g1
   by_cases c2 : Sp.out 0 2 (Sp.row s2.xs i.toNat) = true
   ·rw [if_pos c2] at hA' g1;have g1 := g1 (by decide)
    repeat' (first | (with_reducible refine Xb trivial ?_) | (with_reducible refine Xb ⟨rfl, by omega, by omega, by omega, by omega, by omega, by omega⟩ ?_) | omega|intro _|with_reducible first|apply vifd|apply vifn|apply vifq|apply Xf|apply Xe|apply vifb|apply vif|apply nedd|apply ned2|apply ned|apply ar64|apply Xb|exact True.intro|assumption|rfl|apply And.intro)
    all_goals first | contradiction | exact g1 | skip
    all_goals (rw [c2] at *; contradiction)
   ·rw [if_neg c2] at hA' g1;have hA' := hA' rfl f4
    repeat' (first | (with_reducible refine Xb trivial ?_) | (with_reducible refine Xb ⟨rfl, by omega, by omega, by omega, by omega, by omega, by omega⟩ ?_) | omega|intro _|with_reducible first|apply vifd|apply vifn|apply vifq|apply Xf|apply Xe|apply vifb|apply vif|apply nedd|apply ned2|apply ned|apply ar64|apply Xb|exact True.intro|assumption|rfl|apply And.intro)
    all_goals first | contradiction | exact hA' | skip
  ·rw [if_neg c] at hA' g1;have g1 := g1 (by decide)
   repeat' (first | (with_reducible refine Xb trivial ?_) | omega|intro _|with_reducible first|apply vifd|apply vifn|apply vifq|apply Xf|apply Xe|apply vifb|apply vif|apply nedd|apply ned2|apply ned|apply ar64|apply Xb|exact True.intro|assumption|rfl|apply And.intro)
   all_goals first | contradiction | exact g1 | skip
 ·rw [show s2.xs.length - i.toNat = 0 by omega] at hk;simp only [Sp.unsAll, List.append_nil] at hk;clear hA
  repeat' (first | omega|intro _|with_reducible first|apply vifd|apply vifn|apply vifq|apply Xf|apply Xe|apply vifb|apply vif|apply nedd|apply ned2|apply ned|apply ar64|apply Xb|exact True.intro|assumption|rfl|apply And.intro)
  all_goals exact hk.2 rfl
def Xtw : LE Try.prog := ⟨16, 6, fun W => @Yum W Xij, Xsx⟩
def T48 : Tab Try.prog := ⟨[Xeh], [Xtw], []⟩
def Xnc [InW] (e : List Ed) (K : Nat -> List Ed -> Prop) : Prop := match e with
 | [.ro _ qs, .ro _ ps, .i all, .ro _ sh] => Pre (Sp.KeyOk qs.xs ps.xs all) (Vif (decide (Sp.shE qs.xs sh.xs = 0)) (K 1 [.ro _ qs, .ro _ ps, .i all, .ro _ sh, .l (Sp.uns sh.xs)]) (K 0 [.i (Sp.shE qs.xs sh.xs)]))
 | _ => False
def Xci : CC where
 g := 16
 args := [.agg [.rs Iv5, .rs Jc, .int .i64], .rs Jb]
 H := []
 outs := [⟨false, .tup [(.lit (.pointer none)), .int .i64], [], false⟩, ⟨false, .tup [(.ptr 6 0), (.lit (.int .i64 0))], [(6, .blk 114 [.rs Iv5, .rs Jc, .int .i64, .rs Jb, (.row 12)]), (12, .arr 74 Ja)], false⟩]
 spec := Xnc
def Xf9 [W : InW] (qs : Ro Iv5) (ps : Ro Jc) (all : Int) (sh : Ro Jb) (K : Nat -> List Ed -> Prop) : Prop :=
 Vif (!decide ((↑(sh.xs.length) : Int) = (↑(qs.xs.length) : Int))) (K 0 [.i (3 : Int)]) (Pre ((↑(sh.xs.length) : Int) = (↑(sh.xs.length) : Int) /\ Zb <= 0 /\ Zb <= (↑(sh.xs.length) : Int) /\ sh.xs.length = qs.xs.length /\ Sp.KeyOk qs.xs ps.xs all /\ (↑(0 : Nat) : Int) <= 4 * 0) (Vif (Sp.hasE (Sp.rowE qs.xs sh.xs) Za (sh.xs.length - Int.toNat Zb)) (K 0 [.i (Sp.rowE qs.xs sh.xs (Sp.idxE (Sp.rowE qs.xs sh.xs) Za (sh.xs.length - Int.toNat Zb)))]) (Vif (decide ((7 : Int) < (↑(List.length (Sp.unsAll sh.xs Za (sh.xs.length - Int.toNat Zb))) : Int))) (K 0 [.i (3 : Int)]) (K (0+1) [.ro _ qs, .ro _ ps, .i all, .ro [Ty.sl [Ty.int IntKind.i64]] sh, .l (Sp.unsAll sh.xs Za (sh.xs.length - Int.toNat Zb))]))))
theorem Xoe (W : InW) (qs ps all sh K) : Yxz (cxT Try.prog TT T48 1000 50) 1000 16 [.agg [.rs _ qs, .rs _ ps, .si .i64 all], .rs _ sh] [] (fun v h => outC Xci.H [] Xci.outs 0 false v h K) (fun v h => outC Xci.H [] Xci.outs 0 true v h K) = Xf9 qs ps all sh K := by kernel_rfl
theorem Xqe (hyp_ : ∀ (W : InW) qs ps all sh K, Xnc [.ro _ qs, .ro _ ps, .i all, .ro _ sh] K -> Xf9 qs ps all sh K) : ∀ W : InW, @CallC W Try.prog Xci :=
 CC.okOf (fun W => @TT W) (fun W => @Xc W) Xa T48 1000 50 Xci fun W qs ps all sh K hs => (Xoe W qs ps all sh K).mpr (hyp_ W qs ps all sh K hs)
theorem Xtg : ∀ W : InW, @CallC W Try.prog Xci := Xqe fun W qs ps all sh K hs => by
 obtain ⟨hkey, hk⟩ := hs;unfold Xf9;delta Za Zb;simp only [show Int.toNat 0 = 0 from rfl, Nat.sub_zero];have k0 : ∀ e, Sp.shE qs.xs sh.xs = e -> e ≠ 0 -> K 0 [.i e] := fun e h1 h2 => by
  have := hk.2 (decide_eq_false (by omega));rw [h1] at this; exact this
 have k1 : Sp.shE qs.xs sh.xs = 0 -> K 1 [.ro _ qs, .ro _ ps, .i all, .ro _ sh, .l (Sp.uns sh.xs)] := fun h => hk.1 (decide_eq_true h);clear hk;unfold Sp.shE at k0 k1;refine vifn (fun e => k0 3 (by rw [if_neg e]) (by decide)) fun e => ⟨⟨trivial, by omega, by omega, by omega, hkey, by omega⟩, ?_⟩;rw [if_pos e] at k0 k1;refine vif (fun e1 => ?_) fun e1 => ?_
 ·rw [if_pos e1] at k0;exact k0 _ rfl (Sp.hasE_ix e1).2.2
 ·rw [if_neg (by simp [e1])] at k0 k1;have hu : Sp.unsAll sh.xs 0 sh.xs.length = Sp.uns sh.xs := rfl;rw [hu];refine vifd (fun e2 => k0 3 (by rw [if_pos (by omega)]) (by decide)) fun e2 => k1 (by rw [if_neg (by omega)])
def rfIn : Code -> List LI
 | .seq a b => rfIn a ++ rfIn b
 | .cond _ a b => rfIn a ++ rfIn b
 | .block _ a => rfIn a
 | .loop a => rfIn a
 | .scope a => rfIn a
 | .rangeFunc _ ps asg b => ⟨.ready, none, ps, asg, b⟩ :: rfIn b
 | _ => []
def lpAt (P : Program) (g : FuncId) (k : Nat) : LI := (rfIn (Yj6 P g)).getD k ⟨.ready, none, #[], .skip, .skip⟩
abbrev LPth : LI := lpAt Try.prog 18 0
theorem Xl3 {n : Nat} (h : n <= 7) : (1 : Int) * 2 ^ min ((n : Nat) : Int).toNat 64 = ((2 ^ n : Nat) : Int) /\ 1 <= 2 ^ n /\ 2 ^ n <= 128 := by
 have h1 : min ((n : Nat) : Int).toNat 64 = n := by rw [Int.toNat_natCast]; omega
 refine ⟨by rw [h1, Int.one_mul]; norm_cast, Nat.one_le_two_pow, ?_⟩;exact Nat.le_trans (Nat.pow_le_pow_right (by decide) h) (by decide)
namespace Sp
def mk1 (d : Dt) (k : Nat) : Bool := decide (bx d k = 1)
theorem ansD_pos (d : Dt) : ∀ n i a, 0 <= a -> ansD d i n a = anyF (mk1 d) i n
 | 0, _, _, _ => rfl
 | n + 1, i, a, h => by
  simp only [ansD, anyF, mk1]
  by_cases e : bx d i = 1
  ·simp [e, h]
  ·simp [e]; exact ansD_pos d n (i + 1) a h
theorem ansL_none (d : Dt) : ∀ n i a, anyF (mk1 d) i n = false -> ansL d i n a = a
 | 0, _, _, _ => rfl
 | n + 1, i, a, h => by
  simp only [anyF, Bool.or_eq_false_iff, mk1, decide_eq_false_iff_not] at h;simp only [ansL, if_neg h.1];exact ansL_none d n (i + 1) a h.2
theorem ansD_neg (d : Dt) : ∀ n i, ansD d i n (-1) = (anyF (mk1 d) i n && anyF (mk1 d) (fstF (mk1 d) i n + 1) (i + n - (fstF (mk1 d) i n + 1)))
 | 0, _ => rfl
 | n + 1, i => by
  by_cases e : bx d i = 1
  ·have e2 : mk1 d i = true := decide_eq_true e;simp only [ansD, anyF, fstF, e, if_true, e2, Bool.true_or, Bool.true_and];rw [if_neg (by decide), ansD_pos d n (i + 1) i (by omega), show i + (n + 1) - (i + 1) = n by omega]
  ·have e2 : mk1 d i = false := decide_eq_false e;simp only [ansD, anyF, fstF, e, if_false, e2, Bool.false_or, Bool.false_eq_true];rw [ansD_neg d n (i + 1), show i + (n + 1) = i + 1 + n by omega]
theorem ansL_neg (d : Dt) : ∀ n i, ansD d i n (-1) = false -> anyF (mk1 d) i n = true -> ansL d i n (-1) = fstF (mk1 d) i n
 | 0, _, _, h => by simp [anyF] at h
 | n + 1, i, h, h2 => by
  by_cases e : bx d i = 1
  ·have e2 : mk1 d i = true := decide_eq_true e;simp only [ansD, e, if_true] at h;rw [if_neg (by decide), ansD_pos d n (i + 1) i (by omega)] at h;simp only [ansL, e, if_true, fstF, e2];exact ansL_none d n (i + 1) i h
  ·have e2 : mk1 d i = false := decide_eq_false e;simp only [ansD, e, if_false] at h;simp only [anyF, e2, Bool.false_or] at h2;simp only [ansL, e, if_false, fstF, e2, Bool.false_eq_true];exact ansL_neg d n (i + 1) h h2
theorem anyF_shift (g : Nat -> Bool) (s : Nat) : ∀ n i, anyF (fun k => g (s + k)) i n = anyF g (s + i) n
 | 0, _ => rfl
 | n + 1, i => by simp only [anyF, anyF_shift g s n (i + 1), Nat.add_assoc]
theorem eqI_mk1 (d : Dt) : eqI d 1 = mk1 d := by
 funext k
 unfold eqI mk1 bx num;exact decide_eq_decide.2 ⟨fun h => h.symm, fun h => h.symm⟩
theorem idxOf_ge (d : Dt) : (0 <= idxOf d 1) ↔ anyF (mk1 d) 0 d.length = true := by
 unfold idxOf;rw [eqI_mk1]
 split
 ·rename_i h; exact ⟨fun _ => h, fun _ => by omega⟩
 ·rename_i h; exact ⟨fun c => by omega, fun c => absurd c h⟩
theorem ansX_of (d : Dt) : ansX d = ansOf d := by
 unfold ansX ansOf;rw [ansD_neg]
 by_cases h : anyF (mk1 d) 0 d.length = true
 ·have hi : idxOf d 1 = (fstF (mk1 d) 0 d.length : Nat) := by unfold idxOf; rw [eqI_mk1, if_pos h]
  have hf := fstF_spec h;have e1 : (idxOf d 1 + 1).toNat = fstF (mk1 d) 0 d.length + 1 := by rw [hi]; omega
  have e2 : (0 <= idxOf (d.drop (fstF (mk1 d) 0 d.length + 1)) 1) ↔ anyF (mk1 d) (fstF (mk1 d) 0 d.length + 1) (0 + d.length - (fstF (mk1 d) 0 d.length + 1)) = true := by
   rw [idxOf_ge, List.length_drop, Nat.zero_add];have : mk1 (d.drop (fstF (mk1 d) 0 d.length + 1)) = fun k => mk1 d (fstF (mk1 d) 0 d.length + 1 + k) := by
    funext k
    unfold mk1 bx cel;simp only [List.getD_eq_getElem?_getD, List.getElem?_drop]
   rw [this, anyF_shift, Nat.add_zero]
  rw [h, Bool.true_and]
  by_cases c : anyF (mk1 d) (fstF (mk1 d) 0 d.length + 1) (0 + d.length - (fstF (mk1 d) 0 d.length + 1)) = true
  ·rw [if_pos ⟨by omega, by rw [e1]; exact e2.2 c⟩, if_pos c]
  ·rw [if_neg (fun x => c (e2.1 (by rw [e1] at x; exact x.2))), if_neg c];have hL := ansL_neg d d.length 0 (by rw [ansD_neg, h, Bool.true_and]; simpa using c) h;rw [hL, hi]
 ·have h0 : anyF (mk1 d) 0 d.length = false := by simpa using h
  have hn : ¬ 0 <= idxOf d 1 := fun c => h ((idxOf_ge d).1 c);rw [if_neg (fun x => hn x.1), h0, Bool.false_and, if_neg (by decide), ansL_none d _ _ _ h0];unfold idxOf;rw [eqI_mk1, if_neg h]
theorem bit7 : ∀ b : Fin 128, ∀ i : Fin 7, bitV (b.val : Int) (i.val : Int) = ((b.val / 2 ^ i.val % 2 : Nat) : Int) := by decide +kernel
theorem bit_of {b i : Nat} (hb : b < 128) (hi : i < 7) : bitV (b : Int) (i : Int) = ((b / 2 ^ i % 2 : Nat) : Int) := bit7 ⟨b, hb⟩ ⟨i, hi⟩
def itW : List (Nat × Nat) -> Nat -> Dt -> Dt
 | [], _, s => s
 | p :: ps, b, s => itW ps (b / 2) (withD s p.1 p.2 ((b % 2 : Nat) : Int))
theorem rds_it : ∀ (ps : List (Nat × Nat)) (sh r : Dt), pos sh = ps -> (r ∈ rds sh ↔ ∃ b, b < 2 ^ ps.length /\ r = itW ps b sh)
 | [], sh, r, h => by
  rw [rds_nil h, List.mem_singleton];exact ⟨fun e => ⟨0, by simp, e⟩, fun ⟨_, _, e⟩ => e⟩
 | p :: ps, sh, r, h => by
  have h0 := rds_it ps (withD sh p.1 p.2 0) r (pos_with_tl (by decide) h);have h1 := rds_it ps (withD sh p.1 p.2 1) r (pos_with_tl (by decide) h);rw [rds_cons h, List.mem_append, h0, h1, List.length_cons, Nat.pow_succ];constructor
  ·rintro (⟨b, hb, e⟩ | ⟨b, hb, e⟩)
   ·refine ⟨2 * b, by omega, ?_⟩;simp only [itW];rw [show 2 * b / 2 = b by omega, show 2 * b % 2 = 0 by omega];exact e
   ·refine ⟨2 * b + 1, by omega, ?_⟩;simp only [itW];rw [show (2 * b + 1) / 2 = b by omega, show (2 * b + 1) % 2 = 1 by omega];exact e
  ·rintro ⟨b, hb, e⟩;simp only [itW] at e;rcases Nat.mod_two_eq_zero_or_one b with c | c
   ·left; rw [c] at e; exact ⟨b / 2, by omega, e⟩
   ·right; rw [c] at e; exact ⟨b / 2, by omega, e⟩
theorem prC_cel (us : List (Nat × Nat)) (i : Nat) (h : i < us.length) : cA (us.map prC) i = us[i].1 /\ cB (us.map prC) i = us[i].2 := by
 unfold cA cB cel;rw [List.getD_eq_getElem?_getD (l := us.map prC), List.getElem?_map, List.getElem?_eq_getElem h];exact ⟨rfl, rfl⟩
theorem ansW_it (us : List (Nat × Nat)) (q b : Nat) (hb : b < 128) (h7 : us.length <= 7) : ∀ n i s, i + n = us.length -> q < s.length -> ansW (us.map prC) q b i n (row s q) = row (itW (us.drop i) (b / 2 ^ i) s) q
 | 0, i, s, hi, hq => by rw [List.drop_eq_nil_of_le (by omega)]; rfl
 | n + 1, i, s, hi, hq => by
  have hlt : i < us.length := by omega
  rw [List.drop_eq_getElem_cons hlt];obtain ⟨c1, c2⟩ := prC_cel us i hlt;simp only [ansW, itW, c1, c2];rw [bit_of hb (by omega), Int.toNat_natCast];have hrow := withD_row s us[i].1 us[i].2 ((b / 2 ^ i % 2 : Nat) : Int) q hq;have e : (if (us[i].1 : Int) = (q : Int) then (row s q).set us[i].2 [.i ((b / 2 ^ i % 2 : Nat) : Int)] else row s q) = row (withD s us[i].1 us[i].2 ((b / 2 ^ i % 2 : Nat) : Int)) q := by
   rw [hrow]
   by_cases c : us[i].1 = q
   ·rw [if_pos (by omega), if_pos c.symm]
   ·rw [if_neg (by omega), if_neg (fun x => c x.symm)]
  rw [e, ansW_it us q b hb h7 n (i + 1) _ (by omega) (by rw [withD_len]; exact hq), Nat.pow_succ, Nat.div_div_eq_div_mul]
theorem rowW_it {sh : Dt} {q b : Nat} (hb : b < 128) (h7 : (pos sh).length <= 7) (hq : q < sh.length) : rowW sh (uns sh) q b = row (itW (pos sh) b sh) q := by
 unfold rowW;rw [uns_pos, List.length_map, Int.toNat_natCast];have := ansW_it (pos sh) q b hb h7 (pos sh).length 0 sh (by omega) hq;rw [List.drop_zero, Nat.pow_zero, Nat.div_one] at this;exact this
def Nums (l : Dt) : Prop := ∀ p, p < l.length -> l.getD p [] = [.i (num l p)]
theorem Nums.set {l : Dt} (h : Nums l) {p : Nat} {v : Int} : Nums (l.set p [.i v]) := fun q hq => by
 rw [List.length_set] at hq
 by_cases e : p = q
 ·subst e;rw [set_getD hq, num_set hq, if_pos rfl]
 ·rw [set_getN e, h q hq]
  congr 2
  unfold num cel;rw [set_getN e]
theorem rds_ix {sh r : Dt} : r ∈ rds sh ↔ ∃ k, k < (rdD sh).length /\ row (rdD sh) k = r := by
 constructor
 ·intro h;obtain ⟨k, hk, e⟩ := List.mem_iff_getElem.1 h;have hk2 : k < (rdD sh).length := by unfold rdD; simpa using hk
  obtain ⟨h2, e2⟩ := rdD_row hk2;exact ⟨k, hk2, e2.trans e⟩
 ·rintro ⟨k, hk, e⟩;obtain ⟨h2, e2⟩ := rdD_row hk;rw [<- e, e2];exact List.getElem_mem h2
theorem any_rds {sh : Dt} (f : Dt -> Bool) : (∃ k, k < (rdD sh).length /\ f (row (rdD sh) k) = true) ↔ ∃ b, b < 2 ^ (pos sh).length /\ f (itW (pos sh) b sh) = true := by
 constructor
 ·rintro ⟨k, hk, h⟩;obtain ⟨b, hb, e⟩ := (rds_it _ sh _ rfl).1 (rds_ix.2 ⟨k, hk, rfl⟩);exact ⟨b, hb, by rw [<- e]; exact h⟩
 ·rintro ⟨b, hb, h⟩;obtain ⟨k, hk, e⟩ := rds_ix.1 ((rds_it _ sh _ rfl).2 ⟨b, hb, rfl⟩);exact ⟨k, hk, by rw [e]; exact h⟩
theorem anyF_0 {f : Nat -> Bool} {n : Nat} : anyF f 0 n = true ↔ ∃ k, k < n /\ f k = true := by
 rw [anyF_iff];exact ⟨fun ⟨k, _, h, e⟩ => ⟨k, by omega, e⟩, fun ⟨k, h, e⟩ => ⟨k, by omega, by omega, e⟩⟩
theorem allF_0 {f : Nat -> Bool} {n : Nat} : allF f 0 n = true ↔ ∀ k, k < n -> f k = true := by
 rw [allF_iff];exact ⟨fun h k hk => h k (by omega) (by omega), fun h k _ hk => h k (by omega)⟩
theorem bool_iff {a b : Bool} (h : a = true ↔ b = true) : a = b := by cases a <;> cases b <;> simp_all
theorem ShOk.se {qs sh : Dt} (h : ShOk qs sh) {ps : Dt} {all : Int} (hk : KeyOk qs ps all) : SeOk qs sh (uns sh) := by
 have h7 := h.seven;refine ⟨h.n, by omega, fun q hq => ⟨by omega, ?_, fun i hi e => ?_⟩⟩
 ·have := (h.toShapeOk.few hk).2 q hq; omega
 ·obtain ⟨p, hp, e1, e2⟩ := uns_cel hi;have hm := mem_pos.1 hp;unfold cA at e;unfold cB;rw [e1] at e;rw [e2];have : p.1 = q := by omega
  subst this;omega
end Sp
namespace Sp
theorem withR_map (sh : Dt) (q j : Nat) (v : Int) : ∀ n i, withR sh q j v i n = (List.range' i n).map fun k => [.l (if k = q then (row sh k).set j [.i v] else row sh k)]
 | 0, _ => rfl
 | n + 1, i => by simp only [withR, List.range'_succ, List.map_cons, withR_map sh q j v n (i + 1)]
theorem withD_ext {a b : Dt} {q j q' j' : Nat} {v v' : Int} (hl : a.length = b.length) (h : ∀ k, k < a.length -> (if k = q then (row a k).set j [.i v] else row a k) = (if k = q' then (row b k).set j' [.i v'] else row b k)) : withD a q j v = withD b q' j' v' := by
 unfold withD;rw [withR_map, withR_map, <- hl];refine List.map_congr_left fun k hk => ?_;have := List.mem_range'.1 hk;rw [h k (by omega)]
theorem withD_comm (s : Dt) (p p' : Nat × Nat) (v v' : Int) (hne : p ≠ p') : withD (withD s p.1 p.2 v) p'.1 p'.2 v' = withD (withD s p'.1 p'.2 v') p.1 p.2 v := by
 refine withD_ext (by rw [withD_len, withD_len]) fun k hk => ?_;rw [withD_len] at hk;rw [withD_row _ _ _ _ _ hk, withD_row _ _ _ _ _ hk]
 by_cases c : k = p.1 <;> by_cases c' : k = p'.1
 ·rw [if_pos c, if_pos c', if_pos c', if_pos c];have : p.2 ≠ p'.2 := fun e => hne (Prod.ext (c.symm.trans c') e);exact List.set_comm _ _ this
 ·simp [c, c', if_neg (show ¬ p.1 = p'.1 from fun e => c' (c.trans e))]
 ·simp [c, c', if_neg (show ¬ p'.1 = p.1 from fun e => c (c'.trans e))]
 ·simp [c, c']
theorem withD_same (s : Dt) (q j : Nat) (v v' : Int) : withD (withD s q j v) q j v' = withD s q j v' := by
 refine withD_ext (withD_len _ _ _ _) fun k hk => ?_;rw [withD_len] at hk;rw [withD_row _ _ _ _ _ hk]
 by_cases c : k = q
 ·rw [if_pos c, if_pos c, if_pos c, List.set_set]
 ·rw [if_neg c, if_neg c, if_neg c]
end Sp
namespace Sp
def miB (sh u : Dt) (q right : Int) (k : Nat) : Bool := !decide (ansX (rowW sh u q k) = right)
end Sp
def T66 : Tab Try.prog := ⟨[], [], [ceOf Xcm Xtl]⟩
def Xgm [InW] (e : List Ed) (K : Nat -> List Ed -> Prop) : Prop := match e with
 | [.i n, .i i, .ro _ qs, .ro _ ps, .i all, .ro _ sh, .l u, .i q, .i part, .i boxes, .i right, .i pts, .i minus, .b so, .b al] => Pre (0 <= i /\ i <= n /\ n <= 128 /\ Sp.SeOk qs.xs sh.xs u /\ 0 <= q /\ q < sh.xs.length) (K 0 [.ro _ qs, .ro _ ps, .i all, .ro _ sh, .l u, .i q, .i part, .i boxes, .i right, .i pts, .i minus, .b (so || Sp.anyF (Sp.miB sh.xs u q right) i.toNat (n - i).toNat), .b (al && Sp.allF (Sp.miB sh.xs u q right) i.toNat (n - i).toNat)])
 | _ => False
def Xig : LC where
 len := 18
 T := [(0, (.yl 1)), (1, (.ptr 10 0)), (9, .int .i64), (10, .int .i64)]
 H := [(1, .lp LPth [(.opq 1501), (.opq 1504), (.opq 1507), (.opq 1510), (.ptr 13 0), (.ptr 16 0), (.ptr 19 0), (.opq 318), (.opq 321), (.opq 1528), (.opq 327), (.opq 330), (.opq 333), (.opq 336), (.opq 339), (.opq 342), (.opq 345), (.opq 348), (.opq 351), (.opq 354), (.opq 357), (.opq 360), (.opq 1567), (.opq 1570)]), (10, .blk 53 [(.ptr 4 0)]), (4, .blk 114 [.rs Iv5, .rs Jc, .int .i64, .rs Jb, (.row 7)]), (7, .arr 74 Ja), (13, .blk 63 [(.fn (.func 20) [] [(.ptr 25 0), (.ptr 22 0), (.ptr 28 0)])]), (25, .blk 53 [(.ptr 4 0)]), (22, .blk 3 [.int .i64]), (28, .blk 43 [.int .i64, .int .i64, .int .i64, .int .i64, .int .i64]), (16, .blk 4 [.bool]), (19, .blk 4 [.bool])]
 W := ([3] ++ rgg 11 7)
 outs := [⟨.exit 0, [], [(1, .lp LPth [(.opq 1501), (.opq 1504), (.opq 1507), (.opq 1510), (.ptr 13 0), (.ptr 16 0), (.ptr 19 0), (.opq 618), (.opq 621), (.opq 1528), (.opq 627), (.opq 630), (.opq 633), (.opq 636), (.opq 639), (.opq 642), (.opq 645), (.opq 648), (.opq 651), (.opq 654), (.opq 657), (.opq 660), (.opq 1567), (.opq 1570)]), (618, .dead), (621, .dead), (627, .dead), (630, .dead), (633, .dead), (636, .dead), (639, .dead), (642, .dead), (645, .dead), (648, .dead), (651, .dead), (654, .dead), (657, .dead), (660, .dead), (10, .blk 53 [(.ptr 4 0)]), (4, .blk 114 [.rs Iv5, .rs Jc, .int .i64, .rs Jb, (.row 7)]), (7, .arr 74 Ja), (13, .blk 63 [(.fn (.func 20) [] [(.ptr 25 0), (.ptr 22 0), (.ptr 28 0)])]), (25, .blk 53 [(.ptr 4 0)]), (22, .blk 3 [.int .i64]), (28, .blk 43 [.int .i64, .int .i64, .int .i64, .int .i64, .int .i64]), (16, .blk 4 [.bool]), (19, .blk 4 [.bool])], ([0, 1, 3] ++ rgg 9 9)⟩]
 spec := Xgm
def Zdv := [Ty.sl [Ty.int IntKind.i64]]
def Xfm [W : InW] (n i : Int) (qs : Ro Iv5) (ps : Ro Jc) (all : Int) (sh : Ro Jb) (u : Dt) (q part boxes right pts minus : Int) (so al : Bool) (A : List Ed -> Prop) (K : Nat -> List Ed -> Prop) : Prop :=
 Vif (decide (i < n)) (Pre (0 <= q /\ q < (↑(sh.xs.length) : Int) /\ 0 <= i /\ Sp.UqOk u q (List.length (Sp.row sh.xs q.toNat))) (Vif so (Vif al (Ar .i64 (i + 1) fun z => PreL LPth LPth (A [.i n, .i z, .ro _ qs, .ro _ ps, .i all, .ro Zdv sh, .l u, .i q, .i part, .i boxes, .i right, .i pts, .i minus, .b true, .b !decide (Sp.ansX (Sp.rowW sh.xs u q i) = right)])) (Ar .i64 (i + 1) fun z => PreL LPth LPth (A [.i n, .i z, .ro _ qs, .ro _ ps, .i all, .ro Zdv sh, .l u, .i q, .i part, .i boxes, .i right, .i pts, .i minus, .b true, .b false]))) (Vif al (Ar .i64 (i + 1) fun z => PreL LPth LPth (A [.i n, .i z, .ro _ qs, .ro _ ps, .i all, .ro Zdv sh, .l u, .i q, .i part, .i boxes, .i right, .i pts, .i minus, .b !decide (Sp.ansX (Sp.rowW sh.xs u q i) = right), .b !decide (Sp.ansX (Sp.rowW sh.xs u q i) = right)])) (Ar .i64 (i + 1) fun z => PreL LPth LPth (A [.i n, .i z, .ro _ qs, .ro _ ps, .i all, .ro Zdv sh, .l u, .i q, .i part, .i boxes, .i right, .i pts, .i minus, .b !decide (Sp.ansX (Sp.rowW sh.xs u q i) = right), .b false]))))) (PreL LPth LPth (K 0 [.ro _ qs, .ro _ ps, .i all, .ro Zdv sh, .l u, .i q, .i part, .i boxes, .i right, .i pts, .i minus, .b so, .b al]))
theorem Xnr (W : InW) (n i qs ps all sh u q part boxes right pts minus so al A K) : Yfh { cxT Try.prog TT T66 1000 50 with fn := 51 } 1000 (Yor Try.prog 51 2) (Yd9 18 [(0, .yl 1), (1, .ptr 10 0), (9, .si .i64 n), (10, .si .i64 i)] ([3] ++ rgg 11 7)) [(1, .lp LPth [.opq 1501, .opq 1504, .opq 1507, .opq 1510, .ptr 13 0, .ptr 16 0, .ptr 19 0, .opq 318, .opq 321, .opq 1528, .opq 327, .opq 330, .opq 333, .opq 336, .opq 339, .opq 342, .opq 345, .opq 348, .opq 351, .opq 354, .opq 357, .opq 360, .opq 1567, .opq 1570]), (10, .blk 53 [.ptr 4 0]), (4, .blk 114 [.rs _ qs, .rs _ ps, .si .i64 all, .rs _ sh, .rw 7]), (7, .arr 74 Ja u), (13, .blk 63 [.fn (.func 20) [] [.ptr 25 0, .ptr 22 0, .ptr 28 0]]), (25, .blk 53 [.ptr 4 0]), (22, .blk 3 [.si .i64 q]), (28, .blk 43 [.si .i64 part, .si .i64 boxes, .si .i64 right, .si .i64 pts, .si .i64 minus]), (16, .blk 4 [.sb so]), (19, .blk 4 [.sb al])] (Yvi Xig A K) = Xfm n i qs ps all sh u q part boxes right pts minus so al A K := by kernel_rfl
def Xhp : Prop := ∀ (W : InW) (body a : Code), (Try.prog.funcs[51]?).bind (·.body) = some body -> a ∈ Y1 body -> Yf2 a = 2 -> @Ym8 W Try.prog a (@Yum W Xig)
theorem Xpr (meas : [InW] -> List Ed -> Nat) (hyp_ : ∀ (W : InW) n i qs ps all sh u q part boxes right pts minus so al K, Xgm [.i n, .i i, .ro _ qs, .ro _ ps, .i all, .ro _ sh, .l u, .i q, .i part, .i boxes, .i right, .i pts, .i minus, .b so, .b al] K -> ∀ A : List Ed -> Prop, (∀ e, meas e < meas [.i n, .i i, .ro _ qs, .ro _ ps, .i all, .ro _ sh, .l u, .i q, .i part, .i boxes, .i right, .i pts, .i minus, .b so, .b al] -> Xgm e K -> A e) -> Xfm n i qs ps all sh u q part boxes right pts minus so al A K) : Xhp :=
 LE.okOf' (fun W => @TT W) (fun W => @Xc W) Xa T66 1000 50 (by kernel_rfl) Xig (fun W => @meas W) fun W n i qs ps all sh u q part boxes right pts minus so al K hs =>
  (Xnr W n i qs ps all sh u q part boxes right pts minus so al (fun e => meas e < meas [.i n, .i i, .ro _ qs, .ro _ ps, .i all, .ro _ sh, .l u, .i q, .i part, .i boxes, .i right, .i pts, .i minus, .b so, .b al] /\ Xgm e K) K).mpr (hyp_ W n i qs ps all sh u q part boxes right pts minus so al K hs _ fun e h1 h2 => ⟨h1, h2⟩)
theorem Xsu : Xhp := Xpr (fun e => match e with | .i n :: .i i :: _ => (n - i).toNat | _ => 0) fun W n i qs ps all sh u q part boxes right pts minus so al K hs A hA => by
 obtain ⟨⟨h0, h1, h2, hse, h3, h4⟩, hk⟩ := hs;unfold Xfm;delta Zdv;have ez : (i + 1).toNat = i.toNat + 1 := by omega
 have ei : ((i.toNat : Nat) : Int) = i := Int.toNat_of_nonneg h0
 by_cases hi : i < n
 ·have huq := hse.uq q.toNat (by omega);rw [Int.toNat_of_nonneg h3] at huq;rw [show (n - i).toNat = (n - (i + 1)).toNat + 1 by omega] at hk;have hA' : ∀ c d, c = (so || !decide (Sp.ansX (Sp.rowW sh.xs u q i) = right)) -> d = (al && !decide (Sp.ansX (Sp.rowW sh.xs u q i) = right)) -> A [.i n, .i (i + 1), .ro _ qs, .ro _ ps, .i all, .ro _ sh, .l u, .i q, .i part, .i boxes, .i right, .i pts, .i minus, .b c, .b d] := fun c d hc hd => hA _ (show (n - (i + 1)).toNat < (n - i).toNat by omega) ⟨⟨by omega, by omega, h2, hse, h3, h4⟩, by
   simp only [Sp.anyF, Sp.allF, Sp.miB, ei] at hk;rw [ez, hc, hd, Bool.or_assoc, Bool.and_assoc];exact hk⟩
  clear hA hk
  repeat' (first | (with_reducible refine Xb ⟨h3, h4, h0, huq⟩ ?_) | omega|intro _|with_reducible first|apply vifd|apply vifn|apply vifq|apply Xf|apply Xe|apply vifb|apply vif|apply nedd|apply ned2|apply ned|apply ar64|apply Xb|exact True.intro|assumption|rfl|apply And.intro)
  all_goals first | contradiction | (refine ⟨rfl, ?_⟩; refine hA' _ _ ?_ ?_ <;> simp [*]; done) | skip
 ·rw [show (n - i).toNat = 0 by omega] at hk;simp only [Sp.allF, Sp.anyF, Bool.and_true, Bool.or_false] at hk;clear hA
  repeat' (first | omega|intro _|with_reducible first|apply vifd|apply vifn|apply vifq|apply Xf|apply Xe|apply vifb|apply vif|apply nedd|apply ned2|apply ned|apply ar64|apply Xb|exact True.intro|assumption|rfl|apply And.intro)
  all_goals exact ⟨rfl, hk⟩
def Xtt : LE Try.prog := ⟨51, 2, fun W => @Yum W Xig, Xsu⟩
def T67 : Tab Try.prog := ⟨[], [Xtt], []⟩
def Xjq [InW] (e : List Ed) (K : Nat -> List Ed -> Prop) : Prop := match e with
 | [.ro _ qs, .ro _ ps, .i all, .ro _ sh, .l u, .i q, .i part, .i boxes, .i right, .i pts, .i minus] => Pre (Sp.SeOk qs.xs sh.xs u /\ u.length <= 7 /\ 0 <= q /\ q < sh.xs.length) (K 0 [.b (Sp.anyF (Sp.miB sh.xs u q right) 0 (2 ^ u.length)), .b (Sp.allF (Sp.miB sh.xs u q right) 0 (2 ^ u.length)), .ro _ qs, .ro _ ps, .i all, .ro _ sh, .l u, .i q, .i part, .i boxes, .i right, .i pts, .i minus])
 | _ => False
def Xb0 : CC where
 g := 18
 args := [(.fn (.func 51) [] [(.ptr 10 0)]), (.fn (.func 20) [] [(.ptr 25 0), (.ptr 22 0), (.ptr 28 0)])]
 H := [(10, .blk 53 [(.ptr 4 0)]), (4, .blk 114 [.rs Iv5, .rs Jc, .int .i64, .rs Jb, (.row 7)]), (7, .arr 74 Ja), (25, .blk 53 [(.ptr 4 0)]), (22, .blk 3 [.int .i64]), (28, .blk 43 [.int .i64, .int .i64, .int .i64, .int .i64, .int .i64])]
 outs := [⟨false, .tup [.bool, .bool], [(10, .blk 53 [(.ptr 4 0)]), (4, .blk 114 [.rs Iv5, .rs Jc, .int .i64, .rs Jb, (.row 7)]), (7, .arr 74 Ja), (25, .blk 53 [(.ptr 4 0)]), (22, .blk 3 [.int .i64]), (28, .blk 43 [.int .i64, .int .i64, .int .i64, .int .i64, .int .i64])], false⟩]
 spec := Xjq
def Xec [W : InW] (qs : Ro Iv5) (ps : Ro Jc) (all : Int) (sh : Ro Jb) (u : Dt) (q part boxes right pts minus : Int) (K : Nat -> List Ed -> Prop) : Prop :=
 Need (decide ((0 : Int) <= (↑(u.length) : Int))) (Ar .i64 ((1 : Int) * 2 ^ min (↑(u.length) : Int).toNat (64 : Nat)) fun z => PreL LPth LPth (Pre ((0 : Int) <= 0 /\ 0 <= z /\ z <= 128 /\ Sp.SeOk qs.xs sh.xs u /\ 0 <= q /\ q < (↑(sh.xs.length) : Int)) (K 0 [.b (false || Sp.anyF (Sp.miB sh.xs u q right) Za (z - 0).toNat), .b (true && Sp.allF (Sp.miB sh.xs u q right) Za (z - 0).toNat), .ro _ qs, .ro _ ps, .i all, .ro Zdv sh, .l u, .i q, .i part, .i boxes, .i right, .i pts, .i minus])))
theorem Xlh (W : InW) (qs ps all sh u q part boxes right pts minus K) : Yxz (cxT Try.prog TT T67 1000 50) 1000 18 [.fn (.func 51) [] [.ptr 10 0], .fn (.func 20) [] [.ptr 25 0, .ptr 22 0, .ptr 28 0]] [(10, .blk 53 [.ptr 4 0]), (4, .blk 114 [.rs _ qs, .rs _ ps, .si .i64 all, .rs _ sh, .rw 7]), (7, .arr 74 Ja u), (25, .blk 53 [.ptr 4 0]), (22, .blk 3 [.si .i64 q]), (28, .blk 43 [.si .i64 part, .si .i64 boxes, .si .i64 right, .si .i64 pts, .si .i64 minus])] (fun v h => outC Xb0.H [.ro _ qs, .ro _ ps, .i all, .ro _ sh, .l u, .i q, .i part, .i boxes, .i right, .i pts, .i minus] Xb0.outs 0 false v h K) (fun v h => outC Xb0.H [.ro _ qs, .ro _ ps, .i all, .ro _ sh, .l u, .i q, .i part, .i boxes, .i right, .i pts, .i minus] Xb0.outs 0 true v h K) = Xec qs ps all sh u q part boxes right pts minus K := by kernel_rfl
theorem Xmh (hyp_ : ∀ (W : InW) qs ps all sh u q part boxes right pts minus K, Xjq [.ro _ qs, .ro _ ps, .i all, .ro _ sh, .l u, .i q, .i part, .i boxes, .i right, .i pts, .i minus] K -> Xec qs ps all sh u q part boxes right pts minus K) : ∀ W : InW, @CallC W Try.prog Xb0 :=
 CC.okOf (fun W => @TT W) (fun W => @Xc W) Xa T67 1000 50 Xb0 fun W qs ps all sh u q part boxes right pts minus K hs => (Xlh W qs ps all sh u q part boxes right pts minus K).mpr (hyp_ W qs ps all sh u q part boxes right pts minus K hs)
theorem Xri : ∀ W : InW, @CallC W Try.prog Xb0 := Xmh fun W qs ps all sh u q part boxes right pts minus K hs => by
 obtain ⟨⟨hse, h7, h3, h4⟩, hk⟩ := hs;unfold Xec;delta Za Zdv Zb;obtain ⟨p1, p2, p3⟩ := Xl3 h7;rw [p1];simp only [show Int.toNat 0 = 0 from rfl, Int.sub_zero, Bool.true_and, Bool.false_or];refine nedd (by omega) (ar64 (by omega) ⟨rfl, ⟨by omega, by omega, by omega, hse, h3, h4⟩, ?_⟩);rw [Int.toNat_natCast];exact hk
def T68 : Tab Try.prog := ⟨[Xpg], [], [ceOf Xb0 Xri]⟩
namespace Sp
def miAny (sh u : Dt) (q right : Int) : Bool := anyF (miB sh u q right) 0 (2 ^ u.length)
def miAll (sh u : Dt) (q right : Int) : Bool := allF (miB sh u q right) 0 (2 ^ u.length)
def mAddW (qs sh u l : Dt) (j : Nat) : Dt := if miAll sh u j (qRight qs j) = true then l.set j [.i ((cel l j 0).int + 1), .i ((cel l j 1).int + 1)] else if miAny sh u j (qRight qs j) = true then l.set j [.i (cel l j 0).int, .i ((cel l j 1).int + 1)] else l
def addQW (qs sh u : Dt) : Nat -> Nat -> Dt -> Dt
 | _, 0, l => l
 | j, n + 1, l => addQW qs sh u (j + 1) n (mAddW qs sh u l j)
end Sp
def Xgv [InW] (e : List Ed) (K : Nat -> List Ed -> Prop) : Prop := match e with
 | [.i i, .ro _ qz, .i n, .i j, .ro _ qs, .ro _ ps, .i all, .ro _ sh, .l u, .l l] => Pre (n = qz.xs.length /\ 0 <= j /\ j <= n /\ l.length = qz.xs.length /\ sh.xs.length = qz.xs.length /\ Sp.SeOk qs.xs sh.xs u /\ u.length <= 7 /\ l.length <= 12 /\ 0 <= i /\ i <= 20 /\ Sp.CntAt l i j) (K 0 [.i i, .l (Sp.addQW qz.xs sh.xs u j.toNat (qz.xs.length - j.toNat) l)])
 | _ => False
def Xip : LC where
 len := 89
 T := [(4, (.row 3)), (8, (.ptr 25 0)), (30, .int .i64), (44, .rs Iv5), (45, .int .i64), (46, .int .i64)]
 H := [(25, .blk 53 [(.ptr 4 0)]), (4, .blk 114 [.rs Iv5, .rs Jc, .int .i64, .rs Jb, (.row 7)]), (7, .arr 74 Ja), (3, .arr 36 Ja)]
 W := ([10, 11] ++ rgg 47 40)
 outs := [⟨.exit 2, [(4, (.row 6)), (30, .int .i64)], [(6, .arr 36 Ja)], ([8, 10, 11] ++ rgg 44 43)⟩]
 spec := Xgv
def Zdw [W : InW] (j : Int) (l : Dt) := decide (0 <= j) && decide (j < (↑(l.length) : Int))
def Zdx [W : InW] (j : Int) (l : Dt) := List.getD l j.toNat []
def Xfv [W : InW] (i : Int) (qz : Ro Iv5) (n j : Int) (qs : Ro Iv5) (ps : Ro Jc) (all : Int) (sh : Ro Jb) (u l : Dt) (A : List Ed -> Prop) (K : Nat -> List Ed -> Prop) : Prop :=
 Vif (decide (j < n)) (Need (decide (0 <= j) && decide (j < (↑(qz.xs.length) : Int))) (Need (decide (j.toNat < qz.xs.length)) (Pre (Sp.SeOk qs.xs sh.xs u /\ u.length <= 7 /\ 0 <= j /\ j < (↑(sh.xs.length) : Int)) (Pre True (Vif (decide (Sp.ocB (Sp.anyF (Sp.miB sh.xs u j (cel qz.xs j.toNat (Zd + 1 + 1)).int) Zd ((2 : Nat) ^ u.length)) (Sp.allF (Sp.miB sh.xs u j (cel qz.xs j.toNat (Zd + 1 + 1)).int) Zd ((2 : Nat) ^ u.length)) = 1)) (Need (Zdw j l) (Need (decide (j.toNat < l.length)) (Ar .i64 ((cel l j.toNat Zd).int + 1) fun z => Need (Zdw j l) (Need (decide (j.toNat < l.length)) (Need (decide (0 <= j) && decide (j < (↑(List.set l j.toNat (Yn3 (Zdx j l) Zd [Cl.i z])).length : Int))) (Need (decide (j.toNat < (List.set l j.toNat (Yn3 (Zdx j l) Zd [Cl.i z])).length)) (Ar .i64 ((cel (List.set l j.toNat (Yn3 (Zdx j l) Zd [Cl.i z])) j.toNat (0+1)).int + 1) fun z_1 => Need (decide (0 <= j) && decide (j < (↑(List.set l j.toNat (Yn3 (Zdx j l) Zd [Cl.i z])).length : Int))) (Need (decide (j.toNat < (List.set l j.toNat (Yn3 (Zdx j l) Zd [Cl.i z])).length)) (Ar .i64 (j + 1) fun z_2 => A [.i i, .ro _ qz, .i n, .i z_2, .ro _ qs, .ro _ ps, .i all, .ro Zdv sh, .l u, .l ((List.set l j.toNat (Yn3 (Zdx j l) Zd [Cl.i z])).set j.toNat (Yn3 ((List.set l j.toNat (Yn3 (Zdx j l) Zd [Cl.i z])).getD j.toNat []) (0+1) [Cl.i z_1]))]))))))))) (Vif (decide (Sp.ocB (Sp.anyF (Sp.miB sh.xs u j (cel qz.xs j.toNat (Zd + 1 + 1)).int) Zd ((2 : Nat) ^ u.length)) (Sp.allF (Sp.miB sh.xs u j (cel qz.xs j.toNat (Zd + 1 + 1)).int) Zd ((2 : Nat) ^ u.length)) = 2)) (Need (Zdw j l) (Need (decide (j.toNat < l.length)) (Ar .i64 ((cel l j.toNat (0+1)).int + 1) fun z => Need (Zdw j l) (Need (decide (j.toNat < l.length)) (Ar .i64 (j + 1) fun z_1 => A [.i i, .ro _ qz, .i n, .i z_1, .ro _ qs, .ro _ ps, .i all, .ro Zdv sh, .l u, .l (List.set l j.toNat (Yn3 (Zdx j l) (0+1) [Cl.i z]))]))))) (Ar .i64 (j + 1) fun z => A [.i i, .ro _ qz, .i n, .i z, .ro _ qs, .ro _ ps, .i all, .ro Zdv sh, .l u, .l l]))))))) (K 0 [.i i, .l l])
theorem Xn0 (W : InW) (i qz n j qs ps all sh u l A K) : Yfh { cxT Try.prog TT T68 1000 50 with fn := 4 } 1000 (Yor Try.prog 4 15) (Yd9 89 [(4, .rw 3), (8, .ptr 25 0), (30, .si .i64 i), (44, .rs _ qz), (45, .si .i64 n), (46, .si .i64 j)] ([10, 11] ++ rgg 47 40)) [(25, .blk 53 [.ptr 4 0]), (4, .blk 114 [.rs _ qs, .rs _ ps, .si .i64 all, .rs _ sh, .rw 7]), (7, .arr 74 Ja u), (3, .arr 36 Ja l)] (Yvi Xip A K) = Xfv i qz n j qs ps all sh u l A K := by kernel_rfl
def Xhy : Prop := ∀ (W : InW) (body a : Code), (Try.prog.funcs[4]?).bind (·.body) = some body -> a ∈ Y1 body -> Yf2 a = 15 -> @Ym8 W Try.prog a (@Yum W Xip)
theorem Xp0 (meas : [InW] -> List Ed -> Nat) (hyp_ : ∀ (W : InW) i qz n j qs ps all sh u l K, Xgv [.i i, .ro _ qz, .i n, .i j, .ro _ qs, .ro _ ps, .i all, .ro _ sh, .l u, .l l] K -> ∀ A : List Ed -> Prop, (∀ e, meas e < meas [.i i, .ro _ qz, .i n, .i j, .ro _ qs, .ro _ ps, .i all, .ro _ sh, .l u, .l l] -> Xgv e K -> A e) -> Xfv i qz n j qs ps all sh u l A K) : Xhy :=
 LE.okOf' (fun W => @TT W) (fun W => @Xc W) Xa T68 1000 50 (by kernel_rfl) Xip (fun W => @meas W) fun W i qz n j qs ps all sh u l K hs =>
  (Xn0 W i qz n j qs ps all sh u l (fun e => meas e < meas [.i i, .ro _ qz, .i n, .i j, .ro _ qs, .ro _ ps, .i all, .ro _ sh, .l u, .l l] /\ Xgv e K) K).mpr (hyp_ W i qz n j qs ps all sh u l K hs _ fun e h1 h2 => ⟨h1, h2⟩)
theorem Xs3 : Xhy := Xp0 (fun e => match e with | _ :: _ :: .i n :: .i j :: _ => (n - j).toNat | _ => 0) fun W i qz n j qs ps all sh u l K hs A hA => by
 obtain ⟨⟨rfl, h2, h3, h4, hsl, hse, h7, h12, hi0, hi20, hc⟩, hk⟩ := hs;unfold Xfv;delta Zdv Zdx Zdw Zd;have ez : (j + 1).toNat = j.toNat + 1 := by omega
 have ej : ((j.toNat : Nat) : Int) = j := Int.toNat_of_nonneg h2
 by_cases hj : j < qz.xs.length
 ·have hj2 : j.toNat < l.length := by omega
  obtain ⟨x, y, hg, b1, b2, b3, b4⟩ := hc.ok j.toNat hj2;rw [if_neg (by omega)] at b2 b4;have c0 : cel l j.toNat 0 = .i x := by unfold cel; rw [hg]; rfl
  have c1 : cel l j.toNat 1 = .i y := by unfold cel; rw [hg]; rfl
  rw [show qz.xs.length - j.toNat = (qz.xs.length - (j.toNat + 1)) + 1 by omega] at hk;simp only [Sp.addQW, Sp.mAddW, c0, c1, ej, show ∀ a, (Cl.i a).int = a from fun _ => rfl] at hk;have hnx := fun dx dy => Sp.CntAt.next (m := i) (dx := dx) (dy := dy) (by rw [ej]; exact hc) hj2 hg
  rw [ej] at hnx;have hs2 : l.set j.toNat [.i x, .i y] = l := by
   rw [<- hg, List.getD_eq_getElem?_getD, List.getElem?_eq_getElem hj2];exact List.set_getElem_self hj2
  have hA' : ∀ dx dy l', (dx = 0 \/ dx = 1) -> (dy = 0 \/ dy = 1) -> l' = l.set j.toNat [.i (x + dx), .i (y + dy)] -> K 0 [.i i, .l (Sp.addQW qz.xs sh.xs u (j.toNat + 1) (qz.xs.length - (j.toNat + 1)) l')] -> A [.i i, .ro _ qz, .i qz.xs.length, .i (j + 1), .ro _ qs, .ro _ ps, .i all, .ro _ sh, .l u, .l l'] := fun dx dy l' hx hy e hk => by
   subst e;exact hA _ (show ((qz.xs.length : Int) - (j + 1)).toNat < ((qz.xs.length : Int) - j).toNat by omega) ⟨⟨rfl, by omega, by omega, by rw [List.length_set]; exact h4, hsl, hse, h7, by rw [List.length_set]; exact h12, hi0, hi20, hnx dx dy hx hy⟩, by rw [ez]; exact hk⟩
  clear hA hnx;simp only [Nat.zero_add, Nat.reduceAdd, show (cel qz.xs j.toNat 2).int = Sp.qRight qz.xs j.toNat from rfl, hg, c0, c1, show ∀ a, (Cl.i a).int = a from fun _ => rfl, Sp.cel_set hj2, Sp.set_getD hj2, List.set_set, List.length_set, show ∀ a b c : Cl, Yn3 [a, b] 0 [c] = [c, b] from fun _ _ _ => rfl, show ∀ a b c : Cl, Yn3 [a, b] 1 [c] = [a, c] from fun _ _ _ => rfl, show ∀ (a b : Cl), List.getD [a, b] 1 Cl.z = b from fun _ _ => rfl, show ∀ r, Sp.anyF (Sp.miB sh.xs u j r) 0 (2 ^ u.length) = Sp.miAny sh.xs u j r from fun _ => rfl, show ∀ r, Sp.allF (Sp.miB sh.xs u j r) 0 (2 ^ u.length) = Sp.miAll sh.xs u j r from fun _ => rfl];cases m1 : Sp.miAll sh.xs u j (Sp.qRight qz.xs j.toNat) <;> cases m2 : Sp.miAny sh.xs u j (Sp.qRight qz.xs j.toNat) <;> simp only [m1, m2, if_true, if_false, Bool.false_eq_true, Sp.ocB] at hk ⊢
  ·have hA1 := hA' 0 0 l (.inl rfl) (.inl rfl) (by rw [Int.add_zero, Int.add_zero, hs2]) hk;clear hA' hk
   repeat' (first | (with_reducible refine Xb ⟨hse, h7, h2, by omega⟩ ?_) | (with_reducible refine Xb trivial ?_) | omega|intro _|with_reducible first|apply vifd|apply vifn|apply vifq|apply Xf|apply Xe|apply vifb|apply vif|apply nedd|apply ned2|apply ned|apply ar64|apply Xb|exact True.intro|assumption|rfl|apply And.intro)
   all_goals first | contradiction | exact hA1 | skip
  ·have hA1 := hA' 0 1 _ (.inl rfl) (.inr rfl) (by rw [Int.add_zero]) hk;clear hA' hk
   repeat' (first | (with_reducible refine Xb ⟨hse, h7, h2, by omega⟩ ?_) | (with_reducible refine Xb trivial ?_) | omega|intro _|with_reducible first|apply vifd|apply vifn|apply vifq|apply Xf|apply Xe|apply vifb|apply vif|apply nedd|apply ned2|apply ned|apply ar64|apply Xb|exact True.intro|assumption|rfl|apply And.intro)
   all_goals first | contradiction | exact hA1 | skip
  ·have hA1 := hA' 1 1 _ (.inr rfl) (.inr rfl) rfl hk;clear hA' hk
   repeat' (first | (with_reducible refine Xb ⟨hse, h7, h2, by omega⟩ ?_) | (with_reducible refine Xb trivial ?_) | omega|intro _|with_reducible first|apply vifd|apply vifn|apply vifq|apply Xf|apply Xe|apply vifb|apply vif|apply nedd|apply ned2|apply ned|apply ar64|apply Xb|exact True.intro|assumption|rfl|apply And.intro)
   all_goals first | contradiction | exact hA1 | skip
  ·have hA1 := hA' 1 1 _ (.inr rfl) (.inr rfl) rfl hk;clear hA' hk
   repeat' (first | (with_reducible refine Xb ⟨hse, h7, h2, by omega⟩ ?_) | (with_reducible refine Xb trivial ?_) | omega|intro _|with_reducible first|apply vifd|apply vifn|apply vifq|apply Xf|apply Xe|apply vifb|apply vif|apply nedd|apply ned2|apply ned|apply ar64|apply Xb|exact True.intro|assumption|rfl|apply And.intro)
   all_goals first | contradiction | exact hA1 | skip
 ·rw [show qz.xs.length - j.toNat = 0 by omega] at hk;simp only [Sp.addQW] at hk;clear hA
  repeat' (first | omega|intro _|with_reducible first|apply vifd|apply vifn|apply vifq|apply Xf|apply Xe|apply vifb|apply vif|apply nedd|apply ned2|apply ned|apply ar64|apply Xb|exact True.intro|assumption|rfl|apply And.intro)
  all_goals exact hk
def Xt1 : LE Try.prog := ⟨4, 15, fun W => @Yum W Xip, Xs3⟩
def T69 : Tab Try.prog := ⟨[], [Xt1], [ceOf Xci Xtg]⟩
namespace Sp
def addPW (qs pp : Dt) : Nat -> Nat -> Dt -> Dt
 | _, 0, l => l
 | i, n + 1, l => addPW qs pp (i + 1) n (addQW qs (row pp i) (uns (row pp i)) 0 qs.length l)
end Sp
def Xgw [InW] (e : List Ed) (K : Nat -> List Ed -> Prop) : Prop := match e with
 | [.ro _ pp, .i n, .i i, .ro _ qs, .ro _ ps, .i all, .l l] => Pre (n = pp.xs.length /\ 0 <= i /\ i <= n /\ n <= 20 /\ Sp.KeyOk qs.xs ps.xs all /\ l.length = qs.xs.length /\ Sp.CntAt l i 0) (Vif (Sp.hasE (Sp.shI qs.xs pp.xs) i.toNat (pp.xs.length - i.toNat)) (K 1 [.i (Sp.shI qs.xs pp.xs (Sp.idxE (Sp.shI qs.xs pp.xs) i.toNat (pp.xs.length - i.toNat)))]) (K 0 [.l (Sp.addPW qs.xs pp.xs i.toNat (pp.xs.length - i.toNat) l)]))
 | _ => False
def Xiq : LC where
 len := 89
 T := [(2, (.ptr 1 0)), (4, (.row 3)), (28, .rs [.sl Jb]), (29, .int .i64), (30, .int .i64)]
 H := [(1, .blk 25 [.rs Iv5, .rs Jc, .int .i64]), (3, .arr 36 Ja)]
 W := ([5] ++ rgg 7 5 ++ rgg 31 57)
 outs := [⟨.exit 0, [(4, (.row 6))], [(6, .arr 36 Ja)], ([2, 5] ++ rgg 7 5 ++ rgg 28 60)⟩, ⟨.ret, [(4, (.lit (.slice none 0 0))), (5, .int .i64)], [], ([2] ++ rgg 7 5 ++ rgg 28 60)⟩]
 spec := Xgw
def Xfw [W : InW] (pp : Ro [.sl Jb]) (n i : Int) (qs : Ro Iv5) (ps : Ro Jc) (all : Int) (l : Dt) (A : List Ed -> Prop) (K : Nat -> List Ed -> Prop) : Prop :=
 Vif (decide (i < n)) (Need (decide (0 <= i) && decide (i < (↑(pp.xs.length) : Int))) (Need (decide (i.toNat < pp.xs.length)) (Pre (Sp.KeyOk qs.xs ps.xs all) (Vif (decide (Sp.shE qs.xs (cel pp.xs i.toNat Zd).lst = 0)) (Pre ((↑(qs.xs.length) : Int) = (↑(qs.xs.length) : Int) /\ Zb <= 0 /\ Zb <= (↑(qs.xs.length) : Int) /\ l.length = qs.xs.length /\ List.length (cel pp.xs i.toNat Zd).lst = qs.xs.length /\ Sp.SeOk qs.xs (cel pp.xs i.toNat Zd).lst (Sp.uns (cel pp.xs i.toNat Zd).lst) /\ List.length (Sp.uns (cel pp.xs i.toNat Zd).lst) <= 7 /\ l.length <= 12 /\ 0 <= i /\ i <= 20 /\ Sp.CntAt l i Zb) (Ar .i64 (i + 1) fun z => A [.ro [Ty.sl Zdv] pp, .i n, .i z, .ro _ qs, .ro _ ps, .i all, .l (Sp.addQW qs.xs (cel pp.xs i.toNat Zd).lst (Sp.uns (cel pp.xs i.toNat Zd).lst) (Int.toNat Zb) (qs.xs.length - Int.toNat Zb) l)])) (Vif (!decide (Sp.shE qs.xs (cel pp.xs i.toNat Zd).lst = 0)) (K (0+1) [.i (Sp.shE qs.xs (cel pp.xs i.toNat Zd).lst)]) ((435 : Nat) = 435 + 1)))))) (K 0 [.l l])
theorem Xn1 (W : InW) (pp n i qs ps all l A K) : Yfh { cxT Try.prog TT T69 1000 50 with fn := 4 } 1000 (Yor Try.prog 4 9) (Yd9 89 [(2, .ptr 1 0), (4, .rw 3), (28, .rs _ pp), (29, .si .i64 n), (30, .si .i64 i)] ([5] ++ rgg 7 5 ++ rgg 31 57)) [(1, .blk 25 [.rs _ qs, .rs _ ps, .si .i64 all]), (3, .arr 36 Ja l)] (Yvi Xiq A K) = Xfw pp n i qs ps all l A K := by kernel_rfl
def Xhz : Prop := ∀ (W : InW) (body a : Code), (Try.prog.funcs[4]?).bind (·.body) = some body -> a ∈ Y1 body -> Yf2 a = 9 -> @Ym8 W Try.prog a (@Yum W Xiq)
theorem Xp1 (meas : [InW] -> List Ed -> Nat) (hyp_ : ∀ (W : InW) pp n i qs ps all l K, Xgw [.ro _ pp, .i n, .i i, .ro _ qs, .ro _ ps, .i all, .l l] K -> ∀ A : List Ed -> Prop, (∀ e, meas e < meas [.ro _ pp, .i n, .i i, .ro _ qs, .ro _ ps, .i all, .l l] -> Xgw e K -> A e) -> Xfw pp n i qs ps all l A K) : Xhz :=
 LE.okOf' (fun W => @TT W) (fun W => @Xc W) Xa T69 1000 50 (by kernel_rfl) Xiq (fun W => @meas W) fun W pp n i qs ps all l K hs =>
  (Xn1 W pp n i qs ps all l (fun e => meas e < meas [.ro _ pp, .i n, .i i, .ro _ qs, .ro _ ps, .i all, .l l] /\ Xgw e K) K).mpr (hyp_ W pp n i qs ps all l K hs _ fun e h1 h2 => ⟨h1, h2⟩)
theorem Xc4 (qs sh u : Dt) : ∀ n j l, (Sp.addQW qs sh u j n l).length = l.length
 | 0, _, _ => rfl
 | n + 1, j, l => by
  simp only [Sp.addQW, Xc4 qs sh u n];unfold Sp.mAddW
  split
  ·simp
  ·split <;> simp
theorem Xkd {qs sh u : Dt} {m : Int} : ∀ n j l, Sp.CntAt l m (j : Nat) -> j + n = l.length -> Sp.CntAt (Sp.addQW qs sh u j n l) m (l.length : Nat)
 | 0, j, l, h, e => by rw [<- e]; exact h
 | n + 1, j, l, h, e => by
  have hj : j < l.length := by omega
  obtain ⟨x, y, hg, _⟩ := h.ok j hj;have c0 : cel l j 0 = .i x := by unfold cel; rw [hg]; rfl
  have c1 : cel l j 1 = .i y := by unfold cel; rw [hg]; rfl
  have hs2 : l.set j [.i x, .i y] = l := by
   rw [<- hg, List.getD_eq_getElem?_getD, List.getElem?_eq_getElem hj];exact List.set_getElem_self hj
  have hl : (Sp.mAddW qs sh u l j).length = l.length := by unfold Sp.mAddW; (repeat' split) <;> simp
  have := Xkd (qs := qs) (sh := sh) (u := u) n (j + 1) (Sp.mAddW qs sh u l j) (by
   unfold Sp.mAddW;rw [c0, c1]
   split
   ·exact h.next hj hg (.inr rfl) (.inr rfl)
   ·split
    ·have := h.next (dx := 0) (dy := 1) hj hg (.inl rfl) (.inr rfl)
     rw [Int.add_zero] at this;exact this
    ·have := h.next (dx := 0) (dy := 0) hj hg (.inl rfl) (.inl rfl)
     rw [Int.add_zero, Int.add_zero, hs2] at this;exact this) (by omega)
  rw [hl] at this;exact this
theorem Xs4 : Xhz := Xp1 (fun e => match e with | _ :: .i n :: .i i :: _ => (n - i).toNat | _ => 0) fun W pp n i qs ps all l K hs A hA => by
 obtain ⟨⟨rfl, h0, h1, h20, hkey, hl, hc⟩, hk⟩ := hs;unfold Xfw;delta Zd Zb Zdv;have n2 := hkey.n2;have ez : (i + 1).toNat = i.toNat + 1 := by omega
 simp only [show Int.toNat 0 = 0 from rfl, Nat.sub_zero, show (cel pp.xs i.toNat 0).lst = Sp.row pp.xs i.toNat from rfl]
 by_cases hi : i < pp.xs.length
 ·rw [show pp.xs.length - i.toNat = (pp.xs.length - (i.toNat + 1)) + 1 by omega] at hk;obtain ⟨g1, g2⟩ := Xdf (K1 := fun _ e => K 1 [.i e]) hk;simp only [Sp.addPW] at g2;have g1 : Sp.shE qs.xs (Sp.row pp.xs i.toNat) ≠ 0 -> K 1 [.i (Sp.shE qs.xs (Sp.row pp.xs i.toNat))] := g1;have g2 : Sp.shE qs.xs (Sp.row pp.xs i.toNat) = 0 -> _ := g2;clear hk;refine vifd (fun _ => ned (by simp; omega) (nedd (by omega) ⟨hkey, vifd (fun e => ?_) fun e => vifn (fun _ => g1 e) fun c => absurd c e⟩)) fun c => absurd hi c;have hs := Sp.shE_iff.1 e;have hgo := Xkd (qs := qs.xs) (sh := Sp.row pp.xs i.toNat) (u := Sp.uns (Sp.row pp.xs i.toNat)) l.length 0 l hc (by omega);have hll := Xc4 qs.xs (Sp.row pp.xs i.toNat) (Sp.uns (Sp.row pp.xs i.toNat)) l.length 0 l;rw [show ((l.length : Nat) : Int) = ((Sp.addQW qs.xs (Sp.row pp.xs i.toNat) (Sp.uns (Sp.row pp.xs i.toNat)) 0 l.length l).length : Nat) by rw [hll]] at hgo;refine ⟨⟨trivial, by omega, by omega, hl, hs.n, hs.se hkey, hs.seven, by omega, h0, by omega, hc⟩, ar64 (by omega) (hA _ (show ((pp.xs.length : Int) - (i + 1)).toNat < ((pp.xs.length : Int) - i).toNat by omega) ⟨⟨rfl, by omega, by omega, h20, hkey, by rw [Xc4]; exact hl, ?_⟩, ?_⟩)⟩
  ·rw [<- hl]; exact hgo.up
  ·rw [ez]; exact g2 e
 ·rw [show pp.xs.length - i.toNat = 0 by omega] at hk;clear hA;exact vifd (fun c => absurd c hi) fun _ => hk.2 rfl
def Xt2 : LE Try.prog := ⟨4, 9, fun W => @Yum W Xiq, Xs4⟩
def T70 : Tab Try.prog := ⟨[Xeg], [Xt2], []⟩
def Zdy [W : InW] (kQ : Ro Iv5) := List.replicate (↑(kQ.xs.length) : Int).toNat (Ybq [.int .i64, .int .i64])
def Xfa [W : InW] (kQ : Ro Iv5) (kP : Ro Jc) (kA : Int) (pp : Ro [.sl Jb]) (Q : DS -> Prop) : Prop :=
 Pre True (Vif (!decide (Sp.chkE kQ.xs kP.xs kA = 0)) (Q [[Cl.l []], [Cl.i (Sp.chkE kQ.xs kP.xs kA)]]) (Vif (decide ((20 : Int) < (↑(pp.xs.length) : Int))) (Q [[Cl.l []], [Cl.i 3]]) (Need (decide ((↑(kQ.xs.length) : Int) = (↑(kQ.xs.length) : Int)) && decide (Zb <= (↑(kQ.xs.length) : Int)) && decide ((16 : Nat) * (↑(kQ.xs.length) : Int).toNat <= 281474976710656)) (Pre ((↑(pp.xs.length) : Int) = (↑(pp.xs.length) : Int) /\ Zb <= 0 /\ Zb <= (↑(pp.xs.length) : Int) /\ (↑(pp.xs.length) : Int) <= 20 /\ Sp.KeyOk kQ.xs kP.xs kA /\ (Zdy kQ).length = kQ.xs.length /\ Sp.CntAt (Zdy kQ) Zb Zb) (Vif (Sp.hasE (Sp.shI kQ.xs pp.xs) (Int.toNat Zb) (pp.xs.length - Int.toNat Zb)) (Q [[Cl.l []], [Cl.i (Sp.shI kQ.xs pp.xs (Sp.idxE (Sp.shI kQ.xs pp.xs) (Int.toNat Zb) (pp.xs.length - Int.toNat Zb)))]]) (Q [[Cl.l (Sp.addPW kQ.xs pp.xs (Int.toNat Zb) (pp.xs.length - Int.toNat Zb) (Zdy kQ))], [Cl.i 0]]))))))
theorem Xoo (W : InW) (kQ kP kA pp Q) : Yx2 (cxT Try.prog TT T70 1000 50) 1000 4 [.agg [.rs _ kQ, .rs _ kP, .si .i64 kA], .rs _ pp] [] 0 (Y2i [(false, [.row 36 Ja]), (false, [.int .i64])] Q) (fun _ _ _ _ => Stuck 421) = Xfa kQ kP kA pp Q := by kernel_rfl
abbrev Xdw : List AT := [.agg [.sl Iv5, .sl Jc, .int .i64], .one (.sl [.sl Jb])]
theorem Xqp {pre : DS -> Prop} {res : DS -> DS} (hyp_ : ∀ (W : InW) (kQ : Ro Iv5) (kP : Ro Jc) (kA : Int) (pp : Ro [.sl Jb]), pre [[.l kQ.xs, .l kP.xs, .i kA], [.l pp.xs]] -> ∀ Q : DS -> Prop, Q (res [[.l kQ.xs, .l kP.xs, .i kA], [.l pp.xs]]) -> Xfa kQ kP kA pp Q) : PureOk Try.prog 4 Xdw [(false, [.row 36 Ja]), (false, [.int .i64])] pre res :=
 PureOk.of' (fun W => @TT W) (fun W => @Xc W) Xa T70 1000 50 fun W kQ kP kA pp hp =>
  (Xoo W kQ kP kA pp (fun o => o = res [[.l kQ.xs, .l kP.xs, .i kA], [.l pp.xs]])).mpr (hyp_ W kQ kP kA pp hp _ rfl)
namespace Sp
def flq (us : List (Nat × Nat)) (q : Nat) : List (Nat × Nat) := (us.filter fun p => decide (p.1 = q)).map fun p => (0, p.2)
theorem one_with (d : Dt) (j : Nat) (v : Int) : withD (one d) 0 j v = one (d.set j [.i v]) := rfl
theorem row_it1 : ∀ (us : List (Nat × Nat)) (b : Nat) (s : Dt) (q : Nat), q < s.length -> ∃ b', b' < 2 ^ (flq us q).length /\ row (itW us b s) q = row (itW (flq us q) b' (one (row s q))) 0
 | [], b, s, q, _ => ⟨0, by simp [flq], rfl⟩
 | p :: ps, b, s, q, h => by
  obtain ⟨c, hc, e⟩ := row_it1 ps (b / 2) (withD s p.1 p.2 ((b % 2 : Nat) : Int)) q (by rw [withD_len]; exact h);have hr := withD_row s p.1 p.2 ((b % 2 : Nat) : Int) q h
  by_cases x : p.1 = q
  ·have hf : flq (p :: ps) q = (0, p.2) :: flq ps q := by unfold flq; rw [List.filter_cons_of_pos (by simpa using x)]; rfl
   refine ⟨2 * c + b % 2, by rw [hf, List.length_cons, Nat.pow_succ]; omega, ?_⟩;rw [hf];simp only [itW];rw [e, hr, if_pos x.symm, show (2 * c + b % 2) / 2 = c by omega, show (2 * c + b % 2) % 2 = b % 2 by omega, one_with]
  ·have hf : flq (p :: ps) q = flq ps q := by unfold flq; rw [List.filter_cons_of_neg (by simpa using x)]
   refine ⟨c, by rw [hf]; exact hc, ?_⟩;rw [hf];simp only [itW];rw [e, hr, if_neg (fun y => x y.symm)]
theorem row_it2 : ∀ (us : List (Nat × Nat)) (b' : Nat) (s : Dt) (q : Nat), q < s.length -> b' < 2 ^ (flq us q).length -> ∃ b, b < 2 ^ us.length /\ row (itW us b s) q = row (itW (flq us q) b' (one (row s q))) 0
 | [], b', s, q, _, _ => ⟨0, by simp, rfl⟩
 | p :: ps, b', s, q, h, hb => by
  by_cases x : p.1 = q
  ·have hf : flq (p :: ps) q = (0, p.2) :: flq ps q := by unfold flq; rw [List.filter_cons_of_pos (by simpa using x)]; rfl
   rw [hf, List.length_cons, Nat.pow_succ] at hb;obtain ⟨c, hc, e⟩ := row_it2 ps (b' / 2) (withD s p.1 p.2 ((b' % 2 : Nat) : Int)) q (by rw [withD_len]; exact h) (by omega);have hr := withD_row s p.1 p.2 ((b' % 2 : Nat) : Int) q h;refine ⟨2 * c + b' % 2, by rw [List.length_cons, Nat.pow_succ]; omega, ?_⟩;rw [hf];simp only [itW];rw [show (2 * c + b' % 2) / 2 = c by omega, show (2 * c + b' % 2) % 2 = b' % 2 by omega, e, hr, if_pos x.symm, one_with]
  ·have hf : flq (p :: ps) q = flq ps q := by unfold flq; rw [List.filter_cons_of_neg (by simpa using x)]
   rw [hf] at hb;obtain ⟨c, hc, e⟩ := row_it2 ps b' (withD s p.1 p.2 ((0 : Nat) : Int)) q (by rw [withD_len]; exact h) hb;have hr := withD_row s p.1 p.2 ((0 : Nat) : Int) q h;refine ⟨2 * c, by rw [List.length_cons, Nat.pow_succ]; omega, ?_⟩;rw [hf];simp only [itW];rw [show 2 * c / 2 = c by omega, show 2 * c % 2 = 0 by omega, e, hr, if_neg (fun y => x y.symm)]
theorem flq_app (a b : List (Nat × Nat)) (q : Nat) : flq (a ++ b) q = flq a q ++ flq b q := by unfold flq; rw [List.filter_append, List.map_append]
theorem prow_fl (d : Dt) (i q : Nat) : ∀ n j, flq (prow d i j n) q = if i = q then prow d 0 j n else []
 | 0, j => by simp [prow, flq]
 | n + 1, j => by
  simp only [prow, flq_app, prow_fl d i q n (j + 1)]
  by_cases e : i = q <;> by_cases c : bx d j = 2 <;> simp [flq, e, c]
theorem pall_fl (sh : Dt) (q : Nat) : ∀ n i, flq (pall sh i n) q = if i <= q /\ q < i + n then prow (row sh q) 0 0 (row sh q).length else []
 | 0, i => by rw [if_neg (by omega)]; rfl
 | n + 1, i => by
  simp only [pall, flq_app, prow_fl, pall_fl sh q n (i + 1)]
  by_cases e : i = q
  ·subst e;rw [if_pos rfl, if_neg (by omega), if_pos (by omega), List.append_nil]
  ·rw [if_neg e, List.nil_append]
   by_cases c : i + 1 <= q /\ q < i + 1 + n
   ·rw [if_pos c, if_pos (by omega)]
   ·rw [if_neg c, if_neg (by omega)]
theorem fl_pos {sh : Dt} {q : Nat} (h : q < sh.length) : flq (pos sh) q = pos (one (row sh q)) := by
 unfold pos;rw [pall_fl, if_pos ⟨Nat.zero_le _, by omega⟩]
 show _ = prow (row sh q) 0 0 (row sh q).length ++ []
 rw [List.append_nil]
theorem any_row {sh : Dt} {q : Nat} (h : q < sh.length) (f : Dt -> Bool) : (∃ b, b < 2 ^ (pos sh).length /\ f (row (itW (pos sh) b sh) q) = true) ↔ ∃ k, k < (rdD (one (row sh q))).length /\ f (row (row (rdD (one (row sh q))) k) 0) = true := by
 have := any_rds (sh := one (row sh q)) fun r => f (row r 0);rw [this, <- fl_pos h];constructor
 ·rintro ⟨b, hb, e⟩;obtain ⟨c, hc, e2⟩ := row_it1 (pos sh) b sh q h;exact ⟨c, hc, by rw [<- e2]; exact e⟩
 ·rintro ⟨c, hc, e⟩;obtain ⟨b, hb, e2⟩ := row_it2 (pos sh) c sh q h hc;exact ⟨b, hb, by rw [e2]; exact e⟩
theorem miB_it {sh : Dt} {q b : Nat} {right : Int} (h7 : (pos sh).length <= 7) (hq : q < sh.length) (hb : b < 2 ^ (pos sh).length) : miB sh (uns sh) q right b = !decide (ansOf (row (itW (pos sh) b sh) q) = right) := by
 unfold miB;rw [rowW_it (Nat.lt_of_lt_of_le hb (Nat.le_trans (Nat.pow_le_pow_right (by decide) h7) (by decide))) h7 hq, ansX_of]
theorem mi_any {sh : Dt} {q : Nat} {right : Int} (h7 : (pos sh).length <= 7) (hq : q < sh.length) : miAny sh (uns sh) q right = mAny right (row sh q) := by
 refine bool_iff ?_;unfold miAny mAny;rw [anyF_0, anyF_0, uns_len];have := any_row hq fun d => !decide (ansOf d = right);exact ⟨fun ⟨b, hb, e⟩ => this.1 ⟨b, hb, by rw [miB_it h7 hq hb] at e; exact e⟩, fun h => by
  obtain ⟨b, hb, e⟩ := this.2 h;exact ⟨b, hb, by rw [miB_it h7 hq hb]; exact e⟩⟩
theorem mi_all {sh : Dt} {q : Nat} {right : Int} (h7 : (pos sh).length <= 7) (hq : q < sh.length) : miAll sh (uns sh) q right = mAll right (row sh q) := by
 refine bool_iff ?_;unfold miAll mAll;rw [allF_0, allF_0, uns_len];have := any_row hq fun d => decide (ansOf d = right);constructor
 ·intro h k hk
  show (!decide (ansOf (row (row (rdD (one (row sh q))) k) 0) = right)) = true
  rw [Bool.not_eq_true', decide_eq_false_iff_not];intro c;obtain ⟨b, hb, e⟩ := this.2 ⟨k, hk, decide_eq_true c⟩;have := h b hb;rw [miB_it h7 hq hb, e] at this;cases this
 ·intro h b hb;rw [miB_it h7 hq hb, Bool.not_eq_true', decide_eq_false_iff_not];intro c;obtain ⟨k, hk, e⟩ := this.1 ⟨b, hb, decide_eq_true c⟩;have h1 : (!decide (ansOf (row (row (rdD (one (row sh q))) k) 0) = right)) = true := h k hk;rw [e] at h1;cases h1
theorem mAll_any {right : Int} {d : Dt} (h : mAll right d = true) : mAny right d = true := by
 unfold mAll at h;unfold mAny;rw [allF_0] at h;rw [anyF_0];have : 0 < (rdD (one d)).length := by rw [rdD_len]; exact Nat.two_pow_pos _
 exact ⟨0, this, h 0 this⟩
theorem mAddW_eq {qs sh l : Dt} {m : Int} {j : Nat} (h7 : (pos sh).length <= 7) (hq : j < sh.length) (hc : CntAt l m (j : Nat)) (hj : j < l.length) : mAddW qs sh (uns sh) l j = mAdd qs sh l j := by
 obtain ⟨x, y, hg, _⟩ := hc.ok j hj;have c0 : cel l j 0 = .i x := by unfold cel; rw [hg]; rfl
 have c1 : cel l j 1 = .i y := by unfold cel; rw [hg]; rfl
 have hs2 : l.set j [.i x, .i y] = l := by
  rw [<- hg, List.getD_eq_getElem?_getD, List.getElem?_eq_getElem hj];exact List.set_getElem_self hj
 unfold mAddW mAdd;rw [mi_any h7 hq, mi_all h7 hq, c0, c1];have hh : ∀ a, (Cl.i a).int = a := fun _ => rfl;simp only [hh];cases m1 : mAll (qRight qs j) (row sh j) with
 | true => rw [mAll_any m1]; simp
 | false =>
  cases m2 : mAny (qRight qs j) (row sh j) with
  | true => simp
  | false => simp [hs2]
theorem addQW_eq {qs sh : Dt} {m : Int} (h7 : (pos sh).length <= 7) : ∀ n j l, CntAt l m (j : Nat) -> j + n = l.length -> l.length = sh.length -> addQW qs sh (uns sh) j n l = addQ qs sh j n l
 | 0, _, _, _, _, _ => rfl
 | n + 1, j, l, hc, hn, hl => by
  have hj : j < l.length := by omega
  simp only [addQW, addQ];rw [mAddW_eq h7 (by omega) hc hj];obtain ⟨x, y, hg, _⟩ := hc.ok j hj;have c0 : cel l j 0 = .i x := by unfold cel; rw [hg]; rfl
  have c1 : cel l j 1 = .i y := by unfold cel; rw [hg]; rfl
  have hlen : (mAdd qs sh l j).length = l.length := by unfold mAdd; rw [List.length_set]
  exact addQW_eq h7 n (j + 1) _ (by
   unfold mAdd;rw [c0, c1];exact hc.next hj hg (by split <;> simp) (by split <;> simp)) (by omega) (by omega)
theorem addPW_eq {qs pp : Dt} (hok : ∀ i, i < pp.length -> ShOk qs (row pp i)) : ∀ n i l, i + n = pp.length -> l.length = qs.length -> CntAt l (i : Nat) 0 -> addPW qs pp i n l = addP qs pp i n l
 | 0, _, _, _, _, _ => rfl
 | n + 1, i, l, hn, hl, hc => by
  have hs := hok i (by omega);have h7 := hs.seven;rw [uns_len] at h7;have hn2 := hs.n;simp only [addPW, addP];rw [<- hl, addQW_eq h7 l.length 0 l hc (by omega) (by omega)];have hl2 := addQ_len qs (row pp i) l.length 0 l;have hgo := CntAt.go (qs := qs) (sh := row pp i) l.length 0 l hc (by omega);rw [show ((l.length : Nat) : Int) = ((addQ qs (row pp i) 0 l.length l).length : Nat) by rw [hl2]] at hgo;exact addPW_eq hok n (i + 1) _ (by omega) (by omega) hgo.up
theorem errL_has {f : Nat -> Int} : ∀ n i, errL f i n 0 = if hasE f i n = true then f (idxE f i n) else 0
 | 0, i => by simp [errL, hasE]
 | n + 1, i => by
  unfold errL;rw [if_pos rfl]
  by_cases c : f i = 0
  ·rw [c, errL_has n (i + 1)];simp [hasE, idxE, c]
  ·rw [errL_ne c];simp [hasE, idxE, c]
end Sp
theorem Xsb : PureOk Try.prog 4 Xdw [(false, [.row 36 Ja]), (false, [.int .i64])] (fun _ => True) Xew :=
 Xqp fun W qs ps all pp hp Q h => by
  unfold Xfa;delta Zdy Zb;simp only [Xew, Sp.misV] at h;simp only [show Int.toNat 0 = 0 from rfl, Nat.sub_zero, Int.toNat_natCast, show Ybq [.int .i64, .int .i64] = [Cl.i 0, Cl.i 0] from rfl];refine ⟨trivial, vifn (fun e => ?_) fun e => vifd (fun e2 => ?_) fun e2 => ?_⟩
  ·have e3 : Sp.misE qs.xs ps.xs all pp.xs = Sp.chkE qs.xs ps.xs all := by
    unfold Sp.misE;rw [if_neg e, Sp.errL_ne e]
   rw [if_neg (by omega), e3] at h;exact h
  ·have e3 : Sp.misE qs.xs ps.xs all pp.xs = 3 := by
    unfold Sp.misE;rw [if_pos e, if_pos (by omega), Sp.errL_ne (by omega)]
   rw [if_neg (by omega), e3] at h;exact h
  ·have e3 : Sp.misE qs.xs ps.xs all pp.xs = if Sp.hasE (Sp.shI qs.xs pp.xs) 0 pp.xs.length = true then Sp.shI qs.xs pp.xs (Sp.idxE (Sp.shI qs.xs pp.xs) 0 pp.xs.length) else 0 := by
    unfold Sp.misE;rw [if_pos e, if_neg (by omega), Sp.errL_has]
   have hk := Sp.chkE_iff.1 e;have n2 := hk.n2;have hc0 : Sp.CntAt (List.replicate qs.xs.length [Cl.i 0, Cl.i 0]) 0 0 := ⟨fun j hj => ⟨0, 0, by
    rw [List.length_replicate] at hj;rw [List.getD_eq_getElem?_getD, List.getElem?_replicate, if_pos hj]; rfl, by omega, by split <;> omega, by omega, by split <;> omega⟩⟩
   refine ned (by simp; omega) ⟨⟨trivial, by omega, by omega, by omega, hk, by rw [List.length_replicate], hc0⟩, vif (fun e4 => ?_) fun e4 => ?_⟩
   ·rw [if_pos e4] at e3;rw [if_neg (by rw [e3]; exact (Sp.hasE_ix e4).2.2), e3] at h;exact h
   ·rw [if_neg (by simp [e4])] at e3;rw [if_pos e3, e3] at h;have ho := Sp.misE_ok e3;rw [Sp.addPW_eq ho.2.2 pp.xs.length 0 _ (Nat.zero_add _) (by rw [List.length_replicate]) hc0];exact h
def Xj0 : PC Try.prog := ⟨4, Xdw, [(false, [.row 36 Ja]), (false, [.int .i64])], fun _ => True, Xew, Xsb⟩
def Xnf [InW] (e : List Ed) (K : Nat -> List Ed -> Prop) : Prop := match e with
 | [.i a, .i b, .l xs] => Pre (0 <= a /\ b = a + 1 /\ b <= xs.length) (K 0 [.i ((0 : Nat) : Int), .i ((xs.length - 1 : Nat) : Int), .l (xs.take a.toNat ++ xs.drop b.toNat ++ [[.i 0, .i 0, .i 0, .i 0, .i 0]])])
 | _ => False
def Xcl : CC where
 g := 65
 args := [(.row 3), .int .i64, .int .i64]
 H := [(3, .arr 43 Iv5)]
 outs := [⟨false, (.rwp 6 5), [(6, .arr 43 Iv5)], false⟩]
 spec := Xnf
def Zeb [W : InW] (xs : Dt) := (↑(xs.length) : Int)
def Zea [W : InW] (a b : Int) (xs : Dt) := (↑(a.toNat - 0 + (xs.length - b.toNat)) : Int)
def Zdz [W : InW] (a b : Int) (xs : Dt) := List.take (a.toNat - 0) xs ++ List.take (xs.length - b.toNat) (List.drop b.toNat xs) ++ List.drop (a.toNat - 0 + (xs.length - b.toNat)) xs
def Xgc [W : InW] (a b : Int) (xs : Dt) (K : Nat -> List Ed -> Prop) : Prop :=
 Need (decide (0 <= a)) (Need (decide (0 <= b)) (Need (decide (Zb <= (Zeb xs))) (Need (decide (a.toNat <= b.toNat) && decide (b.toNat <= (Zeb xs).toNat) && decide ((Zeb xs).toNat <= xs.length)) (Vif (decide (a = b)) ((484 : Nat) = 484 + 1) (Need (decide (0 <= a)) (Need (decide ((0 : Nat) <= a.toNat) && decide (a.toNat <= xs.length)) (Need (decide (0 <= b)) (Need (decide (b.toNat <= xs.length) && decide (xs.length <= xs.length)) (Need (decide (a.toNat - 0 + (xs.length - b.toNat) <= xs.length) && decide (b.toNat + (xs.length - b.toNat) <= xs.length)) (Need (decide (Zb <= (Zea a b xs))) (Need (decide (Zb <= (Zeb xs))) (Need (decide ((Zea a b xs).toNat <= (Zeb xs).toNat) && decide ((Zeb xs).toNat <= (Zdz a b xs).length)) (Need (decide ((Zea a b xs).toNat + ((Zeb xs).toNat - (Zea a b xs).toNat) <= (Zdz a b xs).length)) (K 0 [.i (↑(0 : Nat) : Int), .i (Zea a b xs), .l (List.take (Zea a b xs).toNat (Zdz a b xs) ++ List.replicate ((Zeb xs).toNat - (Zea a b xs).toNat) (Ybq [.int .i64, .int .i64, .int .i64, .int .i64, .int .i64]) ++ List.drop ((Zea a b xs).toNat + ((Zeb xs).toNat - (Zea a b xs).toNat)) (Zdz a b xs))]))))))))))))))
theorem Xoh (W : InW) (a b xs K) : Yxz (cxT Try.prog TT T0 1000 50) 1000 65 [.rw 3, .si .i64 a, .si .i64 b] [(3, .arr 43 Iv5 xs)] (fun v h => outC Xcl.H [.l xs] Xcl.outs 0 false v h K) (fun v h => outC Xcl.H [.l xs] Xcl.outs 0 true v h K) = Xgc a b xs K := by kernel_rfl
theorem Xqh (hyp_ : ∀ (W : InW) a b xs K, Xnf [.i a, .i b, .l xs] K -> Xgc a b xs K) : ∀ W : InW, @CallC W Try.prog Xcl :=
 CC.okOf (fun W => @TT W) (fun W => @Xc W) Xa T0 1000 50 Xcl fun W a b xs K hs => (Xoh W a b xs K).mpr (hyp_ W a b xs K hs)
theorem Xm8 (xs : Dt) (a : Nat) (z : List Cl) (h : a + 1 <= xs.length) : List.take (xs.length - 1) (List.take a xs ++ List.take (xs.length - (a + 1)) (List.drop (a + 1) xs) ++ List.drop (xs.length - 1) xs) ++ List.replicate 1 z ++ List.drop xs.length (List.take a xs ++ List.take (xs.length - (a + 1)) (List.drop (a + 1) xs) ++ List.drop (xs.length - 1) xs) = xs.take a ++ xs.drop (a + 1) ++ [z] := by
 have e1 : List.take (xs.length - (a + 1)) (List.drop (a + 1) xs) = List.drop (a + 1) xs := List.take_of_length_le (by simp);rw [e1];have hl : (List.take a xs ++ List.drop (a + 1) xs).length = xs.length - 1 := by simp; omega
 have hd : List.drop xs.length (List.take a xs ++ List.drop (a + 1) xs ++ List.drop (xs.length - 1) xs) = [] := List.drop_eq_nil_of_le (by rw [List.length_append, hl, List.length_drop]; omega);rw [hd, List.take_left' hl, List.append_nil];rfl
theorem Xtj : ∀ W : InW, @CallC W Try.prog Xcl := Xqh fun W a b xs K hs => by
 obtain ⟨⟨h0, rfl, h2⟩, hk⟩ := hs;have e1 : (a + 1).toNat = a.toNat + 1 := by omega
 have e2 : a.toNat + (xs.length - (a.toNat + 1)) = xs.length - 1 := by omega
 have e3 : xs.length - (xs.length - 1) = 1 := by omega
 have e4 : xs.length - 1 + 1 = xs.length := by omega
 have hd := Xm8 xs a.toNat [.i 0, .i 0, .i 0, .i 0, .i 0] (by omega);unfold Xgc;delta Zdz Zea Zeb Zb;rw [e1] at hk;simp only [Nat.sub_zero, e1, Int.toNat_natCast, e2, e3, e4, show Ybq [.int .i64, .int .i64, .int .i64, .int .i64, .int .i64] = [Cl.i 0, Cl.i 0, Cl.i 0, Cl.i 0, Cl.i 0] from rfl, hd];have hlen : (List.take a.toNat xs ++ List.take (xs.length - (a.toNat + 1)) (List.drop (a.toNat + 1) xs) ++ List.drop (xs.length - 1) xs).length = xs.length := by simp; omega
 simp only [hlen];clear hd
 repeat' (first | omega|intro _|with_reducible first|apply vifd|apply vifn|apply vifq|apply Xf|apply Xe|apply vifb|apply vif|apply nedd|apply ned2|apply ned|apply ar64|apply Xb|exact True.intro|assumption|rfl|apply And.intro)
 all_goals first | contradiction | exact hk | (simp only [Bool.and_eq_true, decide_eq_true_eq]; omega)
def T71 : Tab Try.prog := ⟨[Xeg, Xeh], [], [ceOf Xcl Xtj]⟩
def Zef := [Cl.l [], Cl.l [], Cl.i 0]
def Zec [W : InW] (kQ : Ro Iv5) (i : Int) := cel kQ.xs i.toNat Zd
def Zed [W : InW] (kQ : Ro Iv5) (kP : Ro Jc) (i : Int) := decide (Zb <= (Zec kQ i).int) && decide ((Zec kQ i).int < (↑(kP.xs.length) : Int))
def Zee := [[Cl.i 0, Cl.i 0, Cl.i 0, Cl.i 0, Cl.i 0]]
def Xe9 [W : InW] (kQ : Ro Iv5) (kP : Ro Jc) (kA i : Int) (Q : DS -> Prop) : Prop :=
 Pre True (Vif (!decide (Sp.chkE kQ.xs kP.xs kA = 0)) (Q [Zef, [Cl.i (Sp.chkE kQ.xs kP.xs kA)]]) (Ar .i64 ((↑(kQ.xs.length) : Int) - 1) fun z => Pre True (Vif (Sp.out Zb z [[Cl.i i]]) (Q [Zef, [Cl.i 4]]) (Vif (decide ((↑(kQ.xs.length) : Int) = 1)) (Q [Zef, [Cl.i 3]]) (Need (decide (0 <= i) && decide (i < (↑(kQ.xs.length) : Int))) (Need (decide (i.toNat < kQ.xs.length)) (Vif (match kQ.v with | Value.slice none len cap => true | x => false) (Ar .i64 (i + 1) fun z => Pre (0 <= i /\ z = i + 1 /\ z <= (↑Zd : Int)) (Vif (match kP.v with | Value.slice none len cap => true | x => false) (false = false /\ False) (Need (decide ((Zd + kP.xs.length) * 8 <= 140737488355328)) (Need (Zed kQ kP i) (Need (decide ((Zec kQ i).int.toNat < kP.xs.length)) (Ar .i64 ((cel kP.xs (Zec kQ i).int.toNat Zd).int - (cel kQ.xs i.toNat (Zd + 1 + 1 + 1)).int) fun z_1 => Need (Zed kQ kP i) (Need (decide ((Zec kQ i).int.toNat < kP.xs.length)) (Ar .i64 (kA - (cel kQ.xs i.toNat (Zd + 1 + 1 + 1)).int) fun z_2 => Need (decide (Zb <= (Zec kQ i).int) && decide ((Zec kQ i).int < (↑(List.set kP.xs (Zec kQ i).int.toNat [Cl.i z_1]).length : Int))) (Need (decide ((Zec kQ i).int.toNat < (List.set kP.xs (Zec kQ i).int.toNat [Cl.i z_1]).length)) (Vif (decide (min (cel (List.set kP.xs (Zec kQ i).int.toNat [Cl.i z_1]) (Zec kQ i).int.toNat Zd).int z_2 < (-240 : Int))) (Q [Zef, [Cl.i 7]]) (Need (decide ((↑(Zd - 1) : Int).toNat <= List.length (List.take i.toNat [] ++ List.drop z.toNat [] ++ Zee))) (Q [[Cl.l (List.take (↑(Zd - 1) : Int).toNat (List.take i.toNat [] ++ List.drop z.toNat [] ++ Zee)), Cl.l (List.set kP.xs (Zec kQ i).int.toNat [Cl.i z_1]), Cl.i z_2], [Cl.i 0]])))))))))))) (Need (decide ((Zd + kQ.xs.length) * 40 <= 140737488355328)) (Ar .i64 (i + 1) fun z => Pre (0 <= i /\ z = i + 1 /\ z <= (↑(kQ.xs.length) : Int)) (Vif (match kP.v with | Value.slice none len cap => true | x => false) (false = false /\ False) (Need (decide ((Zd + kP.xs.length) * 8 <= 140737488355328)) (Need (Zed kQ kP i) (Need (decide ((Zec kQ i).int.toNat < kP.xs.length)) (Ar .i64 ((cel kP.xs (Zec kQ i).int.toNat Zd).int - (cel kQ.xs i.toNat (Zd + 1 + 1 + 1)).int) fun z_1 => Need (Zed kQ kP i) (Need (decide ((Zec kQ i).int.toNat < kP.xs.length)) (Ar .i64 (kA - (cel kQ.xs i.toNat (Zd + 1 + 1 + 1)).int) fun z_2 => Need (decide (Zb <= (Zec kQ i).int) && decide ((Zec kQ i).int < (↑(List.set kP.xs (Zec kQ i).int.toNat [Cl.i z_1]).length : Int))) (Need (decide ((Zec kQ i).int.toNat < (List.set kP.xs (Zec kQ i).int.toNat [Cl.i z_1]).length)) (Vif (decide (min (cel (List.set kP.xs (Zec kQ i).int.toNat [Cl.i z_1]) (Zec kQ i).int.toNat Zd).int z_2 < (-240 : Int))) (Q [Zef, [Cl.i 7]]) (Need (decide ((↑(kQ.xs.length - 1) : Int).toNat <= List.length (List.take i.toNat kQ.xs ++ List.drop z.toNat kQ.xs ++ Zee))) (Q [[Cl.l (List.take (↑(kQ.xs.length - 1) : Int).toNat (List.take i.toNat kQ.xs ++ List.drop z.toNat kQ.xs ++ Zee)), Cl.l (List.set kP.xs (Zec kQ i).int.toNat [Cl.i z_1]), Cl.i z_2], [Cl.i 0]]))))))))))))))))))))
theorem Xon (W : InW) (kQ kP kA i Q) : Yx2 (cxT Try.prog TT T71 1000 50) 1000 29 [.agg [.rs _ kQ, .rs _ kP, .si .i64 kA], .si .i64 i] [] 0 (Y2i Xg9 Q) (fun _ _ _ _ => Stuck 421) = Xe9 kQ kP kA i Q := by kernel_rfl
abbrev Xdv : List AT := [.agg [.sl Iv5, .sl Jc, .int .i64], .one (.int .i64)]
theorem Xqo {pre : DS -> Prop} {res : DS -> DS} (hyp_ : ∀ (W : InW) (kQ : Ro Iv5) (kP : Ro Jc) (kA i : Int), pre [[.l kQ.xs, .l kP.xs, .i kA], [.i i]] -> ∀ Q : DS -> Prop, Q (res [[.l kQ.xs, .l kP.xs, .i kA], [.i i]]) -> Xe9 kQ kP kA i Q) : PureOk Try.prog 29 Xdv Xg9 pre res :=
 PureOk.of' (fun W => @TT W) (fun W => @Xc W) Xa T71 1000 50 fun W kQ kP kA i hp =>
  (Xon W kQ kP kA i (fun o => o = res [[.l kQ.xs, .l kP.xs, .i kA], [.i i]])).mpr (hyp_ W kQ kP kA i hp _ rfl)
theorem Xhc {W : InW} {ts : List Ty} (r : Ro ts) (h : 0 < r.xs.length) (n c : Nat) : r.v ≠ .slice none n c := fun e => by
 obtain ⟨A, c2, h1, h2, h3, u, h4, _⟩ := r.inv;obtain ⟨b, off, h5, _⟩ := h4 (fun x => by rw [x] at h; simp at h);rw [e, h5] at h1;cases h1
theorem Xsa : PureOk Try.prog 29 Xdv Xg9 (fun _ => True) Xet :=
 Xqo fun W qs ps all i hp Q h => by
  have hm := qs.len;simp only [maxLen] at hm;unfold Xe9;delta Zed Zec Zd Zee Zef Zb;simp only [Xet, Sp.strK] at h
  by_cases e : Sp.chkE qs.xs ps.xs all = 0
  rotate_left
  ·have e1 : Sp.strE qs.xs ps.xs all i = Sp.chkE qs.xs ps.xs all := by unfold Sp.strE; rw [if_neg e]
   rw [if_neg (by omega), e1] at h;exact ⟨trivial, vifn (fun _ => h) fun c => absurd c e⟩
  have hk := Sp.chkE_iff.1 e;have n1 := hk.n1;have n2 := hk.n2;have p1 := hk.p1;have p2 := hk.p2;have ho : Sp.out 0 (qs.xs.length - 1) [[.i i]] = !Sp.inr i 0 (qs.xs.length - 1) := by unfold Sp.out; simp [Sp.outs, cel, Cl.int]
  refine ⟨trivial, vifn (fun c => absurd e c) fun _ => ar64 (by omega) ⟨trivial, ?_⟩⟩;rw [ho]
  by_cases e1 : Sp.inr i 0 (qs.xs.length - 1) = true
  rotate_left
  ·have e2 : Sp.strE qs.xs ps.xs all i = 4 := by unfold Sp.strE; rw [if_pos e, if_neg e1]
   rw [if_neg (by omega), e2] at h;exact vifb (fun _ => h) fun c => absurd c e1
  refine vifb (fun c => absurd (e1.symm.trans c) (by decide)) fun _ => ?_
  by_cases e2 : qs.xs.length = 1
  ·have e3 : Sp.strE qs.xs ps.xs all i = 3 := by unfold Sp.strE; rw [if_pos e, if_pos e1, if_pos e2]
   rw [if_neg (by omega), e3] at h;exact vifd (fun _ => h) fun c => by omega
  refine vifd (fun c => absurd c (by omega)) fun _ => ?_;have hi := Sp.inr_iff.1 e1;have hpart := hk.part i.toNat (by omega);have hpts := hk.pts i.toNat (by omega);have hall := hk.all_;have hneed := hk.need (Sp.qPart qs.xs i.toNat).toNat (by omega);have h7 : Sp.strE qs.xs ps.xs all i = 7 -> Q [[.l [], .l [], .i 0], [.i 7]] := fun c => by
   rw [if_neg (by omega), c] at h; exact h
  have h0 : Sp.strE qs.xs ps.xs all i = 0 -> Q [[.l (Sp.strQ qs.xs i.toNat), .l (Sp.strP qs.xs ps.xs i.toNat), .i (Sp.strA qs.xs all i.toNat)], [.i 0]] := fun c => by
   rw [if_pos c, c] at h; exact h
  clear h;have hneed : -240 <= Sp.num ps.xs (Sp.qPart qs.xs i.toNat).toNat /\ Sp.num ps.xs (Sp.qPart qs.xs i.toNat).toNat <= 240 := hneed;have hnum : Sp.num (Sp.strP qs.xs ps.xs i.toNat) (Sp.qPart qs.xs i.toNat).toNat = Sp.num ps.xs (Sp.qPart qs.xs i.toNat).toNat - Sp.qPts qs.xs i.toNat := by unfold Sp.strP; rw [Sp.num_set (by omega), if_pos rfl]
  have hE : Sp.strE qs.xs ps.xs all i = if -240 <= Sp.strA qs.xs all i.toNat /\ -240 <= Sp.num (Sp.strP qs.xs ps.xs i.toNat) (Sp.qPart qs.xs i.toNat).toNat then 0 else 7 := by
   unfold Sp.strE;rw [if_pos e, if_pos e1, if_neg e2];have a1 : Sp.strA qs.xs all i.toNat <= 240 := by unfold Sp.strA; omega
   by_cases c1 : -240 <= Sp.strA qs.xs all i.toNat
   ·rw [if_pos (Sp.inr_iff.2 ⟨c1, a1⟩)]
    by_cases c2 : -240 <= Sp.num (Sp.strP qs.xs ps.xs i.toNat) (Sp.qPart qs.xs i.toNat).toNat
    ·rw [if_pos (Sp.inr_iff.2 ⟨c2, by omega⟩), if_pos ⟨c1, c2⟩]
    ·rw [if_neg (fun x => c2 (Sp.inr_iff.1 x).1), if_neg (fun x => c2 x.2)]
   ·rw [if_neg (fun x => c1 (Sp.inr_iff.1 x).1), if_neg (fun x => c1 x.1)]
  rw [hE] at h7 h0;rw [hnum] at h7 h0;have ez : (i + 1).toNat = i.toNat + 1 := by omega
  have htk : List.take (qs.xs.length - 1) (List.take i.toNat qs.xs ++ List.drop (i.toNat + 1) qs.xs ++ [[Cl.i 0, Cl.i 0, Cl.i 0, Cl.i 0, Cl.i 0]]) = Sp.strQ qs.xs i.toNat := by
   unfold Sp.strQ;exact List.take_left' (by simp; omega)
  have hrow : List.set ps.xs (Sp.qPart qs.xs i.toNat).toNat [Cl.i (Sp.num ps.xs (Sp.qPart qs.xs i.toNat).toNat - Sp.qPts qs.xs i.toNat)] = Sp.strP qs.xs ps.xs i.toNat := rfl;have hA : Sp.strA qs.xs all i.toNat = all - Sp.qPts qs.xs i.toNat := rfl;refine ned (by simp only [Bool.and_eq_true, decide_eq_true_eq]; omega) (nedd (by omega) (vif (fun c => ?_) fun _ => nedd (by omega) (ar64 (by omega) ⟨⟨by omega, rfl, by omega⟩, vif (fun c => ?_) fun _ => nedd (by omega) ?_⟩)))
  ·exfalso
   split at c
   ·exact Xhc qs (by omega) _ _ (by assumption)
   ·cases c
  ·exfalso
   split at c
   ·exact Xhc ps (by omega) _ _ (by assumption)
   ·cases c
  simp only [ez, Nat.zero_add, Nat.reduceAdd, Int.toNat_natCast, List.length_set, htk, show (cel qs.xs i.toNat 0).int = Sp.qPart qs.xs i.toNat from rfl, show (cel qs.xs i.toNat 3).int = Sp.qPts qs.xs i.toNat from rfl, show ∀ l k, (cel l k 0).int = Sp.num l k from fun _ _ => rfl];refine ned (by simp only [Bool.and_eq_true, decide_eq_true_eq]; omega) (nedd (by omega) (ar64 (by omega) (ned (by simp only [Bool.and_eq_true, decide_eq_true_eq]; omega) (nedd (by omega) (ar64 (by omega) (ned (by simp only [Bool.and_eq_true, decide_eq_true_eq]; omega) (nedd (by omega) ?_)))))));rw [hrow, hnum];refine vifd (fun c => h7 ?_) fun c => nedd (by simp; omega) ?_
  ·rw [if_neg (by rw [hA]; omega)]
  ·exact h0 (by rw [if_pos (by rw [hA]; omega)])
def Xpe : PC Try.prog := ⟨29, Xdv, Xg9, fun _ => True, Xet, Xsa⟩
namespace Sp
def bitN (x : Int) (i : Nat) : Int := x / 2 ^ i % 2
def rdgF (u : Dt) (x : Int) : Nat -> Nat -> Dt -> Dt
 | _, 0, sh => sh
 | i, n + 1, sh => rdgF u x (i + 1) n (withD sh (cA u i).toNat (cB u i).toNat (bitN x i))
def rdgV (x : Int) (sh : Dt) : Dt := rdgF (uns sh) x 0 (uns sh).length sh
theorem bitN_nat (x i : Nat) : bitN (x : Int) i = ((x / 2 ^ i % 2 : Nat) : Int) := by
 unfold bitN;rw [Int.natCast_emod, Int.natCast_ediv, Int.natCast_pow]; rfl
theorem rdgF_it (us : List (Nat × Nat)) (x : Nat) : ∀ n i s, i + n = us.length -> rdgF (us.map prC) x i n s = itW (us.drop i) (x / 2 ^ i) s
 | 0, i, s, h => by rw [List.drop_eq_nil_of_le (by omega)]; rfl
 | n + 1, i, s, h => by
  have hi : i < us.length := by omega
  rw [List.drop_eq_getElem_cons hi];unfold rdgF itW;rw [(prC_cel us i hi).1, (prC_cel us i hi).2, bitN_nat, Int.toNat_natCast, Int.toNat_natCast, rdgF_it us x n (i + 1) _ (by omega), Nat.pow_succ, Nat.div_div_eq_div_mul]
theorem rdgV_it {x : Int} (h : 0 <= x) (sh : Dt) : rdgV x sh = itW (pos sh) x.toNat sh := by
 obtain ⟨n, rfl⟩ := Int.eq_ofNat_of_zero_le h;unfold rdgV;rw [uns_pos, show (List.map prC (pos sh)).length = (pos sh).length by simp];have := rdgF_it (pos sh) n (pos sh).length 0 sh (by omega);simpa using this
theorem itW_mod : ∀ (ps : List (Nat × Nat)) (b : Nat) (s : Dt), itW ps b s = itW ps (b % 2 ^ ps.length) s
 | [], _, _ => rfl
 | p :: ps, b, s => by
  simp only [itW, List.length_cons];rw [itW_mod ps (b / 2), itW_mod ps (b % 2 ^ (ps.length + 1) / 2), Nat.pow_succ];have h1 : b % (2 ^ ps.length * 2) % 2 = b % 2 := Nat.mod_mul_left_mod b _ 2;have h2 : b % (2 ^ ps.length * 2) / 2 % 2 ^ ps.length = b / 2 % 2 ^ ps.length := by
   rw [Nat.mul_comm, Nat.mod_mul_right_div_self, Nat.mod_mod]
  rw [h1, h2]
theorem rdgV_mem {x : Int} (h : 0 <= x) (sh : Dt) : rdgV x sh ∈ rds sh := by
 rw [rdgV_it h, rds_it _ _ _ rfl, itW_mod];exact ⟨_, Nat.mod_lt _ (Nat.pow_pos (by decide)), rfl⟩
theorem rds_shok {qs sh : Dt} (h : ShOk qs sh) : ∀ r ∈ rds sh, ShOk qs r :=
 rds_ind (P := fun r => ShOk qs r) h fun s q j v hs _ hv => hs.withD hv
def boxV (u : Dt) (a b : Int) (i : Nat) : Bool := decide (cA u i = a) && decide (cB u i = b)
def hasB (u : Dt) (a b : Int) : Bool := anyF (boxV u a b) 0 u.length
end Sp
def Xgr [InW] (e : List Ed) (K : Nat -> List Ed -> Prop) : Prop := match e with
 | [.i x, .i i, .l sh, .l u] => Pre (0 <= i /\ i <= u.length /\ Sp.Few sh /\ Sp.BxOk sh u /\ 0 <= x /\ x <= 65535) (K 0 [.l (Sp.rdgF u x i.toNat (u.length - i.toNat) sh)])
 | _ => False
def TN5 : Tab Try.prog := ⟨[Xjy, Xpc], [], []⟩
def Xil : LC where
 len := 27
 T := [(0, (.opq 6)), (1, .int .u16), (5, (.row 1)), (6, .int .i64)]
 H := [(6, .fro [.sl Jc]), (1, .arr 74 Ja)]
 W := (rgg 9 17)
 outs := [⟨.exit 0, [(0, (.opq 12))], [(12, .fro [.sl Jc])], ([1, 5, 6] ++ rgg 9 17)⟩]
 spec := Xgr
def Xfr [W : InW] (x i : Int) (sh u : Dt) (A : List Ed -> Prop) (K : Nat -> List Ed -> Prop) : Prop :=
 Vif (decide (i < (↑(u.length) : Int))) (Need (decide (0 <= i) && decide (i < (↑(u.length) : Int))) (Need (decide (i.toNat < u.length)) (Need (decide (0 <= i)) (Ar .i64 ((x.fdiv ((2 : Int) ^ min i.toNat (16 : Nat))).tmod (2 : Int)) fun z => Pre (Sp.Few sh /\ ((0 : Int) <= (cel u i.toNat Zd).int /\ (cel u i.toNat Zd).int < (↑(sh.length) : Int)) /\ (0 : Int) <= (cel u i.toNat (0+1)).int /\ (cel u i.toNat (0+1)).int < (↑(List.length (Sp.row sh (cel u i.toNat Zd).int.toNat)) : Int)) (Ar .i64 (i + 1) fun z_1 => A [.i x, .i z_1, .l (Sp.withD sh (cel u i.toNat Zd).int.toNat (cel u i.toNat (0+1)).int.toNat z), .l u]))))) (K 0 [.l sh])
theorem Xnw (W : InW) (x i sh u A K) : Yfh { cxT Try.prog TT TN5 1000 50 with fn := 9 } 1000 (Yor Try.prog 9 4) (Yd9 27 [(0, .opq 6), (1, .si .u16 x), (5, .rw 1), (6, .si .i64 i)] (rgg 9 17)) [(6, .fro [.sl Jc] sh), (1, .arr 74 Ja u)] (Yvi Xil A K) = Xfr x i sh u A K := by kernel_rfl
def Xhu : Prop := ∀ (W : InW) (body a : Code), (Try.prog.funcs[9]?).bind (·.body) = some body -> a ∈ Y1 body -> Yf2 a = 4 -> @Ym8 W Try.prog a (@Yum W Xil)
theorem Xpw (meas : [InW] -> List Ed -> Nat) (hyp_ : ∀ (W : InW) x i sh u K, Xgr [.i x, .i i, .l sh, .l u] K -> ∀ A : List Ed -> Prop, (∀ e, meas e < meas [.i x, .i i, .l sh, .l u] -> Xgr e K -> A e) -> Xfr x i sh u A K) : Xhu :=
 LE.okOf' (fun W => @TT W) (fun W => @Xc W) Xa TN5 1000 50 (by kernel_rfl) Xil (fun W => @meas W) fun W x i sh u K hs =>
  (Xnw W x i sh u (fun e => meas e < meas [.i x, .i i, .l sh, .l u] /\ Xgr e K) K).mpr (hyp_ W x i sh u K hs _ fun e h1 h2 => ⟨h1, h2⟩)
theorem Xnk {x i : Int} (hx : 0 <= x) (h0 : 0 <= i) (h1 : i < 7) : (x.fdiv (2 ^ min i.toNat 16)).tmod 2 = Sp.bitN x i.toNat := by
 rw [show min i.toNat 16 = i.toNat by omega];have hp : (0 : Int) <= 2 ^ i.toNat := Int.le_of_lt (Int.pow_pos (by decide));rw [Int.fdiv_eq_ediv_of_nonneg _ hp, Int.tmod_eq_emod_of_nonneg (Int.ediv_nonneg hx hp)];rfl
theorem Xkh (x : Int) (i : Nat) : Sp.bitN x i = 0 \/ Sp.bitN x i = 1 := by unfold Sp.bitN; omega
theorem Xkg {sh u : Dt} (h : Sp.BxOk sh u) (q j : Nat) (v : Int) : Sp.BxOk (Sp.withD sh q j v) u :=
 ⟨h.few, fun i hi => by have := h.in_ i hi; rw [Sp.withD_len, Sp.withD_rlen]; exact this⟩
theorem Xud {sh : Dt} (h : (Sp.uns sh).length <= 7) : Sp.BxOk sh (Sp.uns sh) := by
 refine ⟨h, fun i hi => ?_⟩;obtain ⟨p, hp, e1, e2⟩ := Sp.uns_cel hi;have := Sp.mem_pos.1 hp;rw [e1, e2, Int.toNat_natCast];omega
theorem Xsz : Xhu := Xpw (fun e => match e with | [_, .i i, _, .l u] => ((u.length : Int) - i).toNat | _ => 0) fun W x i sh u K hs A hA => by
 obtain ⟨⟨h0, h1, hf, hb, x0, x1⟩, hk⟩ := hs;have hu := hb.few;unfold Xfr;delta Zd;simp only [Nat.zero_add]
 by_cases hi : i < u.length
 ·rw [show u.length - i.toNat = (u.length - (i.toNat + 1)) + 1 by omega] at hk;simp only [Sp.rdgF] at hk;have hin := hb.in_ i.toNat (by omega);have ez : (i + 1).toNat = i.toNat + 1 := by omega
  have hv := Xkh x i.toNat;have go := hA [.i x, .i (i + 1), .l (Sp.withD sh (Sp.cA u i.toNat).toNat (Sp.cB u i.toNat).toNat (Sp.bitN x i.toNat)), .l u] (show ((u.length : Int) - (i + 1)).toNat < ((u.length : Int) - i).toNat by omega) ⟨⟨by omega, by omega, hf.withD _ _ _, Xkg hb _ _ _, x0, x1⟩, by rw [ez]; exact hk⟩;rw [Xnk x0 h0 (by omega)];clear hA hk;refine vifd (fun _ => ?_) fun e => by omega
  refine ned (by simp only [Bool.and_eq_true, decide_eq_true_eq]; omega) (nedd (by omega) (nedd (by omega) (ar64 (by omega) ⟨⟨hf, ⟨hin.1, hin.2.1⟩, hin.2.2⟩, ar64 (by omega) go⟩)))
 ·rw [show u.length - i.toNat = 0 by omega] at hk;refine vifd (fun e => by omega) fun _ => hk
def Xkc : LE Try.prog := ⟨9, 4, fun W => @Yum W Xil, Xsz⟩
def Xgs [InW] (e : List Ed) (K : Nat -> List Ed -> Prop) : Prop := match e with
 | [.ro _ sh, .i x, .i i, .l u] => Pre (i = 0 /\ Sp.Few sh.xs /\ Sp.BxOk sh.xs u /\ 0 <= x /\ x <= 65535) (Vif (decide (u.length = 0)) (K 0 [.ro _ sh]) (K 1 [.l (Sp.rdgF u x 0 u.length sh.xs)]))
 | _ => False
def Xim : LC where
 len := 27
 T := [(0, .rs Jb), (1, .int .u16), (5, (.row 1)), (6, .int .i64)]
 H := [(1, .arr 74 Ja)]
 W := (rgg 9 17)
 outs := [⟨.exit 0, [(0, .rs Jb)], [], ([1, 5, 6] ++ rgg 9 17)⟩, ⟨.exit 0, [(0, (.opq 12))], [(12, .fro [.sl Jc])], ([1, 5, 6] ++ rgg 9 17)⟩]
 spec := Xgs
def Xfs [W : InW] (sh : Ro Jb) (x i : Int) (u : Dt) (A : List Ed -> Prop) (K : Nat -> List Ed -> Prop) : Prop :=
 Vif (decide (i < (↑(u.length) : Int))) (Need (decide (0 <= i) && decide (i < (↑(u.length) : Int))) (Need (decide (i.toNat < u.length)) (Need (decide (0 <= i)) (Ar .i64 ((x.fdiv ((2 : Int) ^ min i.toNat (16 : Nat))).tmod (2 : Int)) fun z => Pre (Sp.Few sh.xs /\ ((0 : Int) <= (cel u i.toNat Zd).int /\ (cel u i.toNat Zd).int < (↑(sh.xs.length) : Int)) /\ (0 : Int) <= (cel u i.toNat (0+1)).int /\ (cel u i.toNat (0+1)).int < (↑(List.length (Sp.row sh.xs (cel u i.toNat Zd).int.toNat)) : Int)) (Ar .i64 (i + 1) fun z_1 => Pre (0 <= z_1 /\ z_1 <= (↑(u.length) : Int) /\ Sp.Few (Sp.withD sh.xs (cel u i.toNat Zd).int.toNat (cel u i.toNat (0+1)).int.toNat z) /\ Sp.BxOk (Sp.withD sh.xs (cel u i.toNat Zd).int.toNat (cel u i.toNat (0+1)).int.toNat z) u /\ 0 <= x /\ x <= 65535) (K (0+1) [.l (Sp.rdgF u x z_1.toNat (u.length - z_1.toNat) (Sp.withD sh.xs (cel u i.toNat Zd).int.toNat (cel u i.toNat (0+1)).int.toNat z))])))))) (K 0 [.ro Zdv sh])
theorem Xnx (W : InW) (sh x i u A K) : Yfh { cxT Try.prog TT TN5 1000 50 with fn := 9 } 1000 (Yor Try.prog 9 4) (Yd9 27 [(0, .rs _ sh), (1, .si .u16 x), (5, .rw 1), (6, .si .i64 i)] (rgg 9 17)) [(1, .arr 74 Ja u)] (Xhb Xim ((Xkc).f W) A K) = Xfs sh x i u A K := by kernel_rfl
def Xhv : Prop := ∀ (W : InW) (body a : Code), (Try.prog.funcs[9]?).bind (·.body) = some body -> a ∈ Y1 body -> Yf2 a = 4 -> @Ym8 W Try.prog a (@Yum W Xim)
theorem Xpx (meas : [InW] -> List Ed -> Nat) (hyp_ : ∀ (W : InW) sh x i u K, Xgs [.ro _ sh, .i x, .i i, .l u] K -> ∀ A : List Ed -> Prop, (∀ e, meas e < meas [.ro _ sh, .i x, .i i, .l u] -> Xgs e K -> A e) -> Xfs sh x i u A K) : Xhv :=
 LE.okOfY (fun W => @TT W) (fun W => @Xc W) Xa TN5 1000 50 (by kernel_rfl) Xim (Xkc).f (Xkc).ok (fun W => @meas W) fun W sh x i u K hs =>
  (Xnx W sh x i u (fun e => meas e < meas [.ro _ sh, .i x, .i i, .l u] /\ Xgs e K) K).mpr (hyp_ W sh x i u K hs _ fun e h1 h2 => ⟨h1, h2⟩)
theorem Xs0 : Xhv := Xpx (fun _ => 0) fun W sh x i u K hs A hA => by
 obtain ⟨⟨rfl, hf, hb, x0, x1⟩, hk⟩ := hs;have hu := hb.few;unfold Xfs;delta Zdv Zd;simp only [Nat.zero_add]
 by_cases hi : 0 < u.length
 ·have hin := hb.in_ 0 hi;have hk := hk.2 (decide_eq_false (by omega));rw [show u.length = (u.length - 1) + 1 by omega] at hk;simp only [Sp.rdgF] at hk;rw [Xnk x0 (by omega) (by omega)];have hv := Xkh x 0;rw [show Int.toNat 0 = 0 from rfl];refine vifd (fun _ => ?_) fun e => by omega
  refine ned (by simp only [Bool.and_eq_true, decide_eq_true_eq]; omega) (nedd (by omega) (nedd (by omega) (ar64 (by omega) ⟨⟨hf, ⟨hin.1, hin.2.1⟩, hin.2.2⟩, ar64 (by omega) ⟨⟨by omega, by omega, hf.withD _ _ _, Xkg hb _ _ _, x0, x1⟩, ?_⟩⟩)));exact hk
 ·have hk := hk.1 (decide_eq_true (by omega));refine vifd (fun e => by omega) fun _ => hk
def Xty : LE Try.prog := ⟨9, 4, fun W => @Yum W Xim, Xs0⟩
def TN6 : Tab Try.prog := ⟨[Xjy], [Xty], []⟩
def Xkn [W : InW] (sh : Ro Jb) (x : Int) (Q : DS -> Prop) : Prop :=
 Pre (Sp.Few sh.xs) (Pre ((0 : Int) = 0 /\ Sp.Few sh.xs /\ Sp.BxOk sh.xs (Sp.uns sh.xs) /\ 0 <= x /\ x <= 65535) (Vif (decide (List.length (Sp.uns sh.xs) = 0)) (Q [[Cl.l sh.xs]]) (Q [[Cl.l (Sp.rdgF (Sp.uns sh.xs) x (0 : Nat) (List.length (Sp.uns sh.xs)) sh.xs)]])))
theorem Xrx (W : InW) (sh x Q) : Yx2 (cxT Try.prog TT TN6 1000 50) 1000 9 [.rs _ sh, .si .u16 x] [] 0 (Y2i [(false, [.fro [.sl Jc]])] Q) (fun _ _ _ _ => Stuck 421) = Xkn sh x Q := by kernel_rfl
abbrev Xe3 : List AT := [.one (.sl Jb), .one (.int .u16)]
theorem Xsk {pre : DS -> Prop} {res : DS -> DS} (hyp_ : ∀ (W : InW) (sh : Ro Jb) (x : Int), pre [[.l sh.xs], [.i x]] -> ∀ Q : DS -> Prop, Q (res [[.l sh.xs], [.i x]]) -> Xkn sh x Q) : PureOk Try.prog 9 Xe3 [(false, [.fro [.sl Jc]])] pre res :=
 PureOk.of' (fun W => @TT W) (fun W => @Xc W) Xa TN6 1000 50 fun W sh x hp =>
  (Xrx W sh x (fun o => o = res [[.l sh.xs], [.i x]])).mpr (hyp_ W sh x hp _ rfl)
abbrev Xeu (ds : DS) : DS := match ds with | [[.l sh], [.i x]] => [[.l (Sp.rdgV x sh)]] | _ => []
abbrev Xjv (ds : DS) : Prop := match ds with | [[.l sh], [.i x]] => Sp.Few sh /\ (Sp.uns sh).length <= 7 /\ 0 <= x /\ x <= 65535 | _ => False
theorem okrdV : PureOk Try.prog 9 Xe3 [(false, [.fro [.sl Jc]])] Xjv Xeu :=
 Xsk fun W sh x hp Q h => by
  obtain ⟨hf, h7, x0, x1⟩ : Sp.Few sh.xs /\ (Sp.uns sh.xs).length <= 7 /\ 0 <= x /\ x <= 65535 := hp;unfold Xkn;simp only [Xeu, Sp.rdgV] at h;refine ⟨hf, ⟨rfl, hf, Xud h7, x0, x1⟩, vifd (fun e => ?_) fun e => h⟩;rw [e] at h; exact h
def Xr1 : PC Try.prog := ⟨9, Xe3, [(false, [.fro [.sl Jc]])], Xjv, Xeu, okrdV⟩
theorem Xrt {n : Int} (h : WfC (.int .u16) (.i n)) : 0 <= n /\ n <= 65535 := by
 cases h with
 | int _ _ h => simp [Lit.wf, IntKind.min, IntKind.max, IntKind.signed, IntKind.bits] at h; omega
theorem WfL.head {t : Ty} {ts : List Ty} {c : Cl} {cs : List Cl} (h : WfL (t :: ts) (c :: cs)) : WfC t c /\ WfL ts cs := by
 cases h with
 | cons h hs => exact ⟨h, hs⟩
theorem WfD.head {a : AT} {ats : List AT} {d : List Cl} {ds : DS} (h : WfD (a :: ats) (d :: ds)) : WfA a d /\ WfD ats ds := by
 obtain ⟨d', ds', e, h1, h2⟩ := h;cases e;exact ⟨h1, h2⟩
theorem wf_el {ts : List Ty} {xs : Dt} (h : WfC (.sl ts) (.l xs)) (i : Nat) (hi : i < xs.length) {t : Ty} {k : Nat} (ht : ts[k]? = some t) : WfC t (cel xs i k) := by
 cases h with
 | sl _ _ _ _ h => exact h i k t hi ht
namespace Sp
theorem rds_with {v : Int} (hv : v = 0 \/ v = 1) (p : Nat × Nat) : ∀ n s, (pos s).length = n -> ∀ r ∈ rds s, withD r p.1 p.2 v ∈ rds (withD s p.1 p.2 v)
 | 0, s, hl, r, hr => by
  have e := List.length_eq_zero_iff.1 hl;rw [rds_nil e, List.mem_singleton] at hr;subst hr;rw [rds_nil (by rw [pos_with (by omega), e]; rfl)];exact List.mem_singleton.2 rfl
 | n + 1, s, hl, r, hr => by
  cases e : pos s with
  | nil => rw [e] at hl; simp at hl
  | cons q qs =>
   have step : ∀ w : Int, w = 0 \/ w = 1 -> r ∈ rds (withD s q.1 q.2 w) -> withD r p.1 p.2 v ∈ rds (withD s p.1 p.2 v) := by
    intro w hw hr;have ih := rds_with hv p n _ (by rw [pos_with_tl (by omega) e]; rw [e] at hl; simpa using hl) r hr
    by_cases c : q = p
    ·subst c; rw [withD_same] at ih; exact ih
    ·rw [withD_comm _ _ _ _ _ c] at ih;have hp : pos (withD s p.1 p.2 v) = q :: qs.filter (fun x => decide (x ≠ (p.1, p.2))) := by
      rw [pos_with (by omega), e, List.filter_cons_of_pos (by simpa using c)]
     rw [rds_cons hp, List.mem_append];rcases hw with rfl | rfl
     ·exact .inl ih
     ·exact .inr ih
   rw [rds_cons e, List.mem_append] at hr;exact hr.elim (step 0 (.inl rfl)) (step 1 (.inr rfl))
theorem rds_of_with {v : Int} (hv : v = 0 \/ v = 1) (p : Nat × Nat) : ∀ n s, (pos s).length = n -> p ∈ pos s -> ∀ r ∈ rds (withD s p.1 p.2 v), r ∈ rds s
 | 0, s, hl, hp, r, hr => by rw [List.length_eq_zero_iff.1 hl] at hp; cases hp
 | n + 1, s, hl, hp, r, hr => by
  cases e : pos s with
  | nil => rw [e] at hl; simp at hl
  | cons q qs =>
   rw [rds_cons e, List.mem_append]
   by_cases c : q = p
   ·subst c;rcases hv with rfl | rfl
    ·exact .inl hr
    ·exact .inr hr
   ·have hp' : pos (withD s p.1 p.2 v) = q :: qs.filter (fun x => decide (x ≠ (p.1, p.2))) := by
     rw [pos_with (by omega), e, List.filter_cons_of_pos (by simpa using c)]
    have hq : p ∈ qs := by rw [e] at hp; exact (List.mem_cons.1 hp).resolve_left fun h => c h.symm
    have step : ∀ w : Int, w = 0 \/ w = 1 -> r ∈ rds (withD (withD s p.1 p.2 v) q.1 q.2 w) -> r ∈ rds (withD s q.1 q.2 w) := by
     intro w hw hr;rw [withD_comm _ _ _ _ _ (fun h => c h.symm)] at hr;exact rds_of_with hv p n _ (by rw [pos_with_tl (by omega) e]; rw [e] at hl; simpa using hl) (by rw [pos_with_tl (by omega) e]; exact hq) r hr
    rw [rds_cons hp', List.mem_append] at hr;exact hr.elim (fun h => .inl (step 0 (.inl rfl) h)) fun h => .inr (step 1 (.inr rfl) h)
structure Same (a b : Dt) : Prop where
 len : a.length = b.length
 rlen : ∀ i, (row a i).length = (row b i).length
 val : ∀ i j, i < a.length -> j < (row a i).length -> bx (row a i) j = bx (row b i) j
theorem Same.symm {a b : Dt} (h : Same a b) : Same b a := ⟨h.len.symm, fun i => (h.rlen i).symm, fun i j h1 h2 => (h.val i j (by rw [h.len]; exact h1) (by rw [h.rlen]; exact h2)).symm⟩
theorem Same.trans {a b c : Dt} (h : Same a b) (h' : Same b c) : Same a c := ⟨h.len.trans h'.len, fun i => (h.rlen i).trans (h'.rlen i), fun i j h1 h2 => (h.val i j h1 h2).trans (h'.val i j (by rw [<- h.len]; exact h1) (by rw [<- h.rlen]; exact h2))⟩
theorem ansD_same {d d' : Dt} : ∀ n i a, (∀ j, i <= j -> j < i + n -> bx d j = bx d' j) -> ansD d i n a = ansD d' i n a
 | 0, _, _, _ => rfl
 | n + 1, i, a, h => by
  unfold ansD;rw [h i (by omega) (by omega), ansD_same n (i + 1) i fun j a b => h j (by omega) (by omega), ansD_same n (i + 1) a fun j a b => h j (by omega) (by omega)]
theorem ansL_same {d d' : Dt} : ∀ n i a, (∀ j, i <= j -> j < i + n -> bx d j = bx d' j) -> ansL d i n a = ansL d' i n a
 | 0, _, _, _ => rfl
 | n + 1, i, a, h => by
  unfold ansL;rw [h i (by omega) (by omega), ansL_same n (i + 1) i fun j a b => h j (by omega) (by omega), ansL_same n (i + 1) a fun j a b => h j (by omega) (by omega)]
theorem ansOf_same {d d' : Dt} (hl : d.length = d'.length) (h : ∀ j, j < d.length -> bx d j = bx d' j) : ansOf d = ansOf d' := by
 unfold ansOf;rw [<- hl, ansD_same _ _ _ fun j _ b => h j (by omega), ansL_same _ _ _ fun j _ b => h j (by omega)]
theorem Same.ans {a b : Dt} (h : Same a b) {i : Nat} (hi : i < a.length) : ansOf (row a i) = ansOf (row b i) := ansOf_same (h.rlen i) fun j hj => h.val i j hi hj
theorem addG_same {qs a b : Dt} : ∀ n i l, (∀ k, i <= k -> k < i + n -> ansOf (row a k) = ansOf (row b k)) -> addG qs a i n l = addG qs b i n l
 | 0, _, _, _ => rfl
 | n + 1, i, l, h => by
  unfold addG;rw [show ptsQ qs a i = ptsQ qs b i by unfold ptsQ ptsV; rw [h i (by omega) (by omega)], addG_same n (i + 1) _ fun k x y => h k (by omega) (by omega)]
theorem Same.mk_eq {a b : Dt} (h : Same a b) (qs ps : Dt) : Sp.mk qs ps a = Sp.mk qs ps b := by
 unfold Sp.mk;rw [<- h.len, addG_same _ _ _ fun k _ y => h.ans (by omega)]
theorem Same.ps {a b : Dt} (h : Same a b) (qs ps : Dt) (all : Int) : psS qs ps all a = psS qs ps all b := by unfold psS; rw [h.mk_eq]
theorem with_same {r : Dt} {p : Nat × Nat} {v : Int} (h1 : p.1 < r.length) (h2 : p.2 < (row r p.1).length) (h3 : bx (row r p.1) p.2 = v) : Same (withD r p.1 p.2 v) r := by
 refine ⟨withD_len _ _ _ _, fun i => withD_rlen _ _ _ _ _, fun i j hi hj => ?_⟩;rw [withD_len] at hi;rw [withD_rlen] at hj;rw [withD_bx _ _ _ _ _ _ hi hj]
 split
 ·rename_i e;cases e;exact h3.symm
 ·rfl
theorem in_pos {s r : Dt} (hr : r ∈ rds s) {p : Nat × Nat} (hp : p ∈ pos s) : p.1 < r.length /\ p.2 < (row r p.1).length := by
 have h1 := mem_pos.1 hp;have h2 := rds_shape r hr;rw [h2.1, h2.2];exact ⟨h1.1, h1.2.1⟩
theorem rds_01 {qs s : Dt} (hs : ShOk qs s) {r : Dt} (hr : r ∈ rds s) {i j : Nat} (hi : i < r.length) (hj : j < (row r i).length) : bx (row r i) j = 0 \/ bx (row r i) j = 1 := by
 have h1 := rds_shok hs r hr;have h2 := h1.val i j (by rw [<- h1.n]; exact hi) hj;have h3 : bx (row r i) j ≠ 2 := fun e => by
  have : (i, j) ∈ pos r := mem_pos.2 ⟨hi, hj, e⟩;rw [rds_sure r hr] at this;cases this
 omega
theorem uns_at {sh : Dt} {k : Nat} (hk : k < (uns sh).length) : ∃ p ∈ pos sh, cA (uns sh) k = p.1 /\ cB (uns sh) k = p.2 := uns_cel hk
def dcS (qs ps : Dt) (all : Int) (sh : Dt) : Dt := dcL qs ps all sh (uns sh) 0 (uns sh).length
end Sp
namespace Sp
def bA (u : Dt) (k : Nat) : Nat := (cA u k).toNat
def bB (u : Dt) (k : Nat) : Nat := (cB u k).toNat
def inL (l u : Dt) (k : Nat) : Bool := hasB l (cA u k) (cB u k)
def at_ (r u : Dt) (k : Nat) : Int := bx (row r (bA u k)) (bB u k)
def seenF (l r u : Dt) : Nat -> Nat -> Dt -> Dt
 | _, 0, s => s
 | i, n + 1, s => seenF l r u (i + 1) n (if inL l u i = true then withD s (bA u i) (bB u i) (at_ r u i) else s)
theorem uns_ab {sh : Dt} {k : Nat} (hk : k < (uns sh).length) : (bA (uns sh) k, bB (uns sh) k) ∈ pos sh /\ cA (uns sh) k = bA (uns sh) k /\ cB (uns sh) k = bB (uns sh) k := by
 obtain ⟨p, hp, a, b⟩ := uns_at hk;have e1 : bA (uns sh) k = p.1 := by unfold bA; rw [a, Int.toNat_natCast]
 have e2 : bB (uns sh) k = p.2 := by unfold bB; rw [b, Int.toNat_natCast]
 rw [e1, e2, a, b];exact ⟨hp, rfl, rfl⟩
structure SeenOk (qs ps : Dt) (all : Int) (sh r s : Dt) (i : Nat) : Prop where
 ok : ShOk qs s
 sub : ∀ t ∈ rds s, t ∈ rds sh
 pos_ : ∀ p ∈ pos s, p ∈ pos sh /\ ∀ k, k < i -> inL (dcS qs ps all sh) (uns sh) k = true -> p ≠ (bA (uns sh) k, bB (uns sh) k)
 has_ : ∃ r' ∈ rds s, Same r' r
theorem SeenOk.go {qs ps sh r : Dt} {all : Int} (hs : ShOk qs sh) (hr : r ∈ rds sh) : ∀ n i s, i + n = (uns sh).length -> (∀ k, i <= k -> k < (uns sh).length -> (bA (uns sh) k, bB (uns sh) k) ∈ pos s) -> SeenOk qs ps all sh r s i -> SeenOk qs ps all sh r (seenF (dcS qs ps all sh) r (uns sh) i n s) (uns sh).length
 | 0, i, s, e, _, h => by rw [<- show i = (uns sh).length by omega]; exact h
 | n + 1, i, s, e, hp, h => by
  have hi : i < (uns sh).length := by omega
  have hnd : ∀ k, k < (uns sh).length -> k ≠ i -> (bA (uns sh) k, bB (uns sh) k) ≠ (bA (uns sh) i, bB (uns sh) i) := fun k hk hne e => by
   have hl := uns_len sh;have g : ∀ j (hj : j < (uns sh).length), (bA (uns sh) j, bB (uns sh) j) = (pos sh)[j]'(by omega) := fun j hj => by
    unfold bA bB;have := prC_cel (pos sh) j (by omega);rw [<- uns_pos] at this;rw [this.1, this.2, Int.toNat_natCast, Int.toNat_natCast]
   rw [g k hk, g i hi] at e;exact hne ((List.getElem_inj (pos_nd sh)).1 e)
  unfold seenF
  by_cases c : inL (dcS qs ps all sh) (uns sh) i = true
  ·rw [if_pos c];have hpi := hp i (Nat.le_refl _) hi;have hm := in_pos hr (uns_ab hi).1;have hv : at_ r (uns sh) i = 0 \/ at_ r (uns sh) i = 1 := rds_01 hs hr hm.1 hm.2;obtain ⟨r', hr', hsame⟩ := h.has_;have hposw : ∀ p, p ∈ pos (withD s (bA (uns sh) i) (bB (uns sh) i) (at_ r (uns sh) i)) ↔ p ∈ pos s /\ p ≠ (bA (uns sh) i, bB (uns sh) i) := fun p => by
    rw [pos_with (by omega), List.mem_filter, decide_eq_true_eq]
   refine SeenOk.go hs hr n (i + 1) _ (by omega) (fun k a b => (hposw _).2 ⟨hp k (by omega) b, hnd k b (by omega)⟩) ⟨h.ok.withD hv, fun t ht => h.sub t (rds_of_with hv (bA (uns sh) i, bB (uns sh) i) _ _ rfl hpi t ht), fun p hpp => ?_, ?_⟩
   ·obtain ⟨a, b⟩ := (hposw p).1 hpp;refine ⟨(h.pos_ p a).1, fun k hk hc => ?_⟩;rcases Nat.lt_or_ge k i with d | d
    ·exact (h.pos_ p a).2 k d hc
    ·rw [show k = i by omega]; exact b
   ·refine ⟨_, rds_with hv (bA (uns sh) i, bB (uns sh) i) _ _ rfl r' hr', ?_⟩;have hm' := in_pos hr' hpi;refine Same.trans (with_same (p := (bA (uns sh) i, bB (uns sh) i)) hm'.1 hm'.2 ?_) hsame;exact hsame.val _ _ hm'.1 hm'.2
  ·rw [if_neg c];refine SeenOk.go hs hr n (i + 1) s (by omega) (fun k a b => hp k (by omega) b) ⟨h.ok, h.sub, fun p hpp => ⟨(h.pos_ p hpp).1, fun k hk hc => ?_⟩, h.has_⟩;rcases Nat.lt_or_ge k i with d | d
   ·exact (h.pos_ p hpp).2 k d hc
   ·rw [show k = i by omega] at hc; exact absurd hc c
end Sp
namespace Sp
structure MoreK (ps ps' : Dt) (all all' : Int) : Prop where
 len : ps'.length = ps.length
 all_ : all <= all'
 parts : ∀ p, p < ps.length -> num ps p <= num ps' p
theorem MoreK.ps {qs ps ps' r : Dt} {all all' : Int} (h : MoreK ps ps' all all') (hl : (Sp.mk qs ps r).length = ps.length) (hp : psS qs ps' all' r = true) : psS qs ps all r = true := by
 unfold psS passOf at hp ⊢;rw [show Sp.mk qs ps' r = Sp.mk qs ps r by unfold Sp.mk; rw [h.len]] at hp;rw [Bool.and_eq_true, decide_eq_true_eq] at hp ⊢;refine ⟨Int.le_trans h.all_ hp.1, ?_⟩;have h2 := hp.2;unfold partsOk at h2 ⊢;rw [allF_0] at h2 ⊢;intro k hk;have h3 := of_decide_eq_true (h2 k hk);exact decide_eq_true (Int.le_trans (h.parts k (by omega)) h3)
end Sp
namespace Sp
def cnt (f : Nat -> Bool) : Nat -> Nat -> Int
 | _, 0 => 0
 | i, n + 1 => (if f i = true then 1 else 0) + cnt f (i + 1) n
theorem cnt_le {f g : Nat -> Bool} : ∀ n i, (∀ k, i <= k -> k < i + n -> f k = true -> g k = true) -> cnt f i n <= cnt g i n
 | 0, _, _ => Int.le_refl _
 | n + 1, i, h => by
  have h1 := cnt_le n (i + 1) fun k a b => h k (by omega) (by omega);have h2 := h i (by omega) (by omega);rw [cnt, cnt]
  by_cases c : f i = true
  ·rw [if_pos c, if_pos (h2 c)]; omega
  ·rw [if_neg c]; split <;> omega
def bitX (x : Dt) (i : Nat) : Int := if x.length = 0 then 0 else (cel x (i % x.length) 0).int
def isI (right : Int) (pp x : Dt) (n i : Nat) : Bool := !decide (ansOf (row (rdgV (bitX x i) (row pp i)) n) = right)
def lsI (right : Int) (pp : Dt) (n i : Nat) : Bool := mAll right (row (row pp i) n)
def msI (right : Int) (pp : Dt) (n i : Nat) : Bool := mAny right (row (row pp i) n)
def xOk (x : Dt) : Prop := ∀ i, i < x.length -> 0 <= (cel x i 0).int /\ (cel x i 0).int <= 65535
theorem bitX_in {x : Dt} (h : xOk x) (i : Nat) : 0 <= bitX x i /\ bitX x i <= 65535 := by
 unfold bitX
 split
 ·omega
 ·exact h _ (Nat.mod_lt _ (by omega))
theorem row_miss {qs s r : Dt} {q : Nat} {right : Int} (hs : ShOk qs s) (hr : r ∈ rds s) (hq : q < s.length) :
  (mAll right (row s q) = true -> ansOf (row r q) ≠ right) /\ (ansOf (row r q) ≠ right -> mAny right (row s q) = true) := by
 obtain ⟨b, hb, rfl⟩ := (rds_it _ _ _ rfl).1 hr;constructor
 ·intro h e;obtain ⟨k, hk, h2⟩ := (any_row hq fun d => decide (ansOf d = right)).1 ⟨b, hb, decide_eq_true e⟩;have h1 := (allF_0.1 h) k hk;unfold mis1 at h1;rw [h2] at h1;cases h1
 ·intro h;obtain ⟨k, hk, h2⟩ := (any_row hq fun d => !decide (ansOf d = right)).1 ⟨b, hb, by rw [decide_eq_false h]; rfl⟩;exact anyF_0.2 ⟨k, hk, h2⟩
theorem addQ_cel {qs sh : Dt} {j : Nat} : ∀ n i l, i + n <= l.length -> (cel (addQ qs sh i n l) j 0).int = (cel l j 0).int + (if i <= j /\ j < i + n /\ mAll (qRight qs j) (row sh j) = true then 1 else 0) /\ (cel (addQ qs sh i n l) j 1).int = (cel l j 1).int + (if i <= j /\ j < i + n /\ mAny (qRight qs j) (row sh j) = true then 1 else 0)
 | 0, i, l, _ => by
  rw [if_neg (by omega), if_neg (by omega)];simp [addQ]
 | n + 1, i, l, h => by
  have hl : (mAdd qs sh l i).length = l.length := by unfold mAdd; rw [List.length_set]
  obtain ⟨h1, h2⟩ := addQ_cel (qs := qs) (sh := sh) (j := j) n (i + 1) (mAdd qs sh l i) (by rw [hl]; omega);rw [addQ, h1, h2]
  by_cases c : i = j
  ·subst c;have n1 : ¬ (i + 1 <= i) := by omega
   simp only [n1, false_and, if_false];unfold mAdd;have hi : i < l.length := by omega
   rw [cel_set hi, cel_set hi];constructor
   ·show (cel l i 0).int + _ + 0 = _
    by_cases d : mAll (qRight qs i) (row sh i) = true
    ·rw [if_pos d, if_pos ⟨by omega, by omega, d⟩]; omega
    ·rw [if_neg d, if_neg (fun x => d x.2.2)]; omega
   ·show (cel l i 1).int + _ + 0 = _
    by_cases d : mAny (qRight qs i) (row sh i) = true
    ·rw [if_pos d, if_pos ⟨by omega, by omega, d⟩]; omega
    ·rw [if_neg d, if_neg (fun x => d x.2.2)]; omega
  ·have e : ∀ c, cel (mAdd qs sh l i) j c = cel l j c := fun c => by
    unfold mAdd cel;rw [set_getN (by omega)]
   rw [e, e];constructor
   ·by_cases d : i + 1 <= j /\ j < i + 1 + n /\ mAll (qRight qs j) (row sh j) = true
    ·rw [if_pos d, if_pos ⟨by omega, by omega, d.2.2⟩]
    ·rw [if_neg d, if_neg (fun x => d ⟨by omega, by omega, x.2.2⟩)]
   ·by_cases d : i + 1 <= j /\ j < i + 1 + n /\ mAny (qRight qs j) (row sh j) = true
    ·rw [if_pos d, if_pos ⟨by omega, by omega, d.2.2⟩]
    ·rw [if_neg d, if_neg (fun x => d ⟨by omega, by omega, x.2.2⟩)]
theorem addP_cel {qs pp : Dt} {j : Nat} : ∀ n i l, j < l.length -> (cel (addP qs pp i n l) j 0).int = (cel l j 0).int + cnt (lsI (qRight qs j) pp j) i n /\ (cel (addP qs pp i n l) j 1).int = (cel l j 1).int + cnt (msI (qRight qs j) pp j) i n
 | 0, i, l, _ => by simp [addP, cnt]
 | n + 1, i, l, h => by
  obtain ⟨h1, h2⟩ := addP_cel (qs := qs) (pp := pp) (j := j) n (i + 1) (addQ qs (row pp i) 0 l.length l) (by rw [addQ_len]; exact h);obtain ⟨h3, h4⟩ := addQ_cel (qs := qs) (sh := row pp i) (j := j) l.length 0 l (by omega);rw [addP, h1, h2, h3, h4, cnt, cnt];unfold lsI msI;constructor
  ·by_cases d : mAll (qRight qs j) (row (row pp i) j) = true
   ·rw [if_pos ⟨by omega, by omega, d⟩, if_pos d]; omega
   ·rw [if_neg (fun x => d x.2.2), if_neg d]; omega
  ·by_cases d : mAny (qRight qs j) (row (row pp i) j) = true
   ·rw [if_pos ⟨by omega, by omega, d⟩, if_pos d]; omega
   ·rw [if_neg (fun x => d x.2.2), if_neg d]; omega
structure MsOk (qs ps : Dt) (all : Int) (pp x l : Dt) : Prop where
 key : KeyOk qs ps all
 n20 : pp.length <= 20
 ok : ∀ i, i < pp.length -> ShOk qs (row pp i)
 x_ : xOk x
 len : l.length = qs.length
 lo : ∀ n, n < l.length -> (cel l n 0).int = cnt (lsI (qRight qs n) pp n) 0 pp.length
 hi : ∀ n, n < l.length -> (cel l n 1).int = cnt (msI (qRight qs n) pp n) 0 pp.length
theorem MsOk.le {qs ps pp x l : Dt} {all : Int} (h : MsOk qs ps all pp x l) {n : Nat} (hn : n < l.length) (right : Int) :
  cnt (lsI right pp n) 0 pp.length <= cnt (isI right pp x n) 0 pp.length /\ cnt (isI right pp x n) 0 pp.length <= cnt (msI right pp n) 0 pp.length := by
 have hl := h.len;have key : ∀ k, k < pp.length -> _ := fun k hk => row_miss (right := right) (h.ok k hk) (rdgV_mem (bitX_in h.x_ k).1 (row pp k)) (q := n) (by rw [(h.ok k hk).n]; omega);constructor
 ·exact cnt_le _ _ fun k _ hk hc => by
   have := (key k (by omega)).1 hc;unfold isI;rw [decide_eq_false this]; rfl
 ·exact cnt_le _ _ fun k _ hk hc => by
   unfold isI at hc;exact (key k (by omega)).2 (by simpa using hc)
theorem cel_rep {n j c : Nat} : (cel (List.replicate n [Cl.i 0, Cl.i 0]) j c).int = 0 := by
 unfold cel;rw [List.getD_eq_getElem?_getD (l := List.replicate n _), List.getElem?_replicate]
 split
 ·rcases c with _ | _ | c <;> rfl
 ·rfl
theorem ms_ok {qs ps pp x : Dt} {all : Int} (e : misE qs ps all pp = 0) (hx : xOk x) : MsOk qs ps all pp x (misV qs ps all pp) := by
 obtain ⟨hk, h20, hs⟩ := misE_ok e;have hv : misV qs ps all pp = addP qs pp 0 pp.length (List.replicate qs.length [.i 0, .i 0]) := by unfold misV; rw [if_pos e]
 have hl : (misV qs ps all pp).length = qs.length := by rw [hv, addP_len, List.length_replicate]
 refine ⟨hk, h20, hs, hx, hl, fun n hn => ?_, fun n hn => ?_⟩
 ·rw [hv, (addP_cel _ _ _ (by rw [List.length_replicate]; omega)).1, cel_rep]; omega
 ·rw [hv, (addP_cel _ _ _ (by rw [List.length_replicate]; omega)).2, cel_rep]; omega
theorem misE_iff {qs ps pp : Dt} {all : Int} : misE qs ps all pp = 0 ↔ chkE qs ps all = 0 /\ pp.length <= 20 /\ allF (fun k => decide (shE qs (row pp k) = 0)) 0 pp.length = true := by
 constructor
 ·intro h;obtain ⟨a, b, c⟩ := misE_ok h;exact ⟨chkE_iff.2 a, b, allF_0.2 fun k hk => decide_eq_true (shE_iff.2 (c k hk))⟩
 ·rintro ⟨a, b, c⟩;unfold misE;rw [if_pos a, if_neg (by omega), errL_has];rw [hasE_of (f := shI qs pp) fun k _ hk => of_decide_eq_true (allF_0.1 c k (by omega))];rfl
end Sp
open Sp
def T0q : Tab Try.prog := ⟨[], [], []⟩
abbrev Xdl (ds : DS) : DS := match ds with | [[.i lo], [.i hi], [.l xs]] => [[.b (Sp.out lo hi xs)]] | _ => []
def Xdi [InW] (e : List Ed) (K : Nat -> List Ed -> Prop) : Prop := match e with
 | [.ro _ xs, .i n, .i i, .i lo, .i hi] => Pre (n = xs.xs.length /\ 0 <= i /\ i <= n) (Vif (Sp.outs lo hi xs.xs i.toNat (xs.xs.length - i.toNat)) (K 1 [.i (Sp.outI lo hi xs.xs i.toNat (xs.xs.length - i.toNat)), .i lo, .i hi]) (K 0 [.i lo, .i hi]))
 | _ => False
def Xdo : LC where
 len := 19
 T := [(0, .rs Jc), (1, (.fn (.func 80) [] [(.ptr 1 0), (.ptr 4 0)])), (7, .int .i64), (8, .int .i64)]
 H := [(1, .blk 3 [.int .i64]), (4, .blk 3 [.int .i64])]
 W := ([4, 5] ++ rgg 9 10)
 outs := [⟨.exit 0, [(1, (.fn (.func 80) [] [(.ptr 1 0), (.ptr 4 0)]))], [(1, .blk 3 [.int .i64]), (4, .blk 3 [.int .i64])], ([0, 4, 5] ++ rgg 7 12)⟩, ⟨.ret, [(1, (.fn (.func 80) [] [(.ptr 1 0), (.ptr 4 0)])), (4, .int .i64)], [(1, .blk 3 [.int .i64]), (4, .blk 3 [.int .i64])], ([0, 5] ++ rgg 7 12)⟩]
 spec := Xdi
def Xd9 [W : InW] (xs : Ro Jc) (n i lo hi : Int) (A : List Ed -> Prop) (K : Nat -> List Ed -> Prop) : Prop :=
 Vif (decide (i < n)) (Need (decide (0 <= i) && decide (i < (↑(xs.xs.length) : Int))) (Need (decide (i.toNat < xs.xs.length)) (Vif (decide ((cel xs.xs i.toNat (0 : Nat)).int < lo)) (K (0+1) [.i i, .i lo, .i hi]) (Vif (decide (hi < (cel xs.xs i.toNat (0 : Nat)).int)) (K (0+1) [.i i, .i lo, .i hi]) (Ar .i64 (i + 1) fun z => A [.ro _ xs, .i n, .i z, .i lo, .i hi]))))) (K 0 [.i lo, .i hi])
theorem Xle (W : InW) (xs n i lo hi A K) : Yfh { cxT Try.prog TT T0q 1000 50 with fn := 83 } 1000 (Yor Try.prog 83 3) (Yd9 19 [(0, .rs _ xs), (1, .fn (.func 80) [] [.ptr 1 0, .ptr 4 0]), (7, .si .i64 n), (8, .si .i64 i)] ([4, 5] ++ rgg 9 10)) [(1, .blk 3 [.si .i64 lo]), (4, .blk 3 [.si .i64 hi])] (Yvi Xdo A K) = Xd9 xs n i lo hi A K := by kernel_rfl
def Xel : Prop := ∀ (W : InW) (body a : Code), (Try.prog.funcs[83]?).bind (·.body) = some body -> a ∈ Y1 body -> Yf2 a = 3 -> @Ym8 W Try.prog a (@Yum W Xdo)
theorem Xme (meas : [InW] -> List Ed -> Nat) (hyp_ : ∀ (W : InW) xs n i lo hi K, Xdi [.ro _ xs, .i n, .i i, .i lo, .i hi] K -> ∀ A : List Ed -> Prop, (∀ e, meas e < meas [.ro _ xs, .i n, .i i, .i lo, .i hi] -> Xdi e K -> A e) -> Xd9 xs n i lo hi A K) : Xel :=
 LE.okOf' (fun W => @TT W) (fun W => @Xc W) Xa T0q 1000 50 (by kernel_rfl) Xdo (fun W => @meas W) fun W xs n i lo hi K hs =>
  (Xle W xs n i lo hi (fun e => meas e < meas [.ro _ xs, .i n, .i i, .i lo, .i hi] /\ Xdi e K) K).mpr (hyp_ W xs n i lo hi K hs _ fun e h1 h2 => ⟨h1, h2⟩)
theorem Xrf : Xel := Xme (fun e => match e with | .ro _ xs :: .i n :: .i i :: _ => (n - i).toNat | _ => 0) fun W xs n i lo hi K hs A hA => by
 obtain ⟨⟨rfl, h0, h1⟩, hk⟩ := hs;unfold Xd9;have hm := xs.len;simp only [maxLen] at hm;refine vifd (fun e => ?_) fun e => ?_
 ·rw [show xs.xs.length - i.toNat = (xs.xs.length - (i.toNat + 1)) + 1 by omega] at hk;have hc : (cel xs.xs i.toNat 0).int < lo \/ hi < (cel xs.xs i.toNat 0).int -> K 1 [.i i, .i lo, .i hi] := fun h => by
   have hf : Sp.inr (cel xs.xs i.toNat 0).int lo hi = false := by simp only [Sp.inr, Bool.and_eq_false_iff, decide_eq_false_iff_not]; omega
   have := hk.1 (by simp [Sp.outs, hf]);unfold Sp.outI at this;rw [if_neg (by simp [hf]), Int.toNat_of_nonneg h0] at this;exact this
  refine ned (by simp; omega) (nedd (by omega) (vifd (fun e2 => hc (.inl e2)) fun e2 => vifd (fun e3 => hc (.inr e3)) fun e3 => ar64 (by omega) (hA _ ?_ ?_)))
  ·show ((xs.xs.length : Int) - (i + 1)).toNat < ((xs.xs.length : Int) - i).toNat
   omega
  ·have hf : Sp.inr (cel xs.xs i.toNat 0).int lo hi = true := by simp only [Sp.inr, Bool.and_eq_true, decide_eq_true_eq]; omega
   refine ⟨⟨rfl, by omega, by omega⟩, ?_⟩;rw [show (i + 1).toNat = i.toNat + 1 by omega];simp only [Sp.outs, hf, Bool.not_true, Bool.false_or, Sp.outI, if_true] at hk;exact hk
 ·rw [show xs.xs.length - i.toNat = 0 by omega] at hk;exact hk.2 rfl
def Xrn : LE Try.prog := ⟨83, 3, fun W => @Yum W Xdo, Xrf⟩
def T1q : Tab Try.prog := ⟨[], [Xrn], []⟩
def Xfc [W : InW] (lo hi : Int) (xs : Ro Jc) (Q : DS -> Prop) : Prop :=
 Pre ((↑(xs.xs.length) : Int) = (↑(xs.xs.length) : Int) /\ Zb <= 0 /\ Zb <= (↑(xs.xs.length) : Int)) (Vif (outs lo hi xs.xs (Int.toNat Zb) (xs.xs.length - Int.toNat Zb)) (Q [[Cl.b (decide (Zb <= (↑(Sp.outI lo hi xs.xs (Int.toNat Zb) (xs.xs.length - Int.toNat Zb)) : Int)))]]) (Q [[Cl.b false]]))
theorem Xoq (W : InW) (lo hi xs Q) : Yx2 (cxT Try.prog TT T1q 1000 50) 1000 69 [.si .i64 lo, .si .i64 hi, .rs _ xs] [] 0 (Y2i [(false, [.bool])] Q) (fun _ _ _ _ => Stuck 421) = Xfc lo hi xs Q := by kernel_rfl
abbrev Xdy : List AT := [.one (.int .i64), .one (.int .i64), .one (.sl Jc)]
theorem Xqr {pre : DS -> Prop} {res : DS -> DS} (hyp_ : ∀ (W : InW) (lo hi : Int) (xs : Ro Jc), pre [[.i lo], [.i hi], [.l xs.xs]] -> ∀ Q : DS -> Prop, Q (res [[.i lo], [.i hi], [.l xs.xs]]) -> Xfc lo hi xs Q) : PureOk Try.prog 69 Xdy [(false, [.bool])] pre res :=
 PureOk.of' (fun W => @TT W) (fun W => @Xc W) Xa T1q 1000 50 fun W lo hi xs hp =>
  (Xoq W lo hi xs (fun o => o = res [[.i lo], [.i hi], [.l xs.xs]])).mpr (hyp_ W lo hi xs hp _ rfl)
theorem Xsd : PureOk Try.prog 69 Xdy [(false, [.bool])] (fun _ => True) Xdl :=
 Xqr fun W lo hi xs _ Q h => by
  unfold Xfc;delta Zb;simp only [Xdl, Sp.out] at h;rw [show Int.toNat 0 = 0 from rfl, Nat.sub_zero];refine ⟨⟨rfl, by omega, by omega⟩, vif (fun e => ?_) fun e => ?_⟩
  ·rw [e] at h;rw [decide_eq_true (by omega)];exact h
  ·rw [e] at h;exact h
def X8 : PC Try.prog := ⟨69, Xdy, [(false, [.bool])], fun _ => True, Xdl, Xsd⟩
end Go.Proofs.Ytfbhampnigdaaaa
namespace Go.Proofs.Ytfbhampnigdaaaa
open Go.RowKit
open Sp
set_option maxRecDepth 100000
set_option maxHeartbeats 1600000
abbrev tyQq : List Ty := [.int .i64, .int .i64, .int .i64]
namespace Sq
def qPart (qs : Dt) (i : Nat) : Int := (cel qs i 0).int
def qAsk (qs : Dt) (i : Nat) : Int := (cel qs i 1).int
def qBad (qs : Dt) (i : Nat) : Int := (cel qs i 2).int
def qErr (np : Nat) (qs : Dt) (i : Nat) : Int :=
 if inr (qPart qs i) 0 ((np : Int) - 1) then (if inr (qAsk qs i) 0 100000 then (if inr (qBad qs i) 0 (qAsk qs i) then 0 else 7) else 7) else 4
def many (qs : Dt) (p : Int) : Nat -> Int
 | 0 => 0
 | n + 1 => many qs p n + (if qPart qs n = p then 1 else 0)
def wErr (qs ws : Dt) (p : Nat) : Int := if inr (cel ws p 0).int 1 (many qs p qs.length) then 0 else 7
def chk (qs ws : Dt) (lo hi : Int) : Int × Int × Int :=
  if inr qs.length 1 16 && inr ws.length 1 4 then
    (if inr lo 0 16000 && inr hi 0 16000 then
      (if hi < lo then (1, 0, 2)
       else if hasE (qErr ws.length qs) 0 qs.length then (2, idxE (qErr ws.length qs) 0 qs.length, qErr ws.length qs (idxE (qErr ws.length qs) 0 qs.length))
       else if hasE (wErr qs ws) 0 ws.length then (3, idxE (wErr qs ws) 0 ws.length, wErr qs ws (idxE (wErr qs ws) 0 ws.length))
       else (0, 0, 0))
     else (1, 0, 7))
  else (1, 0, 3)
def chkP (qs ws : Dt) (lo hi : Int) : Int := (chk qs ws lo hi).1
def chkI (qs ws : Dt) (lo hi : Int) : Int := (chk qs ws lo hi).2.1
def chkE (qs ws : Dt) (lo hi : Int) : Int := (chk qs ws lo hi).2.2
structure MOk (qs : Dt) (np n : Nat) (ms : Dt) : Prop where
 len : ms.length = np
 ok : ∀ p, p < np -> (cel ms p 0).int = many qs p n
inductive FaM (P : Dt -> Prop) (K : Dt -> Prop) : Prop where
 | mk (h : ∀ xs, P xs -> K xs)
theorem many_bound (qs : Dt) (p : Int) : ∀ n, 0 <= many qs p n /\ many qs p n <= n
 | 0 => by simp [many]
 | n + 1 => by have := many_bound qs p n; rw [many]; split <;> omega
theorem many_succ (qs : Dt) (p : Int) (n : Nat) : many qs p (n + 1) = many qs p n + (if (cel qs n 0).int = p then 1 else 0) := rfl
theorem cel_setS {l : Dt} {j k : Nat} {c : List Cl} (h : j < l.length) : cel (l.set j c) j k = c.getD k .z := by
 unfold cel; rw [List.getD_eq_getElem?_getD (l := l.set j c), List.getElem?_set_self h]; rfl
theorem cel_setN {l : Dt} {j m k : Nat} {c : List Cl} (h : j ≠ m) : cel (l.set j c) m k = cel l m k := by
 unfold cel; rw [List.getD_eq_getElem?_getD (l := l.set j c), List.getElem?_set_ne h, <- List.getD_eq_getElem?_getD]
theorem MOk.step {qs : Dt} {np n : Nat} {ms : Dt} (h : MOk qs np n ms) {p : Int} (hp : (cel qs n 0).int = p) (h0 : 0 <= p) (h1 : p < np) : MOk qs np (n + 1) (ms.set p.toNat [.i ((cel ms p.toNat 0).int + 1)]) := by
 have hl := h.len;refine ⟨by rw [List.length_set, hl], fun k hk => ?_⟩;rw [many_succ, hp]
 by_cases hk2 : p.toNat = k
 ·subst hk2;rw [cel_setS (by omega), if_pos (by omega), <- h.ok _ hk];rfl
 ·rw [cel_setN hk2, if_neg (by omega), h.ok k hk]; omega
end Sq
theorem Xjt (np : Nat) (qs : Dt) (i : Nat) : Sq.qErr np qs i = if Sp.inr (cel qs i 0).int 0 ((np : Int) - 1) then (if Sp.inr (cel qs i 1).int 0 100000 then (if Sp.inr (cel qs i 2).int 0 (cel qs i 1).int then 0 else 7) else 7) else 4 := rfl
theorem Xlb (qs ws : Dt) (i : Nat) : Sq.wErr qs ws i = if Sp.inr (cel ws i 0).int 1 (Sq.many qs i qs.length) then 0 else 7 := rfl
abbrev Xda (ds : DS) : DS := match ds with | [[.l qs, .l ws, .i lo, .i hi]] => [[.i (Sq.chkP qs ws lo hi)], [.i (Sq.chkI qs ws lo hi)], [.i (Sq.chkE qs ws lo hi)]] | _ => []
def T2q : Tab Try.prog := ⟨[X8], [], []⟩
def Xdg [InW] (e : List Ed) (K : Nat -> List Ed -> Prop) : Prop := match e with
 | [.i np, .ro _ q2, .i n, .i i, .ro _ qs, .ro _ ws, .i lo, .i hi, .i a, .i b, .i c, .i d] => Pre (np = ws.xs.length /\ ws.xs.length <= 4 /\ 0 <= i /\ i <= qs.xs.length /\ n = qs.xs.length /\ q2.xs = qs.xs /\ a = Sq.many qs.xs 0 i.toNat /\ b = Sq.many qs.xs 1 i.toNat /\ c = Sq.many qs.xs 2 i.toNat /\ d = Sq.many qs.xs 3 i.toNat) (Vif (Sp.hasE (Sq.qErr ws.xs.length qs.xs) i.toNat (qs.xs.length - i.toNat))
   (K 1 [.i (Sp.idxE (Sq.qErr ws.xs.length qs.xs) i.toNat (qs.xs.length - i.toNat)), .i (Sq.qErr ws.xs.length qs.xs (Sp.idxE (Sq.qErr ws.xs.length qs.xs) i.toNat (qs.xs.length - i.toNat)))])
   (K 0 [.ro _ qs, .ro _ ws, .i lo, .i hi, .i (Sq.many qs.xs 0 qs.xs.length), .i (Sq.many qs.xs 1 qs.xs.length), .i (Sq.many qs.xs 2 qs.xs.length), .i (Sq.many qs.xs 3 qs.xs.length)]))
 | _ => False
def Xdm : LC where
 len := 95
 T := [(1, (.ptr 1 0)), (5, .int .i64), (6, (.ptr 19 0)), (43, .rs tyQq), (44, .int .i64), (45, .int .i64)]
 H := [(1, .blk 48 [.rs tyQq, .rs Jc, .int .i64, .int .i64]), (19, .blk 95 [.int .i64, .int .i64, .int .i64, .int .i64])]
 W := ([2, 3, 4, 7, 8] ++ rgg 46 33)
 outs := [⟨.exit 1, [(1, (.ptr 1 0)), (6, (.ptr 19 0))], [(1, .blk 48 [.rs tyQq, .rs Jc, .int .i64, .int .i64]), (19, .blk 95 [.int .i64, .int .i64, .int .i64, .int .i64])], (rgg 2 4 ++ [7, 8] ++ rgg 43 36)⟩, ⟨.ret, [(2, (.lit (.int .i64 2))), (3, .int .i64), (4, .int .i64)], [], ([1] ++ rgg 5 4 ++ rgg 43 36)⟩]
 spec := Xdg
def Zeh [W : InW] (q2 : Ro tyQq) (i : Int) := cel q2.xs i.toNat Zd
def Zeg [W : InW] (q2 : Ro tyQq) (i : Int) := decide (Zb <= (Zeh q2 i).int) && decide ((Zeh q2 i).int < (↑(4 : Nat) : Int))
def Zei [W : InW] (q2 : Ro tyQq) (i : Int) := decide ((Zeh q2 i).int = (↑Zd : Int))
def Zej [W : InW] (q2 : Ro tyQq) (i : Int) := decide ((Zeh q2 i).int = (↑(0+1) : Int))
def Zek [W : InW] (q2 : Ro tyQq) (i : Int) := decide ((Zeh q2 i).int = (↑(1+1) : Int))
def Xd7 [W : InW] (np : Int) (q2 : Ro tyQq) (n i : Int) (qs : Ro tyQq) (ws : Ro Jc) (lo hi a b c d : Int) (A : List Ed -> Prop) (K : Nat -> List Ed -> Prop) : Prop :=
 Vif (decide (i < n)) (Need (decide (0 <= i) && decide (i < (↑(q2.xs.length) : Int))) (Need (decide (i.toNat < q2.xs.length)) (Ar .i64 (np - 1) fun z => Pre True (Vif (out Zb z [[Cl.i (Zeh q2 i).int]]) (K (0+1) [.i i, .i (4 : Int)]) (Pre True (Vif (out Zb (100000 : Int) [[Cl.i (cel q2.xs i.toNat (0+1)).int]]) (K (0+1) [.i i, .i (7 : Int)]) (Pre True (Vif (out Zb (cel q2.xs i.toNat (0+1)).int [[Cl.i (cel q2.xs i.toNat (Zd + 1 + 1)).int]]) (K (0+1) [.i i, .i (7 : Int)]) (Need (Zeg q2 i) (Vif (Zei q2 i) (Ar .i64 (a + 1) fun z => Need (Zeg q2 i) (Vif (Zei q2 i) (Ar .i64 (i + 1) fun z_1 => A [.i np, .ro _ q2, .i n, .i z_1, .ro _ qs, .ro _ ws, .i lo, .i hi, .i z, .i b, .i c, .i d]) (Vif (Zej q2 i) (Ar .i64 (i + 1) fun z_1 => A [.i np, .ro _ q2, .i n, .i z_1, .ro _ qs, .ro _ ws, .i lo, .i hi, .i a, .i z, .i c, .i d]) (Vif (Zek q2 i) (Ar .i64 (i + 1) fun z_1 => A [.i np, .ro _ q2, .i n, .i z_1, .ro _ qs, .ro _ ws, .i lo, .i hi, .i a, .i b, .i z, .i d]) (Ar .i64 (i + 1) fun z_1 => A [.i np, .ro _ q2, .i n, .i z_1, .ro _ qs, .ro _ ws, .i lo, .i hi, .i a, .i b, .i c, .i z]))))) (Vif (Zej q2 i) (Ar .i64 (b + 1) fun z => Need (Zeg q2 i) (Vif (Zei q2 i) (Ar .i64 (i + 1) fun z_1 => A [.i np, .ro _ q2, .i n, .i z_1, .ro _ qs, .ro _ ws, .i lo, .i hi, .i z, .i b, .i c, .i d]) (Vif (Zej q2 i) (Ar .i64 (i + 1) fun z_1 => A [.i np, .ro _ q2, .i n, .i z_1, .ro _ qs, .ro _ ws, .i lo, .i hi, .i a, .i z, .i c, .i d]) (Vif (Zek q2 i) (Ar .i64 (i + 1) fun z_1 => A [.i np, .ro _ q2, .i n, .i z_1, .ro _ qs, .ro _ ws, .i lo, .i hi, .i a, .i b, .i z, .i d]) (Ar .i64 (i + 1) fun z_1 => A [.i np, .ro _ q2, .i n, .i z_1, .ro _ qs, .ro _ ws, .i lo, .i hi, .i a, .i b, .i c, .i z]))))) (Vif (Zek q2 i) (Ar .i64 (c + 1) fun z => Need (Zeg q2 i) (Vif (Zei q2 i) (Ar .i64 (i + 1) fun z_1 => A [.i np, .ro _ q2, .i n, .i z_1, .ro _ qs, .ro _ ws, .i lo, .i hi, .i z, .i b, .i c, .i d]) (Vif (Zej q2 i) (Ar .i64 (i + 1) fun z_1 => A [.i np, .ro _ q2, .i n, .i z_1, .ro _ qs, .ro _ ws, .i lo, .i hi, .i a, .i z, .i c, .i d]) (Vif (Zek q2 i) (Ar .i64 (i + 1) fun z_1 => A [.i np, .ro _ q2, .i n, .i z_1, .ro _ qs, .ro _ ws, .i lo, .i hi, .i a, .i b, .i z, .i d]) (Ar .i64 (i + 1) fun z_1 => A [.i np, .ro _ q2, .i n, .i z_1, .ro _ qs, .ro _ ws, .i lo, .i hi, .i a, .i b, .i c, .i z]))))) (Ar .i64 (d + 1) fun z => Need (Zeg q2 i) (Vif (Zei q2 i) (Ar .i64 (i + 1) fun z_1 => A [.i np, .ro _ q2, .i n, .i z_1, .ro _ qs, .ro _ ws, .i lo, .i hi, .i z, .i b, .i c, .i d]) (Vif (Zej q2 i) (Ar .i64 (i + 1) fun z_1 => A [.i np, .ro _ q2, .i n, .i z_1, .ro _ qs, .ro _ ws, .i lo, .i hi, .i a, .i z, .i c, .i d]) (Vif (Zek q2 i) (Ar .i64 (i + 1) fun z_1 => A [.i np, .ro _ q2, .i n, .i z_1, .ro _ qs, .ro _ ws, .i lo, .i hi, .i a, .i b, .i z, .i d]) (Ar .i64 (i + 1) fun z_1 => A [.i np, .ro _ q2, .i n, .i z_1, .ro _ qs, .ro _ ws, .i lo, .i hi, .i a, .i b, .i c, .i z]))))))))))))))))) (K 0 [.ro _ qs, .ro _ ws, .i lo, .i hi, .i a, .i b, .i c, .i d])
theorem Xlc (W : InW) (np q2 n i qs ws lo hi a b c d A K) : Yfh { cxT Try.prog TT T2q 1000 50 with fn := 68 } 1000 (Yor Try.prog 68 11) (Yd9 95 [(1, .ptr 1 0), (5, .si .i64 np), (6, .ptr 19 0), (43, .rs _ q2), (44, .si .i64 n), (45, .si .i64 i)] ([2, 3, 4, 7, 8] ++ rgg 46 33)) [(1, .blk 48 [.rs _ qs, .rs _ ws, .si .i64 lo, .si .i64 hi]), (19, .blk 95 [.si .i64 a, .si .i64 b, .si .i64 c, .si .i64 d])] (Yvi Xdm A K) = Xd7 np q2 n i qs ws lo hi a b c d A K := by kernel_rfl
def Xej : Prop := ∀ (W : InW) (body a : Code), (Try.prog.funcs[68]?).bind (·.body) = some body -> a ∈ Y1 body -> Yf2 a = 11 -> @Ym8 W Try.prog a (@Yum W Xdm)
theorem Xmc (meas : [InW] -> List Ed -> Nat) (hyp_ : ∀ (W : InW) np q2 n i qs ws lo hi a b c d K, Xdg [.i np, .ro _ q2, .i n, .i i, .ro _ qs, .ro _ ws, .i lo, .i hi, .i a, .i b, .i c, .i d] K -> ∀ A : List Ed -> Prop, (∀ e, meas e < meas [.i np, .ro _ q2, .i n, .i i, .ro _ qs, .ro _ ws, .i lo, .i hi, .i a, .i b, .i c, .i d] -> Xdg e K -> A e) -> Xd7 np q2 n i qs ws lo hi a b c d A K) : Xej :=
 LE.okOf' (fun W => @TT W) (fun W => @Xc W) Xa T2q 1000 50 (by kernel_rfl) Xdm (fun W => @meas W) fun W np q2 n i qs ws lo hi a b c d K hs =>
  (Xlc W np q2 n i qs ws lo hi a b c d (fun e => meas e < meas [.i np, .ro _ q2, .i n, .i i, .ro _ qs, .ro _ ws, .i lo, .i hi, .i a, .i b, .i c, .i d] /\ Xdg e K) K).mpr (hyp_ W np q2 n i qs ws lo hi a b c d K hs _ fun e h1 h2 => ⟨h1, h2⟩)
def Xdh [InW] (e : List Ed) (K : Nat -> List Ed -> Prop) : Prop := match e with
 | [.ro _ w2, .i n, .i i, .ro _ qs, .ro _ ws, .i lo, .i hi, .i a, .i b, .i c, .i d] => Pre (0 <= i /\ i <= ws.xs.length /\ ws.xs.length <= 4 /\ n = ws.xs.length /\ w2.xs = ws.xs /\ a = Sq.many qs.xs 0 qs.xs.length /\ b = Sq.many qs.xs 1 qs.xs.length /\ c = Sq.many qs.xs 2 qs.xs.length /\ d = Sq.many qs.xs 3 qs.xs.length) (Vif (Sp.hasE (Sq.wErr qs.xs ws.xs) i.toNat (ws.xs.length - i.toNat))
   (K 1 [.i (Sp.idxE (Sq.wErr qs.xs ws.xs) i.toNat (ws.xs.length - i.toNat)), .i (Sq.wErr qs.xs ws.xs (Sp.idxE (Sq.wErr qs.xs ws.xs) i.toNat (ws.xs.length - i.toNat)))]) (K 0 [.ro _ qs, .ro _ ws, .i lo, .i hi]))
 | _ => False
def Xdn : LC where
 len := 95
 T := [(1, (.ptr 1 0)), (6, (.ptr 19 0)), (80, .rs Jc), (81, .int .i64), (82, .int .i64)]
 H := [(1, .blk 48 [.rs tyQq, .rs Jc, .int .i64, .int .i64]), (19, .blk 95 [.int .i64, .int .i64, .int .i64, .int .i64])]
 W := ([2, 3, 4, 9, 10] ++ rgg 83 12)
 outs := [⟨.exit 4, [(1, (.ptr 1 0))], [(1, .blk 48 [.rs tyQq, .rs Jc, .int .i64, .int .i64])], ([2, 3, 4, 6, 9, 10] ++ rgg 80 15)⟩, ⟨.ret, [(2, (.lit (.int .i64 3))), (3, .int .i64), (4, .int .i64)], [], ([1, 6, 9, 10] ++ rgg 80 15)⟩]
 spec := Xdh
def Zel [W : InW] (w2 : Ro Jc) (n i : Int) (qs : Ro tyQq) (ws : Ro Jc) (lo hi a b c d : Int) (A : List Ed -> Prop) := Ar .i64 (i + 1) fun z => A [.ro _ w2, .i n, .i z, .ro _ qs, .ro _ ws, .i lo, .i hi, .i a, .i b, .i c, .i d]
def Xd8 [W : InW] (w2 : Ro Jc) (n i : Int) (qs : Ro tyQq) (ws : Ro Jc) (lo hi a b c d : Int) (A : List Ed -> Prop) (K : Nat -> List Ed -> Prop) : Prop :=
 Vif (decide (i < n)) (Need (decide (0 <= i) && decide (i < (↑(w2.xs.length) : Int))) (Need (decide (i.toNat < w2.xs.length)) (Need (decide (0 <= i) && decide (i < (↑(4 : Nat) : Int))) (Vif (decide (i = (↑Zd : Int))) (Pre True (Vif (out (1 : Int) a [[Cl.i (cel w2.xs i.toNat Zd).int]]) (K (0+1) [.i i, .i (7 : Int)]) (Zel w2 n i qs ws lo hi a b c d A))) (Vif (decide (i = (↑(0+1) : Int))) (Pre True (Vif (out (1 : Int) b [[Cl.i (cel w2.xs i.toNat Zd).int]]) (K (0+1) [.i i, .i (7 : Int)]) (Zel w2 n i qs ws lo hi a b c d A))) (Vif (decide (i = (↑(1+1) : Int))) (Pre True (Vif (out (1 : Int) c [[Cl.i (cel w2.xs i.toNat Zd).int]]) (K (0+1) [.i i, .i (7 : Int)]) (Zel w2 n i qs ws lo hi a b c d A))) (Pre True (Vif (out (1 : Int) d [[Cl.i (cel w2.xs i.toNat Zd).int]]) (K (0+1) [.i i, .i (7 : Int)]) (Zel w2 n i qs ws lo hi a b c d A))))))))) (K 0 [.ro _ qs, .ro _ ws, .i lo, .i hi])
theorem Xld (W : InW) (w2 n i qs ws lo hi a b c d A K) : Yfh { cxT Try.prog TT T2q 1000 50 with fn := 68 } 1000 (Yor Try.prog 68 20) (Yd9 95 [(1, .ptr 1 0), (6, .ptr 19 0), (80, .rs _ w2), (81, .si .i64 n), (82, .si .i64 i)] ([2, 3, 4, 9, 10] ++ rgg 83 12)) [(1, .blk 48 [.rs _ qs, .rs _ ws, .si .i64 lo, .si .i64 hi]), (19, .blk 95 [.si .i64 a, .si .i64 b, .si .i64 c, .si .i64 d])] (Yvi Xdn A K) = Xd8 w2 n i qs ws lo hi a b c d A K := by kernel_rfl
def Xek : Prop := ∀ (W : InW) (body a : Code), (Try.prog.funcs[68]?).bind (·.body) = some body -> a ∈ Y1 body -> Yf2 a = 20 -> @Ym8 W Try.prog a (@Yum W Xdn)
theorem Xmd (meas : [InW] -> List Ed -> Nat) (hyp_ : ∀ (W : InW) w2 n i qs ws lo hi a b c d K, Xdh [.ro _ w2, .i n, .i i, .ro _ qs, .ro _ ws, .i lo, .i hi, .i a, .i b, .i c, .i d] K -> ∀ A : List Ed -> Prop, (∀ e, meas e < meas [.ro _ w2, .i n, .i i, .ro _ qs, .ro _ ws, .i lo, .i hi, .i a, .i b, .i c, .i d] -> Xdh e K -> A e) -> Xd8 w2 n i qs ws lo hi a b c d A K) : Xek :=
 LE.okOf' (fun W => @TT W) (fun W => @Xc W) Xa T2q 1000 50 (by kernel_rfl) Xdn (fun W => @meas W) fun W w2 n i qs ws lo hi a b c d K hs =>
  (Xld W w2 n i qs ws lo hi a b c d (fun e => meas e < meas [.ro _ w2, .i n, .i i, .ro _ qs, .ro _ ws, .i lo, .i hi, .i a, .i b, .i c, .i d] /\ Xdh e K) K).mpr (hyp_ W w2 n i qs ws lo hi a b c d K hs _ fun e h1 h2 => ⟨h1, h2⟩)
theorem Xrd : Xej := Xmc (fun e => match e with | _ :: _ :: _ :: .i i :: .ro _ qs :: _ => ((qs.xs.length : Int) - i).toNat | _ => 0) fun W np q2 n i qs ws lo hi a b c d K hs A hA => by
 obtain ⟨⟨rfl, h4, h0, h1, rfl, hq, rfl, rfl, rfl, rfl⟩, hk⟩ := hs;unfold Xd7;delta Zek Zej Zei Zeg Zeh Zd Zb;have hm := qs.len;have hm2 := ws.len;simp only [maxLen] at hm hm2;refine vifd (fun e => ?_) fun e => ?_
 ·rw [show qs.xs.length - i.toNat = (qs.xs.length - (i.toNat + 1)) + 1 by omega] at hk;obtain ⟨g1, g2⟩ := Xdf (K1 := fun j e => K 1 [.i j, .i e]) hk;rw [Int.toNat_of_nonneg h0] at g1;have ez : (i + 1).toNat = i.toNat + 1 := by omega
  have hA' : Sq.qErr ws.xs.length qs.xs i.toNat = 0 -> ∀ a b c d, a = Sq.many qs.xs 0 (i.toNat + 1) -> b = Sq.many qs.xs 1 (i.toNat + 1) -> c = Sq.many qs.xs 2 (i.toNat + 1) -> d = Sq.many qs.xs 3 (i.toNat + 1) -> A [.i ws.xs.length, .ro _ q2, .i qs.xs.length, .i (i + 1), .ro _ qs, .ro _ ws, .i lo, .i hi, .i a, .i b, .i c, .i d] := fun f a b c d ea eb ec ed => hA _ (by show ((qs.xs.length : Int) - (i + 1)).toNat < ((qs.xs.length : Int) - i).toNat; omega) ⟨⟨rfl, h4, by omega, by omega, rfl, hq, by rw [ez]; exact ea, by rw [ez]; exact eb, by rw [ez]; exact ec, by rw [ez]; exact ed⟩, by rw [ez]; exact g2 f⟩;have bad : ∀ n, Sq.qErr ws.xs.length qs.xs i.toNat = n -> n ≠ 0 -> K 1 [.i i, .i n] := fun n hn h => by rw [<- hn]; exact g1 (by rw [hn]; exact h)
  have eN := Lib.hid (Xjt ws.xs.length qs.xs i.toNat);simp only [Sq.many_succ] at hA';have b0 := Sq.many_bound qs.xs 0 i.toNat;have b1 := Sq.many_bound qs.xs 1 i.toNat;have b2 := Sq.many_bound qs.xs 2 i.toNat;have b3 := Sq.many_bound qs.xs 3 i.toNat;clear g1 g2 hk hA;generalize Sq.qErr ws.xs.length qs.xs i.toNat = E at *;generalize Sq.many qs.xs 0 i.toNat = m0 at *;generalize Sq.many qs.xs 1 i.toNat = m1 at *;generalize Sq.many qs.xs 2 i.toNat = m2 at *;generalize Sq.many qs.xs 3 i.toNat = m3 at *;have hl2 : q2.xs.length = qs.xs.length := by rw [hq]
  simp only [Nat.zero_add, Nat.reduceAdd, out1, hq]
  by_cases hp : Sp.inr (cel qs.xs i.toNat 0).int 0 ((ws.xs.length : Int) - 1) = true
  ·have i1 := Sp.inr_iff.1 hp
   repeat' (first | omega|intro _|with_reducible first|apply vifd|apply vifn|apply vifq|apply Xf|apply Xe|apply vifb|apply vif|apply nedd|apply ned2|apply ned|apply ar64|apply Xb|exact True.intro|assumption|rfl|apply And.intro)
   all_goals first | (refine bad _ (by rw [eN.out]; simp_all; done) (by omega)) | (refine hA' (by rw [eN.out]; simp_all; done) _ _ _ _ ?_ ?_ ?_ ?_ <;> split <;> omega) | (simp_all; done) | skip
  ·repeat' (first | omega|intro _|with_reducible first|apply vifd|apply vifn|apply vifq|apply Xf|apply Xe|apply vifb|apply vif|apply nedd|apply ned2|apply ned|apply ar64|apply Xb|exact True.intro|assumption|rfl|apply And.intro)
   all_goals first | (refine bad _ (by rw [eN.out]; simp_all; done) (by omega)) | (simp_all; done) | skip
  all_goals trace_state
 ·rw [show qs.xs.length - i.toNat = 0 by omega] at hk;have e2 : i.toNat = qs.xs.length := by omega
  rw [e2];exact hk.2 rfl
def Xrl : LE Try.prog := ⟨68, 11, fun W => @Yum W Xdm, Xrd⟩
theorem Xre : Xek := Xmd (fun e => match e with | _ :: _ :: .i i :: _ :: .ro _ ws :: _ => ((ws.xs.length : Int) - i).toNat | _ => 0) fun W w2 n i qs ws lo hi a b c d K hs A hA => by
 obtain ⟨⟨h0, h1, h4, rfl, hq, rfl, rfl, rfl, rfl⟩, hk⟩ := hs;unfold Xd8;delta Zel Zd;have hm := ws.len;simp only [maxLen] at hm;refine vifd (fun e => ?_) fun e => ?_
 ·rw [show ws.xs.length - i.toNat = (ws.xs.length - (i.toNat + 1)) + 1 by omega] at hk;obtain ⟨g1, g2⟩ := Xdf (K1 := fun j e => K 1 [.i j, .i e]) hk;rw [Int.toNat_of_nonneg h0] at g1;have ez : (i + 1).toNat = i.toNat + 1 := by omega
  have hA' : Sq.wErr qs.xs ws.xs i.toNat = 0 -> A [.ro _ w2, .i ws.xs.length, .i (i + 1), .ro _ qs, .ro _ ws, .i lo, .i hi, .i (Sq.many qs.xs 0 qs.xs.length), .i (Sq.many qs.xs 1 qs.xs.length), .i (Sq.many qs.xs 2 qs.xs.length), .i (Sq.many qs.xs 3 qs.xs.length)] := fun f => hA _ (by show ((ws.xs.length : Int) - (i + 1)).toNat < ((ws.xs.length : Int) - i).toNat; omega) ⟨⟨by omega, by omega, h4, rfl, hq, rfl, rfl, rfl, rfl⟩, by rw [ez]; exact g2 f⟩;have bad : ∀ n, Sq.wErr qs.xs ws.xs i.toNat = n -> n ≠ 0 -> K 1 [.i i, .i n] := fun n hn h => by rw [<- hn]; exact g1 (by rw [hn]; exact h)
  have eN := Lib.hid (Xlb qs.xs ws.xs i.toNat);rw [Int.toNat_of_nonneg h0] at eN;clear g1 g2 hk hA;generalize Sq.wErr qs.xs ws.xs i.toNat = E at *;have hl2 : w2.xs.length = ws.xs.length := by rw [hq]
  simp only [Nat.zero_add, Nat.reduceAdd, out1, hq];have c4 : i = 0 \/ i = 1 \/ i = 2 \/ i = 3 := by omega
  rcases c4 with rfl | rfl | rfl | rfl
  all_goals repeat' (first | omega|intro _|with_reducible first|apply vifd|apply vifn|apply vifq|apply Xf|apply Xe|apply vifb|apply vif|apply nedd|apply ned2|apply ned|apply ar64|apply Xb|exact True.intro|assumption|rfl|apply And.intro)
  all_goals first | exact bad _ (eN.out.trans (if_neg (ne_true_of_eq_false (by assumption)))) (by omega) | exact hA' (eN.out.trans (if_pos (by assumption))) | omega
 ·rw [show ws.xs.length - i.toNat = 0 by omega] at hk;exact hk.2 rfl
def Xrm : LE Try.prog := ⟨68, 20, fun W => @Yum W Xdn, Xre⟩
def T4q : Tab Try.prog := ⟨[X8], [Xrl, Xrm], []⟩
theorem out2n (lo hi a b : Int) : Sp.out lo hi [[Cl.i a], [Cl.i b]] = !(Sp.inr a lo hi && Sp.inr b lo hi) := by simp [Sp.out, Sp.outs, cel, Cl.int, Bool.not_and]
theorem Xm9 {qs ws : Dt} {lo hi : Int} {Q : Int × Int × Int -> Prop} (h : Q (Sq.chk qs ws lo hi)) :
  let c := Sp.inr qs.length 1 16 && Sp.inr ws.length 1 4
  let d := Sp.inr lo 0 16000 && Sp.inr hi 0 16000
  (c = false -> Q (1, 0, 3)) /\
  (c = true -> d = false -> Q (1, 0, 7)) /\
  (c = true -> d = true -> hi < lo -> Q (1, 0, 2)) /\
  (c = true -> d = true -> ¬ hi < lo -> Sp.hasE (Sq.qErr ws.length qs) 0 qs.length = true -> Q (2, Sp.idxE (Sq.qErr ws.length qs) 0 qs.length, Sq.qErr ws.length qs (Sp.idxE (Sq.qErr ws.length qs) 0 qs.length))) /\
  (c = true -> d = true -> ¬ hi < lo -> Sp.hasE (Sq.qErr ws.length qs) 0 qs.length = false -> Sp.hasE (Sq.wErr qs ws) 0 ws.length = true -> Q (3, Sp.idxE (Sq.wErr qs ws) 0 ws.length, Sq.wErr qs ws (Sp.idxE (Sq.wErr qs ws) 0 ws.length))) /\
  (c = true -> d = true -> ¬ hi < lo -> Sp.hasE (Sq.qErr ws.length qs) 0 qs.length = false -> Sp.hasE (Sq.wErr qs ws) 0 ws.length = false -> Q (0, 0, 0)) := by
 intro c d;unfold Sq.chk at h;refine ⟨fun e => ?_, fun e e1 => ?_, fun e e1 e2 => ?_, fun e e1 e2 e3 => ?_, fun e e1 e2 e3 e4 => ?_, fun e e1 e2 e3 e4 => ?_⟩
 ·rw [if_neg (by show ¬ c = true; simp [e])] at h; exact h
 ·rw [if_pos (show c = true from e), if_neg (by show ¬ d = true; simp [e1])] at h; exact h
 ·rw [if_pos (show c = true from e), if_pos (show d = true from e1), if_pos e2] at h; exact h
 ·rw [if_pos (show c = true from e), if_pos (show d = true from e1), if_neg e2, if_pos e3] at h; exact h
 ·rw [if_pos (show c = true from e), if_pos (show d = true from e1), if_neg e2, if_neg (by simp [e3]), if_pos e4] at h; exact h
 ·rw [if_pos (show c = true from e), if_pos (show d = true from e1), if_neg e2, if_neg (by simp [e3]), if_neg (by simp [e4])] at h; exact h
def Zen [W : InW] (k_Ws : Ro Jc) := (↑(k_Ws.xs.length) : Int)
def Zem := Int.toNat Zb
def Xcg [W : InW] (kQ : Ro tyQq) (k_Ws : Ro Jc) (k_Lo k_Hi : Int) (Q : DS -> Prop) : Prop :=
 Pre True (Vif (out (1 : Int) (16 : Int) [[Cl.i (↑(kQ.xs.length) : Int)]]) (Q [[Cl.i 1], [Cl.i 0], [Cl.i 3]]) (Pre True (Vif (out (1 : Int) (4 : Int) [[Cl.i (Zen k_Ws)]]) (Q [[Cl.i 1], [Cl.i 0], [Cl.i 3]]) (Pre True (Vif (out Zb (16000 : Int) [[Cl.i k_Lo], [Cl.i k_Hi]]) (Q [[Cl.i 1], [Cl.i 0], [Cl.i 7]]) (Vif (decide (k_Hi < k_Lo)) (Q [[Cl.i 1], [Cl.i 0], [Cl.i 2]]) (Pre ((Zen k_Ws) = (Zen k_Ws) /\ k_Ws.xs.length <= 4 /\ Zb <= 0 /\ Zb <= (↑(kQ.xs.length) : Int) /\ (↑(kQ.xs.length) : Int) = (↑(kQ.xs.length) : Int) /\ kQ.xs = kQ.xs /\ Zb = Sq.many kQ.xs Zb Zem /\ Zb = Sq.many kQ.xs (1 : Int) Zem /\ Zb = Sq.many kQ.xs (2 : Int) Zem /\ Zb = Sq.many kQ.xs (3 : Int) Zem) (Vif (hasE (Sq.qErr (k_Ws.xs.length) kQ.xs) Zem (kQ.xs.length - Int.toNat Zb)) (Q [[Cl.i 2], [Cl.i (↑(idxE (Sq.qErr (k_Ws.xs.length) kQ.xs) Zem (kQ.xs.length - Int.toNat Zb)) : Int)], [Cl.i (Sq.qErr (k_Ws.xs.length) kQ.xs (idxE (Sq.qErr (k_Ws.xs.length) kQ.xs) Zem (kQ.xs.length - Int.toNat Zb)))]]) (Pre (Zb <= 0 /\ Zb <= (Zen k_Ws) /\ k_Ws.xs.length <= 4 /\ (Zen k_Ws) = (Zen k_Ws) /\ k_Ws.xs = k_Ws.xs /\ Sq.many kQ.xs Zb (kQ.xs.length) = Sq.many kQ.xs Zb (kQ.xs.length) /\ Sq.many kQ.xs (1 : Int) (kQ.xs.length) = Sq.many kQ.xs (1 : Int) (kQ.xs.length) /\ Sq.many kQ.xs (2 : Int) (kQ.xs.length) = Sq.many kQ.xs (2 : Int) (kQ.xs.length) /\ Sq.many kQ.xs (3 : Int) (kQ.xs.length) = Sq.many kQ.xs (3 : Int) (kQ.xs.length)) (Vif (hasE (Sq.wErr kQ.xs k_Ws.xs) Zem (k_Ws.xs.length - Int.toNat Zb)) (Q [[Cl.i 3], [Cl.i (↑(idxE (Sq.wErr kQ.xs k_Ws.xs) Zem (k_Ws.xs.length - Int.toNat Zb)) : Int)], [Cl.i (Sq.wErr kQ.xs k_Ws.xs (idxE (Sq.wErr kQ.xs k_Ws.xs) Zem (k_Ws.xs.length - Int.toNat Zb)))]]) (Q [[Cl.i 0], [Cl.i 0], [Cl.i 0]])))))))))))
theorem Xjg (W : InW) (kQ k_Ws k_Lo k_Hi Q) : Yx2 (cxT Try.prog TT T4q 1000 50) 1000 68 [.agg [.rs _ kQ, .rs _ k_Ws, .si .i64 k_Lo, .si .i64 k_Hi]] [] 0 (Y2i [(false, [.int .i64]), (false, [.int .i64]), (false, [.int .i64])] Q) (fun _ _ _ _ => Stuck 421) = Xcg kQ k_Ws k_Lo k_Hi Q := by kernel_rfl
abbrev Xb8 : List AT := [.agg [.sl tyQq, .sl Jc, .int .i64, .int .i64]]
theorem Xjh {pre : DS -> Prop} {res : DS -> DS} (hyp_ : ∀ (W : InW) (kQ : Ro tyQq) (k_Ws : Ro Jc) (k_Lo k_Hi : Int), pre [[.l kQ.xs, .l k_Ws.xs, .i k_Lo, .i k_Hi]] -> ∀ Q : DS -> Prop, Q (res [[.l kQ.xs, .l k_Ws.xs, .i k_Lo, .i k_Hi]]) -> Xcg kQ k_Ws k_Lo k_Hi Q) : PureOk Try.prog 68 Xb8 [(false, [.int .i64]), (false, [.int .i64]), (false, [.int .i64])] pre res :=
 PureOk.of' (fun W => @TT W) (fun W => @Xc W) Xa T4q 1000 50 fun W kQ k_Ws k_Lo k_Hi hp =>
  (Xjg W kQ k_Ws k_Lo k_Hi (fun o => o = res [[.l kQ.xs, .l k_Ws.xs, .i k_Lo, .i k_Hi]])).mpr (hyp_ W kQ k_Ws k_Lo k_Hi hp _ rfl)
theorem Xj3 : PureOk Try.prog 68 Xb8 [(false, [.int .i64]), (false, [.int .i64]), (false, [.int .i64])] (fun _ => True) Xda :=
 Xjh fun W qs ws lo hi hp Q h => by
  unfold Xcg;delta Zem Zb Zen;obtain ⟨q0, q1, q2, q3, q4, q5⟩ := Xm9 (Q := fun r => Q [[.i r.1], [.i r.2.1], [.i r.2.2]]) h;clear h;have h4 : Sp.inr ws.xs.length 1 4 = true -> ws.xs.length <= 4 := fun h => by have := (Sp.inr_iff.1 h).2; omega
  simp only [show Int.toNat 0 = 0 from rfl, Nat.sub_zero, out1, out2n, show ∀ p, Sq.many qs.xs p 0 = 0 from fun _ => rfl]
  repeat' (first | (exact h4 (by assumption)) | omega|intro _|with_reducible first|apply vifd|apply vifn|apply vifq|apply Xf|apply Xe|apply vifb|apply vif|apply nedd|apply ned2|apply ned|apply ar64|apply Xb|exact True.intro|assumption|rfl|apply And.intro)
  all_goals first | exact q5 (by simp [*]) (by simp [*]) (by assumption) (by assumption) (by assumption) | exact q4 (by simp [*]) (by simp [*]) (by assumption) (by assumption) (by assumption) | exact q3 (by simp [*]) (by simp [*]) (by assumption) (by assumption) | exact q2 (by simp [*]) (by simp [*]) (by assumption) | exact q1 (by simp [*]) (by simp [*]) | exact q0 (by simp [*]) | (simp_all; done)
def Xdb : PC Try.prog := ⟨68, Xb8, [(false, [.int .i64]), (false, [.int .i64]), (false, [.int .i64])], fun _ => True, Xda, Xj3⟩
end Go.Proofs.Ytfbhampnigdaaaa
namespace Go.Proofs.Ytfbhampnigdaaaa
open Go.RowKit
open Sp
set_option maxRecDepth 100000
structure V4 where
 a : Int
 b : Int
 c : Int
 d : Int
deriving DecidableEq
namespace Sq
def V4.get (v : V4) (p : Int) : Int := if p = 0 then v.a else if p = 1 then v.b else if p = 2 then v.c else v.d
def V4.dec (v : V4) (p : Int) : V4 := if p = 0 then ⟨v.a - 1, v.b, v.c, v.d⟩ else if p = 1 then ⟨v.a, v.b - 1, v.c, v.d⟩ else if p = 2 then ⟨v.a, v.b, v.c - 1, v.d⟩ else ⟨v.a, v.b, v.c, v.d - 1⟩
def V4.nil (v : V4) : Bool := decide (v.a = 0) && decide (v.b = 0) && decide (v.c = 0) && decide (v.d = 0)
structure V4.Ok (v : V4) : Prop where
 a : 0 <= v.a /\ v.a <= 16
 b : 0 <= v.b /\ v.b <= 16
 c : 0 <= v.c /\ v.c <= 16
 d : 0 <= v.d /\ v.d <= 16
theorem V4.Ok.dec {v : V4} (h : V4.Ok v) {p : Int} (hp : 1 <= V4.get v p) : V4.Ok (V4.dec v p) := by
 obtain ⟨h1, h2, h3, h4⟩ := h;unfold V4.get at hp;unfold V4.dec
 split at hp
 ·rw [if_pos (by assumption)]; exact ⟨by simp only; omega, h2, h3, h4⟩
 ·rw [if_neg (by assumption)]
  split at hp
  ·rw [if_pos (by assumption)]; exact ⟨h1, by simp only; omega, h3, h4⟩
  ·rw [if_neg (by assumption)]
   split at hp
   ·rw [if_pos (by assumption)]; exact ⟨h1, h2, by simp only; omega, h4⟩
   ·rw [if_neg (by assumption)]; exact ⟨h1, h2, h3, by simp only; omega⟩
def wt (qs : Dt) (i : Nat) : Int := if qAsk qs i = 0 then 500 else (qBad qs i * 1000).tdiv (qAsk qs i)
def gen (qs : Dt) (lo hi : Int) : Nat -> Int -> V4 -> List Dt
 | 0, s, v => if V4.nil v && inr s lo hi then [[]] else []
 | m + 1, s, v => if V4.nil v then (if inr s lo hi then [[]] else [])
  else (if 1 <= V4.get v (qPart qs (qs.length - (m + 1))) then (gen qs lo hi m (s + wt qs (qs.length - (m + 1))) (V4.dec v (qPart qs (qs.length - (m + 1))))).map ([Cl.i ((qs.length - (m + 1) : Nat) : Int)] :: ·) else []) ++ gen qs lo hi m s v
def cnt (qs : Dt) (lo hi : Int) (m : Nat) (s : Int) (v : V4) : Int := (gen qs lo hi m s v).length
theorem gen_nil {qs : Dt} {lo hi : Int} {v : V4} (h : V4.nil v = true) : ∀ m s, gen qs lo hi m s v = if inr s lo hi then [[]] else []
 | 0, s => by rw [gen, h]; simp
 | m + 1, s => by rw [gen, if_pos h]
theorem gen_zero {qs : Dt} {lo hi : Int} {v : V4} (h : V4.nil v = false) (s : Int) : gen qs lo hi 0 s v = [] := by rw [gen, h]; simp
theorem gen_succ {qs : Dt} {lo hi : Int} {v : V4} (h : V4.nil v = false) {m i : Nat} (hi' : i + m + 1 = qs.length) (s : Int) :
  gen qs lo hi (m + 1) s v = (if 1 <= V4.get v (qPart qs i) then (gen qs lo hi m (s + wt qs i) (V4.dec v (qPart qs i))).map ([Cl.i (i : Int)] :: ·) else []) ++ gen qs lo hi m s v := by
 rw [gen, if_neg (by simp [h]), show qs.length - (m + 1) = i by omega]
theorem cnt_nil {qs : Dt} {lo hi : Int} {v : V4} (h : V4.nil v = true) (m : Nat) (s : Int) : cnt qs lo hi m s v = if inr s lo hi then 1 else 0 := by
 unfold cnt; rw [gen_nil h]; split <;> rfl
theorem cnt_zero {qs : Dt} {lo hi : Int} {v : V4} (h : V4.nil v = false) (s : Int) : cnt qs lo hi 0 s v = 0 := by unfold cnt; rw [gen_zero h]; rfl
theorem cnt_succ {qs : Dt} {lo hi : Int} {v : V4} (h : V4.nil v = false) {m i : Nat} (hi' : i + m + 1 = qs.length) (s : Int) :
  cnt qs lo hi (m + 1) s v = (if 1 <= V4.get v (qPart qs i) then cnt qs lo hi m (s + wt qs i) (V4.dec v (qPart qs i)) else 0) + cnt qs lo hi m s v := by
 unfold cnt; rw [gen_succ h hi']; split <;> simp
theorem cnt_bound (qs : Dt) (lo hi : Int) : ∀ m s v, 0 <= cnt qs lo hi m s v /\ cnt qs lo hi m s v <= 2 ^ m
 | 0, s, v => by unfold cnt; rw [gen]; split <;> simp
 | m + 1, s, v => by
  have h1 : (2 : Int) ^ (m + 1) = 2 ^ m + 2 ^ m := by rw [Int.pow_succ]; omega
  have h2 : (0 : Int) < 2 ^ m := Int.pow_pos (by omega);cases hv : V4.nil v with
  | true => rw [cnt_nil hv]; split <;> omega
  | false =>
   unfold cnt;rw [gen, if_neg (by simp [hv])];have a1 := cnt_bound qs lo hi m s v;have a2 := cnt_bound qs lo hi m (s + wt qs (qs.length - (m + 1))) (V4.dec v (qPart qs (qs.length - (m + 1))));unfold cnt at a1 a2
   split <;> simp <;> omega
theorem cnt_16 {qs : Dt} {lo hi : Int} {m : Nat} (h : m <= 16) (s : Int) (v : V4) : 0 <= cnt qs lo hi m s v /\ cnt qs lo hi m s v <= 65536 := by
 have h1 := cnt_bound qs lo hi m s v;have h2 : (2 : Int) ^ m <= 2 ^ 16 := by exact_mod_cast Nat.pow_le_pow_right (n := 2) (by omega) h
 have h3 : (2 : Int) ^ 16 = 65536 := by decide
 omega
def stV (q : List Cl) : V4 := ⟨rI q 2, rI q 3, rI q 4, rI q 5⟩
def cntQ (qs : Dt) (lo hi : Int) (q : List Cl) : Int := cnt qs lo hi (qs.length - (rI q 0).toNat) (rI q 1) (stV q)
structure MemoOk (qs : Dt) (lo hi : Int) (xs : Dt) : Prop where
 ok : ∀ q, hasP xs q = true -> getP xs q = cntQ qs lo hi q
theorem key6_row7 (q r : List Cl) (v : Int) : key6 (row7 q v) r ↔ key6 q r := by simp [key6, row7, rI, Cl.int]
theorem key6_trans {a b c : List Cl} (h : key6 a b) (g : key6 a c) : key6 b c := by
 unfold key6 at *; omega
theorem Ysq {a b : List Cl} (h : key6 a b) : key6 b a := by unfold key6 at *; omega
theorem hasP_set : ∀ (es : Dt) (q r : List Cl) (v : Int), hasP (setP es q v) r = true -> key6 q r \/ hasP es r = true
 | [], q, r, v, h => by
  simp only [setP, hasP] at h
  split at h
  ·rename_i hk; exact .inl ((key6_row7 q r v).1 hk)
  ·cases h
 | e :: es, q, r, v, h => by
  simp only [setP] at h
  split at h
  ·rename_i hk;simp only [hasP] at h
   split at h
   ·rename_i h2; exact .inl ((key6_row7 q r v).1 h2)
   ·refine .inr ?_;simp only [hasP]; split
    ·rfl
    ·exact h
  ·simp only [hasP] at h ⊢
   split at h
   ·rename_i h2; exact .inr (by rw [if_pos h2])
   ·rename_i h2;rw [if_neg h2];exact hasP_set es q r v h
theorem getP_set : ∀ (es : Dt) (q r : List Cl) (v : Int), key6 q r -> getP (setP es q v) r = v
 | [], q, r, v, h => by
  simp only [setP, getP];rw [if_pos ((key6_row7 q r v).2 h)];simp [row7, rI, Cl.int]
 | e :: es, q, r, v, h => by
  simp only [setP]
  split
  ·simp only [getP];rw [if_pos ((key6_row7 q r v).2 h)];simp [row7, rI, Cl.int]
  ·rename_i hk;simp only [getP];rw [if_neg fun h2 => hk (by have := Ysq h; have h3 := Ysq h2; exact Ysq (key6_trans (Ysq (Ysq this)) h3)), getP_set es q r v h]
theorem getP_setN : ∀ (es : Dt) (q r : List Cl) (v : Int), ¬ key6 q r -> getP (setP es q v) r = getP es r
 | [], q, r, v, h => by
  simp only [setP, getP];rw [if_neg fun h2 => h ((key6_row7 q r v).1 h2)]
 | e :: es, q, r, v, h => by
  simp only [setP]
  split
  ·rename_i hk;simp only [getP];rw [if_neg fun h2 => h ((key6_row7 q r v).1 h2), if_neg fun h2 => h (key6_trans hk h2)]
  ·simp only [getP, getP_setN es q r v h]
theorem memo_set {qs : Dt} {lo hi : Int} {xs : Dt} (h : MemoOk qs lo hi xs) {q : List Cl} {v : Int} (hv : v = cntQ qs lo hi q) : MemoOk qs lo hi (setP xs q v) := ⟨fun r hr => by
 by_cases hk : key6 q r
 ·rw [getP_set _ _ _ _ hk, hv];obtain ⟨h0, h1, h2, h3, h4, h5⟩ := hk;simp only [cntQ, stV, h0, h1, h2, h3, h4, h5]
 ·rw [getP_setN _ _ _ _ hk];exact h.ok r ((hasP_set _ _ _ _ hr).resolve_left hk)⟩
theorem memo_nil {qs : Dt} {lo hi : Int} : MemoOk qs lo hi [] := ⟨fun q h => by simp [hasP] at h⟩
structure BkOk (qs ws : Dt) (lo hi : Int) (w : Dt) : Prop where
 few : qs.length <= 16
 part : ∀ i, i < qs.length -> 0 <= qPart qs i /\ qPart qs i <= 3
 len : w.length = qs.length
 wt : ∀ i, i < qs.length -> (cel w i 0).int = wt qs i /\ 0 <= Sq.wt qs i /\ Sq.wt qs i <= 1000
structure StOk (qs : Dt) (at_ s : Int) (v : V4) : Prop where
 a0 : 0 <= at_
 a1 : at_ <= qs.length
 s0 : 0 <= s
 s1 : s <= 1000 * at_
 v0 : V4.Ok v
theorem StOk.step {qs ws w : Dt} {lo hi t s : Int} {v : V4} (h : StOk qs t s v) (bk : BkOk qs ws lo hi w) {i : Int} (h0 : t <= i) (h1 : i < qs.length) (hp : 1 <= V4.get v (qPart qs i.toNat)) :
  StOk qs (i + 1) (s + Sq.wt qs i.toNat) (V4.dec v (qPart qs i.toNat)) := by
 obtain ⟨t0, t1, s0, s1, ok⟩ := h;obtain ⟨w1, w2, w3⟩ := bk.wt i.toNat (by omega);exact ⟨by omega, by omega, by omega, by omega, ok.dec hp⟩
theorem cnt_at {qs : Dt} {lo hi s : Int} {v : V4} (h : V4.nil v = false) {i : Int} (h0 : 0 <= i) (h1 : i < qs.length) :
  cnt qs lo hi (qs.length - i.toNat) s v = (if 1 <= V4.get v (qPart qs i.toNat) then cnt qs lo hi (qs.length - (i + 1).toNat) (s + wt qs i.toNat) (V4.dec v (qPart qs i.toNat)) else 0) + cnt qs lo hi (qs.length - (i + 1).toNat) s v := by
 have e : qs.length - i.toNat = (qs.length - (i + 1).toNat) + 1 := by omega
 rw [e, cnt_succ h (i := i.toNat) (by omega)]
end Sq
end Go.Proofs.Ytfbhampnigdaaaa
namespace Go.Proofs.Ytfbhampnigdaaaa
open Go.RowKit
open Sp
set_option maxRecDepth 100000
set_option maxHeartbeats 1600000
def T5q : Tab Try.prog := ⟨[X8], [], []⟩
def Xnh [InW] (e : List Ed) (K : Nat -> List Ed -> Prop) : Prop := match e with
 | [.ro _ qs, .ro _ ws, .i lo, .i hi, .l w, .l xs] => K 0 [.i 0, .i 0, .i (cel ws.xs 0 0).int, .i (cel ws.xs 1 0).int, .i (cel ws.xs 2 0).int, .i (cel ws.xs 3 0).int, .ro _ qs, .ro _ ws, .i lo, .i hi, .l w, .l xs]
 | _ => False
def Xbc : CC where
 g := 40
 args := [(.ptr 4 0)]
 H := [(4, .blk 91 [.rs Jd, .rs Jc, .int .i64, .int .i64, (.row 7), (.mp 10)]), (7, .arr 3 Jc), (10, .mpP)]
 outs := [⟨false, .agg [.int .i64, .int .i64, .int .i64, .int .i64, .int .i64, .int .i64], [(4, .blk 91 [.rs Jd, .rs Jc, .int .i64, .int .i64, (.row 7), (.mp 10)]), (7, .arr 3 Jc), (10, .mpP)], false⟩]
 spec := Xnh
def Xge [W : InW] (qs : Ro Jd) (ws : Ro Jc) (lo hi : Int) (w xs : Dt) (K : Nat -> List Ed -> Prop) : Prop :=
 K 0 [.i (0 : Int), .i (0 : Int), .i (cel ws.xs (0 : Nat) (0 : Nat)).int, .i (cel ws.xs (0+1) (0 : Nat)).int, .i (cel ws.xs ((0 : Nat) + 1 + 1) (0 : Nat)).int, .i (cel ws.xs ((0 : Nat) + 1 + 1 + 1) (0 : Nat)).int, .ro _ qs, .ro _ ws, .i lo, .i hi, .l w, .l xs]
theorem Xoj (W : InW) (qs ws lo hi w xs K) : Yxz (cxT Try.prog TT T5q 1000 50) 1000 40 [.ptr 4 0] [(4, .blk 91 [.rs _ qs, .rs _ ws, .si .i64 lo, .si .i64 hi, .rw 7, .mp 10]), (7, .arr 3 Jc w), (10, .obj (.mpP xs))] (fun v h => outC Xbc.H [.ro _ qs, .ro _ ws, .i lo, .i hi, .l w, .l xs] Xbc.outs 0 false v h K) (fun v h => outC Xbc.H [.ro _ qs, .ro _ ws, .i lo, .i hi, .l w, .l xs] Xbc.outs 0 true v h K) = Xge qs ws lo hi w xs K := by kernel_rfl
theorem Xqj (hyp_ : ∀ (W : InW) qs ws lo hi w xs K, Xnh [.ro _ qs, .ro _ ws, .i lo, .i hi, .l w, .l xs] K -> Xge qs ws lo hi w xs K) : ∀ W : InW, @CallC W Try.prog Xbc :=
 CC.okOf (fun W => @TT W) (fun W => @Xc W) Xa T5q 1000 50 Xbc fun W qs ws lo hi w xs K hs => (Xoj W qs ws lo hi w xs K).mpr (hyp_ W qs ws lo hi w xs K hs)
def Xnb [InW] (e : List Ed) (K : Nat -> List Ed -> Prop) : Prop := match e with
 | [.i t, .i s, .i a, .i b, .i c, .i d, .i i, .ro _ qs, .ro _ ws, .i lo, .i hi, .l w, .l xs] => Pre (Sq.BkOk qs.xs ws.xs lo hi w /\ Sq.StOk qs.xs t s ⟨a, b, c, d⟩ /\ t <= i /\ i < qs.xs.length)
   (K 0 [.i (i + 1), .i (s + Sq.wt qs.xs i.toNat), .i (Sq.V4.dec ⟨a, b, c, d⟩ (Sq.qPart qs.xs i.toNat)).a, .i (Sq.V4.dec ⟨a, b, c, d⟩ (Sq.qPart qs.xs i.toNat)).b, .i (Sq.V4.dec ⟨a, b, c, d⟩ (Sq.qPart qs.xs i.toNat)).c, .i (Sq.V4.dec ⟨a, b, c, d⟩ (Sq.qPart qs.xs i.toNat)).d,
    .b (decide (1 <= Sq.V4.get ⟨a, b, c, d⟩ (Sq.qPart qs.xs i.toNat))), .ro _ qs, .ro _ ws, .i lo, .i hi, .l w, .l xs])
 | _ => False
def Xbb : CC where
 g := 70
 args := [(.ptr 4 0), .agg [.int .i64, .int .i64, .int .i64, .int .i64, .int .i64, .int .i64], .int .i64]
 H := [(4, .blk 91 [.rs Jd, .rs Jc, .int .i64, .int .i64, (.row 7), (.mp 10)]), (7, .arr 3 Jc), (10, .mpP)]
 outs := [⟨false, .tup [.agg [.int .i64, .int .i64, .int .i64, .int .i64, .int .i64, .int .i64], .bool], [(4, .blk 91 [.rs Jd, .rs Jc, .int .i64, .int .i64, (.row 7), (.mp 10)]), (7, .arr 3 Jc), (10, .mpP)], false⟩]
 spec := Xnb
def Zep [W : InW] (i : Int) (qs : Ro Jd) := cel qs.xs i.toNat Zd
def Zeo [W : InW] (i : Int) (qs : Ro Jd) := decide ((0 : Int) <= (Zep i qs).int) && decide ((Zep i qs).int < (↑(4 : Nat) : Int))
def Zeq [W : InW] (i : Int) (qs : Ro Jd) := decide ((Zep i qs).int = (↑Zd : Int))
def Zer [W : InW] (i : Int) (w : Dt) := decide (0 <= i) && decide (i < (↑(w.length) : Int))
def Zev [W : InW] (i : Int) (w : Dt) := decide (i.toNat < w.length)
def Zeu [W : InW] (s i : Int) (w : Dt) := s + (cel w i.toNat Zd).int
def Zes [W : InW] (i : Int) (qs : Ro Jd) := decide ((Zep i qs).int = (↑(0+1) : Int))
def Zew [W : InW] (b : Int) := decide (0 <= b)
def Zet [W : InW] (i : Int) (qs : Ro Jd) := decide ((Zep i qs).int = (↑(1+1) : Int))
def Zex [W : InW] (c : Int) := decide (0 <= c)
def Zey [W : InW] (d : Int) := decide (0 <= d)
def Zez [W : InW] (a : Int) := decide (0 <= a)
def Xf8 [W : InW] (t s a b c d i : Int) (qs : Ro Jd) (ws : Ro Jc) (lo hi : Int) (w xs : Dt) (K : Nat -> List Ed -> Prop) : Prop :=
 Need (decide (0 <= i) && decide (i < (↑(qs.xs.length) : Int))) (Need (decide (i.toNat < qs.xs.length)) (Need (Zeo i qs) (Vif (Zeq i qs) (Ar .i64 (a - 1) fun z => Need (Zeo i qs) (Vif (Zeq i qs) (Ar .i64 (i + 1) fun z_1 => Need (Zer i w) (Need (Zev i w) (Ar .i64 (Zeu s i w) fun z_2 => Need (Zeo i qs) (Vif (Zeq i qs) (K 0 [.i z_1, .i z_2, .i z, .i b, .i c, .i d, .b (decide (0 <= z)), .ro _ qs, .ro _ ws, .i lo, .i hi, .l w, .l xs]) (Vif (Zes i qs) (K 0 [.i z_1, .i z_2, .i z, .i b, .i c, .i d, .b (Zew b), .ro _ qs, .ro _ ws, .i lo, .i hi, .l w, .l xs]) (Vif (Zet i qs) (K 0 [.i z_1, .i z_2, .i z, .i b, .i c, .i d, .b (Zex c), .ro _ qs, .ro _ ws, .i lo, .i hi, .l w, .l xs]) (K 0 [.i z_1, .i z_2, .i z, .i b, .i c, .i d, .b (Zey d), .ro _ qs, .ro _ ws, .i lo, .i hi, .l w, .l xs]))))))) (Vif (Zes i qs) (Ar .i64 (i + 1) fun z_1 => Need (Zer i w) (Need (Zev i w) (Ar .i64 (Zeu s i w) fun z_2 => Need (Zeo i qs) (Vif (Zeq i qs) (K 0 [.i z_1, .i z_2, .i a, .i z, .i c, .i d, .b (Zez a), .ro _ qs, .ro _ ws, .i lo, .i hi, .l w, .l xs]) (Vif (Zes i qs) (K 0 [.i z_1, .i z_2, .i a, .i z, .i c, .i d, .b (decide (0 <= z)), .ro _ qs, .ro _ ws, .i lo, .i hi, .l w, .l xs]) (Vif (Zet i qs) (K 0 [.i z_1, .i z_2, .i a, .i z, .i c, .i d, .b (Zex c), .ro _ qs, .ro _ ws, .i lo, .i hi, .l w, .l xs]) (K 0 [.i z_1, .i z_2, .i a, .i z, .i c, .i d, .b (Zey d), .ro _ qs, .ro _ ws, .i lo, .i hi, .l w, .l xs]))))))) (Vif (Zet i qs) (Ar .i64 (i + 1) fun z_1 => Need (Zer i w) (Need (Zev i w) (Ar .i64 (Zeu s i w) fun z_2 => Need (Zeo i qs) (Vif (Zeq i qs) (K 0 [.i z_1, .i z_2, .i a, .i b, .i z, .i d, .b (Zez a), .ro _ qs, .ro _ ws, .i lo, .i hi, .l w, .l xs]) (Vif (Zes i qs) (K 0 [.i z_1, .i z_2, .i a, .i b, .i z, .i d, .b (Zew b), .ro _ qs, .ro _ ws, .i lo, .i hi, .l w, .l xs]) (Vif (Zet i qs) (K 0 [.i z_1, .i z_2, .i a, .i b, .i z, .i d, .b (decide (0 <= z)), .ro _ qs, .ro _ ws, .i lo, .i hi, .l w, .l xs]) (K 0 [.i z_1, .i z_2, .i a, .i b, .i z, .i d, .b (Zey d), .ro _ qs, .ro _ ws, .i lo, .i hi, .l w, .l xs]))))))) (Ar .i64 (i + 1) fun z_1 => Need (Zer i w) (Need (Zev i w) (Ar .i64 (Zeu s i w) fun z_2 => Need (Zeo i qs) (Vif (Zeq i qs) (K 0 [.i z_1, .i z_2, .i a, .i b, .i c, .i z, .b (Zez a), .ro _ qs, .ro _ ws, .i lo, .i hi, .l w, .l xs]) (Vif (Zes i qs) (K 0 [.i z_1, .i z_2, .i a, .i b, .i c, .i z, .b (Zew b), .ro _ qs, .ro _ ws, .i lo, .i hi, .l w, .l xs]) (Vif (Zet i qs) (K 0 [.i z_1, .i z_2, .i a, .i b, .i c, .i z, .b (Zex c), .ro _ qs, .ro _ ws, .i lo, .i hi, .l w, .l xs]) (K 0 [.i z_1, .i z_2, .i a, .i b, .i c, .i z, .b (decide (0 <= z)), .ro _ qs, .ro _ ws, .i lo, .i hi, .l w, .l xs]))))))))))) (Vif (Zes i qs) (Ar .i64 (b - 1) fun z => Need (Zeo i qs) (Vif (Zeq i qs) (Ar .i64 (i + 1) fun z_1 => Need (Zer i w) (Need (Zev i w) (Ar .i64 (Zeu s i w) fun z_2 => Need (Zeo i qs) (Vif (Zeq i qs) (K 0 [.i z_1, .i z_2, .i z, .i b, .i c, .i d, .b (decide (0 <= z)), .ro _ qs, .ro _ ws, .i lo, .i hi, .l w, .l xs]) (Vif (Zes i qs) (K 0 [.i z_1, .i z_2, .i z, .i b, .i c, .i d, .b (Zew b), .ro _ qs, .ro _ ws, .i lo, .i hi, .l w, .l xs]) (Vif (Zet i qs) (K 0 [.i z_1, .i z_2, .i z, .i b, .i c, .i d, .b (Zex c), .ro _ qs, .ro _ ws, .i lo, .i hi, .l w, .l xs]) (K 0 [.i z_1, .i z_2, .i z, .i b, .i c, .i d, .b (Zey d), .ro _ qs, .ro _ ws, .i lo, .i hi, .l w, .l xs]))))))) (Vif (Zes i qs) (Ar .i64 (i + 1) fun z_1 => Need (Zer i w) (Need (Zev i w) (Ar .i64 (Zeu s i w) fun z_2 => Need (Zeo i qs) (Vif (Zeq i qs) (K 0 [.i z_1, .i z_2, .i a, .i z, .i c, .i d, .b (Zez a), .ro _ qs, .ro _ ws, .i lo, .i hi, .l w, .l xs]) (Vif (Zes i qs) (K 0 [.i z_1, .i z_2, .i a, .i z, .i c, .i d, .b (decide (0 <= z)), .ro _ qs, .ro _ ws, .i lo, .i hi, .l w, .l xs]) (Vif (Zet i qs) (K 0 [.i z_1, .i z_2, .i a, .i z, .i c, .i d, .b (Zex c), .ro _ qs, .ro _ ws, .i lo, .i hi, .l w, .l xs]) (K 0 [.i z_1, .i z_2, .i a, .i z, .i c, .i d, .b (Zey d), .ro _ qs, .ro _ ws, .i lo, .i hi, .l w, .l xs]))))))) (Vif (Zet i qs) (Ar .i64 (i + 1) fun z_1 => Need (Zer i w) (Need (Zev i w) (Ar .i64 (Zeu s i w) fun z_2 => Need (Zeo i qs) (Vif (Zeq i qs) (K 0 [.i z_1, .i z_2, .i a, .i b, .i z, .i d, .b (Zez a), .ro _ qs, .ro _ ws, .i lo, .i hi, .l w, .l xs]) (Vif (Zes i qs) (K 0 [.i z_1, .i z_2, .i a, .i b, .i z, .i d, .b (Zew b), .ro _ qs, .ro _ ws, .i lo, .i hi, .l w, .l xs]) (Vif (Zet i qs) (K 0 [.i z_1, .i z_2, .i a, .i b, .i z, .i d, .b (decide (0 <= z)), .ro _ qs, .ro _ ws, .i lo, .i hi, .l w, .l xs]) (K 0 [.i z_1, .i z_2, .i a, .i b, .i z, .i d, .b (Zey d), .ro _ qs, .ro _ ws, .i lo, .i hi, .l w, .l xs]))))))) (Ar .i64 (i + 1) fun z_1 => Need (Zer i w) (Need (Zev i w) (Ar .i64 (Zeu s i w) fun z_2 => Need (Zeo i qs) (Vif (Zeq i qs) (K 0 [.i z_1, .i z_2, .i a, .i b, .i c, .i z, .b (Zez a), .ro _ qs, .ro _ ws, .i lo, .i hi, .l w, .l xs]) (Vif (Zes i qs) (K 0 [.i z_1, .i z_2, .i a, .i b, .i c, .i z, .b (Zew b), .ro _ qs, .ro _ ws, .i lo, .i hi, .l w, .l xs]) (Vif (Zet i qs) (K 0 [.i z_1, .i z_2, .i a, .i b, .i c, .i z, .b (Zex c), .ro _ qs, .ro _ ws, .i lo, .i hi, .l w, .l xs]) (K 0 [.i z_1, .i z_2, .i a, .i b, .i c, .i z, .b (decide (0 <= z)), .ro _ qs, .ro _ ws, .i lo, .i hi, .l w, .l xs]))))))))))) (Vif (Zet i qs) (Ar .i64 (c - 1) fun z => Need (Zeo i qs) (Vif (Zeq i qs) (Ar .i64 (i + 1) fun z_1 => Need (Zer i w) (Need (Zev i w) (Ar .i64 (Zeu s i w) fun z_2 => Need (Zeo i qs) (Vif (Zeq i qs) (K 0 [.i z_1, .i z_2, .i z, .i b, .i c, .i d, .b (decide (0 <= z)), .ro _ qs, .ro _ ws, .i lo, .i hi, .l w, .l xs]) (Vif (Zes i qs) (K 0 [.i z_1, .i z_2, .i z, .i b, .i c, .i d, .b (Zew b), .ro _ qs, .ro _ ws, .i lo, .i hi, .l w, .l xs]) (Vif (Zet i qs) (K 0 [.i z_1, .i z_2, .i z, .i b, .i c, .i d, .b (Zex c), .ro _ qs, .ro _ ws, .i lo, .i hi, .l w, .l xs]) (K 0 [.i z_1, .i z_2, .i z, .i b, .i c, .i d, .b (Zey d), .ro _ qs, .ro _ ws, .i lo, .i hi, .l w, .l xs]))))))) (Vif (Zes i qs) (Ar .i64 (i + 1) fun z_1 => Need (Zer i w) (Need (Zev i w) (Ar .i64 (Zeu s i w) fun z_2 => Need (Zeo i qs) (Vif (Zeq i qs) (K 0 [.i z_1, .i z_2, .i a, .i z, .i c, .i d, .b (Zez a), .ro _ qs, .ro _ ws, .i lo, .i hi, .l w, .l xs]) (Vif (Zes i qs) (K 0 [.i z_1, .i z_2, .i a, .i z, .i c, .i d, .b (decide (0 <= z)), .ro _ qs, .ro _ ws, .i lo, .i hi, .l w, .l xs]) (Vif (Zet i qs) (K 0 [.i z_1, .i z_2, .i a, .i z, .i c, .i d, .b (Zex c), .ro _ qs, .ro _ ws, .i lo, .i hi, .l w, .l xs]) (K 0 [.i z_1, .i z_2, .i a, .i z, .i c, .i d, .b (Zey d), .ro _ qs, .ro _ ws, .i lo, .i hi, .l w, .l xs]))))))) (Vif (Zet i qs) (Ar .i64 (i + 1) fun z_1 => Need (Zer i w) (Need (Zev i w) (Ar .i64 (Zeu s i w) fun z_2 => Need (Zeo i qs) (Vif (Zeq i qs) (K 0 [.i z_1, .i z_2, .i a, .i b, .i z, .i d, .b (Zez a), .ro _ qs, .ro _ ws, .i lo, .i hi, .l w, .l xs]) (Vif (Zes i qs) (K 0 [.i z_1, .i z_2, .i a, .i b, .i z, .i d, .b (Zew b), .ro _ qs, .ro _ ws, .i lo, .i hi, .l w, .l xs]) (Vif (Zet i qs) (K 0 [.i z_1, .i z_2, .i a, .i b, .i z, .i d, .b (decide (0 <= z)), .ro _ qs, .ro _ ws, .i lo, .i hi, .l w, .l xs]) (K 0 [.i z_1, .i z_2, .i a, .i b, .i z, .i d, .b (Zey d), .ro _ qs, .ro _ ws, .i lo, .i hi, .l w, .l xs]))))))) (Ar .i64 (i + 1) fun z_1 => Need (Zer i w) (Need (Zev i w) (Ar .i64 (Zeu s i w) fun z_2 => Need (Zeo i qs) (Vif (Zeq i qs) (K 0 [.i z_1, .i z_2, .i a, .i b, .i c, .i z, .b (Zez a), .ro _ qs, .ro _ ws, .i lo, .i hi, .l w, .l xs]) (Vif (Zes i qs) (K 0 [.i z_1, .i z_2, .i a, .i b, .i c, .i z, .b (Zew b), .ro _ qs, .ro _ ws, .i lo, .i hi, .l w, .l xs]) (Vif (Zet i qs) (K 0 [.i z_1, .i z_2, .i a, .i b, .i c, .i z, .b (Zex c), .ro _ qs, .ro _ ws, .i lo, .i hi, .l w, .l xs]) (K 0 [.i z_1, .i z_2, .i a, .i b, .i c, .i z, .b (decide (0 <= z)), .ro _ qs, .ro _ ws, .i lo, .i hi, .l w, .l xs]))))))))))) (Ar .i64 (d - 1) fun z => Need (Zeo i qs) (Vif (Zeq i qs) (Ar .i64 (i + 1) fun z_1 => Need (Zer i w) (Need (Zev i w) (Ar .i64 (Zeu s i w) fun z_2 => Need (Zeo i qs) (Vif (Zeq i qs) (K 0 [.i z_1, .i z_2, .i z, .i b, .i c, .i d, .b (decide (0 <= z)), .ro _ qs, .ro _ ws, .i lo, .i hi, .l w, .l xs]) (Vif (Zes i qs) (K 0 [.i z_1, .i z_2, .i z, .i b, .i c, .i d, .b (Zew b), .ro _ qs, .ro _ ws, .i lo, .i hi, .l w, .l xs]) (Vif (Zet i qs) (K 0 [.i z_1, .i z_2, .i z, .i b, .i c, .i d, .b (Zex c), .ro _ qs, .ro _ ws, .i lo, .i hi, .l w, .l xs]) (K 0 [.i z_1, .i z_2, .i z, .i b, .i c, .i d, .b (Zey d), .ro _ qs, .ro _ ws, .i lo, .i hi, .l w, .l xs]))))))) (Vif (Zes i qs) (Ar .i64 (i + 1) fun z_1 => Need (Zer i w) (Need (Zev i w) (Ar .i64 (Zeu s i w) fun z_2 => Need (Zeo i qs) (Vif (Zeq i qs) (K 0 [.i z_1, .i z_2, .i a, .i z, .i c, .i d, .b (Zez a), .ro _ qs, .ro _ ws, .i lo, .i hi, .l w, .l xs]) (Vif (Zes i qs) (K 0 [.i z_1, .i z_2, .i a, .i z, .i c, .i d, .b (decide (0 <= z)), .ro _ qs, .ro _ ws, .i lo, .i hi, .l w, .l xs]) (Vif (Zet i qs) (K 0 [.i z_1, .i z_2, .i a, .i z, .i c, .i d, .b (Zex c), .ro _ qs, .ro _ ws, .i lo, .i hi, .l w, .l xs]) (K 0 [.i z_1, .i z_2, .i a, .i z, .i c, .i d, .b (Zey d), .ro _ qs, .ro _ ws, .i lo, .i hi, .l w, .l xs]))))))) (Vif (Zet i qs) (Ar .i64 (i + 1) fun z_1 => Need (Zer i w) (Need (Zev i w) (Ar .i64 (Zeu s i w) fun z_2 => Need (Zeo i qs) (Vif (Zeq i qs) (K 0 [.i z_1, .i z_2, .i a, .i b, .i z, .i d, .b (Zez a), .ro _ qs, .ro _ ws, .i lo, .i hi, .l w, .l xs]) (Vif (Zes i qs) (K 0 [.i z_1, .i z_2, .i a, .i b, .i z, .i d, .b (Zew b), .ro _ qs, .ro _ ws, .i lo, .i hi, .l w, .l xs]) (Vif (Zet i qs) (K 0 [.i z_1, .i z_2, .i a, .i b, .i z, .i d, .b (decide (0 <= z)), .ro _ qs, .ro _ ws, .i lo, .i hi, .l w, .l xs]) (K 0 [.i z_1, .i z_2, .i a, .i b, .i z, .i d, .b (Zey d), .ro _ qs, .ro _ ws, .i lo, .i hi, .l w, .l xs]))))))) (Ar .i64 (i + 1) fun z_1 => Need (Zer i w) (Need (Zev i w) (Ar .i64 (Zeu s i w) fun z_2 => Need (Zeo i qs) (Vif (Zeq i qs) (K 0 [.i z_1, .i z_2, .i a, .i b, .i c, .i z, .b (Zez a), .ro _ qs, .ro _ ws, .i lo, .i hi, .l w, .l xs]) (Vif (Zes i qs) (K 0 [.i z_1, .i z_2, .i a, .i b, .i c, .i z, .b (Zew b), .ro _ qs, .ro _ ws, .i lo, .i hi, .l w, .l xs]) (Vif (Zet i qs) (K 0 [.i z_1, .i z_2, .i a, .i b, .i c, .i z, .b (Zex c), .ro _ qs, .ro _ ws, .i lo, .i hi, .l w, .l xs]) (K 0 [.i z_1, .i z_2, .i a, .i b, .i c, .i z, .b (decide (0 <= z)), .ro _ qs, .ro _ ws, .i lo, .i hi, .l w, .l xs]))))))))))))))))
theorem Xod (W : InW) (t s a b c d i qs ws lo hi w xs K) : Yxz (cxT Try.prog TT T5q 1000 50) 1000 70 [.ptr 4 0, .agg [.si .i64 t, .si .i64 s, .si .i64 a, .si .i64 b, .si .i64 c, .si .i64 d], .si .i64 i] [(4, .blk 91 [.rs _ qs, .rs _ ws, .si .i64 lo, .si .i64 hi, .rw 7, .mp 10]), (7, .arr 3 Jc w), (10, .obj (.mpP xs))] (fun v h => outC Xbb.H [.ro _ qs, .ro _ ws, .i lo, .i hi, .l w, .l xs] Xbb.outs 0 false v h K) (fun v h => outC Xbb.H [.ro _ qs, .ro _ ws, .i lo, .i hi, .l w, .l xs] Xbb.outs 0 true v h K) = Xf8 t s a b c d i qs ws lo hi w xs K := by kernel_rfl
theorem Xqd (hyp_ : ∀ (W : InW) t s a b c d i qs ws lo hi w xs K, Xnb [.i t, .i s, .i a, .i b, .i c, .i d, .i i, .ro _ qs, .ro _ ws, .i lo, .i hi, .l w, .l xs] K -> Xf8 t s a b c d i qs ws lo hi w xs K) : ∀ W : InW, @CallC W Try.prog Xbb :=
 CC.okOf (fun W => @TT W) (fun W => @Xc W) Xa T5q 1000 50 Xbb fun W t s a b c d i qs ws lo hi w xs K hs => (Xod W t s a b c d i qs ws lo hi w xs K).mpr (hyp_ W t s a b c d i qs ws lo hi w xs K hs)
theorem Xde : ∀ W : InW, @CallC W Try.prog Xbc := Xqj fun W qs ws lo hi w xs K hs => by
 unfold Xge;exact hs
theorem Xcv : ∀ W : InW, @CallC W Try.prog Xbb := Xqd fun W t s a b c d i qs ws lo hi w xs K hs => by
 obtain ⟨⟨bk, st, h0, h1⟩, hk⟩ := hs;unfold Xf8;delta Zet Zes Zeq Zeo Zep Zeu Zex Zd Zew Zez Zev Zer Zey;obtain ⟨t0, t1, s0, s1, ⟨va, vb, vc, vd⟩⟩ := st;have hp := bk.part i.toNat (by omega);obtain ⟨w1, w2, w3⟩ := bk.wt i.toNat (by omega);have hl := bk.len;have hf := bk.few;simp only at va vb vc vd;unfold Sq.qPart at hp hk;have d1 : ∀ x : Int, decide (0 <= x - 1) = decide (1 <= x) := fun x => by congr 1; simp only [eq_iff_iff]; omega
 have hc : (cel qs.xs i.toNat 0).int = 0 \/ (cel qs.xs i.toNat 0).int = 1 \/ (cel qs.xs i.toNat 0).int = 2 \/ (cel qs.xs i.toNat 0).int = 3 := by omega
 rcases hc with e | e | e | e
 all_goals
  simp only [e, w1, Sq.V4.dec, Sq.V4.get, if_true, if_neg (show ¬ (1 : Int) = 0 by omega), if_neg (show ¬ (2 : Int) = 0 by omega), if_neg (show ¬ (2 : Int) = 1 by omega), if_neg (show ¬ (3 : Int) = 0 by omega), if_neg (show ¬ (3 : Int) = 1 by omega), if_neg (show ¬ (3 : Int) = 2 by omega)] at hk ⊢
  repeat' (first | omega|intro _|with_reducible first|apply vifd|apply vifn|apply vifq|apply Xf|apply Xe|apply vifb|apply vif|apply nedd|apply ned2|apply ned|apply ar64|apply Xb|exact True.intro|assumption|rfl|apply And.intro)
 all_goals first | (rw [d1]; exact hk) | (simp_all; done) | skip
 all_goals trace_state
end Go.Proofs.Ytfbhampnigdaaaa
namespace Go.Proofs.Ytfbhampnigdaaaa
open Go.RowKit
open Sp
set_option maxRecDepth 100000
set_option maxHeartbeats 1600000
def Xg5 (m : Nat) [InW] (e : List Ed) (K : Nat -> List Ed -> Prop) : Prop := match e with
 | [.i t, .i s, .i a, .i b, .i c, .i d, .ro _ qs, .ro _ ws, .i lo, .i hi, .l w, .l xs] => Pre (Sq.BkOk qs.xs ws.xs lo hi w /\ Sq.StOk qs.xs t s ⟨a, b, c, d⟩ /\ Sq.MemoOk qs.xs lo hi xs /\ qs.xs.length - t.toNat < m)
   (Sq.FaM (Sq.MemoOk qs.xs lo hi) fun ys => K 0 [.i (Sq.cnt qs.xs lo hi (qs.xs.length - t.toNat) s ⟨a, b, c, d⟩), .ro _ qs, .ro _ ws, .i lo, .i hi, .l w, .l ys])
 | _ => False
def Xb2 (m : Nat) : CC where
 g := 39
 args := [(.ptr 4 0), .agg [.int .i64, .int .i64, .int .i64, .int .i64, .int .i64, .int .i64]]
 H := [(4, .blk 91 [.rs Jd, .rs Jc, .int .i64, .int .i64, (.row 7), (.mp 10)]), (7, .arr 3 Jc), (10, .mpP)]
 outs := [⟨false, .int .i64, [(4, .blk 91 [.rs Jd, .rs Jc, .int .i64, .int .i64, (.row 7), (.mp 10)]), (7, .arr 3 Jc), (10, .mpP)], false⟩]
 spec := Xg5 m
def Xg6 (m : Nat) [InW] (e : List Ed) (K : Nat -> List Ed -> Prop) : Prop := match e with
 | [.i n, .i i, .ro _ qs, .ro _ ws, .i lo, .i hi, .l w, .l xs, .i t, .i s, .i a, .i b, .i c, .i d] => Pre (Sq.BkOk qs.xs ws.xs lo hi w /\ Sq.StOk qs.xs t s ⟨a, b, c, d⟩ /\ Sq.V4.nil ⟨a, b, c, d⟩ = false /\ Sq.MemoOk qs.xs lo hi xs /\ qs.xs.length - t.toNat < m + 1 /\ t <= i /\ i <= qs.xs.length /\ 0 <= n /\ n + Sq.cnt qs.xs lo hi (qs.xs.length - i.toNat) s ⟨a, b, c, d⟩ <= 65536)
   (Sq.FaM (Sq.MemoOk qs.xs lo hi) fun ys => K 0 [.i (n + Sq.cnt qs.xs lo hi (qs.xs.length - i.toNat) s ⟨a, b, c, d⟩), .ro _ qs, .ro _ ws, .i lo, .i hi, .l w, .l ys, .i t, .i s, .i a, .i b, .i c, .i d])
 | _ => False
def Xeo (m : Nat) : LC where
 len := 72
 T := [(0, (.ptr 4 0)), (3, (.ptr 13 0)), (4, .int .i64), (6, .int .i64)]
 H := [(4, .blk 91 [.rs Jd, .rs Jc, .int .i64, .int .i64, (.row 7), (.mp 10)]), (7, .arr 3 Jc), (10, .mpP), (13, .blk 98 [.int .i64, .int .i64, .int .i64, .int .i64, .int .i64, .int .i64])]
 W := ([7, 8] ++ rgg 42 23)
 outs := [⟨.exit 0, [(0, (.ptr 4 0)), (3, (.ptr 13 0)), (4, .int .i64)], [(4, .blk 91 [.rs Jd, .rs Jc, .int .i64, .int .i64, (.row 7), (.mp 10)]), (7, .arr 3 Jc), (10, .mpP), (13, .blk 98 [.int .i64, .int .i64, .int .i64, .int .i64, .int .i64, .int .i64])], ([6, 7, 8] ++ rgg 42 23)⟩]
 spec := Xg6 m
def Zfa [W : InW] (i : Int) (qs : Ro Jd) (a b c d : Int) := Sq.V4.dec { a := a, b := b, c := c, d := d } (Sq.qPart qs.xs i.toNat)
def Xf5 [W : InW] (m : Nat) (n i : Int) (qs : Ro Jd) (ws : Ro Jc) (lo hi : Int) (w xs : Dt) (t s a b c d : Int) (A : List Ed -> Prop) (K : Nat -> List Ed -> Prop) : Prop :=
 Vif (decide (i < (↑(qs.xs.length) : Int))) (Pre (Sq.BkOk qs.xs ws.xs lo hi w /\ Sq.StOk qs.xs t s { a := a, b := b, c := c, d := d } /\ t <= i /\ i < (↑(qs.xs.length) : Int)) (Vif (decide ((1 : Int) <= Sq.V4.get { a := a, b := b, c := c, d := d } (Sq.qPart qs.xs i.toNat))) (Pre (Sq.BkOk qs.xs ws.xs lo hi w /\ Sq.StOk qs.xs (i + 1) (s + Sq.wt qs.xs i.toNat) { a := (Zfa i qs a b c d).1, b := (Zfa i qs a b c d).2, c := (Zfa i qs a b c d).3, d := (Zfa i qs a b c d).4 } /\ Sq.MemoOk qs.xs lo hi xs /\ qs.xs.length - (i + 1).toNat < m) (Sq.FaM (Sq.MemoOk qs.xs lo hi) fun ys => Ar .i64 (n + Sq.cnt qs.xs lo hi (qs.xs.length - (i + 1).toNat) (s + Sq.wt qs.xs i.toNat) { a := (Zfa i qs a b c d).1, b := (Zfa i qs a b c d).2, c := (Zfa i qs a b c d).3, d := (Zfa i qs a b c d).4 }) fun z => Ar .i64 (i + 1) fun z_1 => A [.i z, .i z_1, .ro _ qs, .ro _ ws, .i lo, .i hi, .l w, .l ys, .i t, .i s, .i a, .i b, .i c, .i d])) (Ar .i64 (i + 1) fun z => A [.i n, .i z, .ro _ qs, .ro _ ws, .i lo, .i hi, .l w, .l xs, .i t, .i s, .i a, .i b, .i c, .i d]))) (K 0 [.i n, .ro _ qs, .ro _ ws, .i lo, .i hi, .l w, .l xs, .i t, .i s, .i a, .i b, .i c, .i d])
theorem Xoa (W : InW) (m h n i qs ws lo hi w xs t s a b c d A K) : Yfh { cxT Try.prog TT (⟨[], [], [ceOf (Xb2 m) h, ceOf Xbb Xcv]⟩) 1000 50 with fn := 39 } 1000 (Yor Try.prog 39 11) (Yd9 72 [(0, .ptr 4 0), (3, .ptr 13 0), (4, .si .i64 n), (6, .si .i64 i)] ([7, 8] ++ rgg 42 23)) [(4, .blk 91 [.rs _ qs, .rs _ ws, .si .i64 lo, .si .i64 hi, .rw 7, .mp 10]), (7, .arr 3 Jc w), (10, .obj (.mpP xs)), (13, .blk 98 [.si .i64 t, .si .i64 s, .si .i64 a, .si .i64 b, .si .i64 c, .si .i64 d])] (Yvi (Xeo m) A K) = Xf5 m n i qs ws lo hi w xs t s a b c d A K := by kernel_rfl
def Xcp (m : Nat) : Prop := ∀ (W : InW) (body a : Code), (Try.prog.funcs[39]?).bind (·.body) = some body -> a ∈ Y1 body -> Yf2 a = 11 -> @Ym8 W Try.prog a (@Yum W (Xeo m))
theorem Xqa (m : Nat) (h : ∀ W : InW, @CallC W Try.prog (Xb2 m)) (meas : [InW] -> List Ed -> Nat) (hyp_ : ∀ (W : InW) n i qs ws lo hi w xs t s a b c d K, Xg6 m [.i n, .i i, .ro _ qs, .ro _ ws, .i lo, .i hi, .l w, .l xs, .i t, .i s, .i a, .i b, .i c, .i d] K -> ∀ A : List Ed -> Prop, (∀ e, meas e < meas [.i n, .i i, .ro _ qs, .ro _ ws, .i lo, .i hi, .l w, .l xs, .i t, .i s, .i a, .i b, .i c, .i d] -> Xg6 m e K -> A e) -> Xf5 m n i qs ws lo hi w xs t s a b c d A K) : Xcp m :=
 LE.okOf' (fun W => @TT W) (fun W => @Xc W) Xa (⟨[], [], [ceOf (Xb2 m) h, ceOf Xbb Xcv]⟩) 1000 50 (by kernel_rfl) (Xeo m) (fun W => @meas W) fun W n i qs ws lo hi w xs t s a b c d K hs =>
  (Xoa W m h n i qs ws lo hi w xs t s a b c d (fun e => meas e < meas [.i n, .i i, .ro _ qs, .ro _ ws, .i lo, .i hi, .l w, .l xs, .i t, .i s, .i a, .i b, .i c, .i d] /\ Xg6 m e K) K).mpr (hyp_ W n i qs ws lo hi w xs t s a b c d K hs _ fun e h1 h2 => ⟨h1, h2⟩)
def Xng (m : Nat) [InW] (e : List Ed) (K : Nat -> List Ed -> Prop) : Prop := Xg5 (m + 1) e K
def Xcy (m : Nat) : CC where
 g := 39
 args := [(.ptr 4 0), .agg [.int .i64, .int .i64, .int .i64, .int .i64, .int .i64, .int .i64]]
 H := [(4, .blk 91 [.rs Jd, .rs Jc, .int .i64, .int .i64, (.row 7), (.mp 10)]), (7, .arr 3 Jc), (10, .mpP)]
 outs := [⟨false, .int .i64, [(4, .blk 91 [.rs Jd, .rs Jc, .int .i64, .int .i64, (.row 7), (.mp 10)]), (7, .arr 3 Jc), (10, .mpP)], false⟩]
 spec := Xng m
def Xgd [W : InW] (m : Nat) (t s a b c d : Int) (qs : Ro Jd) (ws : Ro Jc) (lo hi : Int) (w xs : Dt) (K : Nat -> List Ed -> Prop) : Prop :=
 Vif (decide (a = 0) && (decide (b = 0) && (decide (c = 0) && (decide (d = 0) && true)))) (Pre True (Vif (out lo hi [[Cl.i s]]) (K 0 [.i Zb, .ro _ qs, .ro _ ws, .i lo, .i hi, .l w, .l xs]) (K 0 [.i (1 : Int), .ro _ qs, .ro _ ws, .i lo, .i hi, .l w, .l xs]))) (Vif (hasP xs [Cl.i t, Cl.i s, Cl.i a, Cl.i b, Cl.i c, Cl.i d]) (K 0 [.i (getP xs [Cl.i t, Cl.i s, Cl.i a, Cl.i b, Cl.i c, Cl.i d]), .ro _ qs, .ro _ ws, .i lo, .i hi, .l w, .l xs]) (Pre (Sq.BkOk qs.xs ws.xs lo hi w /\ Sq.StOk qs.xs t s { a := a, b := b, c := c, d := d } /\ Sq.V4.nil { a := a, b := b, c := c, d := d } = false /\ Sq.MemoOk qs.xs lo hi xs /\ qs.xs.length - t.toNat < m + 1 /\ t <= t /\ t <= (↑(qs.xs.length) : Int) /\ Zb <= 0 /\ Zb + Sq.cnt qs.xs lo hi (qs.xs.length - t.toNat) s { a := a, b := b, c := c, d := d } <= (65536 : Int)) (Sq.FaM (Sq.MemoOk qs.xs lo hi) fun ys => K 0 [.i (Zb + Sq.cnt qs.xs lo hi (qs.xs.length - t.toNat) s { a := a, b := b, c := c, d := d }), .ro _ qs, .ro _ ws, .i lo, .i hi, .l w, .l (setP ys [Cl.i t, Cl.i s, Cl.i a, Cl.i b, Cl.i c, Cl.i d] (Zb + Sq.cnt qs.xs lo hi (qs.xs.length - t.toNat) s { a := a, b := b, c := c, d := d }))])))
theorem Xoi (W : InW) (m h t s a b c d qs ws lo hi w xs K) : Yxz (cxT Try.prog TT (⟨[X8], [⟨39, 11, fun W => @Yum W (Xeo m), h⟩], []⟩) 1000 50) 1000 39 [.ptr 4 0, .agg [.si .i64 t, .si .i64 s, .si .i64 a, .si .i64 b, .si .i64 c, .si .i64 d]] [(4, .blk 91 [.rs _ qs, .rs _ ws, .si .i64 lo, .si .i64 hi, .rw 7, .mp 10]), (7, .arr 3 Jc w), (10, .obj (.mpP xs))] (fun v h => outC (Xcy m).H [.ro _ qs, .ro _ ws, .i lo, .i hi, .l w, .l xs] (Xcy m).outs 0 false v h K) (fun v h => outC (Xcy m).H [.ro _ qs, .ro _ ws, .i lo, .i hi, .l w, .l xs] (Xcy m).outs 0 true v h K) = Xgd m t s a b c d qs ws lo hi w xs K := by kernel_rfl
theorem Xqi (m : Nat) (h : Xcp m) (hyp_ : ∀ (W : InW) t s a b c d qs ws lo hi w xs K, Xng m [.i t, .i s, .i a, .i b, .i c, .i d, .ro _ qs, .ro _ ws, .i lo, .i hi, .l w, .l xs] K -> Xgd m t s a b c d qs ws lo hi w xs K) : ∀ W : InW, @CallC W Try.prog (Xcy m) :=
 CC.okOf (fun W => @TT W) (fun W => @Xc W) Xa (⟨[X8], [⟨39, 11, fun W => @Yum W (Xeo m), h⟩], []⟩) 1000 50 (Xcy m) fun W t s a b c d qs ws lo hi w xs K hs => (Xoi W m h t s a b c d qs ws lo hi w xs K).mpr (hyp_ W t s a b c d qs ws lo hi w xs K hs)
theorem Xtd (m : Nat) (hc : ∀ W : InW, @CallC W Try.prog (Xb2 m)) : Xcp m := Xqa m hc (fun e => match e with | _ :: .i i :: .ro _ qs :: _ => ((qs.xs.length : Int) - i).toNat | _ => 0) fun W n i qs ws lo hi w xs t s a b c d K hs A hA => by
 obtain ⟨⟨bk, st, hv, mo, fu, h0, h1, n0, n1⟩, ⟨hk⟩⟩ := hs;unfold Xf5;delta Zfa;have hf := bk.few;have ht := st.a0
 by_cases hi' : i < qs.xs.length
 ·have hc := Sq.cnt_at (qs := qs.xs) (lo := lo) (hi := hi) (s := s) hv (by omega) hi';have hl : ((qs.xs.length : Int) - (i + 1)).toNat < ((qs.xs.length : Int) - i).toNat := by omega
  have b1 := Sq.cnt_16 (qs := qs.xs) (lo := lo) (hi := hi) (m := qs.xs.length - (i + 1).toNat) (by omega) s ⟨a, b, c, d⟩;have b2 := Sq.cnt_16 (qs := qs.xs) (lo := lo) (hi := hi) (m := qs.xs.length - (i + 1).toNat) (by omega) (s + Sq.wt qs.xs i.toNat) (Sq.V4.dec ⟨a, b, c, d⟩ (Sq.qPart qs.xs i.toNat));refine vifd (fun _ => ?_) (fun h => absurd hi' h);refine ⟨⟨bk, st, h0, hi'⟩, vifd (fun hg => ?_) (fun hg => ?_)⟩
  ·rw [if_pos hg] at hc;refine ⟨⟨bk, st.step bk h0 hi' hg, mo, by omega⟩, ⟨fun ys hy => ar64 (by omega) (ar64 (by omega) (hA _ hl ⟨⟨bk, st, hv, hy, fu, by omega, by omega, by omega, by omega⟩, ⟨fun zs hz => ?_⟩⟩))⟩⟩;have := hk zs hz;rw [hc, <- Int.add_assoc] at this;exact this
  ·rw [if_neg hg] at hc;refine ar64 (by omega) (hA _ hl ⟨⟨bk, st, hv, mo, fu, by omega, by omega, by omega, by omega⟩, ⟨fun zs hz => ?_⟩⟩);have := hk zs hz;rw [hc, Int.zero_add] at this;exact this
 ·refine vifd (fun h => absurd h hi') (fun _ => ?_);have := hk xs mo;rw [show qs.xs.length - i.toNat = 0 by omega, Sq.cnt_zero hv, Int.add_zero] at this;exact this
theorem Xtk (m : Nat) (h : Xcp m) : ∀ W : InW, @CallC W Try.prog (Xcy m) := Xqi m h fun W t s a b c d qs ws lo hi w xs K hs => by
 obtain ⟨⟨bk, st, mo, fu⟩, ⟨hk⟩⟩ := hs;unfold Xgd;delta Zb;have hf := bk.few;have b1 := Sq.cnt_16 (qs := qs.xs) (lo := lo) (hi := hi) (m := qs.xs.length - t.toNat) (by omega) s ⟨a, b, c, d⟩;refine vif (fun hv => ?_) (fun hv => ?_)
 ·have hv : Sq.V4.nil ⟨a, b, c, d⟩ = true := by simpa [Sq.V4.nil, and_assoc] using hv
  have := hk xs mo;rw [Sq.cnt_nil hv] at this;refine ⟨trivial, ?_⟩;rw [out1];refine vif (fun ho => ?_) (fun ho => ?_)
  ·rw [if_neg (by simpa using ho)] at this; exact this
  ·rw [if_pos (by simpa using ho)] at this; exact this
 ·have hv : Sq.V4.nil ⟨a, b, c, d⟩ = false := by
   rw [<- Bool.not_eq_true] at hv ⊢;intro h2;exact hv (by simpa [Sq.V4.nil, and_assoc] using h2)
  have eq : ∀ u, Sq.cntQ qs.xs lo hi [Cl.i t, Cl.i s, Cl.i a, Cl.i b, Cl.i c, Cl.i d] = u ↔ Sq.cnt qs.xs lo hi (qs.xs.length - t.toNat) s ⟨a, b, c, d⟩ = u := fun u => Iff.rfl;refine vif (fun hh => ?_) (fun hh => ?_)
  ·have := hk xs mo;rw [mo.ok _ hh];exact this
  ·refine ⟨⟨bk, st, hv, mo, fu, by omega, st.a1, by omega, by omega⟩, ⟨fun ys hy => ?_⟩⟩;rw [Int.zero_add];exact hk _ (Sq.memo_set hy rfl)
theorem Xcw : ∀ (m : Nat) (W : InW), @CallC W Try.prog (Xb2 m)
 | 0, W => fun xs ys e1 e2 m1 n1 K hs => by
  have hs : Xg5 0 (e1 ++ e2) K := hs;unfold Xg5 at hs
  split at hs
  ·obtain ⟨⟨_, _, _, h⟩, _⟩ := hs;exact absurd h (Nat.not_lt_zero _)
  ·exact hs.elim
 | m + 1, W => Xtk m (Xtd m (Xcw m)) W
end Go.Proofs.Ytfbhampnigdaaaa
namespace Go.Proofs.Ytfbhampnigdaaaa
open Go.RowKit
open Sp
set_option maxRecDepth 100000
namespace Sq
structure BankV (qs ws : Dt) (lo hi : Int) : Prop where
 n1 : 1 <= qs.length
 n2 : qs.length <= 16
 w1 : 1 <= ws.length
 w2 : ws.length <= 4
 l0 : 0 <= lo
 lh : lo <= hi
 hh : hi <= 16000
 part : ∀ i, i < qs.length -> 0 <= qPart qs i /\ qPart qs i <= ws.length - 1
 ask : ∀ i, i < qs.length -> 0 <= qAsk qs i /\ qAsk qs i <= 100000
 bad : ∀ i, i < qs.length -> 0 <= qBad qs i /\ qBad qs i <= qAsk qs i
 want : ∀ p, p < ws.length -> 1 <= (cel ws p 0).int /\ (cel ws p 0).int <= many qs p qs.length
theorem chkE_iff {qs ws : Dt} {lo hi : Int} : chkE qs ws lo hi = 0 ↔ BankV qs ws lo hi := by
  constructor
  · intro h;unfold chkE chk at h
    split at h
    · rename_i h1
      split at h
      · rename_i h2
        split at h
        · simp at h
        · rename_i h3
          split at h
          · rename_i h4;exact absurd h (hasE_ix h4).2.2
          · rename_i h4
            split at h
            · rename_i h5;exact absurd h (hasE_ix h5).2.2
            · rename_i h5;simp only [Bool.and_eq_true, inr_iff] at h1 h2;simp only [Bool.not_eq_true] at h4 h5;have hq : ∀ i, i < qs.length -> (0 <= qPart qs i /\ qPart qs i <= ws.length - 1) /\ (0 <= qAsk qs i /\ qAsk qs i <= 100000) /\ (0 <= qBad qs i /\ qBad qs i <= qAsk qs i) := fun i hi => by
                have := hasE_no h4 i (by omega) (by omega);unfold qErr at this
                split at this
                · rename_i a1
                  split at this
                  · rename_i a2
                    split at this
                    · rename_i a3;exact ⟨inr_iff.1 a1, inr_iff.1 a2, inr_iff.1 a3⟩
                    · omega
                  · omega
                · omega
              refine ⟨by omega, by omega, by omega, by omega, by omega, by omega, by omega, fun i hi => (hq i hi).1, fun i hi => (hq i hi).2.1, fun i hi => (hq i hi).2.2, fun p hp => ?_⟩;have := hasE_no h5 p (by omega) (by omega);unfold wErr at this
              split at this
              · rename_i a1; exact inr_iff.1 a1
              · omega
      · simp at h
    · simp at h
  · intro h;unfold chkE chk;rw [if_pos (by simp only [Bool.and_eq_true, inr_iff]; have := h.n1; have := h.n2; have := h.w1; have := h.w2; omega),
      if_pos (by simp only [Bool.and_eq_true, inr_iff]; have := h.l0; have := h.lh; have := h.hh; omega), if_neg (by have := h.lh; omega),
      if_neg (by rw [hasE_of fun i _ hi => ?_]; · simp
                 · unfold qErr; rw [if_pos (inr_iff.2 (h.part i (by omega))), if_pos (inr_iff.2 (h.ask i (by omega))), if_pos (inr_iff.2 (h.bad i (by omega)))]),
      if_neg (by rw [hasE_of fun i _ hi => ?_]; · simp
                 · unfold wErr; rw [if_pos (inr_iff.2 (h.want i (by omega)))])]
theorem BankV.wt {qs ws : Dt} {lo hi : Int} (h : BankV qs ws lo hi) {i : Nat} (hi' : i < qs.length) : 0 <= Sq.wt qs i /\ Sq.wt qs i <= 1000 := by
 have a := h.ask i hi';have b := h.bad i hi';unfold Sq.wt
 split
 ·omega
 ·rename_i hz;rw [Int.tdiv_eq_ediv_of_nonneg (by omega)];constructor
  ·exact Int.ediv_nonneg (by omega) (by omega)
  ·exact Int.ediv_le_of_le_mul (by omega) (by omega)
def wts (qs : Dt) (n : Nat) : Dt := (List.range n).map fun i => [.i (Sq.wt qs i)]
theorem length_wts (qs : Dt) (n : Nat) : (wts qs n).length = n := by simp [wts]
theorem wts_succ (qs : Dt) (n : Nat) : wts qs (n + 1) = wts qs n ++ [[.i (Sq.wt qs n)]] := by simp [wts, List.range_succ]
theorem cel_wts {qs : Dt} {n i : Nat} (h : i < n) : (cel (wts qs n) i 0).int = Sq.wt qs i := by
 simp [cel, wts, h, Cl.int, List.getD_eq_getElem?_getD]
theorem BankV.bk {qs ws : Dt} {lo hi : Int} (h : BankV qs ws lo hi) : BkOk qs ws lo hi (wts qs qs.length) :=
 ⟨h.n2, fun i hi => by have := h.part i hi; have := h.w2; omega, length_wts _ _, fun i hi => ⟨cel_wts hi, (h.wt hi).1, (h.wt hi).2⟩⟩
def v0 (ws : Dt) : V4 := ⟨(cel ws 0 0).int, (cel ws 1 0).int, (cel ws 2 0).int, (cel ws 3 0).int⟩
theorem BankV.w16 {qs ws : Dt} {lo hi : Int} (h : BankV qs ws lo hi) (p : Nat) : 0 <= (cel ws p 0).int /\ (cel ws p 0).int <= 16 := by
 have h2 := h.n2
 by_cases hp : p < ws.length
 ·have := h.want p hp;have := many_bound qs p qs.length;omega
 ·rw [show cel ws p 0 = .z by simp [cel, List.getD_eq_getElem?_getD, List.getElem?_eq_none (Nat.le_of_not_lt hp)]];simp [Cl.int]
theorem BankV.st {qs ws : Dt} {lo hi : Int} (h : BankV qs ws lo hi) : StOk qs 0 0 (v0 ws) :=
 ⟨by omega, by omega, by omega, by omega, ⟨h.w16 0, h.w16 1, h.w16 2, h.w16 3⟩⟩
theorem V4.get_nil {v : V4} (h : V4.nil v = true) (p : Int) : V4.get v p = 0 := by
 simp only [V4.nil, Bool.and_eq_true, decide_eq_true_eq] at h;obtain ⟨⟨⟨h1, h2⟩, h3⟩, h4⟩ := h;unfold V4.get
 split
 ·exact h1
 ·split
  ·exact h2
  ·split
   ·exact h3
   ·exact h4
theorem cnt_at' {qs : Dt} {lo hi s : Int} {v : V4} {i : Int} (h0 : 0 <= i) (h1 : i < qs.length) :
  cnt qs lo hi (qs.length - i.toNat) s v = (if 1 <= V4.get v (qPart qs i.toNat) then cnt qs lo hi (qs.length - (i + 1).toNat) (s + wt qs i.toNat) (V4.dec v (qPart qs i.toNat)) else 0) + cnt qs lo hi (qs.length - (i + 1).toNat) s v := by
 cases hv : V4.nil v with
 | true => rw [if_neg (by rw [V4.get_nil hv]; omega), cnt_nil hv, cnt_nil hv, Int.zero_add]
 | false => exact cnt_at hv h0 h1
theorem cnt_pos {qs : Dt} {lo hi s : Int} {v : V4} {m : Nat} : 0 <= cnt qs lo hi m s v := (cnt_bound qs lo hi m s v).1
theorem cnt_mono {qs : Dt} {lo hi s : Int} {v : V4} {i : Int} : ∀ (k : Nat), 0 <= i -> i + k <= qs.length -> cnt qs lo hi (qs.length - (i + k).toNat) s v <= cnt qs lo hi (qs.length - i.toNat) s v
 | 0, _, _ => by simp
 | k + 1, h0, h1 => by
  have h2 := cnt_mono (qs := qs) (lo := lo) (hi := hi) (s := s) (v := v) (i := i) k h0 (by omega);have h3 := cnt_at' (qs := qs) (lo := lo) (hi := hi) (s := s) (v := v) (i := i + k) (by omega) (by omega);have h4 : 0 <= (if 1 <= V4.get v (qPart qs (i + k).toNat) then cnt qs lo hi (qs.length - (i + k + 1).toNat) (s + wt qs (i + k).toNat) (V4.dec v (qPart qs (i + k).toNat)) else 0) := by
   split
   ·exact cnt_pos
   ·omega
  rw [show i + ((k + 1 : Nat) : Int) = i + k + 1 by omega];omega
def nthD (qs : Dt) (lo hi : Int) (m : Nat) (s : Int) (v : V4) (k : Int) : Dt := (gen qs lo hi m s v).getD k.toNat []
theorem nth_nil {qs : Dt} {lo hi s k : Int} {v : V4} {m : Nat} (h : V4.nil v = true) : nthD qs lo hi m s v k = [] := by
 unfold nthD;rw [gen_nil h]
 split
 ·cases k.toNat <;> simp
 ·simp
theorem nth_at {qs : Dt} {lo hi s k : Int} {v : V4} (h : V4.nil v = false) {i : Int} (h0 : 0 <= i) (h1 : i < qs.length) (k0 : 0 <= k) :
  (1 <= V4.get v (qPart qs i.toNat) -> k < cnt qs lo hi (qs.length - (i + 1).toNat) (s + wt qs i.toNat) (V4.dec v (qPart qs i.toNat)) ->
   nthD qs lo hi (qs.length - i.toNat) s v k = [Cl.i i] :: nthD qs lo hi (qs.length - (i + 1).toNat) (s + wt qs i.toNat) (V4.dec v (qPart qs i.toNat)) k) /\
  (1 <= V4.get v (qPart qs i.toNat) -> ¬ k < cnt qs lo hi (qs.length - (i + 1).toNat) (s + wt qs i.toNat) (V4.dec v (qPart qs i.toNat)) ->
   nthD qs lo hi (qs.length - i.toNat) s v k = nthD qs lo hi (qs.length - (i + 1).toNat) s v (k - cnt qs lo hi (qs.length - (i + 1).toNat) (s + wt qs i.toNat) (V4.dec v (qPart qs i.toNat)))) /\
  (¬ 1 <= V4.get v (qPart qs i.toNat) -> nthD qs lo hi (qs.length - i.toNat) s v k = nthD qs lo hi (qs.length - (i + 1).toNat) s v k) := by
 have e : qs.length - i.toNat = (qs.length - (i + 1).toNat) + 1 := by omega
 unfold nthD;rw [e, gen_succ h (i := i.toNat) (by omega)];refine ⟨fun hg hk => ?_, fun hg hk => ?_, fun hg => ?_⟩
 ·rw [if_pos hg];unfold cnt at hk;rw [List.getD_eq_getElem?_getD, List.getElem?_append_left (by simp; omega), List.getElem?_map, List.getElem?_eq_getElem (by omega), List.getD_eq_getElem?_getD, List.getElem?_eq_getElem (by omega)];simp [Int.toNat_of_nonneg h0]
 ·rw [if_pos hg];unfold cnt at hk ⊢;rw [List.getD_eq_getElem?_getD, List.getElem?_append_right (by simp; omega), List.getD_eq_getElem?_getD]
  congr 2
  simp
 ·rw [if_neg hg]; rfl
structure NthR where
 k : Int
 l : Dt
 t : Int
 s : Int
 v : V4
def nthI (qs : Dt) (lo hi : Int) : Nat -> Int -> V4 -> Int -> Dt -> NthR
  | 0, s, v, k, l => ⟨k, l, qs.length, s, v⟩
  | m + 1, s, v, k, l =>
    if 1 <= V4.get v (qPart qs (qs.length - (m + 1))) then
      (if k < cnt qs lo hi m (s + wt qs (qs.length - (m + 1))) (V4.dec v (qPart qs (qs.length - (m + 1)))) then
        ⟨k, l ++ [[.i ((qs.length - (m + 1) : Nat) : Int)]], ((qs.length - (m + 1) : Nat) : Int) + 1, s + wt qs (qs.length - (m + 1)), V4.dec v (qPart qs (qs.length - (m + 1)))⟩
       else nthI qs lo hi m s v (k - cnt qs lo hi m (s + wt qs (qs.length - (m + 1))) (V4.dec v (qPart qs (qs.length - (m + 1))))) l)
    else nthI qs lo hi m s v k l
theorem nthI_at {qs : Dt} {lo hi s k : Int} {v : V4} {l : Dt} {i : Int} (h0 : 0 <= i) (h1 : i < qs.length) :
    nthI qs lo hi (qs.length - i.toNat) s v k l = if 1 <= V4.get v (qPart qs i.toNat) then
      (if k < cnt qs lo hi (qs.length - (i + 1).toNat) (s + wt qs i.toNat) (V4.dec v (qPart qs i.toNat)) then ⟨k, l ++ [[.i i]], i + 1, s + wt qs i.toNat, V4.dec v (qPart qs i.toNat)⟩
       else nthI qs lo hi (qs.length - (i + 1).toNat) s v (k - cnt qs lo hi (qs.length - (i + 1).toNat) (s + wt qs i.toNat) (V4.dec v (qPart qs i.toNat))) l)
    else nthI qs lo hi (qs.length - (i + 1).toNat) s v k l := by
  rw [show qs.length - i.toNat = (qs.length - (i + 1).toNat) + 1 by omega, nthI];have e : qs.length - (qs.length - (i + 1).toNat + 1) = i.toNat := by omega
  rw [e, Int.toNat_of_nonneg h0]
structure NthOk (qs : Dt) (lo hi : Int) (m : Nat) (t s : Int) (v : V4) (k : Int) (l : Dt) (r : NthR) : Prop where
 k0 : 0 <= r.k
 k1 : r.k < cnt qs lo hi (qs.length - r.t.toNat) r.s r.v
 st : StOk qs r.t r.s r.v
 t1 : t < r.t
 l1 : l ++ nthD qs lo hi m s v k = r.l ++ nthD qs lo hi (qs.length - r.t.toNat) r.s r.v r.k
 l2 : r.l.length = l.length + 1
theorem nthI_ok {qs ws w : Dt} {lo hi t s : Int} {v : V4} {l : Dt} (bk : BkOk qs ws lo hi w) (st : StOk qs t s v) (hv : V4.nil v = false) : ∀ (m : Nat) (i k : Int), (qs.length : Int) - i = m -> t <= i -> 0 <= k -> k < cnt qs lo hi (qs.length - i.toNat) s v ->
  NthOk qs lo hi (qs.length - i.toNat) t s v k l (nthI qs lo hi (qs.length - i.toNat) s v k l)
 | 0, i, k, hm, ht, k0, k1 => by
  rw [show qs.length - i.toNat = 0 by omega, cnt_zero hv] at k1;omega
 | m + 1, i, k, hm, ht, k0, k1 => by
  have t0 := st.a0;have hc := cnt_at (qs := qs) (lo := lo) (hi := hi) (s := s) hv (by omega) (show i < qs.length by omega);have hnt := nth_at (qs := qs) (lo := lo) (hi := hi) (s := s) hv (by omega) (show i < qs.length by omega) k0;rw [nthI_at (by omega) (by omega)]
  split
  ·rename_i hg;rw [if_pos hg] at hc
   split
   ·rename_i hl;exact ⟨k0, hl, st.step bk ht (by omega) hg, by show t < i + 1; omega, by rw [hnt.1 hg hl]; simp, by simp⟩
   ·rename_i hl;have r := nthI_ok (l := l) bk st hv m (i + 1) (k - cnt qs lo hi (qs.length - (i + 1).toNat) (s + wt qs i.toNat) (V4.dec v (qPart qs i.toNat))) (by omega) (by omega) (by omega) (by omega);exact ⟨r.k0, r.k1, r.st, r.t1, by rw [hnt.2.1 hg hl]; exact r.l1, r.l2⟩
  ·rename_i hg;rw [if_neg hg] at hc;have r := nthI_ok (l := l) bk st hv m (i + 1) k (by omega) (by omega) k0 (by omega);exact ⟨r.k0, r.k1, r.st, r.t1, by rw [hnt.2.2 hg]; exact r.l1, r.l2⟩
structure FolR where
 n : Int
 t : Int
 s : Int
 v : V4
def folS (qs : Dt) (lo hi : Int) : Dt -> FolR -> Option FolR
 | [], r => some r
 | x :: xs, r => if inr (x.getD 0 .z).int r.t ((qs.length : Int) - 1) = true /\ 1 <= V4.get r.v (qPart qs (x.getD 0 .z).int.toNat) then
   folS qs lo hi xs ⟨r.n + (cnt qs lo hi (qs.length - r.t.toNat) r.s r.v - cnt qs lo hi (qs.length - (x.getD 0 .z).int.toNat) r.s r.v), (x.getD 0 .z).int + 1, r.s + wt qs (x.getD 0 .z).int.toNat, V4.dec r.v (qPart qs (x.getD 0 .z).int.toNat)⟩
  else none
def fol (qs ws : Dt) (lo hi : Int) (xs : Dt) : Int × Bool :=
 match folS qs lo hi xs ⟨0, 0, 0, v0 ws⟩ with
 | none => (0, false)
 | some r => (r.n, V4.nil r.v && inr r.s lo hi)
end Sq
end Go.Proofs.Ytfbhampnigdaaaa
