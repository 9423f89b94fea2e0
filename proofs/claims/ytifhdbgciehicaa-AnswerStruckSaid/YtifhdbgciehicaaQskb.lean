/-
  'AnswerStruck': for every input the law returns true, and what is handed in reads as before. No condition.
-/
import Derived.Test.YtifhdbgciehicaaQska
import Derived.Shelf.Sort.AssemblyIn
import Derived.Sort.EveryDepth
import Derived.Sort.OwnSortedInts
set_option linter.unusedVariables false
set_option linter.unusedSectionVars false
set_option linter.unusedSimpArgs false
noncomputable section
namespace Go.Proofs.Ytifhdbgciehicaa
open Go.RowKit
set_option maxRecDepth 100000
set_option maxHeartbeats 1600000
namespace Sp
def eqI (xs : Dt) (x : Int) (k : Nat) : Bool := decide (x = num xs k)
def idxOf (xs : Dt) (x : Int) : Int := if anyF (eqI xs x) 0 xs.length = true then (fstF (eqI xs x) 0 xs.length : Nat) else -1
end Sp
def Xjd [InW] (e : List Ed) (K : Nat -> List Ed -> Prop) : Prop := match e with
 | [.ro _ xs, .i x, .i n, .i i] => Pre (n = xs.xs.length /\ 0 <= i /\ i <= n) (Vif (Sp.anyF (Sp.eqI xs.xs x) i.toNat (xs.xs.length - i.toNat)) (K 1 [.i ((Sp.fstF (Sp.eqI xs.xs x) i.toNat (xs.xs.length - i.toNat) : Nat) : Int)]) (K 0 []))
 | _ => False
def Xkd : LC where
 len := 19
 T := [(0, .rs Jc), (1, .int .i64), (7, .int .i64), (8, .int .i64)]
 H := []
 W := ([4, 5] ++ rg 9 10)
 outs := [⟨.exit 0, [], [], ([0, 1, 4, 5] ++ rg 7 12)⟩, ⟨.ret, [(4, .int .i64)], [], ([0, 1, 5] ++ rg 7 12)⟩]
 spec := Xjd
def Xiu [W : InW] (xs : Ro Jc) (x n i : Int) (A : List Ed -> Prop) (K : Nat -> List Ed -> Prop) : Prop :=
 Vif (decide (i < n)) (Need (decide (0 <= i) && decide (i < (↑(xs.xs.length) : Int))) (Need (decide (i.toNat < xs.xs.length)) (Vif (decide (x = (cel xs.xs i.toNat (0 : Nat)).int)) (K (0+1) [.i i]) (Ar .i64 (i + 1) fun z => A [.ro _ xs, .i x, .i n, .i z])))) (K 0 [])
theorem Xn5 (W : InW) (xs x n i A K) : Yfc { cxT Try.prog TT T0 1000 50 with fn := 86 } 1000 (Yn8 Try.prog 86 3) (Yd8 19 [(0, .rs _ xs), (1, .si .i64 x), (7, .si .i64 n), (8, .si .i64 i)] ([4, 5] ++ rg 9 10)) [] (Yug Xkd A K) = Xiu xs x n i A K := by kernel_rfl
def Xh5 : Prop := ∀ (W : InW) (body a : Code), (Try.prog.funcs[86]?).bind (·.body) = some body -> a ∈ Y0 body -> Yfw a = 3 -> @Ymr W Try.prog a (@Yto W Xkd)
theorem Xop (meas : [InW] -> List Ed -> Nat) (hyp_ : ∀ (W : InW) xs x n i K, Xjd [.ro _ xs, .i x, .i n, .i i] K -> ∀ A : List Ed -> Prop, (∀ e, meas e < meas [.ro _ xs, .i x, .i n, .i i] -> Xjd e K -> A e) -> Xiu xs x n i A K) : Xh5 :=
 LE.okOf' (fun W => @TT W) (fun W => @Xe W) Xa T0 1000 50 (by kernel_rfl) Xkd (fun W => @meas W) fun W xs x n i K hs =>
  (Xn5 W xs x n i (fun e => meas e < meas [.ro _ xs, .i x, .i n, .i i] /\ Xjd e K) K).mpr (hyp_ W xs x n i K hs _ fun e h1 h2 => ⟨h1, h2⟩)
theorem okLix : Xh5 := Xop (fun e => match e with | [_, _, .i n, .i i] => (n - i).toNat | _ => 0) fun W xs x n i K hs A hA => by
 obtain ⟨⟨rfl, h0, h1⟩, hk⟩ := hs;unfold Xiu;have hm := xs.len;simp only [maxLen] at hm;have ez : (i + 1).toNat = i.toNat + 1 := by omega
 have ei : ((i.toNat : Nat) : Int) = i := Int.toNat_of_nonneg h0
 by_cases hi : i < xs.xs.length
 ·rw [show xs.xs.length - i.toNat = (xs.xs.length - (i.toNat + 1)) + 1 by omega] at hk;simp only [Sp.anyF, Sp.fstF] at hk;simp only [show ∀ k, (cel xs.xs k 0).int = Sp.num xs.xs k from fun _ => rfl]
  by_cases c : x = Sp.num xs.xs i.toNat
  ·have c2 : Sp.eqI xs.xs x i.toNat = true := decide_eq_true c;rw [c2, Bool.true_or, if_pos rfl, ei] at hk;have hk := hk.1 rfl;clear hA
   repeat' (first | omega|intro _|with_reducible first|apply vifd|apply vifn|apply vifq|apply Xd|apply Xc|apply vifb|apply vif|apply nedd|apply ned2|apply ned|apply ar64|apply Xb|exact True.intro|assumption|rfl|apply And.intro)
   all_goals first | contradiction | exact hk | skip
  ·have c2 : Sp.eqI xs.xs x i.toNat = false := decide_eq_false c;rw [c2, Bool.false_or, if_neg (by decide)] at hk;have hA' := hA [.ro _ xs, .i x, .i xs.xs.length, .i (i + 1)] (show ((xs.xs.length : Int) - (i + 1)).toNat < ((xs.xs.length : Int) - i).toNat by omega) ⟨⟨rfl, by omega, by omega⟩, by rw [ez]; exact hk⟩;clear hA hk
   repeat' (first | omega|intro _|with_reducible first|apply vifd|apply vifn|apply vifq|apply Xd|apply Xc|apply vifb|apply vif|apply nedd|apply ned2|apply ned|apply ar64|apply Xb|exact True.intro|assumption|rfl|apply And.intro)
   all_goals first | contradiction | exact hA' | skip
 ·rw [show xs.xs.length - i.toNat = 0 by omega] at hk;clear hA
  repeat' (first | omega|intro _|with_reducible first|apply vifd|apply vifn|apply vifq|apply Xd|apply Xc|apply vifb|apply vif|apply nedd|apply ned2|apply ned|apply ar64|apply Xb|exact True.intro|assumption|rfl|apply And.intro)
  all_goals exact hk.2 rfl
def le_ix : LE Try.prog := ⟨86, 3, fun W => @Yto W Xkd, okLix⟩
def T40 : Tab Try.prog := ⟨[], [le_ix], []⟩
def Xn0 [W : InW] (xs : Ro Jc) (x : Int) (Q : DS -> Prop) : Prop :=
 Pre ((↑(xs.xs.length) : Int) = (↑(xs.xs.length) : Int) /\ Zb <= 0 /\ Zb <= (↑(xs.xs.length) : Int)) (Vif (Sp.anyF (Sp.eqI xs.xs x) (Int.toNat Zb) (xs.xs.length - Int.toNat Zb)) (Q [[Cl.i (↑(Sp.fstF (Sp.eqI xs.xs x) (Int.toNat Zb) (xs.xs.length - Int.toNat Zb)) : Int)]]) (Q [[Cl.i (-1 : Int)]]))
theorem vc_ix (W : InW) (xs x Q) : Ywx (cxT Try.prog TT T40 1000 50) 1000 86 [.rs _ xs, .si .i64 x] [] 0 (Y04 [(false, [.int .i64])] Q) (fun _ _ _ _ => Stuck 421) = Xn0 xs x Q := by kernel_rfl
abbrev Xij : List AT := [.one (.sl Jc), .one (.int .i64)]
theorem ok_ix {pre : DS -> Prop} {res : DS -> DS} (hyp_ : ∀ (W : InW) (xs : Ro Jc) (x : Int), pre [[.l xs.xs], [.i x]] -> ∀ Q : DS -> Prop, Q (res [[.l xs.xs], [.i x]]) -> Xn0 xs x Q) : PureOk Try.prog 86 Xij [(false, [.int .i64])] pre res :=
 PureOk.of' (fun W => @TT W) (fun W => @Xe W) Xa T40 1000 50 fun W xs x hp =>
  (vc_ix W xs x (fun o => o = res [[.l xs.xs], [.i x]])).mpr (hyp_ W xs x hp _ rfl)
abbrev Xho (ds : DS) : DS := match ds with | [[.l xs], [.i x]] => [[.i (Sp.idxOf xs x)]] | _ => []
theorem okix : PureOk Try.prog 86 Xij [(false, [.int .i64])] (fun _ => True) Xho :=
 ok_ix fun W xs x hp Q h => by
  unfold Xn0;delta Zb;simp only [Xho, Sp.idxOf] at h;simp only [show Int.toNat 0 = 0 from rfl, Nat.sub_zero];refine ⟨⟨trivial, by omega, by omega⟩, vif (fun e => ?_) fun e => ?_⟩
  ·rw [if_pos e] at h; exact h
  ·rw [if_neg (by simp [e])] at h; exact h
def Xod : PC Try.prog := ⟨86, Xij, [(false, [.int .i64])], fun _ => True, Xho, okix⟩
def T41 : Tab Try.prog := ⟨[Xod], [], []⟩
def Xn1 [W : InW] (xs : Ro Jc) (x : Int) (Q : DS -> Prop) : Prop :=
 Pre True (Q [[Cl.b (decide ((0 : Int) <= Sp.idxOf xs.xs x))]])
theorem vc_cn (W : InW) (xs x Q) : Ywx (cxT Try.prog TT T41 1000 50) 1000 87 [.rs _ xs, .si .i64 x] [] 0 (Y04 [(false, [.bool])] Q) (fun _ _ _ _ => Stuck 421) = Xn1 xs x Q := by kernel_rfl
abbrev Xil : List AT := [.one (.sl Jc), .one (.int .i64)]
theorem ok_cn {pre : DS -> Prop} {res : DS -> DS} (hyp_ : ∀ (W : InW) (xs : Ro Jc) (x : Int), pre [[.l xs.xs], [.i x]] -> ∀ Q : DS -> Prop, Q (res [[.l xs.xs], [.i x]]) -> Xn1 xs x Q) : PureOk Try.prog 87 Xil [(false, [.bool])] pre res :=
 PureOk.of' (fun W => @TT W) (fun W => @Xe W) Xa T41 1000 50 fun W xs x hp =>
  (vc_cn W xs x (fun o => o = res [[.l xs.xs], [.i x]])).mpr (hyp_ W xs x hp _ rfl)
abbrev Xkp (ds : DS) : DS := match ds with | [[.l xs], [.i x]] => [[.b (decide (0 <= Sp.idxOf xs x))]] | _ => []
theorem okcn : PureOk Try.prog 87 Xil [(false, [.bool])] (fun _ => True) Xkp :=
 ok_cn fun W xs x hp Q h => by
  unfold Xn1;exact ⟨trivial, h⟩
def pc_cn : PC Try.prog := ⟨87, Xil, [(false, [.bool])], fun _ => True, Xkp, okcn⟩
def Xja [InW] (e : List Ed) (K : Nat -> List Ed -> Prop) : Prop := match e with
 | [.i a, .ro _ d, .i n, .i i] => Pre (n = d.xs.length /\ 0 <= i /\ i <= d.xs.length /\ Sp.Low d.xs /\ -1000 * i <= a /\ a <= 1000 * i) (K 0 [.i (Sp.sumF (Sp.num d.xs) i.toNat (d.xs.length - i.toNat) a)])
 | _ => False
def Xka : LC where
 len := 16
 T := [(2, .int .i64), (5, .rs Jc), (6, .int .i64), (7, .int .i64)]
 H := []
 W := ([4] ++ rg 8 7)
 outs := [⟨.exit 0, [(2, .int .i64)], [], (rg 4 11)⟩]
 spec := Xja
def Xir [W : InW] (a : Int) (d : Ro Jc) (n i : Int) (A : List Ed -> Prop) (K : Nat -> List Ed -> Prop) : Prop :=
 Vif (decide (i < n)) (Need (decide (0 <= i) && decide (i < (↑(d.xs.length) : Int))) (Need (decide (i.toNat < d.xs.length)) (Ar .i64 (a + (cel d.xs i.toNat (0 : Nat)).int) fun z => Ar .i64 (i + 1) fun z_1 => A [.i z, .ro _ d, .i n, .i z_1]))) (K 0 [.i a])
theorem Xn2 (W : InW) (a d n i A K) : Yfc { cxT Try.prog TT T0 1000 50 with fn := 63 } 1000 (Yn8 Try.prog 63 3) (Yd8 16 [(2, .si .i64 a), (5, .rs _ d), (6, .si .i64 n), (7, .si .i64 i)] ([4] ++ rg 8 7)) [] (Yug Xka A K) = Xir a d n i A K := by kernel_rfl
def Xh2 : Prop := ∀ (W : InW) (body a : Code), (Try.prog.funcs[63]?).bind (·.body) = some body -> a ∈ Y0 body -> Yfw a = 3 -> @Ymr W Try.prog a (@Yto W Xka)
theorem Xom (meas : [InW] -> List Ed -> Nat) (hyp_ : ∀ (W : InW) a d n i K, Xja [.i a, .ro _ d, .i n, .i i] K -> ∀ A : List Ed -> Prop, (∀ e, meas e < meas [.i a, .ro _ d, .i n, .i i] -> Xja e K -> A e) -> Xir a d n i A K) : Xh2 :=
 LE.okOf' (fun W => @TT W) (fun W => @Xe W) Xa T0 1000 50 (by kernel_rfl) Xka (fun W => @meas W) fun W a d n i K hs =>
  (Xn2 W a d n i (fun e => meas e < meas [.i a, .ro _ d, .i n, .i i] /\ Xja e K) K).mpr (hyp_ W a d n i K hs _ fun e h1 h2 => ⟨h1, h2⟩)
theorem okLsu : Xh2 := Xom (fun e => match e with | [_, _, .i n, .i i] => (n - i).toNat | _ => 0) fun W a d n i K hs A hA => by
 obtain ⟨⟨rfl, h0, h1, hl, h2, h3⟩, hk⟩ := hs;unfold Xir;have hm := d.len;have hl1 := hl.1;simp only [maxLen] at hm;have ez : (i + 1).toNat = i.toNat + 1 := by omega
 by_cases hi : i < d.xs.length
 ·rw [show d.xs.length - i.toNat = (d.xs.length - (i.toNat + 1)) + 1 by omega] at hk;simp only [Sp.sumF] at hk;have hv := hl.2 i.toNat (by omega);have hA' := hA [.i (a + Sp.num d.xs i.toNat), .ro _ d, .i d.xs.length, .i (i + 1)] (show ((d.xs.length : Int) - (i + 1)).toNat < ((d.xs.length : Int) - i).toNat by omega) ⟨⟨rfl, by omega, by omega, hl, by omega, by omega⟩, by rw [ez]; exact hk⟩;clear hA hk;simp only [show ∀ k, (cel d.xs k 0).int = Sp.num d.xs k from fun _ => rfl]
  repeat' (first | omega|intro _|with_reducible first|apply vifd|apply vifn|apply vifq|apply Xd|apply Xc|apply vifb|apply vif|apply nedd|apply ned2|apply ned|apply ar64|apply Xb|exact True.intro|assumption|rfl|apply And.intro)
  all_goals first | contradiction | exact hA' | skip
 ·rw [show d.xs.length - i.toNat = 0 by omega] at hk;simp only [Sp.sumF] at hk;clear hA
  repeat' (first | omega|intro _|with_reducible first|apply vifd|apply vifn|apply vifq|apply Xd|apply Xc|apply vifb|apply vif|apply nedd|apply ned2|apply ned|apply ar64|apply Xb|exact True.intro|assumption|rfl|apply And.intro)
  all_goals exact hk
def le_su : LE Try.prog := ⟨63, 3, fun W => @Yto W Xka, okLsu⟩
def T42 : Tab Try.prog := ⟨[], [le_su], []⟩
def Xnz [W : InW] (d : Ro Jc) (Q : DS -> Prop) : Prop :=
 Pre ((↑(d.xs.length) : Int) = (↑(d.xs.length) : Int) /\ (0 : Int) <= 0 /\ (0 : Int) <= (↑(d.xs.length) : Int) /\ Sp.Low d.xs /\ (-1000 : Int) * 0 <= 0 /\ (0 : Int) <= 1000 * 0) (Q [[Cl.i (Sp.sumF (Sp.num d.xs) (Int.toNat (0 : Int)) (d.xs.length - Int.toNat (0 : Int)) (0 : Int))]])
theorem vc_su (W : InW) (d Q) : Ywx (cxT Try.prog TT T42 1000 50) 1000 63 [.rs _ d] [] 0 (Y04 [(false, [.int .i64])] Q) (fun _ _ _ _ => Stuck 421) = Xnz d Q := by kernel_rfl
abbrev Xii : List AT := [.one (.sl Jc)]
theorem ok_su {pre : DS -> Prop} {res : DS -> DS} (hyp_ : ∀ (W : InW) (d : Ro Jc), pre [[.l d.xs]] -> ∀ Q : DS -> Prop, Q (res [[.l d.xs]]) -> Xnz d Q) : PureOk Try.prog 63 Xii [(false, [.int .i64])] pre res :=
 PureOk.of' (fun W => @TT W) (fun W => @Xe W) Xa T42 1000 50 fun W d hp =>
  (vc_su W d (fun o => o = res [[.l d.xs]])).mpr (hyp_ W d hp _ rfl)
theorem oksu : PureOk Try.prog 63 Xii [(false, [.int .i64])] Xhq Xhn :=
 ok_su fun W d hp Q h => by
  have hp : Sp.Low d.xs := hp;unfold Xnz;simp only [show Int.toNat 0 = 0 from rfl, Nat.sub_zero];exact ⟨⟨trivial, by omega, by omega, hp, by omega, by omega⟩, h⟩
def Xob : PC Try.prog := ⟨63, Xii, [(false, [.int .i64])], Xhq, Xhn, oksu⟩
def Xdv [W : InW] (a b : Bool) (Q : DS -> Prop) : Prop :=
 Vif b (Q [[Cl.i 1]]) (Vif a (Q [[Cl.i 2]]) (Q [[Cl.i 0]]))
theorem Xl0 (W : InW) (a b Q) : Ywx (cxT Try.prog TT T0 1000 50) 1000 59 [.sb a, .sb b] [] 0 (Y04 [(false, [.int .i64])] Q) (fun _ _ _ _ => Stuck 421) = Xdv a b Q := by kernel_rfl
abbrev Xch : List AT := [.one (.bool), .one (.bool)]
theorem Xnm {pre : DS -> Prop} {res : DS -> DS} (hyp_ : ∀ (W : InW) (a b : Bool), pre [[.b a], [.b b]] -> ∀ Q : DS -> Prop, Q (res [[.b a], [.b b]]) -> Xdv a b Q) : PureOk Try.prog 59 Xch [(false, [.int .i64])] pre res :=
 PureOk.of' (fun W => @TT W) (fun W => @Xe W) Xa T0 1000 50 fun W a b hp =>
  (Xl0 W a b (fun o => o = res [[.b a], [.b b]])).mpr (hyp_ W a b hp _ rfl)
namespace Sp
def ocB (a b : Bool) : Int := if b = true then 1 else if a = true then 2 else 0
end Sp
abbrev Xfp (ds : DS) : DS := match ds with | [[.b a], [.b b]] => [[.i (Sp.ocB a b)]] | _ => []
theorem Xol : PureOk Try.prog 59 Xch [(false, [.int .i64])] (fun _ => True) Xfp :=
 Xnm fun W a b hp Q h => by
  unfold Xdv;cases a <;> cases b <;> (repeat' (first | omega|intro _|with_reducible first|apply vifd|apply vifn|apply vifq|apply Xd|apply Xc|apply vifb|apply vif|apply nedd|apply ned2|apply ned|apply ar64|apply Xb|exact True.intro|assumption|rfl|apply And.intro)) <;> first | exact h | contradiction | skip
def Xhv : PC Try.prog := ⟨59, Xch, [(false, [.int .i64])], fun _ => True, Xfp, Xol⟩
namespace Sp
def bitV (b : Int) (i : Int) : Int := andI .i64 (b.fdiv (2 ^ min i.toNat 64)) 1
def ansW (u : Dt) (q b : Int) : Nat -> Nat -> Dt -> Dt
 | _, 0, l => l
 | i, n + 1, l => ansW u q b (i + 1) n (if cA u i = q then l.set (cB u i).toNat [.i (bitV b i)] else l)
structure UqOk (u : Dt) (q : Int) (l : Nat) : Prop where
 few : u.length <= 64
 low : l <= 1000
 in_ : ∀ i, i < u.length -> cA u i = q -> 0 <= cB u i /\ cB u i < l
end Sp
def Xje [InW] (e : List Ed) (K : Nat -> List Ed -> Prop) : Prop := match e with
 | [.i q, .i b, .i n, .i i, .ro _ qs, .ro _ ps, .i all, .ro _ sh, .l u, .l l] => Pre (n = u.length /\ 0 <= i /\ i <= u.length /\ 0 <= b /\ Sp.UqOk u q l.length) (K 0 [.i q, .i b, .ro _ qs, .ro _ ps, .i all, .ro _ sh, .l u, .l (Sp.ansW u q b i.toNat (u.length - i.toNat) l)])
 | _ => False
def Xke : LC where
 len := 64
 T := [(0, (.ptr 1 0)), (1, .int .i64), (2, .int .i64), (7, (.row 3)), (32, (.row 4)), (33, .int .i64), (34, .int .i64)]
 H := [(1, .blk 89 [.rs Iv5, .rs Jc, .int .i64, .rs Jb, (.row 4)]), (4, .arr 44 Ja), (3, .arr 3 Jc)]
 W := ([8, 9] ++ rg 35 17)
 outs := [⟨.exit 0, [(0, (.ptr 1 0)), (1, .int .i64), (2, .int .i64), (7, (.row 6))], [(1, .blk 89 [.rs Iv5, .rs Jc, .int .i64, .rs Jb, (.row 4)]), (4, .arr 44 Ja), (6, .arr 3 Jc)], ([8, 9] ++ rg 32 20)⟩]
 spec := Xje
def Xiv [W : InW] (q b n i : Int) (qs : Ro Iv5) (ps : Ro Jc) (all : Int) (sh : Ro Jb) (u l : Dt) (A : List Ed -> Prop) (K : Nat -> List Ed -> Prop) : Prop :=
 Vif (decide (i < n)) (Need (decide (0 <= i) && decide (i < (↑(u.length) : Int))) (Need (decide (i.toNat < u.length)) (Vif (decide ((cel u i.toNat (0 : Nat)).int = q)) (Need (decide (0 <= i)) (Need (decide ((0 : Int) <= (cel u i.toNat (0+1)).int) && decide ((cel u i.toNat (0+1)).int < (↑(l.length) : Int))) (Need (decide ((cel u i.toNat (0+1)).int.toNat < l.length)) (Ar .i64 (i + 1) fun z => A [.i q, .i b, .i n, .i z, .ro _ qs, .ro _ ps, .i all, .ro [Ty.sl [Ty.int IntKind.i64]] sh, .l u, .l (List.set l (cel u i.toNat (0+1)).int.toNat [Cl.i (andI IntKind.i64 (b.fdiv ((2 : Int) ^ min i.toNat (64 : Nat))) (1 : Int))])])))) (Ar .i64 (i + 1) fun z => A [.i q, .i b, .i n, .i z, .ro _ qs, .ro _ ps, .i all, .ro [Ty.sl [Ty.int IntKind.i64]] sh, .l u, .l l])))) (K 0 [.i q, .i b, .ro _ qs, .ro _ ps, .i all, .ro [Ty.sl [Ty.int IntKind.i64]] sh, .l u, .l l])
theorem Xn6 (W : InW) (q b n i qs ps all sh u l A K) : Yfc { cxT Try.prog TT T0 1000 50 with fn := 78 } 1000 (Yn8 Try.prog 78 5) (Yd8 64 [(0, .ptr 1 0), (1, .si .i64 q), (2, .si .i64 b), (7, .rw 3), (32, .rw 4), (33, .si .i64 n), (34, .si .i64 i)] ([8, 9] ++ rg 35 17)) [(1, .blk 89 [.rs _ qs, .rs _ ps, .si .i64 all, .rs _ sh, .rw 4]), (4, .arr 44 Ja u), (3, .arr 3 Jc l)] (Yug Xke A K) = Xiv q b n i qs ps all sh u l A K := by kernel_rfl
def Xh6 : Prop := ∀ (W : InW) (body a : Code), (Try.prog.funcs[78]?).bind (·.body) = some body -> a ∈ Y0 body -> Yfw a = 5 -> @Ymr W Try.prog a (@Yto W Xke)
theorem Xoq (meas : [InW] -> List Ed -> Nat) (hyp_ : ∀ (W : InW) q b n i qs ps all sh u l K, Xje [.i q, .i b, .i n, .i i, .ro _ qs, .ro _ ps, .i all, .ro _ sh, .l u, .l l] K -> ∀ A : List Ed -> Prop, (∀ e, meas e < meas [.i q, .i b, .i n, .i i, .ro _ qs, .ro _ ps, .i all, .ro _ sh, .l u, .l l] -> Xje e K -> A e) -> Xiv q b n i qs ps all sh u l A K) : Xh6 :=
 LE.okOf' (fun W => @TT W) (fun W => @Xe W) Xa T0 1000 50 (by kernel_rfl) Xke (fun W => @meas W) fun W q b n i qs ps all sh u l K hs =>
  (Xn6 W q b n i qs ps all sh u l (fun e => meas e < meas [.i q, .i b, .i n, .i i, .ro _ qs, .ro _ ps, .i all, .ro _ sh, .l u, .l l] /\ Xje e K) K).mpr (hyp_ W q b n i qs ps all sh u l K hs _ fun e h1 h2 => ⟨h1, h2⟩)
theorem okLan : Xh6 := Xoq (fun e => match e with | [_, _, .i n, .i i, _, _, _, _, _, _] => (n - i).toNat | _ => 0) fun W q b n i qs ps all sh u l K hs A hA => by
 obtain ⟨⟨rfl, h0, h1, hb, hu⟩, hk⟩ := hs;have h64 := hu.few;unfold Xiv;simp only [Nat.zero_add, show ∀ k, (cel u k 0).int = Sp.cA u k from fun _ => rfl, show ∀ k, (cel u k 1).int = Sp.cB u k from fun _ => rfl];have ez : (i + 1).toNat = i.toNat + 1 := by omega
 by_cases hi : i < u.length
 ·rw [show u.length - i.toNat = (u.length - (i.toNat + 1)) + 1 by omega] at hk;simp only [Sp.ansW, Sp.bitV, Int.toNat_natCast] at hk
  by_cases c : Sp.cA u i.toNat = q
  ·have h3 := hu.in_ i.toNat (by omega) c;rw [if_pos c] at hk;have hA' := hA [.i q, .i b, .i u.length, .i (i + 1), .ro _ qs, .ro _ ps, .i all, .ro _ sh, .l u, .l (l.set (Sp.cB u i.toNat).toNat [.i (andI .i64 (b.fdiv (2 ^ min i.toNat 64)) 1)])] (show ((u.length : Int) - (i + 1)).toNat < ((u.length : Int) - i).toNat by omega) ⟨⟨rfl, by omega, by omega, hb, ⟨hu.few, by rw [List.length_set]; exact hu.low, fun k hk he => by rw [List.length_set]; exact hu.in_ k hk he⟩⟩, by rw [ez]; exact hk⟩;clear hA hk
   repeat' (first | omega|intro _|with_reducible first|apply vifd|apply vifn|apply vifq|apply Xd|apply Xc|apply vifb|apply vif|apply nedd|apply ned2|apply ned|apply ar64|apply Xb|exact True.intro|assumption|rfl|apply And.intro)
   all_goals first | contradiction | exact hA' | skip
  ·rw [if_neg c] at hk;have hA' := hA [.i q, .i b, .i u.length, .i (i + 1), .ro _ qs, .ro _ ps, .i all, .ro _ sh, .l u, .l l] (show ((u.length : Int) - (i + 1)).toNat < ((u.length : Int) - i).toNat by omega) ⟨⟨rfl, by omega, by omega, hb, hu⟩, by rw [ez]; exact hk⟩;clear hA hk
   repeat' (first | omega|intro _|with_reducible first|apply vifd|apply vifn|apply vifq|apply Xd|apply Xc|apply vifb|apply vif|apply nedd|apply ned2|apply ned|apply ar64|apply Xb|exact True.intro|assumption|rfl|apply And.intro)
   all_goals first | contradiction | exact hA' | skip
 ·rw [show u.length - i.toNat = 0 by omega] at hk;simp only [Sp.ansW] at hk;clear hA
  repeat' (first | omega|intro _|with_reducible first|apply vifd|apply vifn|apply vifq|apply Xd|apply Xc|apply vifb|apply vif|apply nedd|apply ned2|apply ned|apply ar64|apply Xb|exact True.intro|assumption|rfl|apply And.intro)
  all_goals exact hk
def le_an : LE Try.prog := ⟨78, 5, fun W => @Yto W Xke, okLan⟩
namespace Sp
def ansX (l : Dt) : Int := if 0 <= idxOf l 1 /\ 0 <= idxOf (l.drop (idxOf l 1 + 1).toNat) 1 then -1 else idxOf l 1
def rowW (sh u : Dt) (q b : Int) : Dt := ansW u q b 0 u.length (row sh q.toNat)
end Sp
def T43 : Tab Try.prog := ⟨[Xod, pc_cn], [le_an], []⟩
def Xko [InW] (e : List Ed) (K : Nat -> List Ed -> Prop) : Prop := match e with
 | [.i q, .i b, .ro _ qs, .ro _ ps, .i all, .ro _ sh, .l u] => Pre (0 <= q /\ q < sh.xs.length /\ 0 <= b /\ Sp.UqOk u q (Sp.row sh.xs q.toNat).length) (K 0 [.i (Sp.ansX (Sp.rowW sh.xs u q b)), .ro _ qs, .ro _ ps, .i all, .ro _ sh, .l u])
 | _ => False
def Xq : CC where
 g := 78
 args := [(.ptr 1 0), .int .i64, .int .i64]
 H := [(1, .blk 89 [.rs Iv5, .rs Jc, .int .i64, .rs Jb, (.row 4)]), (4, .arr 44 Ja)]
 outs := [⟨false, .int .i64, [(1, .blk 89 [.rs Iv5, .rs Jc, .int .i64, .rs Jb, (.row 4)]), (4, .arr 44 Ja)], false⟩]
 spec := Xko
def Zds [W : InW] (q : Int) (sh : Ro Jb) := List.length (cel sh.xs q.toNat (0 : Nat)).lst
def Zdt [W : InW] (q : Int) (sh : Ro Jb) := List.replicate (↑(Zds q sh) : Int).toNat (Ybr [Ty.int IntKind.i64])
def Zdr [W : InW] (q : Int) (sh : Ro Jb) := List.take (min (Zds q sh) (Zdt q sh).length) (cel sh.xs q.toNat (0 : Nat)).lst ++ List.drop (min (Zds q sh) (Zdt q sh).length) (Zdt q sh)
def Zdq [W : InW] (q b : Int) (sh : Ro Jb) (u : Dt) := Sp.ansW u q b (Int.toNat Zb) (u.length - Int.toNat Zb) (Zdr q sh)
def Xeu [W : InW] (q b : Int) (qs : Ro Iv5) (ps : Ro Jc) (all : Int) (sh : Ro Jb) (u : Dt) (K : Nat -> List Ed -> Prop) : Prop :=
 Need (decide (0 <= q) && decide (q < (↑(sh.xs.length) : Int))) (Need (decide (q.toNat < sh.xs.length)) (Need (decide ((↑(Zds q sh) : Int) = (↑(Zds q sh) : Int)) && decide (Zb <= (↑(Zds q sh) : Int)) && decide ((8 : Nat) * (↑(Zds q sh) : Int).toNat <= 281474976710656)) (Need (decide (0 <= q) && decide (q < (↑(sh.xs.length) : Int))) (Need (decide (q.toNat < sh.xs.length)) (Pre ((↑(u.length) : Int) = (↑(u.length) : Int) /\ Zb <= 0 /\ Zb <= (↑(u.length) : Int) /\ 0 <= b /\ Sp.UqOk u q (Zdr q sh).length) (Pre True (Vif (decide (Zb <= Sp.idxOf (Zdq q b sh u) (1 : Int))) (Ar .i64 (Sp.idxOf (Zdq q b sh u) (1 : Int) + 1) fun z => Need (decide (0 <= z)) (Need (decide (z.toNat <= List.length (Zdq q b sh u)) && decide (List.length (Zdq q b sh u) <= List.length (Zdq q b sh u))) (Need (decide (z.toNat + (List.length (Zdq q b sh u) - z.toNat) <= List.length (Zdq q b sh u))) (Pre True (Vif (decide (Zb <= Sp.idxOf (List.take (List.length (Zdq q b sh u) - z.toNat) (List.drop z.toNat (Zdq q b sh u))) (1 : Int))) (K 0 [.i (-1 : Int), .ro _ qs, .ro _ ps, .i all, .ro [Ty.sl [Ty.int IntKind.i64]] sh, .l u]) (K 0 [.i (Sp.idxOf (Zdq q b sh u) (1 : Int)), .ro _ qs, .ro _ ps, .i all, .ro [Ty.sl [Ty.int IntKind.i64]] sh, .l u])))))) (K 0 [.i (Sp.idxOf (Zdq q b sh u) (1 : Int)), .ro _ qs, .ro _ ps, .i all, .ro [Ty.sl [Ty.int IntKind.i64]] sh, .l u]))))))))
theorem Xls (W : InW) (q b qs ps all sh u K) : Ywu (cxT Try.prog TT T43 1000 50) 1000 78 [.ptr 1 0, .si .i64 q, .si .i64 b] [(1, .blk 89 [.rs _ qs, .rs _ ps, .si .i64 all, .rs _ sh, .rw 4]), (4, .arr 44 Ja u)] (fun v h => outC Xq.H [.ro _ qs, .ro _ ps, .i all, .ro _ sh, .l u] Xq.outs 0 false v h K) (fun v h => outC Xq.H [.ro _ qs, .ro _ ps, .i all, .ro _ sh, .l u] Xq.outs 0 true v h K) = Xeu q b qs ps all sh u K := by kernel_rfl
theorem Xnd (hyp_ : ∀ (W : InW) q b qs ps all sh u K, Xko [.i q, .i b, .ro _ qs, .ro _ ps, .i all, .ro _ sh, .l u] K -> Xeu q b qs ps all sh u K) : ∀ W : InW, @CallC W Try.prog Xq :=
 CC.okOf (fun W => @TT W) (fun W => @Xe W) Xa T43 1000 50 Xq fun W q b qs ps all sh u K hs => (Xls W q b qs ps all sh u K).mpr (hyp_ W q b qs ps all sh u K hs)
theorem Xhc (u : Dt) (q b : Int) : ∀ n i l, (Sp.ansW u q b i n l).length = l.length
 | 0, _, _ => rfl
 | n + 1, i, l => by
  simp only [Sp.ansW];rw [Xhc u q b n (i + 1)]
  split <;> simp
theorem Xha (xs : Dt) (x : Int) : -1 <= Sp.idxOf xs x /\ Sp.idxOf xs x < xs.length := by
 unfold Sp.idxOf
 split
 ·rename_i h;have := Sp.fstF_spec h;omega
 ·omega
theorem Xh9 : ∀ W : InW, @CallC W Try.prog Xq := Xnd fun W q b qs ps all sh u K hs => by
 obtain ⟨⟨h0, h1, h2, h3⟩, hk⟩ := hs;unfold Xeu;delta Zdq Zdr Zdt Zds Zb;have hlow := h3.low;simp only [show Int.toNat 0 = 0 from rfl, Nat.sub_zero, Int.toNat_natCast, List.length_replicate, Nat.min_self, List.take_length, List.drop_replicate, Nat.sub_self, List.replicate_zero, List.append_nil, show (cel sh.xs q.toNat 0).lst = Sp.row sh.xs q.toNat from rfl, show Sp.ansW u q b 0 u.length (Sp.row sh.xs q.toNat) = Sp.rowW sh.xs u q b from rfl];have hl : (Sp.rowW sh.xs u q b).length = (Sp.row sh.xs q.toNat).length := Xhc _ _ _ _ _ _;have hz : ∀ z : Nat, List.take ((Sp.rowW sh.xs u q b).length - z) (List.drop z (Sp.rowW sh.xs u q b)) = List.drop z (Sp.rowW sh.xs u q b) := fun z => List.take_of_length_le (by simp);simp only [hz];clear hz;unfold Sp.ansX at hk;generalize Sp.rowW sh.xs u q b = l at *;have hi := Xha l 1
 by_cases c : 0 <= Sp.idxOf l 1
 ·by_cases c2 : 0 <= Sp.idxOf (l.drop (Sp.idxOf l 1 + 1).toNat) 1
  ·rw [if_pos ⟨c, c2⟩] at hk
   repeat' (first | (with_reducible refine Xb ⟨rfl, by omega, by omega, h2, h3⟩ ?_) | (with_reducible refine Xb trivial ?_) | (with_reducible refine ned ?_ ?_; simp; omega) | omega|intro _|with_reducible first|apply vifd|apply vifn|apply vifq|apply Xd|apply Xc|apply vifb|apply vif|apply nedd|apply ned2|apply ned|apply ar64|apply Xb|exact True.intro|assumption|rfl|apply And.intro)
   all_goals first | contradiction | exact hk | skip
  ·rw [if_neg (fun x => c2 x.2)] at hk
   repeat' (first | (with_reducible refine Xb ⟨rfl, by omega, by omega, h2, h3⟩ ?_) | (with_reducible refine Xb trivial ?_) | (with_reducible refine ned ?_ ?_; simp; omega) | omega|intro _|with_reducible first|apply vifd|apply vifn|apply vifq|apply Xd|apply Xc|apply vifb|apply vif|apply nedd|apply ned2|apply ned|apply ar64|apply Xb|exact True.intro|assumption|rfl|apply And.intro)
   all_goals first | contradiction | exact hk | skip
 ·rw [if_neg (fun x => c x.1)] at hk
  repeat' (first | (with_reducible refine Xb ⟨rfl, by omega, by omega, h2, h3⟩ ?_) | (with_reducible refine Xb trivial ?_) | (with_reducible refine ned ?_ ?_; simp; omega) | omega|intro _|with_reducible first|apply vifd|apply vifn|apply vifq|apply Xd|apply Xc|apply vifb|apply vif|apply nedd|apply ned2|apply ned|apply ar64|apply Xb|exact True.intro|assumption|rfl|apply And.intro)
  all_goals first | contradiction | exact hk | skip
namespace Sp
def anW (sh u : Dt) (b : Int) (i : Nat) : Int := ansX (rowW sh u i b)
def stW (qs sh u : Dt) (b : Int) (i : Nat) (l : Dt) : Dt :=
 if anW sh u b i = qRight qs i then l.set (qPart qs i).toNat [.i (num l (qPart qs i).toNat + qPts qs i)] else if anW sh u b i = -1 then l else l.set (qPart qs i).toNat [.i (num l (qPart qs i).toNat - qMin qs i)]
def addW (qs sh u : Dt) (b : Int) : Nat -> Nat -> Dt -> Dt
 | _, 0, l => l
 | i, n + 1, l => addW qs sh u b (i + 1) n (stW qs sh u b i l)
def mkW (qs ps sh u : Dt) (b : Int) : Dt := addW qs sh u b 0 qs.length (List.replicate ps.length [.i 0])
structure SeOk (qs sh u : Dt) : Prop where
 n : sh.length = qs.length
 few : u.length <= 64
 uq : ∀ q, q < sh.length -> UqOk u q (row sh q).length
theorem stW_len (qs sh u : Dt) (b : Int) (i : Nat) (l : Dt) : (stW qs sh u b i l).length = l.length := by
 unfold stW; split
 ·simp
 ·split <;> simp
theorem addW_len (qs sh u : Dt) (b : Int) : ∀ n i l, (addW qs sh u b i n l).length = l.length
 | 0, _, _ => rfl
 | n + 1, i, l => by simp only [addW, addW_len qs sh u b n, stW_len]
theorem stW_in {qs sh u l : Dt} {b m : Int} {i : Nat} (hp : 0 <= qPart qs i /\ qPart qs i < l.length) (h1 : 0 <= qPts qs i /\ qPts qs i <= 20) (h2 : 0 <= qMin qs i /\ qMin qs i <= 20) (h : ∀ p, p < l.length -> -m <= num l p /\ num l p <= m) : ∀ p, p < (stW qs sh u b i l).length -> -(m + 20) <= num (stW qs sh u b i l) p /\ num (stW qs sh u b i l) p <= m + 20 := fun p hpl => by
 rw [stW_len] at hpl;have a := h p hpl;have c := h (qPart qs i).toNat (by omega);unfold stW
 split
 ·rw [num_set (by omega)]; split <;> omega
 ·split
  ·omega
  ·rw [num_set (by omega)]; split <;> omega
theorem addW_in {qs sh u : Dt} {b : Int} {np : Nat} (hp : ∀ i, i < qs.length -> 0 <= qPart qs i /\ qPart qs i < np) (h1 : ∀ i, i < qs.length -> 0 <= qPts qs i /\ qPts qs i <= 20) (h2 : ∀ i, i < qs.length -> 0 <= qMin qs i /\ qMin qs i <= 20) : ∀ n i l (m : Int), i + n <= qs.length -> l.length = np -> (∀ p, p < l.length -> -m <= num l p /\ num l p <= m) -> ∀ p, p < np -> -(m + 20 * n) <= num (addW qs sh u b i n l) p /\ num (addW qs sh u b i n l) p <= m + 20 * n
 | 0, i, l, m, hi, hl, h, p, hpn => by
  have := h p (by omega);simp only [addW];omega
 | n + 1, i, l, m, hi, hl, h, p, hpn => by
  have := addW_in (sh := sh) (u := u) (b := b) hp h1 h2 n (i + 1) (stW qs sh u b i l) (m + 20) (by omega) (by rw [stW_len]; exact hl) (stW_in (by rw [hl]; exact hp i (by omega)) (h1 i (by omega)) (h2 i (by omega)) h) p hpn;simp only [addW];omega
end Sp
def Xjb [InW] (e : List Ed) (K : Nat -> List Ed -> Prop) : Prop := match e with
 | [.i b, .ro _ qs', .i n, .i i, .ro _ qs, .ro _ ps, .i all, .ro _ sh, .l u, .l l] => Pre (qs'.xs = qs.xs /\ n = qs.xs.length /\ 0 <= i /\ i <= qs.xs.length /\ 0 <= b /\ Sp.KeyOk qs.xs ps.xs all /\ Sp.SeOk qs.xs sh.xs u /\ l.length = ps.xs.length /\ ∀ p, p < l.length -> -(20 * i) <= Sp.num l p /\ Sp.num l p <= 20 * i) (K 0 [.i b, .ro _ qs, .ro _ ps, .i all, .ro _ sh, .l u, .l (Sp.addW qs.xs sh.xs u b i.toNat (qs.xs.length - i.toNat) l)])
 | _ => False
def T44 : Tab Try.prog := ⟨[], [], [ceOf Xq Xh9]⟩
def Xkb : LC where
 len := 56
 T := [(0, (.ptr 1 0)), (1, .int .i64), (5, (.row 3)), (19, .rs Iv5), (20, .int .i64), (21, .int .i64)]
 H := [(1, .blk 89 [.rs Iv5, .rs Jc, .int .i64, .rs Jb, (.row 4)]), (4, .arr 44 Ja), (3, .arr 3 Jc)]
 W := ([6, 7] ++ rg 22 33)
 outs := [⟨.exit 0, [(0, (.ptr 1 0)), (1, .int .i64), (5, (.row 6))], [(1, .blk 89 [.rs Iv5, .rs Jc, .int .i64, .rs Jb, (.row 4)]), (4, .arr 44 Ja), (6, .arr 3 Jc)], ([6, 7] ++ rg 19 36)⟩]
 spec := Xjb
def Zdu [W : InW] (qz : Ro Iv5) (i : Int) (l : Dt) := decide ((0 : Int) <= (cel qz.xs i.toNat Zd).int) && decide ((cel qz.xs i.toNat Zd).int < (↑(l.length) : Int))
def Zdv [W : InW] (qz : Ro Iv5) (i : Int) (l : Dt) := decide ((cel qz.xs i.toNat Zd).int.toNat < l.length)
def Zdw := [Ty.sl [Ty.int IntKind.i64]]
def Xis [W : InW] (b : Int) (qz : Ro Iv5) (n i : Int) (qs : Ro Iv5) (ps : Ro Jc) (all : Int) (sh : Ro Jb) (u l : Dt) (A : List Ed -> Prop) (K : Nat -> List Ed -> Prop) : Prop :=
 Vif (decide (i < n)) (Need (decide (0 <= i) && decide (i < (↑(qz.xs.length) : Int))) (Need (decide (i.toNat < qz.xs.length)) (Pre (0 <= i /\ i < (↑(sh.xs.length) : Int) /\ 0 <= b /\ Sp.UqOk u i (List.length (Sp.row sh.xs i.toNat))) (Vif (decide (Sp.ansX (Sp.rowW sh.xs u i b) = (cel qz.xs i.toNat (Zd + 1 + 1)).int)) (Need (Zdu qz i l) (Need (Zdv qz i l) (Ar .i64 ((cel l (cel qz.xs i.toNat Zd).int.toNat Zd).int + (cel qz.xs i.toNat (Zd + 1 + 1 + 1)).int) fun z => Need (Zdu qz i l) (Need (Zdv qz i l) (Ar .i64 (i + 1) fun z_1 => A [.i b, .ro _ qz, .i n, .i z_1, .ro _ qs, .ro _ ps, .i all, .ro Zdw sh, .l u, .l (List.set l (cel qz.xs i.toNat Zd).int.toNat [Cl.i z])]))))) (Vif (decide (Sp.ansX (Sp.rowW sh.xs u i b) = (-1 : Int))) (Ar .i64 (i + 1) fun z => A [.i b, .ro _ qz, .i n, .i z, .ro _ qs, .ro _ ps, .i all, .ro Zdw sh, .l u, .l l]) (Need (Zdu qz i l) (Need (Zdv qz i l) (Ar .i64 ((cel l (cel qz.xs i.toNat Zd).int.toNat Zd).int - (cel qz.xs i.toNat (Zd + 1 + 1 + 1 + 1)).int) fun z => Need (Zdu qz i l) (Need (Zdv qz i l) (Ar .i64 (i + 1) fun z_1 => A [.i b, .ro _ qz, .i n, .i z_1, .ro _ qs, .ro _ ps, .i all, .ro Zdw sh, .l u, .l (List.set l (cel qz.xs i.toNat Zd).int.toNat [Cl.i z])])))))))))) (K 0 [.i b, .ro _ qs, .ro _ ps, .i all, .ro Zdw sh, .l u, .l l])
theorem Xn3 (W : InW) (b qz n i qs ps all sh u l A K) : Yfc { cxT Try.prog TT T44 1000 50 with fn := 55 } 1000 (Yn8 Try.prog 55 4) (Yd8 56 [(0, .ptr 1 0), (1, .si .i64 b), (5, .rw 3), (19, .rs _ qz), (20, .si .i64 n), (21, .si .i64 i)] ([6, 7] ++ rg 22 33)) [(1, .blk 89 [.rs _ qs, .rs _ ps, .si .i64 all, .rs _ sh, .rw 4]), (4, .arr 44 Ja u), (3, .arr 3 Jc l)] (Yug Xkb A K) = Xis b qz n i qs ps all sh u l A K := by kernel_rfl
def Xh3 : Prop := ∀ (W : InW) (body a : Code), (Try.prog.funcs[55]?).bind (·.body) = some body -> a ∈ Y0 body -> Yfw a = 4 -> @Ymr W Try.prog a (@Yto W Xkb)
theorem Xon (meas : [InW] -> List Ed -> Nat) (hyp_ : ∀ (W : InW) b qz n i qs ps all sh u l K, Xjb [.i b, .ro _ qz, .i n, .i i, .ro _ qs, .ro _ ps, .i all, .ro _ sh, .l u, .l l] K -> ∀ A : List Ed -> Prop, (∀ e, meas e < meas [.i b, .ro _ qz, .i n, .i i, .ro _ qs, .ro _ ps, .i all, .ro _ sh, .l u, .l l] -> Xjb e K -> A e) -> Xis b qz n i qs ps all sh u l A K) : Xh3 :=
 LE.okOf' (fun W => @TT W) (fun W => @Xe W) Xa T44 1000 50 (by kernel_rfl) Xkb (fun W => @meas W) fun W b qz n i qs ps all sh u l K hs =>
  (Xn3 W b qz n i qs ps all sh u l (fun e => meas e < meas [.i b, .ro _ qz, .i n, .i i, .ro _ qs, .ro _ ps, .i all, .ro _ sh, .l u, .l l] /\ Xjb e K) K).mpr (hyp_ W b qz n i qs ps all sh u l K hs _ fun e h1 h2 => ⟨h1, h2⟩)
theorem okLpw : Xh3 := Xon (fun e => match e with | [_, _, .i n, .i i, _, _, _, _, _, _] => (n - i).toNat | _ => 0) fun W b qz n i qs ps all sh u l K hs A hA => by
 obtain ⟨⟨hq, rfl, h0, h1, hb, hkey, hse, hl, hin⟩, hk⟩ := hs;unfold Xis;delta Zdv Zdu Zdw Zd;simp only [hq];have n2 := hkey.n2;have ez : (i + 1).toNat = i.toNat + 1 := by omega
 have ei : ((i.toNat : Nat) : Int) = i := Int.toNat_of_nonneg h0
 by_cases hi : i < qs.xs.length
 ·have hn := hse.n;have huq := hse.uq i.toNat (by omega);rw [ei] at huq;have hp := hkey.part i.toNat (by omega);have hpt := hkey.pts i.toNat (by omega);have hmn := hkey.minus i.toNat (by omega);have hv := hin (Sp.qPart qs.xs i.toNat).toNat (by omega);rw [show qs.xs.length - i.toNat = (qs.xs.length - (i.toNat + 1)) + 1 by omega] at hk;simp only [Sp.addW] at hk;have hA' := hA [.i b, .ro _ qz, .i qs.xs.length, .i (i + 1), .ro _ qs, .ro _ ps, .i all, .ro _ sh, .l u, .l (Sp.stW qs.xs sh.xs u b i.toNat l)] (show ((qs.xs.length : Int) - (i + 1)).toNat < ((qs.xs.length : Int) - i).toNat by omega) ⟨⟨hq, rfl, by omega, by omega, hb, hkey, hse, by rw [Sp.stW_len]; exact hl, fun p hp2 => by
   have := Sp.stW_in (qs := qs.xs) (sh := sh.xs) (u := u) (b := b) (m := 20 * i) (i := i.toNat) (by omega) hpt hmn hin p hp2;omega⟩, by rw [ez]; exact hk⟩
  clear hA hk;unfold Sp.stW Sp.anW at hA';rw [ei] at hA';simp only [Nat.zero_add, Nat.reduceAdd, show (cel qs.xs i.toNat 0).int = Sp.qPart qs.xs i.toNat from rfl, show (cel qs.xs i.toNat 2).int = Sp.qRight qs.xs i.toNat from rfl, show (cel qs.xs i.toNat 3).int = Sp.qPts qs.xs i.toNat from rfl, show (cel qs.xs i.toNat 4).int = Sp.qMin qs.xs i.toNat from rfl, show ∀ k, (cel l k 0).int = Sp.num l k from fun _ => rfl];generalize Sp.ansX (Sp.rowW sh.xs u i b) = r at *
  by_cases c : r = Sp.qRight qs.xs i.toNat
  ·rw [if_pos c] at hA'
   repeat' (first | (with_reducible refine Xb ⟨by omega, by omega, hb, huq⟩ ?_) | omega|intro _|with_reducible first|apply vifd|apply vifn|apply vifq|apply Xd|apply Xc|apply vifb|apply vif|apply nedd|apply ned2|apply ned|apply ar64|apply Xb|exact True.intro|assumption|rfl|apply And.intro)
   all_goals first | contradiction | exact hA' | skip
  ·rw [if_neg c] at hA'
   by_cases c2 : r = -1
   ·rw [if_pos c2] at hA'
    repeat' (first | (with_reducible refine Xb ⟨by omega, by omega, hb, huq⟩ ?_) | omega|intro _|with_reducible first|apply vifd|apply vifn|apply vifq|apply Xd|apply Xc|apply vifb|apply vif|apply nedd|apply ned2|apply ned|apply ar64|apply Xb|exact True.intro|assumption|rfl|apply And.intro)
    all_goals first | contradiction | exact hA' | skip
   ·rw [if_neg c2] at hA'
    repeat' (first | (with_reducible refine Xb ⟨by omega, by omega, hb, huq⟩ ?_) | omega|intro _|with_reducible first|apply vifd|apply vifn|apply vifq|apply Xd|apply Xc|apply vifb|apply vif|apply nedd|apply ned2|apply ned|apply ar64|apply Xb|exact True.intro|assumption|rfl|apply And.intro)
    all_goals first | contradiction | exact hA' | skip
 ·rw [show qs.xs.length - i.toNat = 0 by omega] at hk;simp only [Sp.addW] at hk;clear hA
  repeat' (first | omega|intro _|with_reducible first|apply vifd|apply vifn|apply vifq|apply Xd|apply Xc|apply vifb|apply vif|apply nedd|apply ned2|apply ned|apply ar64|apply Xb|exact True.intro|assumption|rfl|apply And.intro)
  all_goals exact hk
def le_pw : LE Try.prog := ⟨55, 4, fun W => @Yto W Xkb, okLpw⟩
def T45 : Tab Try.prog := ⟨[], [le_pw], [ceOf Xq Xh9]⟩
def Xkj [InW] (e : List Ed) (K : Nat -> List Ed -> Prop) : Prop := match e with
 | [.i b, .ro _ qs, .ro _ ps, .i all, .ro _ sh, .l u] => Pre (0 <= b /\ Sp.KeyOk qs.xs ps.xs all /\ Sp.SeOk qs.xs sh.xs u) (K 0 [.ro _ qs, .ro _ ps, .i all, .ro _ sh, .l u, .l (Sp.mkW qs.xs ps.xs sh.xs u b)])
 | _ => False
def Xp : CC where
 g := 55
 args := [(.ptr 1 0), .int .i64]
 H := [(1, .blk 89 [.rs Iv5, .rs Jc, .int .i64, .rs Jb, (.row 4)]), (4, .arr 44 Ja)]
 outs := [⟨false, (.row 6), [(1, .blk 89 [.rs Iv5, .rs Jc, .int .i64, .rs Jb, (.row 4)]), (4, .arr 44 Ja), (6, .arr 3 Jc)], false⟩]
 spec := Xkj
def Zdx [W : InW] (ps : Ro Jc) := List.replicate (↑(ps.xs.length) : Int).toNat (Ybr [Ty.int IntKind.i64])
def Xep [W : InW] (b : Int) (qs : Ro Iv5) (ps : Ro Jc) (all : Int) (sh : Ro Jb) (u : Dt) (K : Nat -> List Ed -> Prop) : Prop :=
 Need (decide ((↑(ps.xs.length) : Int) = (↑(ps.xs.length) : Int)) && decide (Zb <= (↑(ps.xs.length) : Int)) && decide ((8 : Nat) * (↑(ps.xs.length) : Int).toNat <= 281474976710656)) (Pre (qs.xs = qs.xs /\ (↑(qs.xs.length) : Int) = (↑(qs.xs.length) : Int) /\ Zb <= 0 /\ Zb <= (↑(qs.xs.length) : Int) /\ 0 <= b /\ Sp.KeyOk qs.xs ps.xs all /\ Sp.SeOk qs.xs sh.xs u /\ (Zdx ps).length = ps.xs.length /\ ∀ (p : Nat), p < (Zdx ps).length -> -((20 : Int) * 0) <= Sp.num (Zdx ps) p /\ Sp.num (Zdx ps) p <= 20 * 0) (K 0 [.ro _ qs, .ro _ ps, .i all, .ro Zdw sh, .l u, .l (Sp.addW qs.xs sh.xs u b (Int.toNat Zb) (qs.xs.length - Int.toNat Zb) (Zdx ps))]))
theorem Xln (W : InW) (b qs ps all sh u K) : Ywu (cxT Try.prog TT T45 1000 50) 1000 55 [.ptr 1 0, .si .i64 b] [(1, .blk 89 [.rs _ qs, .rs _ ps, .si .i64 all, .rs _ sh, .rw 4]), (4, .arr 44 Ja u)] (fun v h => outC Xp.H [.ro _ qs, .ro _ ps, .i all, .ro _ sh, .l u] Xp.outs 0 false v h K) (fun v h => outC Xp.H [.ro _ qs, .ro _ ps, .i all, .ro _ sh, .l u] Xp.outs 0 true v h K) = Xep b qs ps all sh u K := by kernel_rfl
theorem Xm8 (hyp_ : ∀ (W : InW) b qs ps all sh u K, Xkj [.i b, .ro _ qs, .ro _ ps, .i all, .ro _ sh, .l u] K -> Xep b qs ps all sh u K) : ∀ W : InW, @CallC W Try.prog Xp :=
 CC.okOf (fun W => @TT W) (fun W => @Xe W) Xa T45 1000 50 Xp fun W b qs ps all sh u K hs => (Xln W b qs ps all sh u K).mpr (hyp_ W b qs ps all sh u K hs)
theorem Xh8 : ∀ W : InW, @CallC W Try.prog Xp := Xm8 fun W b qs ps all sh u K hs => by
 obtain ⟨⟨hb, hkey, hse⟩, hk⟩ := hs;have p2 := hkey.p2;unfold Xep;delta Zdx Zb Zdw;simp only [show Int.toNat 0 = 0 from rfl, Nat.sub_zero, Int.toNat_natCast, show Ybr [.int .i64] = [Cl.i 0] from rfl];unfold Sp.mkW at hk;refine ned (by simp; omega) ⟨⟨trivial, trivial, by omega, by omega, hb, hkey, hse, by simp, fun p _ => by rw [Sp.num_rep]; omega⟩, ?_⟩;exact hk
def Xjc [InW] (e : List Ed) (K : Nat -> List Ed -> Prop) : Prop := match e with
 | [.i n, .i i, .ro _ qs, .ro _ ps, .i all, .ro _ sh, .l u, .l l] => Pre (n = l.length /\ 0 <= i /\ i <= l.length /\ l.length = ps.xs.length /\ l.length <= 4) (Vif (Sp.partsOk l ps.xs i.toNat (l.length - i.toNat)) (K 0 [.ro _ qs, .ro _ ps, .i all, .ro _ sh, .l u, .l l]) (K 1 [.ro _ qs, .ro _ ps, .i all, .ro _ sh, .l u]))
 | _ => False
def Xkc : LC where
 len := 37
 T := [(0, (.ptr 1 0)), (5, (.row 7)), (11, (.row 7)), (12, .int .i64), (13, .int .i64)]
 H := [(1, .blk 89 [.rs Iv5, .rs Jc, .int .i64, .rs Jb, (.row 4)]), (4, .arr 44 Ja), (7, .arr 3 Jc)]
 W := ([4, 6, 7] ++ rg 14 15)
 outs := [⟨.exit 0, [(0, (.ptr 1 0)), (5, (.row 7))], [(1, .blk 89 [.rs Iv5, .rs Jc, .int .i64, .rs Jb, (.row 4)]), (4, .arr 44 Ja), (7, .arr 3 Jc)], ([4, 6, 7] ++ rg 11 18)⟩, ⟨.ret, [(0, (.ptr 1 0)), (4, (.lit (.bool false)))], [(1, .blk 89 [.rs Iv5, .rs Jc, .int .i64, .rs Jb, (.row 4)]), (4, .arr 44 Ja)], ([5, 6, 7] ++ rg 11 18)⟩]
 spec := Xjc
def Xit [W : InW] (n i : Int) (qs : Ro Iv5) (ps : Ro Jc) (all : Int) (sh : Ro Jb) (u l : Dt) (A : List Ed -> Prop) (K : Nat -> List Ed -> Prop) : Prop :=
 Vif (decide (i < n)) (Need (decide (0 <= i) && decide (i < (↑(l.length) : Int))) (Need (decide (i.toNat < l.length)) (Need (decide (0 <= i) && decide (i < (↑(ps.xs.length) : Int))) (Need (decide (i.toNat < ps.xs.length)) (Vif (decide ((cel l i.toNat (0 : Nat)).int < (cel ps.xs i.toNat (0 : Nat)).int)) (K (0+1) [.ro _ qs, .ro _ ps, .i all, .ro Zdw sh, .l u]) (Ar .i64 (i + 1) fun z => A [.i n, .i z, .ro _ qs, .ro _ ps, .i all, .ro Zdw sh, .l u, .l l])))))) (K 0 [.ro _ qs, .ro _ ps, .i all, .ro Zdw sh, .l u, .l l])
theorem Xn4 (W : InW) (n i qs ps all sh u l A K) : Yfc { cxT Try.prog TT T0 1000 50 with fn := 56 } 1000 (Yn8 Try.prog 56 4) (Yd8 37 [(0, .ptr 1 0), (5, .rw 7), (11, .rw 7), (12, .si .i64 n), (13, .si .i64 i)] ([4, 6, 7] ++ rg 14 15)) [(1, .blk 89 [.rs _ qs, .rs _ ps, .si .i64 all, .rs _ sh, .rw 4]), (4, .arr 44 Ja u), (7, .arr 3 Jc l)] (Yug Xkc A K) = Xit n i qs ps all sh u l A K := by kernel_rfl
def Xh4 : Prop := ∀ (W : InW) (body a : Code), (Try.prog.funcs[56]?).bind (·.body) = some body -> a ∈ Y0 body -> Yfw a = 4 -> @Ymr W Try.prog a (@Yto W Xkc)
theorem Xoo (meas : [InW] -> List Ed -> Nat) (hyp_ : ∀ (W : InW) n i qs ps all sh u l K, Xjc [.i n, .i i, .ro _ qs, .ro _ ps, .i all, .ro _ sh, .l u, .l l] K -> ∀ A : List Ed -> Prop, (∀ e, meas e < meas [.i n, .i i, .ro _ qs, .ro _ ps, .i all, .ro _ sh, .l u, .l l] -> Xjc e K -> A e) -> Xit n i qs ps all sh u l A K) : Xh4 :=
 LE.okOf' (fun W => @TT W) (fun W => @Xe W) Xa T0 1000 50 (by kernel_rfl) Xkc (fun W => @meas W) fun W n i qs ps all sh u l K hs =>
  (Xn4 W n i qs ps all sh u l (fun e => meas e < meas [.i n, .i i, .ro _ qs, .ro _ ps, .i all, .ro _ sh, .l u, .l l] /\ Xjc e K) K).mpr (hyp_ W n i qs ps all sh u l K hs _ fun e h1 h2 => ⟨h1, h2⟩)
theorem okLpl : Xh4 := Xoo (fun e => match e with | [.i n, .i i, _, _, _, _, _, _] => (n - i).toNat | _ => 0) fun W n i qs ps all sh u l K hs A hA => by
 obtain ⟨⟨rfl, h0, h1, hl, h4⟩, hk⟩ := hs;unfold Xit;delta Zdw;simp only [show ∀ k, (cel l k 0).int = Sp.num l k from fun _ => rfl, show ∀ k, (cel ps.xs k 0).int = Sp.num ps.xs k from fun _ => rfl];have ez : (i + 1).toNat = i.toNat + 1 := by omega
 by_cases hi : i < l.length
 ·rw [show l.length - i.toNat = (l.length - (i.toNat + 1)) + 1 by omega] at hk;simp only [Sp.partsOk, Sp.allF] at hk
  by_cases c : Sp.num ps.xs i.toNat <= Sp.num l i.toNat
  ·rw [decide_eq_true c, Bool.true_and] at hk;have hA' := hA [.i l.length, .i (i + 1), .ro _ qs, .ro _ ps, .i all, .ro _ sh, .l u, .l l] (show ((l.length : Int) - (i + 1)).toNat < ((l.length : Int) - i).toNat by omega) ⟨⟨rfl, by omega, by omega, hl, h4⟩, by rw [ez]; exact hk⟩;clear hA hk
   repeat' (first | omega|intro _|with_reducible first|apply vifd|apply vifn|apply vifq|apply Xd|apply Xc|apply vifb|apply vif|apply nedd|apply ned2|apply ned|apply ar64|apply Xb|exact True.intro|assumption|rfl|apply And.intro)
   all_goals first | contradiction | exact hA' | skip
  ·rw [decide_eq_false c, Bool.false_and] at hk;have hk := hk.2 rfl;clear hA
   repeat' (first | omega|intro _|with_reducible first|apply vifd|apply vifn|apply vifq|apply Xd|apply Xc|apply vifb|apply vif|apply nedd|apply ned2|apply ned|apply ar64|apply Xb|exact True.intro|assumption|rfl|apply And.intro)
   all_goals first | contradiction | exact hk | skip
 ·rw [show l.length - i.toNat = 0 by omega] at hk;simp only [Sp.partsOk, Sp.allF] at hk;have hk := hk.1 rfl;clear hA
  repeat' (first | omega|intro _|with_reducible first|apply vifd|apply vifn|apply vifq|apply Xd|apply Xc|apply vifb|apply vif|apply nedd|apply ned2|apply ned|apply ar64|apply Xb|exact True.intro|assumption|rfl|apply And.intro)
  all_goals exact hk
def le_pl : LE Try.prog := ⟨56, 4, fun W => @Yto W Xkc, okLpl⟩
namespace Sp
def psW (qs ps : Dt) (all : Int) (sh u : Dt) (b : Int) : Bool := passOf all ps (mkW qs ps sh u b)
theorem mkW_len (qs ps sh u : Dt) (b : Int) : (mkW qs ps sh u b).length = ps.length := by unfold mkW; rw [addW_len, List.length_replicate]
theorem mkW_low {qs ps sh u : Dt} {all b : Int} (hk : KeyOk qs ps all) : Low (mkW qs ps sh u b) := by
 have h1 := hk.p2;have h2 := hk.n2;refine ⟨by rw [mkW_len]; omega, fun i hi => ?_⟩;rw [mkW_len] at hi;have := addW_in (sh := sh) (u := u) (b := b) hk.part hk.pts hk.minus qs.length 0 (List.replicate ps.length [.i 0]) 0 (by omega) (by simp) (fun p _ => by rw [num_rep]; omega) i hi;unfold mkW;omega
end Sp
def T46 : Tab Try.prog := ⟨[Xob], [le_pl], [ceOf Xp Xh8]⟩
def Xkk [InW] (e : List Ed) (K : Nat -> List Ed -> Prop) : Prop := match e with
 | [.i b, .ro _ qs, .ro _ ps, .i all, .ro _ sh, .l u] => Pre (0 <= b /\ Sp.KeyOk qs.xs ps.xs all /\ Sp.SeOk qs.xs sh.xs u) (K 0 [.b (Sp.psW qs.xs ps.xs all sh.xs u b), .ro _ qs, .ro _ ps, .i all, .ro _ sh, .l u])
 | _ => False
def Xx : CC where
 g := 56
 args := [(.ptr 1 0), .int .i64]
 H := [(1, .blk 89 [.rs Iv5, .rs Jc, .int .i64, .rs Jb, (.row 4)]), (4, .arr 44 Ja)]
 outs := [⟨false, .bool, [(1, .blk 89 [.rs Iv5, .rs Jc, .int .i64, .rs Jb, (.row 4)]), (4, .arr 44 Ja)], false⟩]
 spec := Xkk
def Xeq [W : InW] (b : Int) (qs : Ro Iv5) (ps : Ro Jc) (all : Int) (sh : Ro Jb) (u : Dt) (K : Nat -> List Ed -> Prop) : Prop :=
 Pre (0 <= b /\ Sp.KeyOk qs.xs ps.xs all /\ Sp.SeOk qs.xs sh.xs u) (Pre ((↑(List.length (Sp.mkW qs.xs ps.xs sh.xs u b)) : Int) = (↑(List.length (Sp.mkW qs.xs ps.xs sh.xs u b)) : Int) /\ Zb <= 0 /\ Zb <= (↑(List.length (Sp.mkW qs.xs ps.xs sh.xs u b)) : Int) /\ List.length (Sp.mkW qs.xs ps.xs sh.xs u b) = ps.xs.length /\ List.length (Sp.mkW qs.xs ps.xs sh.xs u b) <= 4) (Vif (Sp.partsOk (Sp.mkW qs.xs ps.xs sh.xs u b) ps.xs (Int.toNat Zb) (List.length (Sp.mkW qs.xs ps.xs sh.xs u b) - Int.toNat Zb)) (Pre (Sp.Low (Sp.mkW qs.xs ps.xs sh.xs u b)) (K 0 [.b (decide (all <= Sp.total (Sp.mkW qs.xs ps.xs sh.xs u b))), .ro _ qs, .ro _ ps, .i all, .ro Zdw sh, .l u])) (K 0 [.b false, .ro _ qs, .ro _ ps, .i all, .ro Zdw sh, .l u])))
theorem Xlo (W : InW) (b qs ps all sh u K) : Ywu (cxT Try.prog TT T46 1000 50) 1000 56 [.ptr 1 0, .si .i64 b] [(1, .blk 89 [.rs _ qs, .rs _ ps, .si .i64 all, .rs _ sh, .rw 4]), (4, .arr 44 Ja u)] (fun v h => outC Xx.H [.ro _ qs, .ro _ ps, .i all, .ro _ sh, .l u] Xx.outs 0 false v h K) (fun v h => outC Xx.H [.ro _ qs, .ro _ ps, .i all, .ro _ sh, .l u] Xx.outs 0 true v h K) = Xeq b qs ps all sh u K := by kernel_rfl
theorem Xm9 (hyp_ : ∀ (W : InW) b qs ps all sh u K, Xkk [.i b, .ro _ qs, .ro _ ps, .i all, .ro _ sh, .l u] K -> Xeq b qs ps all sh u K) : ∀ W : InW, @CallC W Try.prog Xx :=
 CC.okOf (fun W => @TT W) (fun W => @Xe W) Xa T46 1000 50 Xx fun W b qs ps all sh u K hs => (Xlo W b qs ps all sh u K).mpr (hyp_ W b qs ps all sh u K hs)
theorem Xks : ∀ W : InW, @CallC W Try.prog Xx := Xm9 fun W b qs ps all sh u K hs => by
 obtain ⟨⟨hb, hkey, hse⟩, hk⟩ := hs;have p2 := hkey.p2;have hl := Sp.mkW_len qs.xs ps.xs sh.xs u b;unfold Xeq;delta Zdw Zb;unfold Sp.psW Sp.passOf at hk;simp only [show Int.toNat 0 = 0 from rfl, Nat.sub_zero];refine ⟨⟨hb, hkey, hse⟩, ⟨⟨trivial, by omega, by omega, hl, by omega⟩, vif (fun e => ?_) fun e => ?_⟩⟩
 ·rw [e, Bool.and_true] at hk;exact ⟨Sp.mkW_low hkey, hk⟩
 ·rw [e, Bool.and_false] at hk;exact hk
def Xe4 [InW] (e : List Ed) (K : Nat -> List Ed -> Prop) : Prop := match e with
 | [.i q, .ro _ bx, .i n, .i j, .ro _ qz, .ro _ pz, .i az, .ro _ sh, .l acc] => Pre (n = bx.xs.length /\ 0 <= j /\ j <= n /\ 0 <= q /\ q <= 12 /\ n <= 4 /\ (acc.length : Int) <= 4 * q + j) (K 0 [.i q, .ro _ qz, .ro _ pz, .i az, .ro _ sh, .l (acc ++ Sp.unsRow bx.xs q j.toNat (bx.xs.length - j.toNat))])
 | _ => False
def Xgu : LC where
 len := 71
 T := [(6, (.ptr 7 0)), (7, .int .i64), (41, .rs Jc), (42, .int .i64), (43, .int .i64)]
 H := [(7, .blk 89 [.rs Iv5, .rs Jc, .int .i64, .rs Jb, (.row 6)]), (6, .arr 44 Ja)]
 W := ([9, 10] ++ rg 44 19)
 outs := [⟨.exit 3, [(6, (.ptr 7 0)), (7, .int .i64)], [(7, .blk 89 [.rs Iv5, .rs Jc, .int .i64, .rs Jb, (.row 9)]), (9, .arr 44 Ja)], ([9, 10] ++ rg 41 22)⟩]
 spec := Xe4
def Xd7 [W : InW] (q : Int) (bx : Ro Jc) (n j : Int) (qz : Ro Iv5) (pz : Ro Jc) (az : Int) (sh : Ro Jb) (acc : Dt) (A : List Ed -> Prop) (K : Nat -> List Ed -> Prop) : Prop :=
 Vif (decide (j < n)) (Need (decide (0 <= j) && decide (j < (↑(bx.xs.length) : Int))) (Need (decide (j.toNat < bx.xs.length)) (Vif (decide ((cel bx.xs j.toNat (0 : Nat)).int = 2)) (Need (decide ((acc.length + [[Cl.i q, Cl.i j]].length) * 16 <= 140737488355328)) (Ar .i64 (j + 1) fun z => A [.i q, .ro _ bx, .i n, .i z, .ro _ qz, .ro _ pz, .i az, .ro Zdw sh, .l (acc ++ [[Cl.i q, Cl.i j]])])) (Ar .i64 (j + 1) fun z => A [.i q, .ro _ bx, .i n, .i z, .ro _ qz, .ro _ pz, .i az, .ro Zdw sh, .l acc])))) (K 0 [.i q, .ro _ qz, .ro _ pz, .i az, .ro Zdw sh, .l acc])
theorem Xk5 (W : InW) (q bx n j qz pz az sh acc A K) : Yfc { cxT Try.prog TT T0 1000 50 with fn := 76 } 1000 (Yn8 Try.prog 76 13) (Yd8 71 [(6, .ptr 7 0), (7, .si .i64 q), (41, .rs _ bx), (42, .si .i64 n), (43, .si .i64 j)] ([9, 10] ++ rg 44 19)) [(7, .blk 89 [.rs _ qz, .rs _ pz, .si .i64 az, .rs _ sh, .rw 6]), (6, .arr 44 Ja acc)] (Yug Xgu A K) = Xd7 q bx n j qz pz az sh acc A K := by kernel_rfl
def Xf3 : Prop := ∀ (W : InW) (body a : Code), (Try.prog.funcs[76]?).bind (·.body) = some body -> a ∈ Y0 body -> Yfw a = 13 -> @Ymr W Try.prog a (@Yto W Xgu)
theorem Xmq (meas : [InW] -> List Ed -> Nat) (hyp_ : ∀ (W : InW) q bx n j qz pz az sh acc K, Xe4 [.i q, .ro _ bx, .i n, .i j, .ro _ qz, .ro _ pz, .i az, .ro _ sh, .l acc] K -> ∀ A : List Ed -> Prop, (∀ e, meas e < meas [.i q, .ro _ bx, .i n, .i j, .ro _ qz, .ro _ pz, .i az, .ro _ sh, .l acc] -> Xe4 e K -> A e) -> Xd7 q bx n j qz pz az sh acc A K) : Xf3 :=
 LE.okOf' (fun W => @TT W) (fun W => @Xe W) Xa T0 1000 50 (by kernel_rfl) Xgu (fun W => @meas W) fun W q bx n j qz pz az sh acc K hs =>
  (Xk5 W q bx n j qz pz az sh acc (fun e => meas e < meas [.i q, .ro _ bx, .i n, .i j, .ro _ qz, .ro _ pz, .i az, .ro _ sh, .l acc] /\ Xe4 e K) K).mpr (hyp_ W q bx n j qz pz az sh acc K hs _ fun e h1 h2 => ⟨h1, h2⟩)
theorem Xo6 : Xf3 := Xmq (fun e => match e with | [_, _, .i n, .i j, _, _, _, _, _] => (n - j).toNat | _ => 0) fun W q bx n j qz pz az sh acc K hs A hA => by
 obtain ⟨⟨rfl, h0, h1, h2, h3, h4, h5⟩, hk⟩ := hs;unfold Xd7;delta Zdw;simp only [List.length_cons, List.length_nil];have ez : (j + 1).toNat = j.toNat + 1 := by omega
 have ej : ((j.toNat : Nat) : Int) = j := Int.toNat_of_nonneg h0
 by_cases hj : j < bx.xs.length
 ·rw [show bx.xs.length - j.toNat = (bx.xs.length - (j.toNat + 1)) + 1 by omega] at hk;simp only [Sp.unsRow, Sp.bx, ej] at hk
  by_cases c : (cel bx.xs j.toNat 0).int = 2
  ·simp only [c, if_true] at hk;rw [<- List.append_assoc] at hk;have hA' := hA [.i q, .ro _ bx, .i bx.xs.length, .i (j + 1), .ro _ qz, .ro _ pz, .i az, .ro _ sh, .l (acc ++ [[.i q, .i j]])] (show ((bx.xs.length : Int) - (j + 1)).toNat < ((bx.xs.length : Int) - j).toNat by omega) ⟨⟨rfl, by omega, by omega, h2, h3, h4, by simp; omega⟩, by rw [ez]; exact hk⟩;clear hA hk
   repeat' (first | omega|intro _|with_reducible first|apply vifd|apply vifn|apply vifq|apply Xd|apply Xc|apply vifb|apply vif|apply nedd|apply ned2|apply ned|apply ar64|apply Xb|exact True.intro|assumption|rfl|apply And.intro)
   all_goals first | contradiction | exact hA' | skip
  ·simp only [c, if_false, List.nil_append] at hk;have hA' := hA [.i q, .ro _ bx, .i bx.xs.length, .i (j + 1), .ro _ qz, .ro _ pz, .i az, .ro _ sh, .l acc] (show ((bx.xs.length : Int) - (j + 1)).toNat < ((bx.xs.length : Int) - j).toNat by omega) ⟨⟨rfl, by omega, by omega, h2, h3, h4, by omega⟩, by rw [ez]; exact hk⟩;clear hA hk
   repeat' (first | omega|intro _|with_reducible first|apply vifd|apply vifn|apply vifq|apply Xd|apply Xc|apply vifb|apply vif|apply nedd|apply ned2|apply ned|apply ar64|apply Xb|exact True.intro|assumption|rfl|apply And.intro)
   all_goals first | contradiction | exact hA' | skip
 ·rw [show bx.xs.length - j.toNat = 0 by omega] at hk;simp only [Sp.unsRow, List.append_nil] at hk;clear hA
  repeat' (first | omega|intro _|with_reducible first|apply vifd|apply vifn|apply vifq|apply Xd|apply Xc|apply vifb|apply vif|apply nedd|apply ned2|apply ned|apply ar64|apply Xb|exact True.intro|assumption|rfl|apply And.intro)
  all_goals exact hk
def Xp1 : LE Try.prog := ⟨76, 13, fun W => @Yto W Xgu, Xo6⟩
def T47 : Tab Try.prog := ⟨[Xcz], [Xp1], []⟩
def Xe3 [InW] (e : List Ed) (K : Nat -> List Ed -> Prop) : Prop := match e with
 | [.ro _ s2, .i n, .i i, .ro _ qs, .ro _ ps, .i all, .ro _ qz, .ro _ pz, .i az, .ro _ sh, .l acc] => Pre (n = s2.xs.length /\ 0 <= i /\ i <= n /\ s2.xs.length = qs.xs.length /\ Sp.KeyOk qs.xs ps.xs all /\ (acc.length : Int) <= 4 * i) (Vif (Sp.hasE (Sp.rowE qs.xs s2.xs) i.toNat (s2.xs.length - i.toNat)) (K 1 [.i (Sp.rowE qs.xs s2.xs (Sp.idxE (Sp.rowE qs.xs s2.xs) i.toNat (s2.xs.length - i.toNat)))]) (K 0 [.ro _ qz, .ro _ pz, .i az, .ro _ sh, .l (acc ++ Sp.unsAll s2.xs i.toNat (s2.xs.length - i.toNat))]))
 | _ => False
def Xgt : LC where
 len := 71
 T := [(2, (.ptr 1 0)), (6, (.ptr 7 0)), (21, .rs Jb), (22, .int .i64), (23, .int .i64)]
 H := [(1, .blk 25 [.rs Iv5, .rs Jc, .int .i64]), (7, .blk 89 [.rs Iv5, .rs Jc, .int .i64, .rs Jb, (.row 6)]), (6, .arr 44 Ja)]
 W := ([4, 5] ++ rg 7 4 ++ rg 24 40)
 outs := [⟨.exit 0, [(6, (.ptr 7 0))], [(7, .blk 89 [.rs Iv5, .rs Jc, .int .i64, .rs Jb, (.row 9)]), (9, .arr 44 Ja)], ([2, 4, 5] ++ rg 7 4 ++ rg 21 43)⟩, ⟨.ret, [(4, (.lit (.pointer none))), (5, .int .i64)], [], ([2] ++ rg 6 5 ++ rg 21 43)⟩]
 spec := Xe3
def Zdy [W : InW] (s2 : Ro Jb) (i : Int) := (↑(List.length (cel s2.xs i.toNat Zd).lst) : Int)
def Xd6 [W : InW] (s2 : Ro Jb) (n i : Int) (qs : Ro Iv5) (ps : Ro Jc) (all : Int) (qz : Ro Iv5) (pz : Ro Jc) (az : Int) (sh : Ro Jb) (acc : Dt) (A : List Ed -> Prop) (K : Nat -> List Ed -> Prop) : Prop :=
 Vif (decide (i < n)) (Need (decide (0 <= i) && decide (i < (↑(s2.xs.length) : Int))) (Need (decide (i.toNat < s2.xs.length)) (Need (decide (0 <= i) && decide (i < (↑(qs.xs.length) : Int))) (Need (decide (i.toNat < qs.xs.length)) (Vif (!decide ((Zdy s2 i) = (cel qs.xs i.toNat (0+1)).int)) (K (0+1) [.i (3 : Int)]) (Pre True (Vif (Sp.out Zb (2 : Int) (cel s2.xs i.toNat Zd).lst) (K (0+1) [.i (7 : Int)]) (Pre ((Zdy s2 i) = (Zdy s2 i) /\ Zb <= 0 /\ Zb <= (Zdy s2 i) /\ 0 <= i /\ i <= 12 /\ (Zdy s2 i) <= 4 /\ (↑(acc.length) : Int) <= 4 * i + 0) (Ar .i64 (i + 1) fun z => A [.ro Zdw s2, .i n, .i z, .ro _ qs, .ro _ ps, .i all, .ro _ qz, .ro _ pz, .i az, .ro Zdw sh, .l (acc ++ Sp.unsRow (cel s2.xs i.toNat Zd).lst i (Int.toNat Zb) (List.length (cel s2.xs i.toNat Zd).lst - Int.toNat Zb))]))))))))) (K 0 [.ro _ qz, .ro _ pz, .i az, .ro Zdw sh, .l acc])
theorem Xk4 (W : InW) (s2 n i qs ps all qz pz az sh acc A K) : Yfc { cxT Try.prog TT T47 1000 50 with fn := 76 } 1000 (Yn8 Try.prog 76 6) (Yd8 71 [(2, .ptr 1 0), (6, .ptr 7 0), (21, .rs _ s2), (22, .si .i64 n), (23, .si .i64 i)] ([4, 5] ++ rg 7 4 ++ rg 24 40)) [(1, .blk 25 [.rs _ qs, .rs _ ps, .si .i64 all]), (7, .blk 89 [.rs _ qz, .rs _ pz, .si .i64 az, .rs _ sh, .rw 6]), (6, .arr 44 Ja acc)] (Yug Xgt A K) = Xd6 s2 n i qs ps all qz pz az sh acc A K := by kernel_rfl
def Xf2 : Prop := ∀ (W : InW) (body a : Code), (Try.prog.funcs[76]?).bind (·.body) = some body -> a ∈ Y0 body -> Yfw a = 6 -> @Ymr W Try.prog a (@Yto W Xgt)
theorem Xmp (meas : [InW] -> List Ed -> Nat) (hyp_ : ∀ (W : InW) s2 n i qs ps all qz pz az sh acc K, Xe3 [.ro _ s2, .i n, .i i, .ro _ qs, .ro _ ps, .i all, .ro _ qz, .ro _ pz, .i az, .ro _ sh, .l acc] K -> ∀ A : List Ed -> Prop, (∀ e, meas e < meas [.ro _ s2, .i n, .i i, .ro _ qs, .ro _ ps, .i all, .ro _ qz, .ro _ pz, .i az, .ro _ sh, .l acc] -> Xe3 e K -> A e) -> Xd6 s2 n i qs ps all qz pz az sh acc A K) : Xf2 :=
 LE.okOf' (fun W => @TT W) (fun W => @Xe W) Xa T47 1000 50 (by kernel_rfl) Xgt (fun W => @meas W) fun W s2 n i qs ps all qz pz az sh acc K hs =>
  (Xk4 W s2 n i qs ps all qz pz az sh acc (fun e => meas e < meas [.ro _ s2, .i n, .i i, .ro _ qs, .ro _ ps, .i all, .ro _ qz, .ro _ pz, .i az, .ro _ sh, .l acc] /\ Xe3 e K) K).mpr (hyp_ W s2 n i qs ps all qz pz az sh acc K hs _ fun e h1 h2 => ⟨h1, h2⟩)
theorem Xo5 : Xf2 := Xmp (fun e => match e with | .ro _ _ :: .i n :: .i i :: _ => (n - i).toNat | _ => 0) fun W s2 n i qs ps all qz pz az sh acc K hs A hA => by
 obtain ⟨⟨rfl, h0, h1, h2, hkey, h5⟩, hk⟩ := hs;have n2 := hkey.n2;unfold Xd6;delta Zdy Zdw Zb Zd;simp only [show Int.toNat 0 = 0 from rfl, Nat.sub_zero, Nat.zero_add, show (cel s2.xs i.toNat 0).lst = Sp.row s2.xs i.toNat from rfl, show (cel qs.xs i.toNat 1).int = Sp.qBoxes qs.xs i.toNat from rfl];have ez : (i + 1).toNat = i.toNat + 1 := by omega
 have ei : ((i.toNat : Nat) : Int) = i := Int.toNat_of_nonneg h0
 by_cases hi : i < s2.xs.length
 ·have hb := hkey.boxes i.toNat (by omega);rw [show s2.xs.length - i.toNat = (s2.xs.length - (i.toNat + 1)) + 1 by omega] at hk;obtain ⟨g1, g2⟩ := Xc8 (K1 := fun _ e => K 1 [.i e]) hk;simp only [Sp.unsAll, ei] at g2;have hul := Sp.unsRow_len (Sp.row s2.xs i.toNat) i (Sp.row s2.xs i.toNat).length 0;have hA' : Sp.rowE qs.xs s2.xs i.toNat = 0 -> (Sp.row s2.xs i.toNat).length <= 4 -> A [.ro _ s2, .i s2.xs.length, .i (i + 1), .ro _ qs, .ro _ ps, .i all, .ro _ qz, .ro _ pz, .i az, .ro _ sh, .l (acc ++ Sp.unsRow (Sp.row s2.xs i.toNat) i 0 (Sp.row s2.xs i.toNat).length)] := fun f f4 => hA _ (by show ((s2.xs.length : Int) - (i + 1)).toNat < ((s2.xs.length : Int) - i).toNat; omega) ⟨⟨rfl, by omega, by omega, h2, hkey, by simp; omega⟩, by
   have g2 := g2 f;rw [<- List.append_assoc] at g2;rw [ez]; exact g2⟩
  clear hA hk g2;unfold Sp.rowE at hA' g1
  by_cases c : ((Sp.row s2.xs i.toNat).length : Int) = Sp.qBoxes qs.xs i.toNat
  ·have f4 : (Sp.row s2.xs i.toNat).length <= 4 := by omega
   rw [if_pos c] at hA' g1
   by_cases c2 : Sp.out 0 2 (Sp.row s2.xs i.toNat) = true
   ·rw [if_pos c2] at hA' g1;have g1 := g1 (by decide)
    repeat' (first | (with_reducible refine Xb trivial ?_) | (with_reducible refine Xb ⟨rfl, by omega, by omega, by omega, by omega, by omega, by omega⟩ ?_) | omega|intro _|with_reducible first|apply vifd|apply vifn|apply vifq|apply Xd|apply Xc|apply vifb|apply vif|apply nedd|apply ned2|apply ned|apply ar64|apply Xb|exact True.intro|assumption|rfl|apply And.intro)
    all_goals first | contradiction | exact g1 | skip
    all_goals (rw [c2] at *; contradiction)
   ·rw [if_neg c2] at hA' g1;have hA' := hA' rfl f4
    repeat' (first | (with_reducible refine Xb trivial ?_) | (with_reducible refine Xb ⟨rfl, by omega, by omega, by omega, by omega, by omega, by omega⟩ ?_) | omega|intro _|with_reducible first|apply vifd|apply vifn|apply vifq|apply Xd|apply Xc|apply vifb|apply vif|apply nedd|apply ned2|apply ned|apply ar64|apply Xb|exact True.intro|assumption|rfl|apply And.intro)
    all_goals first | contradiction | exact hA' | skip
  ·rw [if_neg c] at hA' g1;have g1 := g1 (by decide)
   repeat' (first | (with_reducible refine Xb trivial ?_) | omega|intro _|with_reducible first|apply vifd|apply vifn|apply vifq|apply Xd|apply Xc|apply vifb|apply vif|apply nedd|apply ned2|apply ned|apply ar64|apply Xb|exact True.intro|assumption|rfl|apply And.intro)
   all_goals first | contradiction | exact g1 | skip
 ·rw [show s2.xs.length - i.toNat = 0 by omega] at hk;simp only [Sp.unsAll, List.append_nil] at hk;clear hA
  repeat' (first | omega|intro _|with_reducible first|apply vifd|apply vifn|apply vifq|apply Xd|apply Xc|apply vifb|apply vif|apply nedd|apply ned2|apply ned|apply ar64|apply Xb|exact True.intro|assumption|rfl|apply And.intro)
  all_goals exact hk.2 rfl
def Xp0 : LE Try.prog := ⟨76, 6, fun W => @Yto W Xgt, Xo5⟩
def T48 : Tab Try.prog := ⟨[Xcz], [Xp0], []⟩
def Xki [InW] (e : List Ed) (K : Nat -> List Ed -> Prop) : Prop := match e with
 | [.ro _ qs, .ro _ ps, .i all, .ro _ sh] => Pre (Sp.KeyOk qs.xs ps.xs all) (Vif (decide (Sp.shE qs.xs sh.xs = 0)) (K 1 [.ro _ qs, .ro _ ps, .i all, .ro _ sh, .l (Sp.uns sh.xs)]) (K 0 [.i (Sp.shE qs.xs sh.xs)]))
 | _ => False
def Xw : CC where
 g := 76
 args := [.agg [.rs Iv5, .rs Jc, .int .i64], .rs Jb]
 H := []
 outs := [⟨false, .tup [(.lit (.pointer none)), .int .i64], [], false⟩, ⟨false, .tup [(.ptr 6 0), (.lit (.int .i64 0))], [(6, .blk 89 [.rs Iv5, .rs Jc, .int .i64, .rs Jb, (.row 12)]), (12, .arr 44 Ja)], false⟩]
 spec := Xki
def Xeo [W : InW] (qs : Ro Iv5) (ps : Ro Jc) (all : Int) (sh : Ro Jb) (K : Nat -> List Ed -> Prop) : Prop :=
 Vif (!decide ((↑(sh.xs.length) : Int) = (↑(qs.xs.length) : Int))) (K 0 [.i (3 : Int)]) (Pre ((↑(sh.xs.length) : Int) = (↑(sh.xs.length) : Int) /\ Zb <= 0 /\ Zb <= (↑(sh.xs.length) : Int) /\ sh.xs.length = qs.xs.length /\ Sp.KeyOk qs.xs ps.xs all /\ (↑(0 : Nat) : Int) <= 4 * 0) (Vif (Sp.hasE (Sp.rowE qs.xs sh.xs) Za (sh.xs.length - Int.toNat Zb)) (K 0 [.i (Sp.rowE qs.xs sh.xs (Sp.idxE (Sp.rowE qs.xs sh.xs) Za (sh.xs.length - Int.toNat Zb)))]) (Vif (decide ((7 : Int) < (↑(List.length (Sp.unsAll sh.xs Za (sh.xs.length - Int.toNat Zb))) : Int))) (K 0 [.i (3 : Int)]) (K (0+1) [.ro _ qs, .ro _ ps, .i all, .ro Zdw sh, .l (Sp.unsAll sh.xs Za (sh.xs.length - Int.toNat Zb))]))))
theorem Xlm (W : InW) (qs ps all sh K) : Ywu (cxT Try.prog TT T48 1000 50) 1000 76 [.agg [.rs _ qs, .rs _ ps, .si .i64 all], .rs _ sh] [] (fun v h => outC Xw.H [] Xw.outs 0 false v h K) (fun v h => outC Xw.H [] Xw.outs 0 true v h K) = Xeo qs ps all sh K := by kernel_rfl
theorem Xm7 (hyp_ : ∀ (W : InW) qs ps all sh K, Xki [.ro _ qs, .ro _ ps, .i all, .ro _ sh] K -> Xeo qs ps all sh K) : ∀ W : InW, @CallC W Try.prog Xw :=
 CC.okOf (fun W => @TT W) (fun W => @Xe W) Xa T48 1000 50 Xw fun W qs ps all sh K hs => (Xlm W qs ps all sh K).mpr (hyp_ W qs ps all sh K hs)
theorem Xkr : ∀ W : InW, @CallC W Try.prog Xw := Xm7 fun W qs ps all sh K hs => by
 obtain ⟨hkey, hk⟩ := hs;unfold Xeo;delta Za Zb Zdw;simp only [show Int.toNat 0 = 0 from rfl, Nat.sub_zero];have k0 : ∀ e, Sp.shE qs.xs sh.xs = e -> e ≠ 0 -> K 0 [.i e] := fun e h1 h2 => by
  have := hk.2 (decide_eq_false (by omega));rw [h1] at this; exact this
 have k1 : Sp.shE qs.xs sh.xs = 0 -> K 1 [.ro _ qs, .ro _ ps, .i all, .ro _ sh, .l (Sp.uns sh.xs)] := fun h => hk.1 (decide_eq_true h);clear hk;unfold Sp.shE at k0 k1;refine vifn (fun e => k0 3 (by rw [if_neg e]) (by decide)) fun e => ⟨⟨trivial, by omega, by omega, by omega, hkey, by omega⟩, ?_⟩;rw [if_pos e] at k0 k1;refine vif (fun e1 => ?_) fun e1 => ?_
 ·rw [if_pos e1] at k0;exact k0 _ rfl (Sp.hasE_ix e1).2.2
 ·rw [if_neg (by simp [e1])] at k0 k1;have hu : Sp.unsAll sh.xs 0 sh.xs.length = Sp.uns sh.xs := rfl;rw [hu];refine vifd (fun e2 => k0 3 (by rw [if_pos (by omega)]) (by decide)) fun e2 => k1 (by rw [if_neg (by omega)])
def T49 : Tab Try.prog := ⟨[Xbi], [], [ceOf Xw Xkr]⟩
def Xhm [InW] (e : List Ed) (K : Nat -> List Ed -> Prop) : Prop := match e with
 | [.ro _ qs, .ro _ ps, .i all, .ro _ sh] => Vif (decide (Sp.askE qs.xs ps.xs all sh.xs = 0)) (K 1 [.ro _ qs, .ro _ ps, .i all, .ro _ sh, .l (Sp.uns sh.xs)]) (K 0 [.i (Sp.askE qs.xs ps.xs all sh.xs)])
 | _ => False
def Xh : CC where
 g := 54
 args := [.agg [.rs Iv5, .rs Jc, .int .i64], .rs Jb]
 H := []
 outs := [⟨false, .tup [(.lit (.pointer none)), .int .i64], [], false⟩, ⟨false, .tup [(.ptr 6 0), (.lit (.int .i64 0))], [(6, .blk 89 [.rs Iv5, .rs Jc, .int .i64, .rs Jb, (.row 12)]), (12, .arr 44 Ja)], false⟩]
 spec := Xhm
def Xcw [W : InW] (qs : Ro Iv5) (ps : Ro Jc) (all : Int) (sh : Ro Jb) (K : Nat -> List Ed -> Prop) : Prop :=
 Pre True (Vif (!decide (Sp.chkE qs.xs ps.xs all = 0)) (K 0 [.i (Sp.chkE qs.xs ps.xs all)]) (Pre (Sp.KeyOk qs.xs ps.xs all) (Vif (decide (Sp.shE qs.xs sh.xs = 0)) (K (0+1) [.ro _ qs, .ro _ ps, .i all, .ro [Ty.sl [Ty.int IntKind.i64]] sh, .l (Sp.uns sh.xs)]) (K 0 [.i (Sp.shE qs.xs sh.xs)]))))
theorem Xi2 (W : InW) (qs ps all sh K) : Ywu (cxT Try.prog TT T49 1000 50) 1000 54 [.agg [.rs _ qs, .rs _ ps, .si .i64 all], .rs _ sh] [] (fun v h => outC Xh.H [] Xh.outs 0 false v h K) (fun v h => outC Xh.H [] Xh.outs 0 true v h K) = Xcw qs ps all sh K := by kernel_rfl
theorem Xjy (hyp_ : ∀ (W : InW) qs ps all sh K, Xhm [.ro _ qs, .ro _ ps, .i all, .ro _ sh] K -> Xcw qs ps all sh K) : ∀ W : InW, @CallC W Try.prog Xh :=
 CC.okOf (fun W => @TT W) (fun W => @Xe W) Xa T49 1000 50 Xh fun W qs ps all sh K hs => (Xi2 W qs ps all sh K).mpr (hyp_ W qs ps all sh K hs)
theorem Xbj : ∀ W : InW, @CallC W Try.prog Xh := Xjy fun W qs ps all sh K hs => by
 have k0 : ∀ e, Sp.askE qs.xs ps.xs all sh.xs = e -> e ≠ 0 -> K 0 [.i e] := fun e h1 h2 => by
  have := hs.2 (decide_eq_false (by omega));rw [h1] at this; exact this
 have k1 : Sp.askE qs.xs ps.xs all sh.xs = 0 -> K 1 [.ro _ qs, .ro _ ps, .i all, .ro _ sh, .l (Sp.uns sh.xs)] := fun h => hs.1 (decide_eq_true h);clear hs;unfold Sp.askE at k0 k1;unfold Xcw;refine ⟨trivial, vifn (fun e => k0 _ (by rw [if_neg e]) e) fun e => ⟨Sp.chkE_iff.1 e, ?_⟩⟩;rw [if_pos e] at k0 k1;exact vifd (fun e1 => k1 e1) fun e1 => k0 _ rfl e1
def T50 : Tab Try.prog := ⟨[], [], [ceOf Xh Xbj, ceOf Xp Xh8, ceOf Xx Xks]⟩
def Xds [W : InW] (kQ : Ro Iv5) (kP : Ro Jc) (kA : Int) (sh : Ro Jb) (Q : DS -> Prop) : Prop :=
 Vif (decide (Sp.askE kQ.xs kP.xs kA sh.xs = 0)) (Vif (decide (Zb < (↑(List.length (Sp.uns sh.xs)) : Int))) (Q [[Cl.l []], [Cl.b false], [Cl.i 2]]) (Pre (Zb <= 0 /\ Sp.KeyOk kQ.xs kP.xs kA /\ Sp.SeOk kQ.xs sh.xs (Sp.uns sh.xs)) (Pre (Zb <= 0 /\ Sp.KeyOk kQ.xs kP.xs kA /\ Sp.SeOk kQ.xs sh.xs (Sp.uns sh.xs)) (Q [[Cl.l (Sp.mkW kQ.xs kP.xs sh.xs (Sp.uns sh.xs) Zb)], [Cl.b (Sp.psW kQ.xs kP.xs kA sh.xs (Sp.uns sh.xs) Zb)], [Cl.i 0]])))) (Vif (!decide (Sp.askE kQ.xs kP.xs kA sh.xs = 0)) (Q [[Cl.l []], [Cl.b false], [Cl.i (Sp.askE kQ.xs kP.xs kA sh.xs)]]) ((16 : Nat) = 16 + 1))
theorem Xlx (W : InW) (kQ kP kA sh Q) : Ywx (cxT Try.prog TT T50 1000 50) 1000 19 [.agg [.rs _ kQ, .rs _ kP, .si .i64 kA], .rs _ sh] [] 0 (Y04 [(false, [.row 3 Jc]), (false, [.bool]), (false, [.int .i64])] Q) (fun _ _ _ _ => Stuck 421) = Xds kQ kP kA sh Q := by kernel_rfl
abbrev Xce : List AT := [.agg [.sl Iv5, .sl Jc, .int .i64], .one (.sl Jb)]
theorem Xnj {pre : DS -> Prop} {res : DS -> DS} (hyp_ : ∀ (W : InW) (kQ : Ro Iv5) (kP : Ro Jc) (kA : Int) (sh : Ro Jb), pre [[.l kQ.xs, .l kP.xs, .i kA], [.l sh.xs]] -> ∀ Q : DS -> Prop, Q (res [[.l kQ.xs, .l kP.xs, .i kA], [.l sh.xs]]) -> Xds kQ kP kA sh Q) : PureOk Try.prog 19 Xce [(false, [.row 3 Jc]), (false, [.bool]), (false, [.int .i64])] pre res :=
 PureOk.of' (fun W => @TT W) (fun W => @Xe W) Xa T50 1000 50 fun W kQ kP kA sh hp =>
  (Xlx W kQ kP kA sh (fun o => o = res [[.l kQ.xs, .l kP.xs, .i kA], [.l sh.xs]])).mpr (hyp_ W kQ kP kA sh hp _ rfl)
def rfIn : Code -> List LI
 | .seq a b => rfIn a ++ rfIn b
 | .cond _ a b => rfIn a ++ rfIn b
 | .block _ a => rfIn a
 | .loop a => rfIn a
 | .scope a => rfIn a
 | .rangeFunc _ ps asg b => ⟨.ready, none, ps, asg, b⟩ :: rfIn b
 | _ => []
def lpAt (P : Program) (g : FuncId) (k : Nat) : LI := (rfIn (Yjr P g)).getD k ⟨.ready, none, #[], .skip, .skip⟩
abbrev LPth : LI := lpAt Try.prog 60 0
namespace Sp
def psB (qs ps : Dt) (all : Int) (sh u : Dt) (k : Nat) : Bool := psW qs ps all sh u k
end Sp
def T60 : Tab Try.prog := ⟨[], [], [ceOf Xx Xks]⟩
def Xe0 [InW] (e : List Ed) (K : Nat -> List Ed -> Prop) : Prop := match e with
 | [.i n, .i i, .ro _ qs, .ro _ ps, .i all, .ro _ sh, .l u, .b so, .b al] => Pre (0 <= i /\ i <= n /\ n <= 1000 /\ Sp.KeyOk qs.xs ps.xs all /\ Sp.SeOk qs.xs sh.xs u) (K 0 [.ro _ qs, .ro _ ps, .i all, .ro _ sh, .l u, .b (so || Sp.anyF (Sp.psB qs.xs ps.xs all sh.xs u) i.toNat (n - i).toNat), .b (al && Sp.allF (Sp.psB qs.xs ps.xs all sh.xs u) i.toNat (n - i).toNat)])
 | _ => False
def Xgq : LC where
 len := 18
 T := [(0, (.yl 1)), (1, (.ptr 10 0)), (9, .int .i64), (10, .int .i64)]
 H := [(1, .lp LPth [(.opq 1501), (.opq 1504), (.opq 1507), (.opq 1510), (.ptr 13 0), (.ptr 16 0), (.ptr 19 0), (.opq 318), (.opq 321), (.opq 1528), (.opq 327), (.opq 330), (.opq 333), (.opq 336), (.opq 339), (.opq 342), (.opq 345), (.opq 348), (.opq 351), (.opq 354), (.opq 357), (.opq 360), (.opq 1567), (.opq 1570)]), (10, .blk 85 [(.ptr 4 0)]), (4, .blk 89 [.rs Iv5, .rs Jc, .int .i64, .rs Jb, (.row 7)]), (7, .arr 44 Ja), (13, .blk 84 [(.fn (.func 56) [(.ptr 4 0)] [])]), (16, .blk 4 [.bool]), (19, .blk 4 [.bool])]
 W := ([3] ++ rg 11 7)
 outs := [⟨.exit 0, [], [(1, .lp LPth [(.opq 1501), (.opq 1504), (.opq 1507), (.opq 1510), (.ptr 13 0), (.ptr 16 0), (.ptr 19 0), (.opq 618), (.opq 621), (.opq 1528), (.opq 627), (.opq 630), (.opq 633), (.opq 636), (.opq 639), (.opq 642), (.opq 645), (.opq 648), (.opq 651), (.opq 654), (.opq 657), (.opq 660), (.opq 1567), (.opq 1570)]), (618, .dead), (621, .dead), (627, .dead), (630, .dead), (633, .dead), (636, .dead), (639, .dead), (642, .dead), (645, .dead), (648, .dead), (651, .dead), (654, .dead), (657, .dead), (660, .dead), (10, .blk 85 [(.ptr 4 0)]), (4, .blk 89 [.rs Iv5, .rs Jc, .int .i64, .rs Jb, (.row 7)]), (7, .arr 44 Ja), (13, .blk 84 [(.fn (.func 56) [(.ptr 4 0)] [])]), (16, .blk 4 [.bool]), (19, .blk 4 [.bool])], ([0, 1, 3] ++ rg 9 9)⟩]
 spec := Xe0
def Xd3 [W : InW] (n i : Int) (qs : Ro Iv5) (ps : Ro Jc) (all : Int) (sh : Ro Jb) (u : Dt) (so al : Bool) (A : List Ed -> Prop) (K : Nat -> List Ed -> Prop) : Prop :=
 Vif (decide (i < n)) (Pre (0 <= i /\ Sp.KeyOk qs.xs ps.xs all /\ Sp.SeOk qs.xs sh.xs u) (Vif so (Vif al (Ar .i64 (i + 1) fun z => PreL LPth LPth (A [.i n, .i z, .ro _ qs, .ro _ ps, .i all, .ro Zdw sh, .l u, .b true, .b (Sp.psW qs.xs ps.xs all sh.xs u i)])) (Ar .i64 (i + 1) fun z => PreL LPth LPth (A [.i n, .i z, .ro _ qs, .ro _ ps, .i all, .ro Zdw sh, .l u, .b true, .b false]))) (Vif al (Ar .i64 (i + 1) fun z => PreL LPth LPth (A [.i n, .i z, .ro _ qs, .ro _ ps, .i all, .ro Zdw sh, .l u, .b (Sp.psW qs.xs ps.xs all sh.xs u i), .b (Sp.psW qs.xs ps.xs all sh.xs u i)])) (Ar .i64 (i + 1) fun z => PreL LPth LPth (A [.i n, .i z, .ro _ qs, .ro _ ps, .i all, .ro Zdw sh, .l u, .b (Sp.psW qs.xs ps.xs all sh.xs u i), .b false]))))) (PreL LPth LPth (K 0 [.ro _ qs, .ro _ ps, .i all, .ro Zdw sh, .l u, .b so, .b al]))
theorem Xk1 (W : InW) (n i qs ps all sh u so al A K) : Yfc { cxT Try.prog TT T60 1000 50 with fn := 83 } 1000 (Yn8 Try.prog 83 2) (Yd8 18 [(0, .yl 1), (1, .ptr 10 0), (9, .si .i64 n), (10, .si .i64 i)] ([3] ++ rg 11 7)) [(1, .lp LPth [.opq 1501, .opq 1504, .opq 1507, .opq 1510, .ptr 13 0, .ptr 16 0, .ptr 19 0, .opq 318, .opq 321, .opq 1528, .opq 327, .opq 330, .opq 333, .opq 336, .opq 339, .opq 342, .opq 345, .opq 348, .opq 351, .opq 354, .opq 357, .opq 360, .opq 1567, .opq 1570]), (10, .blk 85 [.ptr 4 0]), (4, .blk 89 [.rs _ qs, .rs _ ps, .si .i64 all, .rs _ sh, .rw 7]), (7, .arr 44 Ja u), (13, .blk 84 [.fn (.func 56) [.ptr 4 0] []]), (16, .blk 4 [.sb so]), (19, .blk 4 [.sb al])] (Yug Xgq A K) = Xd3 n i qs ps all sh u so al A K := by kernel_rfl
def Xfz : Prop := ∀ (W : InW) (body a : Code), (Try.prog.funcs[83]?).bind (·.body) = some body -> a ∈ Y0 body -> Yfw a = 2 -> @Ymr W Try.prog a (@Yto W Xgq)
theorem Xmm (meas : [InW] -> List Ed -> Nat) (hyp_ : ∀ (W : InW) n i qs ps all sh u so al K, Xe0 [.i n, .i i, .ro _ qs, .ro _ ps, .i all, .ro _ sh, .l u, .b so, .b al] K -> ∀ A : List Ed -> Prop, (∀ e, meas e < meas [.i n, .i i, .ro _ qs, .ro _ ps, .i all, .ro _ sh, .l u, .b so, .b al] -> Xe0 e K -> A e) -> Xd3 n i qs ps all sh u so al A K) : Xfz :=
 LE.okOf' (fun W => @TT W) (fun W => @Xe W) Xa T60 1000 50 (by kernel_rfl) Xgq (fun W => @meas W) fun W n i qs ps all sh u so al K hs =>
  (Xk1 W n i qs ps all sh u so al (fun e => meas e < meas [.i n, .i i, .ro _ qs, .ro _ ps, .i all, .ro _ sh, .l u, .b so, .b al] /\ Xe0 e K) K).mpr (hyp_ W n i qs ps all sh u so al K hs _ fun e h1 h2 => ⟨h1, h2⟩)
theorem Xo2 : Xfz := Xmm (fun e => match e with | .i n :: .i i :: _ => (n - i).toNat | _ => 0) fun W n i qs ps all sh u so al K hs A hA => by
 obtain ⟨⟨h0, h1, h2, hkey, hse⟩, hk⟩ := hs;unfold Xd3;delta Zdw;have ez : (i + 1).toNat = i.toNat + 1 := by omega
 have ei : ((i.toNat : Nat) : Int) = i := Int.toNat_of_nonneg h0
 by_cases hi : i < n
 ·rw [show (n - i).toNat = (n - (i + 1)).toNat + 1 by omega] at hk;have hA' : ∀ c d, c = (so || Sp.psW qs.xs ps.xs all sh.xs u i) -> d = (al && Sp.psW qs.xs ps.xs all sh.xs u i) -> A [.i n, .i (i + 1), .ro _ qs, .ro _ ps, .i all, .ro _ sh, .l u, .b c, .b d] := fun c d hc hd => hA _ (show (n - (i + 1)).toNat < (n - i).toNat by omega) ⟨⟨by omega, by omega, h2, hkey, hse⟩, by
   simp only [Sp.anyF, Sp.allF, Sp.psB, ei] at hk;rw [ez, hc, hd, Bool.or_assoc, Bool.and_assoc];exact hk⟩
  clear hA hk
  repeat' (first | (with_reducible refine Xb ⟨h0, hkey, hse⟩ ?_) | (refine ⟨rfl, ?_⟩; done) | omega|intro _|with_reducible first|apply vifd|apply vifn|apply vifq|apply Xd|apply Xc|apply vifb|apply vif|apply nedd|apply ned2|apply ned|apply ar64|apply Xb|exact True.intro|assumption|rfl|apply And.intro)
  all_goals first | contradiction | (refine ⟨rfl, ?_⟩; refine hA' _ _ ?_ ?_ <;> simp [*]; done) | skip
 ·rw [show (n - i).toNat = 0 by omega] at hk;simp only [Sp.allF, Sp.anyF, Bool.and_true, Bool.or_false] at hk;clear hA
  repeat' (first | omega|intro _|with_reducible first|apply vifd|apply vifn|apply vifq|apply Xd|apply Xc|apply vifb|apply vif|apply nedd|apply ned2|apply ned|apply ar64|apply Xb|exact True.intro|assumption|rfl|apply And.intro)
  all_goals exact ⟨rfl, hk⟩
def Xpx : LE Try.prog := ⟨83, 2, fun W => @Yto W Xgq, Xo2⟩
def T61 : Tab Try.prog := ⟨[], [Xpx], []⟩
def Xhl [InW] (e : List Ed) (K : Nat -> List Ed -> Prop) : Prop := match e with
 | [.ro _ qs, .ro _ ps, .i all, .ro _ sh, .l u] => Pre (Sp.KeyOk qs.xs ps.xs all /\ Sp.SeOk qs.xs sh.xs u /\ u.length <= 7) (K 0 [.b (Sp.anyF (Sp.psB qs.xs ps.xs all sh.xs u) 0 (2 ^ u.length)), .b (Sp.allF (Sp.psB qs.xs ps.xs all sh.xs u) 0 (2 ^ u.length)), .ro _ qs, .ro _ ps, .i all, .ro _ sh, .l u])
 | _ => False
def Xm : CC where
 g := 60
 args := [(.fn (.func 83) [] [(.ptr 10 0)]), (.fn (.func 56) [(.ptr 4 0)] [])]
 H := [(10, .blk 85 [(.ptr 4 0)]), (4, .blk 89 [.rs Iv5, .rs Jc, .int .i64, .rs Jb, (.row 7)]), (7, .arr 44 Ja)]
 outs := [⟨false, .tup [.bool, .bool], [(10, .blk 85 [(.ptr 4 0)]), (4, .blk 89 [.rs Iv5, .rs Jc, .int .i64, .rs Jb, (.row 7)]), (7, .arr 44 Ja)], false⟩]
 spec := Xhl
def Xcv [W : InW] (qs : Ro Iv5) (ps : Ro Jc) (all : Int) (sh : Ro Jb) (u : Dt) (K : Nat -> List Ed -> Prop) : Prop :=
 Need (decide ((0 : Int) <= (↑(u.length) : Int))) (Ar .i64 ((1 : Int) * 2 ^ min (↑(u.length) : Int).toNat (64 : Nat)) fun z => PreL LPth LPth (Pre ((0 : Int) <= 0 /\ 0 <= z /\ z <= 1000 /\ Sp.KeyOk qs.xs ps.xs all /\ Sp.SeOk qs.xs sh.xs u) (K 0 [.b (false || Sp.anyF (Sp.psB qs.xs ps.xs all sh.xs u) Za (z - 0).toNat), .b (true && Sp.allF (Sp.psB qs.xs ps.xs all sh.xs u) Za (z - 0).toNat), .ro _ qs, .ro _ ps, .i all, .ro Zdw sh, .l u])))
theorem Xi1 (W : InW) (qs ps all sh u K) : Ywu (cxT Try.prog TT T61 1000 50) 1000 60 [.fn (.func 83) [] [.ptr 10 0], .fn (.func 56) [.ptr 4 0] []] [(10, .blk 85 [.ptr 4 0]), (4, .blk 89 [.rs _ qs, .rs _ ps, .si .i64 all, .rs _ sh, .rw 7]), (7, .arr 44 Ja u)] (fun v h => outC Xm.H [.ro _ qs, .ro _ ps, .i all, .ro _ sh, .l u] Xm.outs 0 false v h K) (fun v h => outC Xm.H [.ro _ qs, .ro _ ps, .i all, .ro _ sh, .l u] Xm.outs 0 true v h K) = Xcv qs ps all sh u K := by kernel_rfl
theorem Xjx (hyp_ : ∀ (W : InW) qs ps all sh u K, Xhl [.ro _ qs, .ro _ ps, .i all, .ro _ sh, .l u] K -> Xcv qs ps all sh u K) : ∀ W : InW, @CallC W Try.prog Xm :=
 CC.okOf (fun W => @TT W) (fun W => @Xe W) Xa T61 1000 50 Xm fun W qs ps all sh u K hs => (Xi1 W qs ps all sh u K).mpr (hyp_ W qs ps all sh u K hs)
theorem Xo {n : Nat} (h : n <= 7) : (1 : Int) * 2 ^ min ((n : Nat) : Int).toNat 64 = ((2 ^ n : Nat) : Int) /\ 1 <= 2 ^ n /\ 2 ^ n <= 128 := by
 have h1 : min ((n : Nat) : Int).toNat 64 = n := by rw [Int.toNat_natCast]; omega
 refine ⟨by rw [h1, Int.one_mul]; norm_cast, Nat.one_le_two_pow, ?_⟩;exact Nat.le_trans (Nat.pow_le_pow_right (by decide) h) (by decide)
theorem Xnt : ∀ W : InW, @CallC W Try.prog Xm := Xjx fun W qs ps all sh u K hs => by
 obtain ⟨⟨hkey, hse, h7⟩, hk⟩ := hs;unfold Xcv;delta Za Zdw Zb;obtain ⟨p1, p2, p3⟩ := Xo h7;rw [p1];simp only [show Int.toNat 0 = 0 from rfl, Int.sub_zero, Bool.true_and, Bool.false_or];refine nedd (by omega) (ar64 (by omega) ⟨rfl, ⟨by omega, by omega, by omega, hkey, hse⟩, ?_⟩);rw [Int.toNat_natCast];exact hk
def T62 : Tab Try.prog := ⟨[Xhv], [], [ceOf Xh Xbj, ceOf Xm Xnt]⟩
def Xdr [W : InW] (kQ : Ro Iv5) (kP : Ro Jc) (kA : Int) (sh : Ro Jb) (Q : DS -> Prop) : Prop :=
 Vif (decide (Sp.askE kQ.xs kP.xs kA sh.xs = 0)) (Pre (Sp.KeyOk kQ.xs kP.xs kA /\ Sp.SeOk kQ.xs sh.xs (Sp.uns sh.xs) /\ List.length (Sp.uns sh.xs) <= 7) (Pre True (Q [[Cl.i (Sp.ocB (Sp.anyF (Sp.psB kQ.xs kP.xs kA sh.xs (Sp.uns sh.xs)) (0 : Nat) ((2 : Nat) ^ List.length (Sp.uns sh.xs))) (Sp.allF (Sp.psB kQ.xs kP.xs kA sh.xs (Sp.uns sh.xs)) (0 : Nat) ((2 : Nat) ^ List.length (Sp.uns sh.xs))))], [Cl.i 0]]))) (Vif (!decide (Sp.askE kQ.xs kP.xs kA sh.xs = 0)) (Q [[Cl.i 0], [Cl.i (Sp.askE kQ.xs kP.xs kA sh.xs)]]) ((16 : Nat) = 16 + 1))
theorem Xlw (W : InW) (kQ kP kA sh Q) : Ywx (cxT Try.prog TT T62 1000 50) 1000 23 [.agg [.rs _ kQ, .rs _ kP, .si .i64 kA], .rs _ sh] [] 0 (Y04 [(false, [.int .i64]), (false, [.int .i64])] Q) (fun _ _ _ _ => Stuck 421) = Xdr kQ kP kA sh Q := by kernel_rfl
abbrev Xcd : List AT := [.agg [.sl Iv5, .sl Jc, .int .i64], .one (.sl Jb)]
theorem Xni {pre : DS -> Prop} {res : DS -> DS} (hyp_ : ∀ (W : InW) (kQ : Ro Iv5) (kP : Ro Jc) (kA : Int) (sh : Ro Jb), pre [[.l kQ.xs, .l kP.xs, .i kA], [.l sh.xs]] -> ∀ Q : DS -> Prop, Q (res [[.l kQ.xs, .l kP.xs, .i kA], [.l sh.xs]]) -> Xdr kQ kP kA sh Q) : PureOk Try.prog 23 Xcd [(false, [.int .i64]), (false, [.int .i64])] pre res :=
 PureOk.of' (fun W => @TT W) (fun W => @Xe W) Xa T62 1000 50 fun W kQ kP kA sh hp =>
  (Xlw W kQ kP kA sh (fun o => o = res [[.l kQ.xs, .l kP.xs, .i kA], [.l sh.xs]])).mpr (hyp_ W kQ kP kA sh hp _ rfl)
namespace Sp
def mk1 (d : Dt) (k : Nat) : Bool := decide (bx d k = 1)
theorem ansD_pos (d : Dt) : ∀ n i a, 0 <= a -> ansD d i n a = anyF (mk1 d) i n
 | 0, _, _, _ => rfl
 | n + 1, i, a, h => by
  simp only [ansD, anyF, mk1]
  by_cases e : bx d i = 1
  ·simp [e, h]
  ·simp [e]; exact ansD_pos d n (i + 1) a h
theorem ansL_none (d : Dt) : ∀ n i a, anyF (mk1 d) i n = false -> ansL d i n a = a
 | 0, _, _, _ => rfl
 | n + 1, i, a, h => by
  simp only [anyF, Bool.or_eq_false_iff, mk1, decide_eq_false_iff_not] at h;simp only [ansL, if_neg h.1];exact ansL_none d n (i + 1) a h.2
theorem ansD_neg (d : Dt) : ∀ n i, ansD d i n (-1) = (anyF (mk1 d) i n && anyF (mk1 d) (fstF (mk1 d) i n + 1) (i + n - (fstF (mk1 d) i n + 1)))
 | 0, _ => rfl
 | n + 1, i => by
  by_cases e : bx d i = 1
  ·have e2 : mk1 d i = true := decide_eq_true e;simp only [ansD, anyF, fstF, e, if_true, e2, Bool.true_or, Bool.true_and];rw [if_neg (by decide), ansD_pos d n (i + 1) i (by omega), show i + (n + 1) - (i + 1) = n by omega]
  ·have e2 : mk1 d i = false := decide_eq_false e;simp only [ansD, anyF, fstF, e, if_false, e2, Bool.false_or, Bool.false_eq_true];rw [ansD_neg d n (i + 1), show i + (n + 1) = i + 1 + n by omega]
theorem ansL_neg (d : Dt) : ∀ n i, ansD d i n (-1) = false -> anyF (mk1 d) i n = true -> ansL d i n (-1) = fstF (mk1 d) i n
 | 0, _, _, h => by simp [anyF] at h
 | n + 1, i, h, h2 => by
  by_cases e : bx d i = 1
  ·have e2 : mk1 d i = true := decide_eq_true e;simp only [ansD, e, if_true] at h;rw [if_neg (by decide), ansD_pos d n (i + 1) i (by omega)] at h;simp only [ansL, e, if_true, fstF, e2];exact ansL_none d n (i + 1) i h
  ·have e2 : mk1 d i = false := decide_eq_false e;simp only [ansD, e, if_false] at h;simp only [anyF, e2, Bool.false_or] at h2;simp only [ansL, e, if_false, fstF, e2, Bool.false_eq_true];exact ansL_neg d n (i + 1) h h2
theorem anyF_shift (g : Nat -> Bool) (s : Nat) : ∀ n i, anyF (fun k => g (s + k)) i n = anyF g (s + i) n
 | 0, _ => rfl
 | n + 1, i => by simp only [anyF, anyF_shift g s n (i + 1), Nat.add_assoc]
theorem eqI_mk1 (d : Dt) : eqI d 1 = mk1 d := by
 funext k
 unfold eqI mk1 bx num;exact decide_eq_decide.2 ⟨fun h => h.symm, fun h => h.symm⟩
theorem idxOf_ge (d : Dt) : (0 <= idxOf d 1) ↔ anyF (mk1 d) 0 d.length = true := by
 unfold idxOf;rw [eqI_mk1]
 split
 ·rename_i h; exact ⟨fun _ => h, fun _ => by omega⟩
 ·rename_i h; exact ⟨fun c => by omega, fun c => absurd c h⟩
theorem ansX_of (d : Dt) : ansX d = ansOf d := by
 unfold ansX ansOf;rw [ansD_neg]
 by_cases h : anyF (mk1 d) 0 d.length = true
 ·have hi : idxOf d 1 = (fstF (mk1 d) 0 d.length : Nat) := by unfold idxOf; rw [eqI_mk1, if_pos h]
  have hf := fstF_spec h;have e1 : (idxOf d 1 + 1).toNat = fstF (mk1 d) 0 d.length + 1 := by rw [hi]; omega
  have e2 : (0 <= idxOf (d.drop (fstF (mk1 d) 0 d.length + 1)) 1) ↔ anyF (mk1 d) (fstF (mk1 d) 0 d.length + 1) (0 + d.length - (fstF (mk1 d) 0 d.length + 1)) = true := by
   rw [idxOf_ge, List.length_drop, Nat.zero_add];have : mk1 (d.drop (fstF (mk1 d) 0 d.length + 1)) = fun k => mk1 d (fstF (mk1 d) 0 d.length + 1 + k) := by
    funext k
    unfold mk1 bx cel;simp only [List.getD_eq_getElem?_getD, List.getElem?_drop]
   rw [this, anyF_shift, Nat.add_zero]
  rw [h, Bool.true_and]
  by_cases c : anyF (mk1 d) (fstF (mk1 d) 0 d.length + 1) (0 + d.length - (fstF (mk1 d) 0 d.length + 1)) = true
  ·rw [if_pos ⟨by omega, by rw [e1]; exact e2.2 c⟩, if_pos c]
  ·rw [if_neg (fun x => c (e2.1 (by rw [e1] at x; exact x.2))), if_neg c];have hL := ansL_neg d d.length 0 (by rw [ansD_neg, h, Bool.true_and]; simpa using c) h;rw [hL, hi]
 ·have h0 : anyF (mk1 d) 0 d.length = false := by simpa using h
  have hn : ¬ 0 <= idxOf d 1 := fun c => h ((idxOf_ge d).1 c);rw [if_neg (fun x => hn x.1), h0, Bool.false_and, if_neg (by decide), ansL_none d _ _ _ h0];unfold idxOf;rw [eqI_mk1, if_neg h]
theorem bit7 : ∀ b : Fin 128, ∀ i : Fin 7, bitV (b.val : Int) (i.val : Int) = ((b.val / 2 ^ i.val % 2 : Nat) : Int) := by decide +kernel
theorem bit_of {b i : Nat} (hb : b < 128) (hi : i < 7) : bitV (b : Int) (i : Int) = ((b / 2 ^ i % 2 : Nat) : Int) := bit7 ⟨b, hb⟩ ⟨i, hi⟩
def itW : List (Nat × Nat) -> Nat -> Dt -> Dt
 | [], _, s => s
 | p :: ps, b, s => itW ps (b / 2) (withD s p.1 p.2 ((b % 2 : Nat) : Int))
theorem rds_it : ∀ (ps : List (Nat × Nat)) (sh r : Dt), pos sh = ps -> (r ∈ rds sh ↔ ∃ b, b < 2 ^ ps.length /\ r = itW ps b sh)
 | [], sh, r, h => by
  rw [rds_nil h, List.mem_singleton];exact ⟨fun e => ⟨0, by simp, e⟩, fun ⟨_, _, e⟩ => e⟩
 | p :: ps, sh, r, h => by
  have h0 := rds_it ps (withD sh p.1 p.2 0) r (pos_with_tl (by decide) h);have h1 := rds_it ps (withD sh p.1 p.2 1) r (pos_with_tl (by decide) h);rw [rds_cons h, List.mem_append, h0, h1, List.length_cons, Nat.pow_succ];constructor
  ·rintro (⟨b, hb, e⟩ | ⟨b, hb, e⟩)
   ·refine ⟨2 * b, by omega, ?_⟩;simp only [itW];rw [show 2 * b / 2 = b by omega, show 2 * b % 2 = 0 by omega];exact e
   ·refine ⟨2 * b + 1, by omega, ?_⟩;simp only [itW];rw [show (2 * b + 1) / 2 = b by omega, show (2 * b + 1) % 2 = 1 by omega];exact e
  ·rintro ⟨b, hb, e⟩;simp only [itW] at e;rcases Nat.mod_two_eq_zero_or_one b with c | c
   ·left; rw [c] at e; exact ⟨b / 2, by omega, e⟩
   ·right; rw [c] at e; exact ⟨b / 2, by omega, e⟩
theorem itW_len : ∀ (ps : List (Nat × Nat)) (b : Nat) (s : Dt), (itW ps b s).length = s.length
 | [], _, _ => rfl
 | p :: ps, b, s => by simp only [itW, itW_len ps, withD_len]
theorem prC_cel (us : List (Nat × Nat)) (i : Nat) (h : i < us.length) : cA (us.map prC) i = us[i].1 /\ cB (us.map prC) i = us[i].2 := by
 unfold cA cB cel;rw [List.getD_eq_getElem?_getD (l := us.map prC), List.getElem?_map, List.getElem?_eq_getElem h];exact ⟨rfl, rfl⟩
theorem ansW_it (us : List (Nat × Nat)) (q b : Nat) (hb : b < 128) (h7 : us.length <= 7) : ∀ n i s, i + n = us.length -> q < s.length -> ansW (us.map prC) q b i n (row s q) = row (itW (us.drop i) (b / 2 ^ i) s) q
 | 0, i, s, hi, hq => by rw [List.drop_eq_nil_of_le (by omega)]; rfl
 | n + 1, i, s, hi, hq => by
  have hlt : i < us.length := by omega
  rw [List.drop_eq_getElem_cons hlt];obtain ⟨c1, c2⟩ := prC_cel us i hlt;simp only [ansW, itW, c1, c2];rw [bit_of hb (by omega), Int.toNat_natCast];have hrow := withD_row s us[i].1 us[i].2 ((b / 2 ^ i % 2 : Nat) : Int) q hq;have e : (if (us[i].1 : Int) = (q : Int) then (row s q).set us[i].2 [.i ((b / 2 ^ i % 2 : Nat) : Int)] else row s q) = row (withD s us[i].1 us[i].2 ((b / 2 ^ i % 2 : Nat) : Int)) q := by
   rw [hrow]
   by_cases c : us[i].1 = q
   ·rw [if_pos (by omega), if_pos c.symm]
   ·rw [if_neg (by omega), if_neg (fun x => c x.symm)]
  rw [e, ansW_it us q b hb h7 n (i + 1) _ (by omega) (by rw [withD_len]; exact hq), Nat.pow_succ, Nat.div_div_eq_div_mul]
theorem rowW_it {sh : Dt} {q b : Nat} (hb : b < 128) (h7 : (pos sh).length <= 7) (hq : q < sh.length) : rowW sh (uns sh) q b = row (itW (pos sh) b sh) q := by
 unfold rowW;rw [uns_pos, List.length_map, Int.toNat_natCast];have := ansW_it (pos sh) q b hb h7 (pos sh).length 0 sh (by omega) hq;rw [List.drop_zero, Nat.pow_zero, Nat.div_one] at this;exact this
def Nums (l : Dt) : Prop := ∀ p, p < l.length -> l.getD p [] = [.i (num l p)]
theorem Nums.set {l : Dt} (h : Nums l) {p : Nat} {v : Int} : Nums (l.set p [.i v]) := fun q hq => by
 rw [List.length_set] at hq
 by_cases e : p = q
 ·subst e;rw [set_getD hq, num_set hq, if_pos rfl]
 ·rw [set_getN e, h q hq]
  congr 2
  unfold num cel;rw [set_getN e]
theorem Nums.same {l : Dt} (h : Nums l) {p : Nat} (hp : p < l.length) : l.set p [.i (num l p)] = l := by
 rw [<- h p hp, List.getD_eq_getElem?_getD, List.getElem?_eq_getElem hp];exact List.set_getElem_self hp
theorem Nums.rep (n : Nat) (v : Int) : Nums (List.replicate n [.i v]) := fun p hp => by
 rw [List.length_replicate] at hp;unfold num cel;simp [List.getElem?_replicate, hp, Cl.int]
theorem ansOf_ge (d : Dt) : -1 <= ansOf d := by
 rw [<- ansX_of];unfold ansX;have := Xha d 1
 split <;> omega
theorem stW_step {qs sh u r l : Dt} {b : Int} {i : Nat} (h : anW sh u b i = ansOf (row r i)) (hl : Nums l) (hp : (qPart qs i).toNat < l.length) : stW qs sh u b i l = l.set (qPart qs i).toNat [.i (num l (qPart qs i).toNat + ptsQ qs r i)] := by
 have hg := ansOf_ge (row r i);unfold stW ptsQ ptsV;rw [h]
 by_cases c : ansOf (row r i) = qRight qs i
 ·rw [if_pos c, if_pos c]
 ·rw [if_neg c, if_neg c]
  by_cases c2 : ansOf (row r i) = -1
  ·rw [if_pos c2, if_neg (by omega), Int.add_zero, hl.same hp]
  ·rw [if_neg c2, if_pos (by omega)]
   congr 3
   omega
theorem addW_G {qs sh u r : Dt} {b : Int} {np : Nat} (hp : ∀ i, i < qs.length -> (qPart qs i).toNat < np) (h : ∀ i, i < qs.length -> anW sh u b i = ansOf (row r i)) : ∀ n i l, i + n <= qs.length -> Nums l -> l.length = np -> addW qs sh u b i n l = addG qs r i n l
 | 0, _, _, _, _, _ => rfl
 | n + 1, i, l, hi, hl, hn => by
  simp only [addW, addG];rw [stW_step (h i (by omega)) hl (by rw [hn]; exact hp i (by omega))];exact addW_G hp h n (i + 1) _ (by omega) hl.set (by rw [List.length_set]; exact hn)
theorem mkW_it {qs ps sh : Dt} {all : Int} {b : Nat} (hk : KeyOk qs ps all) (hn : sh.length = qs.length) (h7 : (pos sh).length <= 7) (hb : b < 2 ^ (pos sh).length) : mkW qs ps sh (uns sh) b = mk qs ps (itW (pos sh) b sh) := by
 have hb2 : b < 128 := Nat.lt_of_lt_of_le hb (Nat.le_trans (Nat.pow_le_pow_right (by decide) h7) (by decide));unfold mkW mk;rw [itW_len, hn];refine addW_G (np := ps.length) (fun i hi => by have := hk.part i hi; omega) (fun i hi => ?_) _ _ _ (by omega) (Nums.rep _ _) (by simp);unfold anW;rw [rowW_it hb2 h7 (by omega), ansX_of]
theorem psW_it {qs ps sh : Dt} {all : Int} {b : Nat} (hk : KeyOk qs ps all) (hn : sh.length = qs.length) (h7 : (pos sh).length <= 7) (hb : b < 2 ^ (pos sh).length) : psW qs ps all sh (uns sh) b = psS qs ps all (itW (pos sh) b sh) := by
 unfold psW psS;rw [mkW_it hk hn h7 hb]
theorem rds_ix {sh r : Dt} : r ∈ rds sh ↔ ∃ k, k < (rdD sh).length /\ row (rdD sh) k = r := by
 constructor
 ·intro h;obtain ⟨k, hk, e⟩ := List.mem_iff_getElem.1 h;have hk2 : k < (rdD sh).length := by unfold rdD; simpa using hk
  obtain ⟨h2, e2⟩ := rdD_row hk2;exact ⟨k, hk2, e2.trans e⟩
 ·rintro ⟨k, hk, e⟩;obtain ⟨h2, e2⟩ := rdD_row hk;rw [<- e, e2];exact List.getElem_mem h2
theorem any_rds {sh : Dt} (f : Dt -> Bool) : (∃ k, k < (rdD sh).length /\ f (row (rdD sh) k) = true) ↔ ∃ b, b < 2 ^ (pos sh).length /\ f (itW (pos sh) b sh) = true := by
 constructor
 ·rintro ⟨k, hk, h⟩;obtain ⟨b, hb, e⟩ := (rds_it _ sh _ rfl).1 (rds_ix.2 ⟨k, hk, rfl⟩);exact ⟨b, hb, by rw [<- e]; exact h⟩
 ·rintro ⟨b, hb, h⟩;obtain ⟨k, hk, e⟩ := rds_ix.1 ((rds_it _ sh _ rfl).2 ⟨b, hb, rfl⟩);exact ⟨k, hk, by rw [e]; exact h⟩
theorem anyF_0 {f : Nat -> Bool} {n : Nat} : anyF f 0 n = true ↔ ∃ k, k < n /\ f k = true := by
 rw [anyF_iff];exact ⟨fun ⟨k, _, h, e⟩ => ⟨k, by omega, e⟩, fun ⟨k, h, e⟩ => ⟨k, by omega, by omega, e⟩⟩
theorem allF_0 {f : Nat -> Bool} {n : Nat} : allF f 0 n = true ↔ ∀ k, k < n -> f k = true := by
 rw [allF_iff];exact ⟨fun h k hk => h k (by omega) (by omega), fun h k _ hk => h k (by omega)⟩
theorem bool_iff {a b : Bool} (h : a = true ↔ b = true) : a = b := by cases a <;> cases b <;> simp_all
theorem anyF_rds {sh : Dt} {f : Dt -> Bool} {g : Nat -> Bool} (h : ∀ b, b < 2 ^ (pos sh).length -> g b = f (itW (pos sh) b sh)) : anyF g 0 (2 ^ (uns sh).length) = anyF (fun k => f (row (rdD sh) k)) 0 (rdD sh).length := by
 refine bool_iff ?_;rw [anyF_0, anyF_0, any_rds, uns_len];exact ⟨fun ⟨b, hb, e⟩ => ⟨b, hb, by rw [<- h b hb]; exact e⟩, fun ⟨b, hb, e⟩ => ⟨b, hb, by rw [h b hb]; exact e⟩⟩
theorem allF_rds {sh : Dt} {f : Dt -> Bool} {g : Nat -> Bool} (h : ∀ b, b < 2 ^ (pos sh).length -> g b = f (itW (pos sh) b sh)) : allF g 0 (2 ^ (uns sh).length) = allF (fun k => f (row (rdD sh) k)) 0 (rdD sh).length := by
 refine bool_iff ?_;rw [allF_0, allF_0, uns_len];have := any_rds (sh := sh) fun r => !f r;constructor
 ·intro h1 k hk;cases e : f (row (rdD sh) k) with
  | true => rfl
  | false =>
   obtain ⟨b, hb, c⟩ := this.1 ⟨k, hk, by rw [e]; rfl⟩;rw [<- h b hb, h1 b hb] at c;cases c
 ·intro h1 b hb;rw [h b hb];cases e : f (itW (pos sh) b sh) with
  | true => rfl
  | false =>
   obtain ⟨k, hk, c⟩ := this.2 ⟨b, hb, by rw [e]; rfl⟩;rw [h1 k hk] at c;cases c
theorem ocV_bits {qs ps sh : Dt} {all : Int} (hk : KeyOk qs ps all) (hs : ShOk qs sh) : ocB (anyF (psB qs ps all sh (uns sh)) 0 (2 ^ (uns sh).length)) (allF (psB qs ps all sh (uns sh)) 0 (2 ^ (uns sh).length)) = ocV qs ps all sh := by
 have h7 := hs.seven;rw [uns_len] at h7;have h := fun b (hb : b < 2 ^ (pos sh).length) => psW_it (ps := ps) (all := all) hk hs.n h7 hb;rw [anyF_rds (f := psS qs ps all) (g := psB qs ps all sh (uns sh)) h, allF_rds (f := psS qs ps all) (g := psB qs ps all sh (uns sh)) h];rfl
theorem ShOk.se {qs sh : Dt} (h : ShOk qs sh) {ps : Dt} {all : Int} (hk : KeyOk qs ps all) : SeOk qs sh (uns sh) := by
 have h7 := h.seven;refine ⟨h.n, by omega, fun q hq => ⟨by omega, ?_, fun i hi e => ?_⟩⟩
 ·have := (h.toShapeOk.few hk).2 q hq; omega
 ·obtain ⟨p, hp, e1, e2⟩ := uns_cel hi;have hm := mem_pos.1 hp;unfold cA at e;unfold cB;rw [e1] at e;rw [e2];have : p.1 = q := by omega
  subst this;omega
end Sp
theorem Xoi : PureOk Try.prog 19 Xce [(false, [.row 3 Jc]), (false, [.bool]), (false, [.int .i64])] (fun _ => True) Xdf :=
 Xnj fun W qs ps all sh hp Q h => by
  unfold Xds;delta Zb;simp only [Xdf, Sp.markR, Sp.markB] at h
  by_cases e : Sp.askE qs.xs ps.xs all sh.xs = 0
  ·obtain ⟨hk, hs⟩ := Sp.askE_ok e;have hse := hs.se hk
   by_cases e2 : (Sp.uns sh.xs).length = 0
   ·have e3 : Sp.markE qs.xs ps.xs all sh.xs = 0 := by unfold Sp.markE; rw [if_pos e, if_pos e2]
    rw [if_pos e3, if_pos e3, e3] at h;have hp0 : Sp.pos sh.xs = [] := List.length_eq_zero_iff.1 (by rw [<- Sp.uns_len]; exact e2);have hm := Sp.mkW_it (b := 0) (ps := ps.xs) hk hs.n (by rw [hp0]; simp) (by rw [hp0]; simp);have hm : Sp.mkW qs.xs ps.xs sh.xs (Sp.uns sh.xs) 0 = Sp.mk qs.xs ps.xs sh.xs := by rw [hp0] at hm; exact hm
    refine vifd (fun _ => vifd (fun c => by omega) fun _ => ⟨⟨by omega, hk, hse⟩, ⟨⟨by omega, hk, hse⟩, ?_⟩⟩) fun c => absurd e c;unfold Sp.psW;rw [hm];exact h
   ·have e3 : Sp.markE qs.xs ps.xs all sh.xs = 2 := by unfold Sp.markE; rw [if_pos e, if_neg e2]
    rw [if_neg (by omega), if_neg (by omega), e3] at h;exact vifd (fun _ => vifd (fun c => h) fun c => by omega) fun c => absurd e c
  ·have e3 : Sp.markE qs.xs ps.xs all sh.xs = Sp.askE qs.xs ps.xs all sh.xs := by unfold Sp.markE; rw [if_neg e]
   rw [if_neg (by omega), if_neg (by omega), e3] at h;exact vifd (fun c => absurd c e) fun _ => vifn (fun _ => h) fun c => absurd c e
def Xhu : PC Try.prog := ⟨19, Xce, [(false, [.row 3 Jc]), (false, [.bool]), (false, [.int .i64])], fun _ => True, Xdf, Xoi⟩
theorem Xoh : PureOk Try.prog 23 Xcd [(false, [.int .i64]), (false, [.int .i64])] (fun _ => True) Xde :=
 Xni fun W qs ps all sh hp Q h => by
  unfold Xdr;simp only [Xde, Sp.ocA] at h;refine vifd (fun e => ?_) fun e => vifn (fun _ => ?_) fun c => absurd c e
  ·obtain ⟨hk, hs⟩ := Sp.askE_ok e;rw [if_pos e, e] at h;rw [Sp.ocV_bits hk hs];exact ⟨⟨hk, hs.se hk, hs.seven⟩, trivial, h⟩
  ·rw [if_neg e] at h; exact h
def Xl9 : PC Try.prog := ⟨23, Xcd, [(false, [.int .i64]), (false, [.int .i64])], fun _ => True, Xde, Xoh⟩
namespace Sp
def xorB (k ix : Int) : Int := xorI .i64 k ((1 : Int) * 2 ^ min ix.toNat 64)
def dcB (qs ps : Dt) (all : Int) (sh u : Dt) (ix : Int) (k : Nat) : Bool := !(psW qs ps all sh u k == psW qs ps all sh u (xorB k ix))
theorem xor7 : ∀ k : Fin 128, ∀ i : Fin 7, xorI .i64 (k.val : Int) ((1 : Int) * 2 ^ min ((i.val : Nat) : Int).toNat 64) = ((if k.val / 2 ^ i.val % 2 = 0 then k.val + 2 ^ i.val else k.val - 2 ^ i.val : Nat) : Int) := by decide +kernel
def flip (k i : Nat) : Nat := if k / 2 ^ i % 2 = 0 then k + 2 ^ i else k - 2 ^ i
theorem xor_of {k i : Nat} (hk : k < 128) (hi : i < 7) : xorB (k : Int) (i : Int) = (flip k i : Nat) := xor7 ⟨k, hk⟩ ⟨i, hi⟩
theorem xor_ge {k ix : Int} (h0 : 0 <= k) (h1 : k < 128) (h2 : 0 <= ix) (h3 : ix < 7) : 0 <= xorB k ix := by
 have := xor_of (k := k.toNat) (i := ix.toNat) (by omega) (by omega);rw [Int.toNat_of_nonneg h0, Int.toNat_of_nonneg h2] at this;rw [this]; omega
end Sp
def Xez [InW] (e : List Ed) (K : Nat -> List Ed -> Prop) : Prop := match e with
 | [.i n, .i i, .ro _ qs, .ro _ ps, .i all, .ro _ sh, .l u, .i ix, .b so, .b al] => Pre (0 <= i /\ i <= n /\ n <= 128 /\ Sp.KeyOk qs.xs ps.xs all /\ Sp.SeOk qs.xs sh.xs u /\ 0 <= ix /\ ix < 7) (K 0 [.ro _ qs, .ro _ ps, .i all, .ro _ sh, .l u, .i ix, .b (so || Sp.anyF (Sp.dcB qs.xs ps.xs all sh.xs u ix) i.toNat (n - i).toNat), .b (al && Sp.allF (Sp.dcB qs.xs ps.xs all sh.xs u ix) i.toNat (n - i).toNat)])
 | _ => False
def Xgp : LC where
 len := 18
 T := [(0, (.yl 1)), (1, (.ptr 10 0)), (9, .int .i64), (10, .int .i64)]
 H := [(1, .lp LPth [(.opq 1501), (.opq 1504), (.opq 1507), (.opq 1510), (.ptr 13 0), (.ptr 16 0), (.ptr 19 0), (.opq 318), (.opq 321), (.opq 1528), (.opq 327), (.opq 330), (.opq 333), (.opq 336), (.opq 339), (.opq 342), (.opq 345), (.opq 348), (.opq 351), (.opq 354), (.opq 357), (.opq 360), (.opq 1567), (.opq 1570)]), (10, .blk 85 [(.ptr 4 0)]), (4, .blk 89 [.rs Iv5, .rs Jc, .int .i64, .rs Jb, (.row 7)]), (7, .arr 44 Ja), (13, .blk 84 [(.fn (.func 66) [] [(.ptr 25 0), (.ptr 22 0)])]), (25, .blk 85 [(.ptr 4 0)]), (22, .blk 3 [.int .i64]), (16, .blk 4 [.bool]), (19, .blk 4 [.bool])]
 W := ([3] ++ rg 11 7)
 outs := [⟨.exit 0, [], [(1, .lp LPth [(.opq 1501), (.opq 1504), (.opq 1507), (.opq 1510), (.ptr 13 0), (.ptr 16 0), (.ptr 19 0), (.opq 618), (.opq 621), (.opq 1528), (.opq 627), (.opq 630), (.opq 633), (.opq 636), (.opq 639), (.opq 642), (.opq 645), (.opq 648), (.opq 651), (.opq 654), (.opq 657), (.opq 660), (.opq 1567), (.opq 1570)]), (618, .dead), (621, .dead), (627, .dead), (630, .dead), (633, .dead), (636, .dead), (639, .dead), (642, .dead), (645, .dead), (648, .dead), (651, .dead), (654, .dead), (657, .dead), (660, .dead), (10, .blk 85 [(.ptr 4 0)]), (4, .blk 89 [.rs Iv5, .rs Jc, .int .i64, .rs Jb, (.row 7)]), (7, .arr 44 Ja), (13, .blk 84 [(.fn (.func 66) [] [(.ptr 25 0), (.ptr 22 0)])]), (25, .blk 85 [(.ptr 4 0)]), (22, .blk 3 [.int .i64]), (16, .blk 4 [.bool]), (19, .blk 4 [.bool])], ([0, 1, 3] ++ rg 9 9)⟩]
 spec := Xez
def Xd2 [W : InW] (n i : Int) (qs : Ro Iv5) (ps : Ro Jc) (all : Int) (sh : Ro Jb) (u : Dt) (ix : Int) (so al : Bool) (A : List Ed -> Prop) (K : Nat -> List Ed -> Prop) : Prop :=
 Vif (decide (i < n)) (Pre (0 <= i /\ Sp.KeyOk qs.xs ps.xs all /\ Sp.SeOk qs.xs sh.xs u) (Need (decide (0 <= ix)) (Ar .i64 ((1 : Int) * 2 ^ min ix.toNat (64 : Nat)) fun z => Pre ((0 : Int) <= xorI IntKind.i64 i z /\ Sp.KeyOk qs.xs ps.xs all /\ Sp.SeOk qs.xs sh.xs u) (Vif so (Vif al (Ar .i64 (i + 1) fun z_1 => PreL LPth LPth (A [.i n, .i z_1, .ro _ qs, .ro _ ps, .i all, .ro Zdw sh, .l u, .i ix, .b true, .b !Sp.psW qs.xs ps.xs all sh.xs u i == Sp.psW qs.xs ps.xs all sh.xs u (xorI IntKind.i64 i z)])) (Ar .i64 (i + 1) fun z => PreL LPth LPth (A [.i n, .i z, .ro _ qs, .ro _ ps, .i all, .ro Zdw sh, .l u, .i ix, .b true, .b false]))) (Vif al (Ar .i64 (i + 1) fun z_1 => PreL LPth LPth (A [.i n, .i z_1, .ro _ qs, .ro _ ps, .i all, .ro Zdw sh, .l u, .i ix, .b !Sp.psW qs.xs ps.xs all sh.xs u i == Sp.psW qs.xs ps.xs all sh.xs u (xorI IntKind.i64 i z), .b !Sp.psW qs.xs ps.xs all sh.xs u i == Sp.psW qs.xs ps.xs all sh.xs u (xorI IntKind.i64 i z)])) (Ar .i64 (i + 1) fun z_1 => PreL LPth LPth (A [.i n, .i z_1, .ro _ qs, .ro _ ps, .i all, .ro Zdw sh, .l u, .i ix, .b !Sp.psW qs.xs ps.xs all sh.xs u i == Sp.psW qs.xs ps.xs all sh.xs u (xorI IntKind.i64 i z), .b false]))))))) (PreL LPth LPth (K 0 [.ro _ qs, .ro _ ps, .i all, .ro Zdw sh, .l u, .i ix, .b so, .b al]))
theorem Xk0 (W : InW) (n i qs ps all sh u ix so al A K) : Yfc { cxT Try.prog TT T60 1000 50 with fn := 83 } 1000 (Yn8 Try.prog 83 2) (Yd8 18 [(0, .yl 1), (1, .ptr 10 0), (9, .si .i64 n), (10, .si .i64 i)] ([3] ++ rg 11 7)) [(1, .lp LPth [.opq 1501, .opq 1504, .opq 1507, .opq 1510, .ptr 13 0, .ptr 16 0, .ptr 19 0, .opq 318, .opq 321, .opq 1528, .opq 327, .opq 330, .opq 333, .opq 336, .opq 339, .opq 342, .opq 345, .opq 348, .opq 351, .opq 354, .opq 357, .opq 360, .opq 1567, .opq 1570]), (10, .blk 85 [.ptr 4 0]), (4, .blk 89 [.rs _ qs, .rs _ ps, .si .i64 all, .rs _ sh, .rw 7]), (7, .arr 44 Ja u), (13, .blk 84 [.fn (.func 66) [] [.ptr 25 0, .ptr 22 0]]), (25, .blk 85 [.ptr 4 0]), (22, .blk 3 [.si .i64 ix]), (16, .blk 4 [.sb so]), (19, .blk 4 [.sb al])] (Yug Xgp A K) = Xd2 n i qs ps all sh u ix so al A K := by kernel_rfl
def Xfy : Prop := ∀ (W : InW) (body a : Code), (Try.prog.funcs[83]?).bind (·.body) = some body -> a ∈ Y0 body -> Yfw a = 2 -> @Ymr W Try.prog a (@Yto W Xgp)
theorem Xml (meas : [InW] -> List Ed -> Nat) (hyp_ : ∀ (W : InW) n i qs ps all sh u ix so al K, Xez [.i n, .i i, .ro _ qs, .ro _ ps, .i all, .ro _ sh, .l u, .i ix, .b so, .b al] K -> ∀ A : List Ed -> Prop, (∀ e, meas e < meas [.i n, .i i, .ro _ qs, .ro _ ps, .i all, .ro _ sh, .l u, .i ix, .b so, .b al] -> Xez e K -> A e) -> Xd2 n i qs ps all sh u ix so al A K) : Xfy :=
 LE.okOf' (fun W => @TT W) (fun W => @Xe W) Xa T60 1000 50 (by kernel_rfl) Xgp (fun W => @meas W) fun W n i qs ps all sh u ix so al K hs =>
  (Xk0 W n i qs ps all sh u ix so al (fun e => meas e < meas [.i n, .i i, .ro _ qs, .ro _ ps, .i all, .ro _ sh, .l u, .i ix, .b so, .b al] /\ Xez e K) K).mpr (hyp_ W n i qs ps all sh u ix so al K hs _ fun e h1 h2 => ⟨h1, h2⟩)
theorem Xo1 : Xfy := Xml (fun e => match e with | .i n :: .i i :: _ => (n - i).toNat | _ => 0) fun W n i qs ps all sh u ix so al K hs A hA => by
 obtain ⟨⟨h0, h1, h2, hkey, hse, h3, h4⟩, hk⟩ := hs;unfold Xd2;delta Zdw;have ez : (i + 1).toNat = i.toNat + 1 := by omega
 have ei : ((i.toNat : Nat) : Int) = i := Int.toNat_of_nonneg h0
 by_cases hi : i < n
 ·have hx := Sp.xor_ge (k := i) (ix := ix) h0 (by omega) h3 h4;obtain ⟨p1, p2, p3⟩ := Xo (n := ix.toNat) (by omega);rw [Int.toNat_of_nonneg h3] at p1;rw [show (n - i).toNat = (n - (i + 1)).toNat + 1 by omega] at hk;have hA' : ∀ c d, c = (so || !(Sp.psW qs.xs ps.xs all sh.xs u i == Sp.psW qs.xs ps.xs all sh.xs u (Sp.xorB i ix))) -> d = (al && !(Sp.psW qs.xs ps.xs all sh.xs u i == Sp.psW qs.xs ps.xs all sh.xs u (Sp.xorB i ix))) -> A [.i n, .i (i + 1), .ro _ qs, .ro _ ps, .i all, .ro _ sh, .l u, .i ix, .b c, .b d] := fun c d hc hd => hA _ (show (n - (i + 1)).toNat < (n - i).toNat by omega) ⟨⟨by omega, by omega, h2, hkey, hse, h3, h4⟩, by
   simp only [Sp.anyF, Sp.allF, Sp.dcB, ei] at hk;rw [ez, hc, hd, Bool.or_assoc, Bool.and_assoc];exact hk⟩
  clear hA hk;unfold Sp.xorB at hA' hx;rw [p1] at hA' hx ⊢;have p4 : 1 <= ((2 ^ ix.toNat : Nat) : Int) /\ ((2 ^ ix.toNat : Nat) : Int) <= 128 := by omega
  generalize ((2 ^ ix.toNat : Nat) : Int) = z at *
  repeat' (first | (with_reducible refine Xb ⟨h0, hkey, hse⟩ ?_) | (with_reducible refine Xb ⟨hx, hkey, hse⟩ ?_) | omega|intro _|with_reducible first|apply vifd|apply vifn|apply vifq|apply Xd|apply Xc|apply vifb|apply vif|apply nedd|apply ned2|apply ned|apply ar64|apply Xb|exact True.intro|assumption|rfl|apply And.intro)
  all_goals first | contradiction | (refine ⟨rfl, ?_⟩; refine hA' _ _ ?_ ?_ <;> simp [*]; done) | skip
 ·rw [show (n - i).toNat = 0 by omega] at hk;simp only [Sp.allF, Sp.anyF, Bool.and_true, Bool.or_false] at hk;clear hA
  repeat' (first | omega|intro _|with_reducible first|apply vifd|apply vifn|apply vifq|apply Xd|apply Xc|apply vifb|apply vif|apply nedd|apply ned2|apply ned|apply ar64|apply Xb|exact True.intro|assumption|rfl|apply And.intro)
  all_goals exact ⟨rfl, hk⟩
def Xpw : LE Try.prog := ⟨83, 2, fun W => @Yto W Xgp, Xo1⟩
def T63 : Tab Try.prog := ⟨[], [Xpw], []⟩
def Xhk [InW] (e : List Ed) (K : Nat -> List Ed -> Prop) : Prop := match e with
 | [.ro _ qs, .ro _ ps, .i all, .ro _ sh, .l u, .i ix] => Pre (Sp.KeyOk qs.xs ps.xs all /\ Sp.SeOk qs.xs sh.xs u /\ u.length <= 7 /\ 0 <= ix /\ ix < 7) (K 0 [.b (Sp.anyF (Sp.dcB qs.xs ps.xs all sh.xs u ix) 0 (2 ^ u.length)), .b (Sp.allF (Sp.dcB qs.xs ps.xs all sh.xs u ix) 0 (2 ^ u.length)), .ro _ qs, .ro _ ps, .i all, .ro _ sh, .l u, .i ix])
 | _ => False
def Xl : CC where
 g := 60
 args := [(.fn (.func 83) [] [(.ptr 10 0)]), (.fn (.func 66) [] [(.ptr 25 0), (.ptr 22 0)])]
 H := [(10, .blk 85 [(.ptr 4 0)]), (4, .blk 89 [.rs Iv5, .rs Jc, .int .i64, .rs Jb, (.row 7)]), (7, .arr 44 Ja), (25, .blk 85 [(.ptr 4 0)]), (22, .blk 3 [.int .i64])]
 outs := [⟨false, .tup [.bool, .bool], [(10, .blk 85 [(.ptr 4 0)]), (4, .blk 89 [.rs Iv5, .rs Jc, .int .i64, .rs Jb, (.row 7)]), (7, .arr 44 Ja), (25, .blk 85 [(.ptr 4 0)]), (22, .blk 3 [.int .i64])], false⟩]
 spec := Xhk
def Xcu [W : InW] (qs : Ro Iv5) (ps : Ro Jc) (all : Int) (sh : Ro Jb) (u : Dt) (ix : Int) (K : Nat -> List Ed -> Prop) : Prop :=
 Need (decide ((0 : Int) <= (↑(u.length) : Int))) (Ar .i64 ((1 : Int) * 2 ^ min (↑(u.length) : Int).toNat (64 : Nat)) fun z => PreL LPth LPth (Pre ((0 : Int) <= 0 /\ 0 <= z /\ z <= 128 /\ Sp.KeyOk qs.xs ps.xs all /\ Sp.SeOk qs.xs sh.xs u /\ 0 <= ix /\ ix < 7) (K 0 [.b (false || Sp.anyF (Sp.dcB qs.xs ps.xs all sh.xs u ix) Za (z - 0).toNat), .b (true && Sp.allF (Sp.dcB qs.xs ps.xs all sh.xs u ix) Za (z - 0).toNat), .ro _ qs, .ro _ ps, .i all, .ro Zdw sh, .l u, .i ix])))
theorem Xi0 (W : InW) (qs ps all sh u ix K) : Ywu (cxT Try.prog TT T63 1000 50) 1000 60 [.fn (.func 83) [] [.ptr 10 0], .fn (.func 66) [] [.ptr 25 0, .ptr 22 0]] [(10, .blk 85 [.ptr 4 0]), (4, .blk 89 [.rs _ qs, .rs _ ps, .si .i64 all, .rs _ sh, .rw 7]), (7, .arr 44 Ja u), (25, .blk 85 [.ptr 4 0]), (22, .blk 3 [.si .i64 ix])] (fun v h => outC Xl.H [.ro _ qs, .ro _ ps, .i all, .ro _ sh, .l u, .i ix] Xl.outs 0 false v h K) (fun v h => outC Xl.H [.ro _ qs, .ro _ ps, .i all, .ro _ sh, .l u, .i ix] Xl.outs 0 true v h K) = Xcu qs ps all sh u ix K := by kernel_rfl
theorem Xjw (hyp_ : ∀ (W : InW) qs ps all sh u ix K, Xhk [.ro _ qs, .ro _ ps, .i all, .ro _ sh, .l u, .i ix] K -> Xcu qs ps all sh u ix K) : ∀ W : InW, @CallC W Try.prog Xl :=
 CC.okOf (fun W => @TT W) (fun W => @Xe W) Xa T63 1000 50 Xl fun W qs ps all sh u ix K hs => (Xi0 W qs ps all sh u ix K).mpr (hyp_ W qs ps all sh u ix K hs)
theorem Xns : ∀ W : InW, @CallC W Try.prog Xl := Xjw fun W qs ps all sh u ix K hs => by
 obtain ⟨⟨hkey, hse, h7, h3, h4⟩, hk⟩ := hs;unfold Xcu;delta Za Zdw Zb;obtain ⟨p1, p2, p3⟩ := Xo h7;rw [p1];simp only [show Int.toNat 0 = 0 from rfl, Int.sub_zero, Bool.true_and, Bool.false_or];refine nedd (by omega) (ar64 (by omega) ⟨rfl, ⟨by omega, by omega, by omega, hkey, hse, h3, h4⟩, ?_⟩);rw [Int.toNat_natCast];exact hk
namespace Sp
def dcW (qs ps : Dt) (all : Int) (sh u : Dt) : Nat -> Nat -> Dt
 | _, 0 => []
 | i, n + 1 => (if anyF (dcB qs ps all sh u i) 0 (2 ^ u.length) = true then [[.i (cA u i), .i (cB u i)]] else []) ++ dcW qs ps all sh u (i + 1) n
end Sp
def T64 : Tab Try.prog := ⟨[], [], [ceOf Xl Xns]⟩
def Xfc [InW] (e : List Ed) (K : Nat -> List Ed -> Prop) : Prop := match e with
 | [.i n, .i i, .ro _ qs, .ro _ ps, .i all, .ro _ sh, .l u, .l l] => Pre (n = u.length /\ 0 <= i /\ i <= u.length /\ Sp.KeyOk qs.xs ps.xs all /\ Sp.SeOk qs.xs sh.xs u /\ u.length <= 7 /\ l.length <= i) (K 0 [.l (l ++ Sp.dcW qs.xs ps.xs all sh.xs u i.toNat (u.length - i.toNat))])
 | _ => False
def Xg2 : LC where
 len := 46
 T := [(4, (.row 3)), (6, (.ptr 25 0)), (24, (.row 7)), (25, .int .i64), (26, .int .i64)]
 H := [(25, .blk 85 [(.ptr 4 0)]), (4, .blk 89 [.rs Iv5, .rs Jc, .int .i64, .rs Jb, (.row 7)]), (7, .arr 44 Ja), (3, .arr 44 Ja)]
 W := (rg 7 5 ++ rg 27 18)
 outs := [⟨.exit 0, [(4, (.row 6))], [(6, .arr 44 Ja)], (rg 6 6 ++ rg 24 21)⟩]
 spec := Xfc
def Xef [W : InW] (n i : Int) (qs : Ro Iv5) (ps : Ro Jc) (all : Int) (sh : Ro Jb) (u l : Dt) (A : List Ed -> Prop) (K : Nat -> List Ed -> Prop) : Prop :=
 Vif (decide (i < n)) (Need (decide (0 <= i) && decide (i < (↑(u.length) : Int))) (Need (decide (i.toNat < u.length)) (Pre (Sp.KeyOk qs.xs ps.xs all /\ Sp.SeOk qs.xs sh.xs u /\ u.length <= 7 /\ 0 <= i /\ i < 7) (Vif (Sp.anyF (Sp.dcB qs.xs ps.xs all sh.xs u i) Zd ((2 : Nat) ^ u.length)) (Need (decide ((l.length + [[Cl.i (cel u i.toNat Zd).int, Cl.i (cel u i.toNat (0+1)).int]].length) * 16 <= 140737488355328)) (Ar .i64 (i + 1) fun z => A [.i n, .i z, .ro _ qs, .ro _ ps, .i all, .ro Zdw sh, .l u, .l (l ++ [[Cl.i (cel u i.toNat Zd).int, Cl.i (cel u i.toNat (0+1)).int]])])) (Ar .i64 (i + 1) fun z => A [.i n, .i z, .ro _ qs, .ro _ ps, .i all, .ro Zdw sh, .l u, .l l]))))) (K 0 [.l l])
theorem Xld (W : InW) (n i qs ps all sh u l A K) : Yfc { cxT Try.prog TT T64 1000 50 with fn := 27 } 1000 (Yn8 Try.prog 27 6) (Yd8 46 [(4, .rw 3), (6, .ptr 25 0), (24, .rw 7), (25, .si .i64 n), (26, .si .i64 i)] (rg 7 5 ++ rg 27 18)) [(25, .blk 85 [.ptr 4 0]), (4, .blk 89 [.rs _ qs, .rs _ ps, .si .i64 all, .rs _ sh, .rw 7]), (7, .arr 44 Ja u), (3, .arr 44 Ja l)] (Yug Xg2 A K) = Xef n i qs ps all sh u l A K := by kernel_rfl
def Xgb : Prop := ∀ (W : InW) (body a : Code), (Try.prog.funcs[27]?).bind (·.body) = some body -> a ∈ Y0 body -> Yfw a = 6 -> @Ymr W Try.prog a (@Yto W Xg2)
theorem Xmy (meas : [InW] -> List Ed -> Nat) (hyp_ : ∀ (W : InW) n i qs ps all sh u l K, Xfc [.i n, .i i, .ro _ qs, .ro _ ps, .i all, .ro _ sh, .l u, .l l] K -> ∀ A : List Ed -> Prop, (∀ e, meas e < meas [.i n, .i i, .ro _ qs, .ro _ ps, .i all, .ro _ sh, .l u, .l l] -> Xfc e K -> A e) -> Xef n i qs ps all sh u l A K) : Xgb :=
 LE.okOf' (fun W => @TT W) (fun W => @Xe W) Xa T64 1000 50 (by kernel_rfl) Xg2 (fun W => @meas W) fun W n i qs ps all sh u l K hs =>
  (Xld W n i qs ps all sh u l (fun e => meas e < meas [.i n, .i i, .ro _ qs, .ro _ ps, .i all, .ro _ sh, .l u, .l l] /\ Xfc e K) K).mpr (hyp_ W n i qs ps all sh u l K hs _ fun e h1 h2 => ⟨h1, h2⟩)
theorem Xpe : Xgb := Xmy (fun e => match e with | .i n :: .i i :: _ => (n - i).toNat | _ => 0) fun W n i qs ps all sh u l K hs A hA => by
 obtain ⟨⟨rfl, h0, h1, hkey, hse, h7, hl⟩, hk⟩ := hs;unfold Xef;delta Zdw Zd;simp only [List.length_cons, List.length_nil, Nat.zero_add, show ∀ k, (cel u k 0).int = Sp.cA u k from fun _ => rfl, show ∀ k, (cel u k 1).int = Sp.cB u k from fun _ => rfl];have ez : (i + 1).toNat = i.toNat + 1 := by omega
 have ei : ((i.toNat : Nat) : Int) = i := Int.toNat_of_nonneg h0
 by_cases hi : i < u.length
 ·rw [show u.length - i.toNat = (u.length - (i.toNat + 1)) + 1 by omega] at hk;simp only [Sp.dcW, ei] at hk;cases c : Sp.anyF (Sp.dcB qs.xs ps.xs all sh.xs u i) 0 (2 ^ u.length) with
  | true =>
   rw [c, if_pos rfl, <- List.append_assoc] at hk;have hA' := hA [.i u.length, .i (i + 1), .ro _ qs, .ro _ ps, .i all, .ro _ sh, .l u, .l (l ++ [[.i (Sp.cA u i.toNat), .i (Sp.cB u i.toNat)]])] (show ((u.length : Int) - (i + 1)).toNat < ((u.length : Int) - i).toNat by omega) ⟨⟨rfl, by omega, by omega, hkey, hse, h7, by simp; omega⟩, by rw [ez]; exact hk⟩;clear hA hk
   repeat' (first | (with_reducible refine Xb ⟨hkey, hse, h7, h0, by omega⟩ ?_) | omega|intro _|with_reducible first|apply vifd|apply vifn|apply vifq|apply Xd|apply Xc|apply vifb|apply vif|apply nedd|apply ned2|apply ned|apply ar64|apply Xb|exact True.intro|assumption|rfl|apply And.intro)
   all_goals first | contradiction | exact hA' | skip
  | false =>
   rw [c, if_neg (by decide), List.nil_append] at hk;have hA' := hA [.i u.length, .i (i + 1), .ro _ qs, .ro _ ps, .i all, .ro _ sh, .l u, .l l] (show ((u.length : Int) - (i + 1)).toNat < ((u.length : Int) - i).toNat by omega) ⟨⟨rfl, by omega, by omega, hkey, hse, h7, by omega⟩, by rw [ez]; exact hk⟩;clear hA hk
   repeat' (first | (with_reducible refine Xb ⟨hkey, hse, h7, h0, by omega⟩ ?_) | omega|intro _|with_reducible first|apply vifd|apply vifn|apply vifq|apply Xd|apply Xc|apply vifb|apply vif|apply nedd|apply ned2|apply ned|apply ar64|apply Xb|exact True.intro|assumption|rfl|apply And.intro)
   all_goals first | contradiction | exact hA' | skip
 ·rw [show u.length - i.toNat = 0 by omega] at hk;simp only [Sp.dcW, List.append_nil] at hk;clear hA
  repeat' (first | omega|intro _|with_reducible first|apply vifd|apply vifn|apply vifq|apply Xd|apply Xc|apply vifb|apply vif|apply nedd|apply ned2|apply ned|apply ar64|apply Xb|exact True.intro|assumption|rfl|apply And.intro)
  all_goals exact hk
def Xp8 : LE Try.prog := ⟨27, 6, fun W => @Yto W Xg2, Xpe⟩
def T65 : Tab Try.prog := ⟨[], [Xp8], [ceOf Xh Xbj]⟩
def Xdu [W : InW] (kQ : Ro Iv5) (kP : Ro Jc) (kA : Int) (sh : Ro Jb) (Q : DS -> Prop) : Prop :=
 Vif (decide (Sp.askE kQ.xs kP.xs kA sh.xs = 0)) (Pre ((↑(List.length (Sp.uns sh.xs)) : Int) = (↑(List.length (Sp.uns sh.xs)) : Int) /\ Zb <= 0 /\ Zb <= (↑(List.length (Sp.uns sh.xs)) : Int) /\ Sp.KeyOk kQ.xs kP.xs kA /\ Sp.SeOk kQ.xs sh.xs (Sp.uns sh.xs) /\ List.length (Sp.uns sh.xs) <= 7 /\ (↑(0 : Nat) : Int) <= 0) (Q [[Cl.l (Sp.dcW kQ.xs kP.xs kA sh.xs (Sp.uns sh.xs) (Int.toNat Zb) (List.length (Sp.uns sh.xs) - Int.toNat Zb))], [Cl.i 0]])) (Vif (!decide (Sp.askE kQ.xs kP.xs kA sh.xs = 0)) (Q [[Cl.l []], [Cl.i (Sp.askE kQ.xs kP.xs kA sh.xs)]]) ((16 : Nat) = 16 + 1))
theorem Xlz (W : InW) (kQ kP kA sh Q) : Ywx (cxT Try.prog TT T65 1000 50) 1000 27 [.agg [.rs _ kQ, .rs _ kP, .si .i64 kA], .rs _ sh] [] 0 (Y04 [(false, [.row 44 Ja]), (false, [.int .i64])] Q) (fun _ _ _ _ => Stuck 421) = Xdu kQ kP kA sh Q := by kernel_rfl
abbrev Xcg : List AT := [.agg [.sl Iv5, .sl Jc, .int .i64], .one (.sl Jb)]
theorem Xnl {pre : DS -> Prop} {res : DS -> DS} (hyp_ : ∀ (W : InW) (kQ : Ro Iv5) (kP : Ro Jc) (kA : Int) (sh : Ro Jb), pre [[.l kQ.xs, .l kP.xs, .i kA], [.l sh.xs]] -> ∀ Q : DS -> Prop, Q (res [[.l kQ.xs, .l kP.xs, .i kA], [.l sh.xs]]) -> Xdu kQ kP kA sh Q) : PureOk Try.prog 27 Xcg [(false, [.row 44 Ja]), (false, [.int .i64])] pre res :=
 PureOk.of' (fun W => @TT W) (fun W => @Xe W) Xa T65 1000 50 fun W kQ kP kA sh hp =>
  (Xlz W kQ kP kA sh (fun o => o = res [[.l kQ.xs, .l kP.xs, .i kA], [.l sh.xs]])).mpr (hyp_ W kQ kP kA sh hp _ rfl)
namespace Sp
theorem withR_map (sh : Dt) (q j : Nat) (v : Int) : ∀ n i, withR sh q j v i n = (List.range' i n).map fun k => [.l (if k = q then (row sh k).set j [.i v] else row sh k)]
 | 0, _ => rfl
 | n + 1, i => by simp only [withR, List.range'_succ, List.map_cons, withR_map sh q j v n (i + 1)]
theorem withD_ext {a b : Dt} {q j q' j' : Nat} {v v' : Int} (hl : a.length = b.length) (h : ∀ k, k < a.length -> (if k = q then (row a k).set j [.i v] else row a k) = (if k = q' then (row b k).set j' [.i v'] else row b k)) : withD a q j v = withD b q' j' v' := by
 unfold withD;rw [withR_map, withR_map, <- hl];refine List.map_congr_left fun k hk => ?_;have := List.mem_range'.1 hk;rw [h k (by omega)]
theorem withD_comm (s : Dt) (p p' : Nat × Nat) (v v' : Int) (hne : p ≠ p') : withD (withD s p.1 p.2 v) p'.1 p'.2 v' = withD (withD s p'.1 p'.2 v') p.1 p.2 v := by
 refine withD_ext (by rw [withD_len, withD_len]) fun k hk => ?_;rw [withD_len] at hk;rw [withD_row _ _ _ _ _ hk, withD_row _ _ _ _ _ hk]
 by_cases c : k = p.1 <;> by_cases c' : k = p'.1
 ·rw [if_pos c, if_pos c', if_pos c', if_pos c];have : p.2 ≠ p'.2 := fun e => hne (Prod.ext (c.symm.trans c') e);exact List.set_comm _ _ this
 ·simp [c, c', if_neg (show ¬ p.1 = p'.1 from fun e => c' (c.trans e))]
 ·simp [c, c', if_neg (show ¬ p'.1 = p.1 from fun e => c (c'.trans e))]
 ·simp [c, c']
theorem withD_same (s : Dt) (q j : Nat) (v v' : Int) : withD (withD s q j v) q j v' = withD s q j v' := by
 refine withD_ext (withD_len _ _ _ _) fun k hk => ?_;rw [withD_len] at hk;rw [withD_row _ _ _ _ _ hk]
 by_cases c : k = q
 ·rw [if_pos c, if_pos c, if_pos c, List.set_set]
 ·rw [if_neg c, if_neg c, if_neg c]
theorem itW_out : ∀ (ps : List (Nat × Nat)) (b : Nat) (s : Dt) (p : Nat × Nat) (v : Int), p ∉ ps -> itW ps b (withD s p.1 p.2 v) = withD (itW ps b s) p.1 p.2 v
 | [], _, _, _, _, _ => rfl
 | p0 :: ps, b, s, p, v, h => by
  have h1 : p ≠ p0 := fun e => h (e ▸ List.mem_cons_self);have h2 : p ∉ ps := fun e => h (List.mem_cons_of_mem _ e);simp only [itW];rw [withD_comm s p p0 v _ h1, itW_out ps (b / 2) _ p v h2]
theorem it_erase : ∀ (us : List (Nat × Nat)) (i b : Nat) (s : Dt) (hi : i < us.length), us.Nodup -> b < 2 ^ us.length -> ∃ b', b' < 2 ^ (us.eraseIdx i).length /\ itW us b s = itW (us.eraseIdx i) b' (withD s us[i].1 us[i].2 ((b / 2 ^ i % 2 : Nat) : Int))
 | [], i, _, _, hi, _, _ => by simp at hi
 | p :: ps, 0, b, s, _, _, hb => by
  rw [List.length_cons, Nat.pow_succ] at hb;refine ⟨b / 2, by simp only [List.eraseIdx_cons_zero]; omega, ?_⟩;simp only [itW, List.eraseIdx_cons_zero, List.getElem_cons_zero, Nat.pow_zero, Nat.div_one]
 | p :: ps, i + 1, b, s, hi, hn, hb => by
  have hn := List.nodup_cons.1 hn;have hi2 : i < ps.length := by simpa using hi
  rw [List.length_cons, Nat.pow_succ] at hb;obtain ⟨c, hc, e⟩ := it_erase ps i (b / 2) (withD s p.1 p.2 ((b % 2 : Nat) : Int)) hi2 hn.2 (by omega);refine ⟨2 * c + b % 2, by simp only [List.eraseIdx_cons_succ, List.length_cons, Nat.pow_succ]; omega, ?_⟩;have hne : ps[i] ≠ p := fun x => hn.1 (x ▸ List.getElem_mem hi2);simp only [itW, List.eraseIdx_cons_succ, List.getElem_cons_succ];rw [e, show (2 * c + b % 2) / 2 = c by omega, show (2 * c + b % 2) % 2 = b % 2 by omega, withD_comm s ps[i] p _ _ hne, Nat.pow_succ, Nat.mul_comm (2 ^ i) 2, <- Nat.div_div_eq_div_mul]
theorem it_insert : ∀ (us : List (Nat × Nat)) (i b' v : Nat) (s : Dt) (hi : i < us.length), us.Nodup -> v < 2 -> b' < 2 ^ (us.eraseIdx i).length -> ∃ b, b < 2 ^ us.length /\ b / 2 ^ i % 2 = v /\ itW us b s = itW (us.eraseIdx i) b' (withD s us[i].1 us[i].2 (v : Int))
 | [], i, _, _, _, hi, _, _, _ => by simp at hi
 | p :: ps, 0, b', v, s, _, _, hv, hb => by
  simp only [List.eraseIdx_cons_zero] at hb;refine ⟨2 * b' + v, by rw [List.length_cons, Nat.pow_succ]; omega, by rw [Nat.pow_zero, Nat.div_one]; omega, ?_⟩;simp only [itW, List.eraseIdx_cons_zero, List.getElem_cons_zero];rw [show (2 * b' + v) / 2 = b' by omega, show (2 * b' + v) % 2 = v by omega]
 | p :: ps, i + 1, b', v, s, hi, hn, hv, hb => by
  have hn := List.nodup_cons.1 hn;have hi2 : i < ps.length := by simpa using hi
  simp only [List.eraseIdx_cons_succ, List.length_cons, Nat.pow_succ] at hb;obtain ⟨c, hc, e1, e2⟩ := it_insert ps i (b' / 2) v (withD s p.1 p.2 ((b' % 2 : Nat) : Int)) hi2 hn.2 hv (by omega);have hne : ps[i] ≠ p := fun x => hn.1 (x ▸ List.getElem_mem hi2);refine ⟨2 * c + b' % 2, by rw [List.length_cons, Nat.pow_succ]; omega, ?_, ?_⟩
  ·rw [Nat.pow_succ, Nat.mul_comm (2 ^ i) 2, <- Nat.div_div_eq_div_mul, show (2 * c + b' % 2) / 2 = c by omega];exact e1
  ·simp only [itW, List.eraseIdx_cons_succ, List.getElem_cons_succ];rw [show (2 * c + b' % 2) / 2 = c by omega, show (2 * c + b' % 2) % 2 = b' % 2 by omega, e2, withD_comm s ps[i] p _ _ hne]
theorem flip_succ (b i : Nat) : flip b (i + 1) / 2 = flip (b / 2) i /\ flip b (i + 1) % 2 = b % 2 := by
 unfold flip;rw [Nat.pow_succ, Nat.mul_comm (2 ^ i) 2, <- Nat.div_div_eq_div_mul];have hx : 1 <= 2 ^ i := Nat.one_le_two_pow;have hle : b / 2 / 2 ^ i % 2 ≠ 0 -> 2 ^ i <= b / 2 := fun h => by
  rcases Nat.lt_or_ge (b / 2) (2 ^ i) with c | c
  ·rw [Nat.div_eq_of_lt c] at h; simp at h
  ·exact c
 generalize 2 ^ i = x at *
 split
 ·omega
 ·rename_i h;have := hle h;omega
theorem it_flip : ∀ (us : List (Nat × Nat)) (i b : Nat) (s : Dt) (hi : i < us.length), us.Nodup -> itW us (flip b i) s = withD (itW us b s) us[i].1 us[i].2 ((1 - b / 2 ^ i % 2 : Nat) : Int)
 | [], i, _, _, hi, _ => by simp at hi
 | p :: ps, 0, b, s, _, hn => by
  have hn := List.nodup_cons.1 hn;have e : flip b 0 / 2 = b / 2 /\ flip b 0 % 2 = 1 - b % 2 := by
   unfold flip;rw [Nat.pow_zero, Nat.div_one]
   split <;> omega
  simp only [itW, List.getElem_cons_zero, Nat.pow_zero, Nat.div_one];rw [e.1, e.2, itW_out ps _ s p _ hn.1, itW_out ps _ s p _ hn.1, withD_same]
 | p :: ps, i + 1, b, s, hi, hn => by
  have hn := List.nodup_cons.1 hn;have hi2 : i < ps.length := by simpa using hi
  obtain ⟨e1, e2⟩ := flip_succ b i;simp only [itW, List.getElem_cons_succ];rw [e1, e2, it_flip ps i (b / 2) _ hi2 hn.2, Nat.pow_succ, Nat.mul_comm (2 ^ i) 2, <- Nat.div_div_eq_div_mul]
theorem filter_erase : ∀ (us : List (Nat × Nat)) (i : Nat) (hi : i < us.length), us.Nodup -> us.filter (fun x => decide (x ≠ us[i])) = us.eraseIdx i
 | [], i, hi, _ => by simp at hi
 | p :: ps, 0, _, hn => by
  have hn := List.nodup_cons.1 hn;simp only [List.getElem_cons_zero, List.eraseIdx_cons_zero];rw [List.filter_cons_of_neg (by simp), filter_ne_tl hn.1]
 | p :: ps, i + 1, hi, hn => by
  have hn := List.nodup_cons.1 hn;have hi2 : i < ps.length := by simpa using hi
  have hne : p ≠ ps[i] := fun x => hn.1 (x ▸ List.getElem_mem hi2);simp only [List.getElem_cons_succ, List.eraseIdx_cons_succ];rw [List.filter_cons_of_pos (by simpa using hne), filter_erase ps i hi2 hn.2]
theorem flip_lt7 : ∀ b : Fin 128, ∀ n : Fin 8, ∀ i : Fin 7, b.val < 2 ^ n.val -> i.val < n.val -> flip b.val i.val < 2 ^ n.val := by decide +kernel
theorem flip_lt {b n i : Nat} (hn : n <= 7) (hb : b < 2 ^ n) (hi : i < n) : flip b i < 2 ^ n :=
 flip_lt7 ⟨b, Nat.lt_of_lt_of_le hb (Nat.le_trans (Nat.pow_le_pow_right (by decide) hn) (by decide))⟩ ⟨n, by omega⟩ ⟨i, by omega⟩ hb hi
theorem dc_any {qs ps sh : Dt} {all : Int} {i : Nat} (hk : KeyOk qs ps all) (hs : ShOk qs sh) (hi : i < (pos sh).length) : anyF (dcB qs ps all sh (uns sh) i) 0 (2 ^ (uns sh).length) = dcV qs ps all sh (pos sh)[i].1 (pos sh)[i].2 := by
 have h7 := hs.seven;rw [uns_len] at h7;have hnd := pos_nd sh;have hps := fun b (hb : b < 2 ^ (pos sh).length) => psW_it (ps := ps) (all := all) hk hs.n h7 hb;have he : pos (withD sh (pos sh)[i].1 (pos sh)[i].2 0) = (pos sh).eraseIdx i := by rw [pos_with (by decide), filter_erase _ _ hi hnd]
 have hd : ∀ b, b < 2 ^ (pos sh).length -> (dcB qs ps all sh (uns sh) i b = true ↔ psS qs ps all (itW (pos sh) b sh) ≠ psS qs ps all (itW (pos sh) (flip b i) sh)) := fun b hb => by
  have h128 : b < 128 := Nat.lt_of_lt_of_le hb (Nat.le_trans (Nat.pow_le_pow_right (by decide) h7) (by decide));unfold dcB;rw [xor_of h128 (by omega), hps b hb, hps _ (flip_lt h7 hb hi)];simp
 refine bool_iff ?_;unfold dcV;rw [anyF_0, uns_len];have hR := any_rds (sh := withD sh (pos sh)[i].1 (pos sh)[i].2 0) fun r => !(psS qs ps all r == psS qs ps all (withD r (pos sh)[i].1 (pos sh)[i].2 1));rw [he] at hR;have hR2 : anyF (dcI qs ps all (rdD (withD sh (pos sh)[i].1 (pos sh)[i].2 0)) (pos sh)[i].1 (pos sh)[i].2) 0 (rdD (withD sh (pos sh)[i].1 (pos sh)[i].2 0)).length = true ↔ _ := anyF_0.trans hR;rw [hR2];simp only [Bool.not_eq_true', beq_eq_false_iff_ne, ne_eq];constructor
 ·rintro ⟨b, hb, h⟩;have h := (hd b hb).1 h;rcases Nat.mod_two_eq_zero_or_one (b / 2 ^ i) with c | c
  ·obtain ⟨b', hb', e⟩ := it_erase _ i b sh hi hnd hb;rw [c] at e;refine ⟨b', hb', fun x => h ?_⟩;rw [it_flip _ i b sh hi hnd, c, e];exact x
  ·have hf := it_flip _ i b sh hi hnd;obtain ⟨b', hb', e⟩ := it_erase _ i (flip b i) sh hi hnd (flip_lt h7 hb hi);have c2 : flip b i / 2 ^ i % 2 = 0 := by
    unfold flip;rw [if_neg (by omega)];have hx : 1 <= 2 ^ i := Nat.one_le_two_pow;have : (b - 2 ^ i) / 2 ^ i = b / 2 ^ i - 1 := by
     have := Nat.sub_mul_div b (2 ^ i) 1;rw [Nat.mul_one] at this;exact this
    rw [this]; omega
   have hb0 := it_flip _ i (flip b i) sh hi hnd;have ff : flip (flip b i) i = b := by
    have h1 : flip b i = b - 2 ^ i := by unfold flip; rw [if_neg (by omega)]
    have hge : 2 ^ i <= b := by
     rcases Nat.lt_or_ge b (2 ^ i) with x | x
     ·rw [Nat.div_eq_of_lt x] at c; simp at c
     ·exact x
    rw [show flip (flip b i) i = flip b i + 2 ^ i from if_pos c2, h1];omega
   rw [ff, c2] at hb0;rw [c2] at e;refine ⟨b', hb', fun x => h ?_⟩;rw [hb0, e];exact x.symm
 ·rintro ⟨b', hb', h⟩;obtain ⟨b, hb, c, e⟩ := it_insert _ i b' 0 sh hi hnd (by decide) hb';refine ⟨b, hb, (hd b hb).2 fun x => h ?_⟩;rw [it_flip _ i b sh hi hnd, c, e] at x;exact x
theorem dcW_L {qs ps sh : Dt} {all : Int} (hk : KeyOk qs ps all) (hs : ShOk qs sh) : ∀ n i, i + n = (uns sh).length -> dcW qs ps all sh (uns sh) i n = dcL qs ps all sh (uns sh) i n
 | 0, _, _ => rfl
 | n + 1, i, hi => by
  have hi2 : i < (pos sh).length := by rw [<- uns_len]; omega
  obtain ⟨c1, c2⟩ := prC_cel (pos sh) i hi2;rw [<- uns_pos] at c1 c2;have c3 : (cel (uns sh) i 0).int = (pos sh)[i].1 := c1;have c4 : (cel (uns sh) i 1).int = (pos sh)[i].2 := c2;simp only [dcW, dcL, c1, c2, c3, c4, Int.toNat_natCast];rw [dc_any hk hs hi2, dcW_L hk hs n (i + 1) (by omega)]
end Sp
theorem Xok : PureOk Try.prog 27 Xcg [(false, [.row 44 Ja]), (false, [.int .i64])] (fun _ => True) Xdh :=
 Xnl fun W qs ps all sh hp Q h => by
  unfold Xdu;delta Zb;simp only [Xdh, Sp.dcA] at h;refine vifd (fun e => ?_) fun e => vifn (fun _ => ?_) fun c => absurd c e
  ·obtain ⟨hk, hs⟩ := Sp.askE_ok e;rw [if_pos e, e] at h;simp only [show Int.toNat 0 = 0 from rfl, Nat.sub_zero];rw [Sp.dcW_L hk hs _ _ (by omega)];exact ⟨⟨trivial, by omega, by omega, hk, hs.se hk, hs.seven, by omega⟩, h⟩
  ·rw [if_neg e] at h; exact h
def Xmb : PC Try.prog := ⟨27, Xcg, [(false, [.row 44 Ja]), (false, [.int .i64])], fun _ => True, Xdh, Xok⟩
namespace Sp
def miB (sh u : Dt) (q right : Int) (k : Nat) : Bool := !decide (ansX (rowW sh u q k) = right)
end Sp
def T66 : Tab Try.prog := ⟨[], [], [ceOf Xq Xh9]⟩
def Xey [InW] (e : List Ed) (K : Nat -> List Ed -> Prop) : Prop := match e with
 | [.i n, .i i, .ro _ qs, .ro _ ps, .i all, .ro _ sh, .l u, .i q, .i part, .i boxes, .i right, .i pts, .i minus, .b so, .b al] => Pre (0 <= i /\ i <= n /\ n <= 128 /\ Sp.SeOk qs.xs sh.xs u /\ 0 <= q /\ q < sh.xs.length) (K 0 [.ro _ qs, .ro _ ps, .i all, .ro _ sh, .l u, .i q, .i part, .i boxes, .i right, .i pts, .i minus, .b (so || Sp.anyF (Sp.miB sh.xs u q right) i.toNat (n - i).toNat), .b (al && Sp.allF (Sp.miB sh.xs u q right) i.toNat (n - i).toNat)])
 | _ => False
def Xgo : LC where
 len := 18
 T := [(0, (.yl 1)), (1, (.ptr 10 0)), (9, .int .i64), (10, .int .i64)]
 H := [(1, .lp LPth [(.opq 1501), (.opq 1504), (.opq 1507), (.opq 1510), (.ptr 13 0), (.ptr 16 0), (.ptr 19 0), (.opq 318), (.opq 321), (.opq 1528), (.opq 327), (.opq 330), (.opq 333), (.opq 336), (.opq 339), (.opq 342), (.opq 345), (.opq 348), (.opq 351), (.opq 354), (.opq 357), (.opq 360), (.opq 1567), (.opq 1570)]), (10, .blk 85 [(.ptr 4 0)]), (4, .blk 89 [.rs Iv5, .rs Jc, .int .i64, .rs Jb, (.row 7)]), (7, .arr 44 Ja), (13, .blk 84 [(.fn (.func 77) [] [(.ptr 25 0), (.ptr 22 0), (.ptr 28 0)])]), (25, .blk 85 [(.ptr 4 0)]), (22, .blk 3 [.int .i64]), (28, .blk 71 [.int .i64, .int .i64, .int .i64, .int .i64, .int .i64]), (16, .blk 4 [.bool]), (19, .blk 4 [.bool])]
 W := ([3] ++ rg 11 7)
 outs := [⟨.exit 0, [], [(1, .lp LPth [(.opq 1501), (.opq 1504), (.opq 1507), (.opq 1510), (.ptr 13 0), (.ptr 16 0), (.ptr 19 0), (.opq 618), (.opq 621), (.opq 1528), (.opq 627), (.opq 630), (.opq 633), (.opq 636), (.opq 639), (.opq 642), (.opq 645), (.opq 648), (.opq 651), (.opq 654), (.opq 657), (.opq 660), (.opq 1567), (.opq 1570)]), (618, .dead), (621, .dead), (627, .dead), (630, .dead), (633, .dead), (636, .dead), (639, .dead), (642, .dead), (645, .dead), (648, .dead), (651, .dead), (654, .dead), (657, .dead), (660, .dead), (10, .blk 85 [(.ptr 4 0)]), (4, .blk 89 [.rs Iv5, .rs Jc, .int .i64, .rs Jb, (.row 7)]), (7, .arr 44 Ja), (13, .blk 84 [(.fn (.func 77) [] [(.ptr 25 0), (.ptr 22 0), (.ptr 28 0)])]), (25, .blk 85 [(.ptr 4 0)]), (22, .blk 3 [.int .i64]), (28, .blk 71 [.int .i64, .int .i64, .int .i64, .int .i64, .int .i64]), (16, .blk 4 [.bool]), (19, .blk 4 [.bool])], ([0, 1, 3] ++ rg 9 9)⟩]
 spec := Xey
def Xd1 [W : InW] (n i : Int) (qs : Ro Iv5) (ps : Ro Jc) (all : Int) (sh : Ro Jb) (u : Dt) (q part boxes right pts minus : Int) (so al : Bool) (A : List Ed -> Prop) (K : Nat -> List Ed -> Prop) : Prop :=
 Vif (decide (i < n)) (Pre (0 <= q /\ q < (↑(sh.xs.length) : Int) /\ 0 <= i /\ Sp.UqOk u q (List.length (Sp.row sh.xs q.toNat))) (Vif so (Vif al (Ar .i64 (i + 1) fun z => PreL LPth LPth (A [.i n, .i z, .ro _ qs, .ro _ ps, .i all, .ro Zdw sh, .l u, .i q, .i part, .i boxes, .i right, .i pts, .i minus, .b true, .b !decide (Sp.ansX (Sp.rowW sh.xs u q i) = right)])) (Ar .i64 (i + 1) fun z => PreL LPth LPth (A [.i n, .i z, .ro _ qs, .ro _ ps, .i all, .ro Zdw sh, .l u, .i q, .i part, .i boxes, .i right, .i pts, .i minus, .b true, .b false]))) (Vif al (Ar .i64 (i + 1) fun z => PreL LPth LPth (A [.i n, .i z, .ro _ qs, .ro _ ps, .i all, .ro Zdw sh, .l u, .i q, .i part, .i boxes, .i right, .i pts, .i minus, .b !decide (Sp.ansX (Sp.rowW sh.xs u q i) = right), .b !decide (Sp.ansX (Sp.rowW sh.xs u q i) = right)])) (Ar .i64 (i + 1) fun z => PreL LPth LPth (A [.i n, .i z, .ro _ qs, .ro _ ps, .i all, .ro Zdw sh, .l u, .i q, .i part, .i boxes, .i right, .i pts, .i minus, .b !decide (Sp.ansX (Sp.rowW sh.xs u q i) = right), .b false]))))) (PreL LPth LPth (K 0 [.ro _ qs, .ro _ ps, .i all, .ro Zdw sh, .l u, .i q, .i part, .i boxes, .i right, .i pts, .i minus, .b so, .b al]))
theorem Xkz (W : InW) (n i qs ps all sh u q part boxes right pts minus so al A K) : Yfc { cxT Try.prog TT T66 1000 50 with fn := 83 } 1000 (Yn8 Try.prog 83 2) (Yd8 18 [(0, .yl 1), (1, .ptr 10 0), (9, .si .i64 n), (10, .si .i64 i)] ([3] ++ rg 11 7)) [(1, .lp LPth [.opq 1501, .opq 1504, .opq 1507, .opq 1510, .ptr 13 0, .ptr 16 0, .ptr 19 0, .opq 318, .opq 321, .opq 1528, .opq 327, .opq 330, .opq 333, .opq 336, .opq 339, .opq 342, .opq 345, .opq 348, .opq 351, .opq 354, .opq 357, .opq 360, .opq 1567, .opq 1570]), (10, .blk 85 [.ptr 4 0]), (4, .blk 89 [.rs _ qs, .rs _ ps, .si .i64 all, .rs _ sh, .rw 7]), (7, .arr 44 Ja u), (13, .blk 84 [.fn (.func 77) [] [.ptr 25 0, .ptr 22 0, .ptr 28 0]]), (25, .blk 85 [.ptr 4 0]), (22, .blk 3 [.si .i64 q]), (28, .blk 71 [.si .i64 part, .si .i64 boxes, .si .i64 right, .si .i64 pts, .si .i64 minus]), (16, .blk 4 [.sb so]), (19, .blk 4 [.sb al])] (Yug Xgo A K) = Xd1 n i qs ps all sh u q part boxes right pts minus so al A K := by kernel_rfl
def Xfx : Prop := ∀ (W : InW) (body a : Code), (Try.prog.funcs[83]?).bind (·.body) = some body -> a ∈ Y0 body -> Yfw a = 2 -> @Ymr W Try.prog a (@Yto W Xgo)
theorem Xmk (meas : [InW] -> List Ed -> Nat) (hyp_ : ∀ (W : InW) n i qs ps all sh u q part boxes right pts minus so al K, Xey [.i n, .i i, .ro _ qs, .ro _ ps, .i all, .ro _ sh, .l u, .i q, .i part, .i boxes, .i right, .i pts, .i minus, .b so, .b al] K -> ∀ A : List Ed -> Prop, (∀ e, meas e < meas [.i n, .i i, .ro _ qs, .ro _ ps, .i all, .ro _ sh, .l u, .i q, .i part, .i boxes, .i right, .i pts, .i minus, .b so, .b al] -> Xey e K -> A e) -> Xd1 n i qs ps all sh u q part boxes right pts minus so al A K) : Xfx :=
 LE.okOf' (fun W => @TT W) (fun W => @Xe W) Xa T66 1000 50 (by kernel_rfl) Xgo (fun W => @meas W) fun W n i qs ps all sh u q part boxes right pts minus so al K hs =>
  (Xkz W n i qs ps all sh u q part boxes right pts minus so al (fun e => meas e < meas [.i n, .i i, .ro _ qs, .ro _ ps, .i all, .ro _ sh, .l u, .i q, .i part, .i boxes, .i right, .i pts, .i minus, .b so, .b al] /\ Xey e K) K).mpr (hyp_ W n i qs ps all sh u q part boxes right pts minus so al K hs _ fun e h1 h2 => ⟨h1, h2⟩)
theorem Xo0 : Xfx := Xmk (fun e => match e with | .i n :: .i i :: _ => (n - i).toNat | _ => 0) fun W n i qs ps all sh u q part boxes right pts minus so al K hs A hA => by
 obtain ⟨⟨h0, h1, h2, hse, h3, h4⟩, hk⟩ := hs;unfold Xd1;delta Zdw;have ez : (i + 1).toNat = i.toNat + 1 := by omega
 have ei : ((i.toNat : Nat) : Int) = i := Int.toNat_of_nonneg h0
 by_cases hi : i < n
 ·have huq := hse.uq q.toNat (by omega);rw [Int.toNat_of_nonneg h3] at huq;rw [show (n - i).toNat = (n - (i + 1)).toNat + 1 by omega] at hk;have hA' : ∀ c d, c = (so || !decide (Sp.ansX (Sp.rowW sh.xs u q i) = right)) -> d = (al && !decide (Sp.ansX (Sp.rowW sh.xs u q i) = right)) -> A [.i n, .i (i + 1), .ro _ qs, .ro _ ps, .i all, .ro _ sh, .l u, .i q, .i part, .i boxes, .i right, .i pts, .i minus, .b c, .b d] := fun c d hc hd => hA _ (show (n - (i + 1)).toNat < (n - i).toNat by omega) ⟨⟨by omega, by omega, h2, hse, h3, h4⟩, by
   simp only [Sp.anyF, Sp.allF, Sp.miB, ei] at hk;rw [ez, hc, hd, Bool.or_assoc, Bool.and_assoc];exact hk⟩
  clear hA hk
  repeat' (first | (with_reducible refine Xb ⟨h3, h4, h0, huq⟩ ?_) | omega|intro _|with_reducible first|apply vifd|apply vifn|apply vifq|apply Xd|apply Xc|apply vifb|apply vif|apply nedd|apply ned2|apply ned|apply ar64|apply Xb|exact True.intro|assumption|rfl|apply And.intro)
  all_goals first | contradiction | (refine ⟨rfl, ?_⟩; refine hA' _ _ ?_ ?_ <;> simp [*]; done) | skip
 ·rw [show (n - i).toNat = 0 by omega] at hk;simp only [Sp.allF, Sp.anyF, Bool.and_true, Bool.or_false] at hk;clear hA
  repeat' (first | omega|intro _|with_reducible first|apply vifd|apply vifn|apply vifq|apply Xd|apply Xc|apply vifb|apply vif|apply nedd|apply ned2|apply ned|apply ar64|apply Xb|exact True.intro|assumption|rfl|apply And.intro)
  all_goals exact ⟨rfl, hk⟩
def Xpv : LE Try.prog := ⟨83, 2, fun W => @Yto W Xgo, Xo0⟩
def T67 : Tab Try.prog := ⟨[], [Xpv], []⟩
def Xhj [InW] (e : List Ed) (K : Nat -> List Ed -> Prop) : Prop := match e with
 | [.ro _ qs, .ro _ ps, .i all, .ro _ sh, .l u, .i q, .i part, .i boxes, .i right, .i pts, .i minus] => Pre (Sp.SeOk qs.xs sh.xs u /\ u.length <= 7 /\ 0 <= q /\ q < sh.xs.length) (K 0 [.b (Sp.anyF (Sp.miB sh.xs u q right) 0 (2 ^ u.length)), .b (Sp.allF (Sp.miB sh.xs u q right) 0 (2 ^ u.length)), .ro _ qs, .ro _ ps, .i all, .ro _ sh, .l u, .i q, .i part, .i boxes, .i right, .i pts, .i minus])
 | _ => False
def Xk : CC where
 g := 60
 args := [(.fn (.func 83) [] [(.ptr 10 0)]), (.fn (.func 77) [] [(.ptr 25 0), (.ptr 22 0), (.ptr 28 0)])]
 H := [(10, .blk 85 [(.ptr 4 0)]), (4, .blk 89 [.rs Iv5, .rs Jc, .int .i64, .rs Jb, (.row 7)]), (7, .arr 44 Ja), (25, .blk 85 [(.ptr 4 0)]), (22, .blk 3 [.int .i64]), (28, .blk 71 [.int .i64, .int .i64, .int .i64, .int .i64, .int .i64])]
 outs := [⟨false, .tup [.bool, .bool], [(10, .blk 85 [(.ptr 4 0)]), (4, .blk 89 [.rs Iv5, .rs Jc, .int .i64, .rs Jb, (.row 7)]), (7, .arr 44 Ja), (25, .blk 85 [(.ptr 4 0)]), (22, .blk 3 [.int .i64]), (28, .blk 71 [.int .i64, .int .i64, .int .i64, .int .i64, .int .i64])], false⟩]
 spec := Xhj
def Xct [W : InW] (qs : Ro Iv5) (ps : Ro Jc) (all : Int) (sh : Ro Jb) (u : Dt) (q part boxes right pts minus : Int) (K : Nat -> List Ed -> Prop) : Prop :=
 Need (decide ((0 : Int) <= (↑(u.length) : Int))) (Ar .i64 ((1 : Int) * 2 ^ min (↑(u.length) : Int).toNat (64 : Nat)) fun z => PreL LPth LPth (Pre ((0 : Int) <= 0 /\ 0 <= z /\ z <= 128 /\ Sp.SeOk qs.xs sh.xs u /\ 0 <= q /\ q < (↑(sh.xs.length) : Int)) (K 0 [.b (false || Sp.anyF (Sp.miB sh.xs u q right) Za (z - 0).toNat), .b (true && Sp.allF (Sp.miB sh.xs u q right) Za (z - 0).toNat), .ro _ qs, .ro _ ps, .i all, .ro Zdw sh, .l u, .i q, .i part, .i boxes, .i right, .i pts, .i minus])))
theorem Xiz (W : InW) (qs ps all sh u q part boxes right pts minus K) : Ywu (cxT Try.prog TT T67 1000 50) 1000 60 [.fn (.func 83) [] [.ptr 10 0], .fn (.func 77) [] [.ptr 25 0, .ptr 22 0, .ptr 28 0]] [(10, .blk 85 [.ptr 4 0]), (4, .blk 89 [.rs _ qs, .rs _ ps, .si .i64 all, .rs _ sh, .rw 7]), (7, .arr 44 Ja u), (25, .blk 85 [.ptr 4 0]), (22, .blk 3 [.si .i64 q]), (28, .blk 71 [.si .i64 part, .si .i64 boxes, .si .i64 right, .si .i64 pts, .si .i64 minus])] (fun v h => outC Xk.H [.ro _ qs, .ro _ ps, .i all, .ro _ sh, .l u, .i q, .i part, .i boxes, .i right, .i pts, .i minus] Xk.outs 0 false v h K) (fun v h => outC Xk.H [.ro _ qs, .ro _ ps, .i all, .ro _ sh, .l u, .i q, .i part, .i boxes, .i right, .i pts, .i minus] Xk.outs 0 true v h K) = Xct qs ps all sh u q part boxes right pts minus K := by kernel_rfl
theorem Xjv (hyp_ : ∀ (W : InW) qs ps all sh u q part boxes right pts minus K, Xhj [.ro _ qs, .ro _ ps, .i all, .ro _ sh, .l u, .i q, .i part, .i boxes, .i right, .i pts, .i minus] K -> Xct qs ps all sh u q part boxes right pts minus K) : ∀ W : InW, @CallC W Try.prog Xk :=
 CC.okOf (fun W => @TT W) (fun W => @Xe W) Xa T67 1000 50 Xk fun W qs ps all sh u q part boxes right pts minus K hs => (Xiz W qs ps all sh u q part boxes right pts minus K).mpr (hyp_ W qs ps all sh u q part boxes right pts minus K hs)
theorem Xnr : ∀ W : InW, @CallC W Try.prog Xk := Xjv fun W qs ps all sh u q part boxes right pts minus K hs => by
 obtain ⟨⟨hse, h7, h3, h4⟩, hk⟩ := hs;unfold Xct;delta Za Zdw Zb;obtain ⟨p1, p2, p3⟩ := Xo h7;rw [p1];simp only [show Int.toNat 0 = 0 from rfl, Int.sub_zero, Bool.true_and, Bool.false_or];refine nedd (by omega) (ar64 (by omega) ⟨rfl, ⟨by omega, by omega, by omega, hse, h3, h4⟩, ?_⟩);rw [Int.toNat_natCast];exact hk
def T68 : Tab Try.prog := ⟨[Xhv], [], [ceOf Xk Xnr]⟩
namespace Sp
def miAny (sh u : Dt) (q right : Int) : Bool := anyF (miB sh u q right) 0 (2 ^ u.length)
def miAll (sh u : Dt) (q right : Int) : Bool := allF (miB sh u q right) 0 (2 ^ u.length)
def mAddW (qs sh u l : Dt) (j : Nat) : Dt := if miAll sh u j (qRight qs j) = true then l.set j [.i ((cel l j 0).int + 1), .i ((cel l j 1).int + 1)] else if miAny sh u j (qRight qs j) = true then l.set j [.i (cel l j 0).int, .i ((cel l j 1).int + 1)] else l
def addQW (qs sh u : Dt) : Nat -> Nat -> Dt -> Dt
 | _, 0, l => l
 | j, n + 1, l => addQW qs sh u (j + 1) n (mAddW qs sh u l j)
end Sp
def Xfa [InW] (e : List Ed) (K : Nat -> List Ed -> Prop) : Prop := match e with
 | [.i i, .ro _ qz, .i n, .i j, .ro _ qs, .ro _ ps, .i all, .ro _ sh, .l u, .l l] => Pre (n = qz.xs.length /\ 0 <= j /\ j <= n /\ l.length = qz.xs.length /\ sh.xs.length = qz.xs.length /\ Sp.SeOk qs.xs sh.xs u /\ u.length <= 7 /\ l.length <= 12 /\ 0 <= i /\ i <= 20 /\ Sp.CntAt l i j) (K 0 [.i i, .l (Sp.addQW qz.xs sh.xs u j.toNat (qz.xs.length - j.toNat) l)])
 | _ => False
def Xg0 : LC where
 len := 89
 T := [(4, (.row 3)), (8, (.ptr 25 0)), (30, .int .i64), (44, .rs Iv5), (45, .int .i64), (46, .int .i64)]
 H := [(25, .blk 85 [(.ptr 4 0)]), (4, .blk 89 [.rs Iv5, .rs Jc, .int .i64, .rs Jb, (.row 7)]), (7, .arr 44 Ja), (3, .arr 80 Ja)]
 W := ([10, 11] ++ rg 47 40)
 outs := [⟨.exit 2, [(4, (.row 6)), (30, .int .i64)], [(6, .arr 80 Ja)], ([8, 10, 11] ++ rg 44 43)⟩]
 spec := Xfa
def Zdz [W : InW] (j : Int) (l : Dt) := decide (0 <= j) && decide (j < (↑(l.length) : Int))
def Zea [W : InW] (j : Int) (l : Dt) := List.getD l j.toNat []
def Xed [W : InW] (i : Int) (qz : Ro Iv5) (n j : Int) (qs : Ro Iv5) (ps : Ro Jc) (all : Int) (sh : Ro Jb) (u l : Dt) (A : List Ed -> Prop) (K : Nat -> List Ed -> Prop) : Prop :=
 Vif (decide (j < n)) (Need (decide (0 <= j) && decide (j < (↑(qz.xs.length) : Int))) (Need (decide (j.toNat < qz.xs.length)) (Pre (Sp.SeOk qs.xs sh.xs u /\ u.length <= 7 /\ 0 <= j /\ j < (↑(sh.xs.length) : Int)) (Pre True (Vif (decide (Sp.ocB (Sp.anyF (Sp.miB sh.xs u j (cel qz.xs j.toNat (Zd + 1 + 1)).int) Zd ((2 : Nat) ^ u.length)) (Sp.allF (Sp.miB sh.xs u j (cel qz.xs j.toNat (Zd + 1 + 1)).int) Zd ((2 : Nat) ^ u.length)) = 1)) (Need (Zdz j l) (Need (decide (j.toNat < l.length)) (Ar .i64 ((cel l j.toNat Zd).int + 1) fun z => Need (Zdz j l) (Need (decide (j.toNat < l.length)) (Need (decide (0 <= j) && decide (j < (↑(List.set l j.toNat (Ynm (Zea j l) Zd [Cl.i z])).length : Int))) (Need (decide (j.toNat < (List.set l j.toNat (Ynm (Zea j l) Zd [Cl.i z])).length)) (Ar .i64 ((cel (List.set l j.toNat (Ynm (Zea j l) Zd [Cl.i z])) j.toNat (0+1)).int + 1) fun z_1 => Need (decide (0 <= j) && decide (j < (↑(List.set l j.toNat (Ynm (Zea j l) Zd [Cl.i z])).length : Int))) (Need (decide (j.toNat < (List.set l j.toNat (Ynm (Zea j l) Zd [Cl.i z])).length)) (Ar .i64 (j + 1) fun z_2 => A [.i i, .ro _ qz, .i n, .i z_2, .ro _ qs, .ro _ ps, .i all, .ro Zdw sh, .l u, .l ((List.set l j.toNat (Ynm (Zea j l) Zd [Cl.i z])).set j.toNat (Ynm ((List.set l j.toNat (Ynm (Zea j l) Zd [Cl.i z])).getD j.toNat []) (0+1) [Cl.i z_1]))]))))))))) (Vif (decide (Sp.ocB (Sp.anyF (Sp.miB sh.xs u j (cel qz.xs j.toNat (Zd + 1 + 1)).int) Zd ((2 : Nat) ^ u.length)) (Sp.allF (Sp.miB sh.xs u j (cel qz.xs j.toNat (Zd + 1 + 1)).int) Zd ((2 : Nat) ^ u.length)) = 2)) (Need (Zdz j l) (Need (decide (j.toNat < l.length)) (Ar .i64 ((cel l j.toNat (0+1)).int + 1) fun z => Need (Zdz j l) (Need (decide (j.toNat < l.length)) (Ar .i64 (j + 1) fun z_1 => A [.i i, .ro _ qz, .i n, .i z_1, .ro _ qs, .ro _ ps, .i all, .ro Zdw sh, .l u, .l (List.set l j.toNat (Ynm (Zea j l) (0+1) [Cl.i z]))]))))) (Ar .i64 (j + 1) fun z => A [.i i, .ro _ qz, .i n, .i z, .ro _ qs, .ro _ ps, .i all, .ro Zdw sh, .l u, .l l]))))))) (K 0 [.i i, .l l])
theorem Xlb (W : InW) (i qz n j qs ps all sh u l A K) : Yfc { cxT Try.prog TT T68 1000 50 with fn := 35 } 1000 (Yn8 Try.prog 35 15) (Yd8 89 [(4, .rw 3), (8, .ptr 25 0), (30, .si .i64 i), (44, .rs _ qz), (45, .si .i64 n), (46, .si .i64 j)] ([10, 11] ++ rg 47 40)) [(25, .blk 85 [.ptr 4 0]), (4, .blk 89 [.rs _ qs, .rs _ ps, .si .i64 all, .rs _ sh, .rw 7]), (7, .arr 44 Ja u), (3, .arr 80 Ja l)] (Yug Xg0 A K) = Xed i qz n j qs ps all sh u l A K := by kernel_rfl
def Xf9 : Prop := ∀ (W : InW) (body a : Code), (Try.prog.funcs[35]?).bind (·.body) = some body -> a ∈ Y0 body -> Yfw a = 15 -> @Ymr W Try.prog a (@Yto W Xg0)
theorem Xmw (meas : [InW] -> List Ed -> Nat) (hyp_ : ∀ (W : InW) i qz n j qs ps all sh u l K, Xfa [.i i, .ro _ qz, .i n, .i j, .ro _ qs, .ro _ ps, .i all, .ro _ sh, .l u, .l l] K -> ∀ A : List Ed -> Prop, (∀ e, meas e < meas [.i i, .ro _ qz, .i n, .i j, .ro _ qs, .ro _ ps, .i all, .ro _ sh, .l u, .l l] -> Xfa e K -> A e) -> Xed i qz n j qs ps all sh u l A K) : Xf9 :=
 LE.okOf' (fun W => @TT W) (fun W => @Xe W) Xa T68 1000 50 (by kernel_rfl) Xg0 (fun W => @meas W) fun W i qz n j qs ps all sh u l K hs =>
  (Xlb W i qz n j qs ps all sh u l (fun e => meas e < meas [.i i, .ro _ qz, .i n, .i j, .ro _ qs, .ro _ ps, .i all, .ro _ sh, .l u, .l l] /\ Xfa e K) K).mpr (hyp_ W i qz n j qs ps all sh u l K hs _ fun e h1 h2 => ⟨h1, h2⟩)
theorem Xpc : Xf9 := Xmw (fun e => match e with | _ :: _ :: .i n :: .i j :: _ => (n - j).toNat | _ => 0) fun W i qz n j qs ps all sh u l K hs A hA => by
 obtain ⟨⟨rfl, h2, h3, h4, hsl, hse, h7, h12, hi0, hi20, hc⟩, hk⟩ := hs;unfold Xed;delta Zdw Zea Zdz Zd;have ez : (j + 1).toNat = j.toNat + 1 := by omega
 have ej : ((j.toNat : Nat) : Int) = j := Int.toNat_of_nonneg h2
 by_cases hj : j < qz.xs.length
 ·have hj2 : j.toNat < l.length := by omega
  obtain ⟨x, y, hg, b1, b2, b3, b4⟩ := hc.ok j.toNat hj2;rw [if_neg (by omega)] at b2 b4;have c0 : cel l j.toNat 0 = .i x := by unfold cel; rw [hg]; rfl
  have c1 : cel l j.toNat 1 = .i y := by unfold cel; rw [hg]; rfl
  rw [show qz.xs.length - j.toNat = (qz.xs.length - (j.toNat + 1)) + 1 by omega] at hk;simp only [Sp.addQW, Sp.mAddW, c0, c1, ej, show ∀ a, (Cl.i a).int = a from fun _ => rfl] at hk;have hnx := fun dx dy => Sp.CntAt.next (m := i) (dx := dx) (dy := dy) (by rw [ej]; exact hc) hj2 hg
  rw [ej] at hnx;have hs2 : l.set j.toNat [.i x, .i y] = l := by
   rw [<- hg, List.getD_eq_getElem?_getD, List.getElem?_eq_getElem hj2];exact List.set_getElem_self hj2
  have hA' : ∀ dx dy l', (dx = 0 \/ dx = 1) -> (dy = 0 \/ dy = 1) -> l' = l.set j.toNat [.i (x + dx), .i (y + dy)] -> K 0 [.i i, .l (Sp.addQW qz.xs sh.xs u (j.toNat + 1) (qz.xs.length - (j.toNat + 1)) l')] -> A [.i i, .ro _ qz, .i qz.xs.length, .i (j + 1), .ro _ qs, .ro _ ps, .i all, .ro _ sh, .l u, .l l'] := fun dx dy l' hx hy e hk => by
   subst e;exact hA _ (show ((qz.xs.length : Int) - (j + 1)).toNat < ((qz.xs.length : Int) - j).toNat by omega) ⟨⟨rfl, by omega, by omega, by rw [List.length_set]; exact h4, hsl, hse, h7, by rw [List.length_set]; exact h12, hi0, hi20, hnx dx dy hx hy⟩, by rw [ez]; exact hk⟩
  clear hA hnx;simp only [Nat.zero_add, Nat.reduceAdd, show (cel qz.xs j.toNat 2).int = Sp.qRight qz.xs j.toNat from rfl, hg, c0, c1, show ∀ a, (Cl.i a).int = a from fun _ => rfl, Sp.cel_set hj2, Sp.set_getD hj2, List.set_set, List.length_set, show ∀ a b c : Cl, Ynm [a, b] 0 [c] = [c, b] from fun _ _ _ => rfl, show ∀ a b c : Cl, Ynm [a, b] 1 [c] = [a, c] from fun _ _ _ => rfl, show ∀ (a b : Cl), List.getD [a, b] 1 Cl.z = b from fun _ _ => rfl, show ∀ r, Sp.anyF (Sp.miB sh.xs u j r) 0 (2 ^ u.length) = Sp.miAny sh.xs u j r from fun _ => rfl, show ∀ r, Sp.allF (Sp.miB sh.xs u j r) 0 (2 ^ u.length) = Sp.miAll sh.xs u j r from fun _ => rfl];cases m1 : Sp.miAll sh.xs u j (Sp.qRight qz.xs j.toNat) <;> cases m2 : Sp.miAny sh.xs u j (Sp.qRight qz.xs j.toNat) <;> simp only [m1, m2, if_true, if_false, Bool.false_eq_true, Sp.ocB] at hk ⊢
  ·have hA1 := hA' 0 0 l (.inl rfl) (.inl rfl) (by rw [Int.add_zero, Int.add_zero, hs2]) hk;clear hA' hk
   repeat' (first | (with_reducible refine Xb ⟨hse, h7, h2, by omega⟩ ?_) | (with_reducible refine Xb trivial ?_) | omega|intro _|with_reducible first|apply vifd|apply vifn|apply vifq|apply Xd|apply Xc|apply vifb|apply vif|apply nedd|apply ned2|apply ned|apply ar64|apply Xb|exact True.intro|assumption|rfl|apply And.intro)
   all_goals first | contradiction | exact hA1 | skip
  ·have hA1 := hA' 0 1 _ (.inl rfl) (.inr rfl) (by rw [Int.add_zero]) hk;clear hA' hk
   repeat' (first | (with_reducible refine Xb ⟨hse, h7, h2, by omega⟩ ?_) | (with_reducible refine Xb trivial ?_) | omega|intro _|with_reducible first|apply vifd|apply vifn|apply vifq|apply Xd|apply Xc|apply vifb|apply vif|apply nedd|apply ned2|apply ned|apply ar64|apply Xb|exact True.intro|assumption|rfl|apply And.intro)
   all_goals first | contradiction | exact hA1 | skip
  ·have hA1 := hA' 1 1 _ (.inr rfl) (.inr rfl) rfl hk;clear hA' hk
   repeat' (first | (with_reducible refine Xb ⟨hse, h7, h2, by omega⟩ ?_) | (with_reducible refine Xb trivial ?_) | omega|intro _|with_reducible first|apply vifd|apply vifn|apply vifq|apply Xd|apply Xc|apply vifb|apply vif|apply nedd|apply ned2|apply ned|apply ar64|apply Xb|exact True.intro|assumption|rfl|apply And.intro)
   all_goals first | contradiction | exact hA1 | skip
  ·have hA1 := hA' 1 1 _ (.inr rfl) (.inr rfl) rfl hk;clear hA' hk
   repeat' (first | (with_reducible refine Xb ⟨hse, h7, h2, by omega⟩ ?_) | (with_reducible refine Xb trivial ?_) | omega|intro _|with_reducible first|apply vifd|apply vifn|apply vifq|apply Xd|apply Xc|apply vifb|apply vif|apply nedd|apply ned2|apply ned|apply ar64|apply Xb|exact True.intro|assumption|rfl|apply And.intro)
   all_goals first | contradiction | exact hA1 | skip
 ·rw [show qz.xs.length - j.toNat = 0 by omega] at hk;simp only [Sp.addQW] at hk;clear hA
  repeat' (first | omega|intro _|with_reducible first|apply vifd|apply vifn|apply vifq|apply Xd|apply Xc|apply vifb|apply vif|apply nedd|apply ned2|apply ned|apply ar64|apply Xb|exact True.intro|assumption|rfl|apply And.intro)
  all_goals exact hk
def Xp6 : LE Try.prog := ⟨35, 15, fun W => @Yto W Xg0, Xpc⟩
def T69 : Tab Try.prog := ⟨[], [Xp6], [ceOf Xw Xkr]⟩
namespace Sp
def addPW (qs pp : Dt) : Nat -> Nat -> Dt -> Dt
 | _, 0, l => l
 | i, n + 1, l => addPW qs pp (i + 1) n (addQW qs (row pp i) (uns (row pp i)) 0 qs.length l)
end Sp
def Xfb [InW] (e : List Ed) (K : Nat -> List Ed -> Prop) : Prop := match e with
 | [.ro _ pp, .i n, .i i, .ro _ qs, .ro _ ps, .i all, .l l] => Pre (n = pp.xs.length /\ 0 <= i /\ i <= n /\ n <= 20 /\ Sp.KeyOk qs.xs ps.xs all /\ l.length = qs.xs.length /\ Sp.CntAt l i 0) (Vif (Sp.hasE (Sp.shI qs.xs pp.xs) i.toNat (pp.xs.length - i.toNat)) (K 1 [.i (Sp.shI qs.xs pp.xs (Sp.idxE (Sp.shI qs.xs pp.xs) i.toNat (pp.xs.length - i.toNat)))]) (K 0 [.l (Sp.addPW qs.xs pp.xs i.toNat (pp.xs.length - i.toNat) l)]))
 | _ => False
def Xg1 : LC where
 len := 89
 T := [(2, (.ptr 1 0)), (4, (.row 3)), (28, .rs [.sl Jb]), (29, .int .i64), (30, .int .i64)]
 H := [(1, .blk 25 [.rs Iv5, .rs Jc, .int .i64]), (3, .arr 80 Ja)]
 W := ([5] ++ rg 7 5 ++ rg 31 57)
 outs := [⟨.exit 0, [(4, (.row 6))], [(6, .arr 80 Ja)], ([2, 5] ++ rg 7 5 ++ rg 28 60)⟩, ⟨.ret, [(4, (.lit (.slice none 0 0))), (5, .int .i64)], [], ([2] ++ rg 7 5 ++ rg 28 60)⟩]
 spec := Xfb
def Xee [W : InW] (pp : Ro [.sl Jb]) (n i : Int) (qs : Ro Iv5) (ps : Ro Jc) (all : Int) (l : Dt) (A : List Ed -> Prop) (K : Nat -> List Ed -> Prop) : Prop :=
 Vif (decide (i < n)) (Need (decide (0 <= i) && decide (i < (↑(pp.xs.length) : Int))) (Need (decide (i.toNat < pp.xs.length)) (Pre (Sp.KeyOk qs.xs ps.xs all) (Vif (decide (Sp.shE qs.xs (cel pp.xs i.toNat Zd).lst = 0)) (Pre ((↑(qs.xs.length) : Int) = (↑(qs.xs.length) : Int) /\ Zb <= 0 /\ Zb <= (↑(qs.xs.length) : Int) /\ l.length = qs.xs.length /\ List.length (cel pp.xs i.toNat Zd).lst = qs.xs.length /\ Sp.SeOk qs.xs (cel pp.xs i.toNat Zd).lst (Sp.uns (cel pp.xs i.toNat Zd).lst) /\ List.length (Sp.uns (cel pp.xs i.toNat Zd).lst) <= 7 /\ l.length <= 12 /\ 0 <= i /\ i <= 20 /\ Sp.CntAt l i Zb) (Ar .i64 (i + 1) fun z => A [.ro [Ty.sl Zdw] pp, .i n, .i z, .ro _ qs, .ro _ ps, .i all, .l (Sp.addQW qs.xs (cel pp.xs i.toNat Zd).lst (Sp.uns (cel pp.xs i.toNat Zd).lst) (Int.toNat Zb) (qs.xs.length - Int.toNat Zb) l)])) (Vif (!decide (Sp.shE qs.xs (cel pp.xs i.toNat Zd).lst = 0)) (K (0+1) [.i (Sp.shE qs.xs (cel pp.xs i.toNat Zd).lst)]) ((435 : Nat) = 435 + 1)))))) (K 0 [.l l])
theorem Xlc (W : InW) (pp n i qs ps all l A K) : Yfc { cxT Try.prog TT T69 1000 50 with fn := 35 } 1000 (Yn8 Try.prog 35 9) (Yd8 89 [(2, .ptr 1 0), (4, .rw 3), (28, .rs _ pp), (29, .si .i64 n), (30, .si .i64 i)] ([5] ++ rg 7 5 ++ rg 31 57)) [(1, .blk 25 [.rs _ qs, .rs _ ps, .si .i64 all]), (3, .arr 80 Ja l)] (Yug Xg1 A K) = Xee pp n i qs ps all l A K := by kernel_rfl
def Xga : Prop := ∀ (W : InW) (body a : Code), (Try.prog.funcs[35]?).bind (·.body) = some body -> a ∈ Y0 body -> Yfw a = 9 -> @Ymr W Try.prog a (@Yto W Xg1)
theorem Xmx (meas : [InW] -> List Ed -> Nat) (hyp_ : ∀ (W : InW) pp n i qs ps all l K, Xfb [.ro _ pp, .i n, .i i, .ro _ qs, .ro _ ps, .i all, .l l] K -> ∀ A : List Ed -> Prop, (∀ e, meas e < meas [.ro _ pp, .i n, .i i, .ro _ qs, .ro _ ps, .i all, .l l] -> Xfb e K -> A e) -> Xee pp n i qs ps all l A K) : Xga :=
 LE.okOf' (fun W => @TT W) (fun W => @Xe W) Xa T69 1000 50 (by kernel_rfl) Xg1 (fun W => @meas W) fun W pp n i qs ps all l K hs =>
  (Xlc W pp n i qs ps all l (fun e => meas e < meas [.ro _ pp, .i n, .i i, .ro _ qs, .ro _ ps, .i all, .l l] /\ Xfb e K) K).mpr (hyp_ W pp n i qs ps all l K hs _ fun e h1 h2 => ⟨h1, h2⟩)
theorem Xbv (qs sh u : Dt) : ∀ n j l, (Sp.addQW qs sh u j n l).length = l.length
 | 0, _, _ => rfl
 | n + 1, j, l => by
  simp only [Sp.addQW, Xbv qs sh u n];unfold Sp.mAddW
  split
  ·simp
  ·split <;> simp
theorem Xid {qs sh u : Dt} {m : Int} : ∀ n j l, Sp.CntAt l m (j : Nat) -> j + n = l.length -> Sp.CntAt (Sp.addQW qs sh u j n l) m (l.length : Nat)
 | 0, j, l, h, e => by rw [<- e]; exact h
 | n + 1, j, l, h, e => by
  have hj : j < l.length := by omega
  obtain ⟨x, y, hg, _⟩ := h.ok j hj;have c0 : cel l j 0 = .i x := by unfold cel; rw [hg]; rfl
  have c1 : cel l j 1 = .i y := by unfold cel; rw [hg]; rfl
  have hs2 : l.set j [.i x, .i y] = l := by
   rw [<- hg, List.getD_eq_getElem?_getD, List.getElem?_eq_getElem hj];exact List.set_getElem_self hj
  have hl : (Sp.mAddW qs sh u l j).length = l.length := by unfold Sp.mAddW; (repeat' split) <;> simp
  have := Xid (qs := qs) (sh := sh) (u := u) n (j + 1) (Sp.mAddW qs sh u l j) (by
   unfold Sp.mAddW;rw [c0, c1]
   split
   ·exact h.next hj hg (.inr rfl) (.inr rfl)
   ·split
    ·have := h.next (dx := 0) (dy := 1) hj hg (.inl rfl) (.inr rfl)
     rw [Int.add_zero] at this;exact this
    ·have := h.next (dx := 0) (dy := 0) hj hg (.inl rfl) (.inl rfl)
     rw [Int.add_zero, Int.add_zero, hs2] at this;exact this) (by omega)
  rw [hl] at this;exact this
theorem Xpd : Xga := Xmx (fun e => match e with | _ :: .i n :: .i i :: _ => (n - i).toNat | _ => 0) fun W pp n i qs ps all l K hs A hA => by
 obtain ⟨⟨rfl, h0, h1, h20, hkey, hl, hc⟩, hk⟩ := hs;unfold Xee;delta Zd Zb Zdw;have n2 := hkey.n2;have ez : (i + 1).toNat = i.toNat + 1 := by omega
 simp only [show Int.toNat 0 = 0 from rfl, Nat.sub_zero, show (cel pp.xs i.toNat 0).lst = Sp.row pp.xs i.toNat from rfl]
 by_cases hi : i < pp.xs.length
 ·rw [show pp.xs.length - i.toNat = (pp.xs.length - (i.toNat + 1)) + 1 by omega] at hk;obtain ⟨g1, g2⟩ := Xc8 (K1 := fun _ e => K 1 [.i e]) hk;simp only [Sp.addPW] at g2;have g1 : Sp.shE qs.xs (Sp.row pp.xs i.toNat) ≠ 0 -> K 1 [.i (Sp.shE qs.xs (Sp.row pp.xs i.toNat))] := g1;have g2 : Sp.shE qs.xs (Sp.row pp.xs i.toNat) = 0 -> _ := g2;clear hk;refine vifd (fun _ => ned (by simp; omega) (nedd (by omega) ⟨hkey, vifd (fun e => ?_) fun e => vifn (fun _ => g1 e) fun c => absurd c e⟩)) fun c => absurd hi c;have hs := Sp.shE_iff.1 e;have hgo := Xid (qs := qs.xs) (sh := Sp.row pp.xs i.toNat) (u := Sp.uns (Sp.row pp.xs i.toNat)) l.length 0 l hc (by omega);have hll := Xbv qs.xs (Sp.row pp.xs i.toNat) (Sp.uns (Sp.row pp.xs i.toNat)) l.length 0 l;rw [show ((l.length : Nat) : Int) = ((Sp.addQW qs.xs (Sp.row pp.xs i.toNat) (Sp.uns (Sp.row pp.xs i.toNat)) 0 l.length l).length : Nat) by rw [hll]] at hgo;refine ⟨⟨trivial, by omega, by omega, hl, hs.n, hs.se hkey, hs.seven, by omega, h0, by omega, hc⟩, ar64 (by omega) (hA _ (show ((pp.xs.length : Int) - (i + 1)).toNat < ((pp.xs.length : Int) - i).toNat by omega) ⟨⟨rfl, by omega, by omega, h20, hkey, by rw [Xbv]; exact hl, ?_⟩, ?_⟩)⟩
  ·rw [<- hl]; exact hgo.up
  ·rw [ez]; exact g2 e
 ·rw [show pp.xs.length - i.toNat = 0 by omega] at hk;clear hA;exact vifd (fun c => absurd c hi) fun _ => hk.2 rfl
def Xp7 : LE Try.prog := ⟨35, 9, fun W => @Yto W Xg1, Xpd⟩
def T70 : Tab Try.prog := ⟨[Xbi], [Xp7], []⟩
def Zeb [W : InW] (kQ : Ro Iv5) := List.replicate (↑(kQ.xs.length) : Int).toNat (Ybr [.int .i64, .int .i64])
def Xdt [W : InW] (kQ : Ro Iv5) (kP : Ro Jc) (kA : Int) (pp : Ro [.sl Jb]) (Q : DS -> Prop) : Prop :=
 Pre True (Vif (!decide (Sp.chkE kQ.xs kP.xs kA = 0)) (Q [[Cl.l []], [Cl.i (Sp.chkE kQ.xs kP.xs kA)]]) (Vif (decide ((20 : Int) < (↑(pp.xs.length) : Int))) (Q [[Cl.l []], [Cl.i 3]]) (Need (decide ((↑(kQ.xs.length) : Int) = (↑(kQ.xs.length) : Int)) && decide (Zb <= (↑(kQ.xs.length) : Int)) && decide ((16 : Nat) * (↑(kQ.xs.length) : Int).toNat <= 281474976710656)) (Pre ((↑(pp.xs.length) : Int) = (↑(pp.xs.length) : Int) /\ Zb <= 0 /\ Zb <= (↑(pp.xs.length) : Int) /\ (↑(pp.xs.length) : Int) <= 20 /\ Sp.KeyOk kQ.xs kP.xs kA /\ (Zeb kQ).length = kQ.xs.length /\ Sp.CntAt (Zeb kQ) Zb Zb) (Vif (Sp.hasE (Sp.shI kQ.xs pp.xs) (Int.toNat Zb) (pp.xs.length - Int.toNat Zb)) (Q [[Cl.l []], [Cl.i (Sp.shI kQ.xs pp.xs (Sp.idxE (Sp.shI kQ.xs pp.xs) (Int.toNat Zb) (pp.xs.length - Int.toNat Zb)))]]) (Q [[Cl.l (Sp.addPW kQ.xs pp.xs (Int.toNat Zb) (pp.xs.length - Int.toNat Zb) (Zeb kQ))], [Cl.i 0]]))))))
theorem Xly (W : InW) (kQ kP kA pp Q) : Ywx (cxT Try.prog TT T70 1000 50) 1000 35 [.agg [.rs _ kQ, .rs _ kP, .si .i64 kA], .rs _ pp] [] 0 (Y04 [(false, [.row 80 Ja]), (false, [.int .i64])] Q) (fun _ _ _ _ => Stuck 421) = Xdt kQ kP kA pp Q := by kernel_rfl
abbrev Xcf : List AT := [.agg [.sl Iv5, .sl Jc, .int .i64], .one (.sl [.sl Jb])]
theorem Xnk {pre : DS -> Prop} {res : DS -> DS} (hyp_ : ∀ (W : InW) (kQ : Ro Iv5) (kP : Ro Jc) (kA : Int) (pp : Ro [.sl Jb]), pre [[.l kQ.xs, .l kP.xs, .i kA], [.l pp.xs]] -> ∀ Q : DS -> Prop, Q (res [[.l kQ.xs, .l kP.xs, .i kA], [.l pp.xs]]) -> Xdt kQ kP kA pp Q) : PureOk Try.prog 35 Xcf [(false, [.row 80 Ja]), (false, [.int .i64])] pre res :=
 PureOk.of' (fun W => @TT W) (fun W => @Xe W) Xa T70 1000 50 fun W kQ kP kA pp hp =>
  (Xly W kQ kP kA pp (fun o => o = res [[.l kQ.xs, .l kP.xs, .i kA], [.l pp.xs]])).mpr (hyp_ W kQ kP kA pp hp _ rfl)
namespace Sp
def flq (us : List (Nat × Nat)) (q : Nat) : List (Nat × Nat) := (us.filter fun p => decide (p.1 = q)).map fun p => (0, p.2)
theorem one_with (d : Dt) (j : Nat) (v : Int) : withD (one d) 0 j v = one (d.set j [.i v]) := rfl
theorem row_it1 : ∀ (us : List (Nat × Nat)) (b : Nat) (s : Dt) (q : Nat), q < s.length -> ∃ b', b' < 2 ^ (flq us q).length /\ row (itW us b s) q = row (itW (flq us q) b' (one (row s q))) 0
 | [], b, s, q, _ => ⟨0, by simp [flq], rfl⟩
 | p :: ps, b, s, q, h => by
  obtain ⟨c, hc, e⟩ := row_it1 ps (b / 2) (withD s p.1 p.2 ((b % 2 : Nat) : Int)) q (by rw [withD_len]; exact h);have hr := withD_row s p.1 p.2 ((b % 2 : Nat) : Int) q h
  by_cases x : p.1 = q
  ·have hf : flq (p :: ps) q = (0, p.2) :: flq ps q := by unfold flq; rw [List.filter_cons_of_pos (by simpa using x)]; rfl
   refine ⟨2 * c + b % 2, by rw [hf, List.length_cons, Nat.pow_succ]; omega, ?_⟩;rw [hf];simp only [itW];rw [e, hr, if_pos x.symm, show (2 * c + b % 2) / 2 = c by omega, show (2 * c + b % 2) % 2 = b % 2 by omega, one_with]
  ·have hf : flq (p :: ps) q = flq ps q := by unfold flq; rw [List.filter_cons_of_neg (by simpa using x)]
   refine ⟨c, by rw [hf]; exact hc, ?_⟩;rw [hf];simp only [itW];rw [e, hr, if_neg (fun y => x y.symm)]
theorem row_it2 : ∀ (us : List (Nat × Nat)) (b' : Nat) (s : Dt) (q : Nat), q < s.length -> b' < 2 ^ (flq us q).length -> ∃ b, b < 2 ^ us.length /\ row (itW us b s) q = row (itW (flq us q) b' (one (row s q))) 0
 | [], b', s, q, _, _ => ⟨0, by simp, rfl⟩
 | p :: ps, b', s, q, h, hb => by
  by_cases x : p.1 = q
  ·have hf : flq (p :: ps) q = (0, p.2) :: flq ps q := by unfold flq; rw [List.filter_cons_of_pos (by simpa using x)]; rfl
   rw [hf, List.length_cons, Nat.pow_succ] at hb;obtain ⟨c, hc, e⟩ := row_it2 ps (b' / 2) (withD s p.1 p.2 ((b' % 2 : Nat) : Int)) q (by rw [withD_len]; exact h) (by omega);have hr := withD_row s p.1 p.2 ((b' % 2 : Nat) : Int) q h;refine ⟨2 * c + b' % 2, by rw [List.length_cons, Nat.pow_succ]; omega, ?_⟩;rw [hf];simp only [itW];rw [show (2 * c + b' % 2) / 2 = c by omega, show (2 * c + b' % 2) % 2 = b' % 2 by omega, e, hr, if_pos x.symm, one_with]
  ·have hf : flq (p :: ps) q = flq ps q := by unfold flq; rw [List.filter_cons_of_neg (by simpa using x)]
   rw [hf] at hb;obtain ⟨c, hc, e⟩ := row_it2 ps b' (withD s p.1 p.2 ((0 : Nat) : Int)) q (by rw [withD_len]; exact h) hb;have hr := withD_row s p.1 p.2 ((0 : Nat) : Int) q h;refine ⟨2 * c, by rw [List.length_cons, Nat.pow_succ]; omega, ?_⟩;rw [hf];simp only [itW];rw [show 2 * c / 2 = c by omega, show 2 * c % 2 = 0 by omega, e, hr, if_neg (fun y => x y.symm)]
theorem flq_app (a b : List (Nat × Nat)) (q : Nat) : flq (a ++ b) q = flq a q ++ flq b q := by unfold flq; rw [List.filter_append, List.map_append]
theorem prow_fl (d : Dt) (i q : Nat) : ∀ n j, flq (prow d i j n) q = if i = q then prow d 0 j n else []
 | 0, j => by simp [prow, flq]
 | n + 1, j => by
  simp only [prow, flq_app, prow_fl d i q n (j + 1)]
  by_cases e : i = q <;> by_cases c : bx d j = 2 <;> simp [flq, e, c]
theorem pall_fl (sh : Dt) (q : Nat) : ∀ n i, flq (pall sh i n) q = if i <= q /\ q < i + n then prow (row sh q) 0 0 (row sh q).length else []
 | 0, i => by rw [if_neg (by omega)]; rfl
 | n + 1, i => by
  simp only [pall, flq_app, prow_fl, pall_fl sh q n (i + 1)]
  by_cases e : i = q
  ·subst e;rw [if_pos rfl, if_neg (by omega), if_pos (by omega), List.append_nil]
  ·rw [if_neg e, List.nil_append]
   by_cases c : i + 1 <= q /\ q < i + 1 + n
   ·rw [if_pos c, if_pos (by omega)]
   ·rw [if_neg c, if_neg (by omega)]
theorem fl_pos {sh : Dt} {q : Nat} (h : q < sh.length) : flq (pos sh) q = pos (one (row sh q)) := by
 unfold pos;rw [pall_fl, if_pos ⟨Nat.zero_le _, by omega⟩]
 show _ = prow (row sh q) 0 0 (row sh q).length ++ []
 rw [List.append_nil]
theorem any_row {sh : Dt} {q : Nat} (h : q < sh.length) (f : Dt -> Bool) : (∃ b, b < 2 ^ (pos sh).length /\ f (row (itW (pos sh) b sh) q) = true) ↔ ∃ k, k < (rdD (one (row sh q))).length /\ f (row (row (rdD (one (row sh q))) k) 0) = true := by
 have := any_rds (sh := one (row sh q)) fun r => f (row r 0);rw [this, <- fl_pos h];constructor
 ·rintro ⟨b, hb, e⟩;obtain ⟨c, hc, e2⟩ := row_it1 (pos sh) b sh q h;exact ⟨c, hc, by rw [<- e2]; exact e⟩
 ·rintro ⟨c, hc, e⟩;obtain ⟨b, hb, e2⟩ := row_it2 (pos sh) c sh q h hc;exact ⟨b, hb, by rw [e2]; exact e⟩
theorem miB_it {sh : Dt} {q b : Nat} {right : Int} (h7 : (pos sh).length <= 7) (hq : q < sh.length) (hb : b < 2 ^ (pos sh).length) : miB sh (uns sh) q right b = !decide (ansOf (row (itW (pos sh) b sh) q) = right) := by
 unfold miB;rw [rowW_it (Nat.lt_of_lt_of_le hb (Nat.le_trans (Nat.pow_le_pow_right (by decide) h7) (by decide))) h7 hq, ansX_of]
theorem mi_any {sh : Dt} {q : Nat} {right : Int} (h7 : (pos sh).length <= 7) (hq : q < sh.length) : miAny sh (uns sh) q right = mAny right (row sh q) := by
 refine bool_iff ?_;unfold miAny mAny;rw [anyF_0, anyF_0, uns_len];have := any_row hq fun d => !decide (ansOf d = right);exact ⟨fun ⟨b, hb, e⟩ => this.1 ⟨b, hb, by rw [miB_it h7 hq hb] at e; exact e⟩, fun h => by
  obtain ⟨b, hb, e⟩ := this.2 h;exact ⟨b, hb, by rw [miB_it h7 hq hb]; exact e⟩⟩
theorem mi_all {sh : Dt} {q : Nat} {right : Int} (h7 : (pos sh).length <= 7) (hq : q < sh.length) : miAll sh (uns sh) q right = mAll right (row sh q) := by
 refine bool_iff ?_;unfold miAll mAll;rw [allF_0, allF_0, uns_len];have := any_row hq fun d => decide (ansOf d = right);constructor
 ·intro h k hk
  show (!decide (ansOf (row (row (rdD (one (row sh q))) k) 0) = right)) = true
  rw [Bool.not_eq_true', decide_eq_false_iff_not];intro c;obtain ⟨b, hb, e⟩ := this.2 ⟨k, hk, decide_eq_true c⟩;have := h b hb;rw [miB_it h7 hq hb, e] at this;cases this
 ·intro h b hb;rw [miB_it h7 hq hb, Bool.not_eq_true', decide_eq_false_iff_not];intro c;obtain ⟨k, hk, e⟩ := this.1 ⟨b, hb, decide_eq_true c⟩;have h1 : (!decide (ansOf (row (row (rdD (one (row sh q))) k) 0) = right)) = true := h k hk;rw [e] at h1;cases h1
theorem mAll_any {right : Int} {d : Dt} (h : mAll right d = true) : mAny right d = true := by
 unfold mAll at h;unfold mAny;rw [allF_0] at h;rw [anyF_0];have : 0 < (rdD (one d)).length := by rw [rdD_len]; exact Nat.two_pow_pos _
 exact ⟨0, this, h 0 this⟩
theorem mAddW_eq {qs sh l : Dt} {m : Int} {j : Nat} (h7 : (pos sh).length <= 7) (hq : j < sh.length) (hc : CntAt l m (j : Nat)) (hj : j < l.length) : mAddW qs sh (uns sh) l j = mAdd qs sh l j := by
 obtain ⟨x, y, hg, _⟩ := hc.ok j hj;have c0 : cel l j 0 = .i x := by unfold cel; rw [hg]; rfl
 have c1 : cel l j 1 = .i y := by unfold cel; rw [hg]; rfl
 have hs2 : l.set j [.i x, .i y] = l := by
  rw [<- hg, List.getD_eq_getElem?_getD, List.getElem?_eq_getElem hj];exact List.set_getElem_self hj
 unfold mAddW mAdd;rw [mi_any h7 hq, mi_all h7 hq, c0, c1];have hh : ∀ a, (Cl.i a).int = a := fun _ => rfl;simp only [hh];cases m1 : mAll (qRight qs j) (row sh j) with
 | true => rw [mAll_any m1]; simp
 | false =>
  cases m2 : mAny (qRight qs j) (row sh j) with
  | true => simp
  | false => simp [hs2]
theorem addQW_eq {qs sh : Dt} {m : Int} (h7 : (pos sh).length <= 7) : ∀ n j l, CntAt l m (j : Nat) -> j + n = l.length -> l.length = sh.length -> addQW qs sh (uns sh) j n l = addQ qs sh j n l
 | 0, _, _, _, _, _ => rfl
 | n + 1, j, l, hc, hn, hl => by
  have hj : j < l.length := by omega
  simp only [addQW, addQ];rw [mAddW_eq h7 (by omega) hc hj];obtain ⟨x, y, hg, _⟩ := hc.ok j hj;have c0 : cel l j 0 = .i x := by unfold cel; rw [hg]; rfl
  have c1 : cel l j 1 = .i y := by unfold cel; rw [hg]; rfl
  have hlen : (mAdd qs sh l j).length = l.length := by unfold mAdd; rw [List.length_set]
  exact addQW_eq h7 n (j + 1) _ (by
   unfold mAdd;rw [c0, c1];exact hc.next hj hg (by split <;> simp) (by split <;> simp)) (by omega) (by omega)
theorem addPW_eq {qs pp : Dt} (hok : ∀ i, i < pp.length -> ShOk qs (row pp i)) : ∀ n i l, i + n = pp.length -> l.length = qs.length -> CntAt l (i : Nat) 0 -> addPW qs pp i n l = addP qs pp i n l
 | 0, _, _, _, _, _ => rfl
 | n + 1, i, l, hn, hl, hc => by
  have hs := hok i (by omega);have h7 := hs.seven;rw [uns_len] at h7;have hn2 := hs.n;simp only [addPW, addP];rw [<- hl, addQW_eq h7 l.length 0 l hc (by omega) (by omega)];have hl2 := addQ_len qs (row pp i) l.length 0 l;have hgo := CntAt.go (qs := qs) (sh := row pp i) l.length 0 l hc (by omega);rw [show ((l.length : Nat) : Int) = ((addQ qs (row pp i) 0 l.length l).length : Nat) by rw [hl2]] at hgo;exact addPW_eq hok n (i + 1) _ (by omega) (by omega) hgo.up
theorem errL_has {f : Nat -> Int} : ∀ n i, errL f i n 0 = if hasE f i n = true then f (idxE f i n) else 0
 | 0, i => by simp [errL, hasE]
 | n + 1, i => by
  unfold errL;rw [if_pos rfl]
  by_cases c : f i = 0
  ·rw [c, errL_has n (i + 1)];simp [hasE, idxE, c]
  ·rw [errL_ne c];simp [hasE, idxE, c]
end Sp
theorem Xoj : PureOk Try.prog 35 Xcf [(false, [.row 80 Ja]), (false, [.int .i64])] (fun _ => True) Xdg :=
 Xnk fun W qs ps all pp hp Q h => by
  unfold Xdt;delta Zeb Zb;simp only [Xdg, Sp.misV] at h;simp only [show Int.toNat 0 = 0 from rfl, Nat.sub_zero, Int.toNat_natCast, show Ybr [.int .i64, .int .i64] = [Cl.i 0, Cl.i 0] from rfl];refine ⟨trivial, vifn (fun e => ?_) fun e => vifd (fun e2 => ?_) fun e2 => ?_⟩
  ·have e3 : Sp.misE qs.xs ps.xs all pp.xs = Sp.chkE qs.xs ps.xs all := by
    unfold Sp.misE;rw [if_neg e, Sp.errL_ne e]
   rw [if_neg (by omega), e3] at h;exact h
  ·have e3 : Sp.misE qs.xs ps.xs all pp.xs = 3 := by
    unfold Sp.misE;rw [if_pos e, if_pos (by omega), Sp.errL_ne (by omega)]
   rw [if_neg (by omega), e3] at h;exact h
  ·have e3 : Sp.misE qs.xs ps.xs all pp.xs = if Sp.hasE (Sp.shI qs.xs pp.xs) 0 pp.xs.length = true then Sp.shI qs.xs pp.xs (Sp.idxE (Sp.shI qs.xs pp.xs) 0 pp.xs.length) else 0 := by
    unfold Sp.misE;rw [if_pos e, if_neg (by omega), Sp.errL_has]
   have hk := Sp.chkE_iff.1 e;have n2 := hk.n2;have hc0 : Sp.CntAt (List.replicate qs.xs.length [Cl.i 0, Cl.i 0]) 0 0 := ⟨fun j hj => ⟨0, 0, by
    rw [List.length_replicate] at hj;rw [List.getD_eq_getElem?_getD, List.getElem?_replicate, if_pos hj]; rfl, by omega, by split <;> omega, by omega, by split <;> omega⟩⟩
   refine ned (by simp; omega) ⟨⟨trivial, by omega, by omega, by omega, hk, by rw [List.length_replicate], hc0⟩, vif (fun e4 => ?_) fun e4 => ?_⟩
   ·rw [if_pos e4] at e3;rw [if_neg (by rw [e3]; exact (Sp.hasE_ix e4).2.2), e3] at h;exact h
   ·rw [if_neg (by simp [e4])] at e3;rw [if_pos e3, e3] at h;have ho := Sp.misE_ok e3;rw [Sp.addPW_eq ho.2.2 pp.xs.length 0 _ (Nat.zero_add _) (by rw [List.length_replicate]) hc0];exact h
def Xma : PC Try.prog := ⟨35, Xcf, [(false, [.row 80 Ja]), (false, [.int .i64])], fun _ => True, Xdg, Xoj⟩
def Xkm [InW] (e : List Ed) (K : Nat -> List Ed -> Prop) : Prop := match e with
 | [.i a, .i b, .l xs] => Pre (0 <= a /\ b = a + 1 /\ b <= xs.length) (K 0 [.i ((0 : Nat) : Int), .i ((xs.length - 1 : Nat) : Int), .l (xs.take a.toNat ++ xs.drop b.toNat ++ [[.i 0, .i 0, .i 0, .i 0, .i 0]])])
 | _ => False
def X6 : CC where
 g := 73
 args := [(.row 3), .int .i64, .int .i64]
 H := [(3, .arr 71 Iv5)]
 outs := [⟨false, (.rwp 6 5), [(6, .arr 71 Iv5)], false⟩]
 spec := Xkm
def Zee [W : InW] (xs : Dt) := (↑(xs.length) : Int)
def Zed [W : InW] (a b : Int) (xs : Dt) := (↑(a.toNat - 0 + (xs.length - b.toNat)) : Int)
def Zec [W : InW] (a b : Int) (xs : Dt) := List.take (a.toNat - 0) xs ++ List.take (xs.length - b.toNat) (List.drop b.toNat xs) ++ List.drop (a.toNat - 0 + (xs.length - b.toNat)) xs
def Xes [W : InW] (a b : Int) (xs : Dt) (K : Nat -> List Ed -> Prop) : Prop :=
 Need (decide (0 <= a)) (Need (decide (0 <= b)) (Need (decide (Zb <= (Zee xs))) (Need (decide (a.toNat <= b.toNat) && decide (b.toNat <= (Zee xs).toNat) && decide ((Zee xs).toNat <= xs.length)) (Vif (decide (a = b)) ((484 : Nat) = 484 + 1) (Need (decide (0 <= a)) (Need (decide ((0 : Nat) <= a.toNat) && decide (a.toNat <= xs.length)) (Need (decide (0 <= b)) (Need (decide (b.toNat <= xs.length) && decide (xs.length <= xs.length)) (Need (decide (a.toNat - 0 + (xs.length - b.toNat) <= xs.length) && decide (b.toNat + (xs.length - b.toNat) <= xs.length)) (Need (decide (Zb <= (Zed a b xs))) (Need (decide (Zb <= (Zee xs))) (Need (decide ((Zed a b xs).toNat <= (Zee xs).toNat) && decide ((Zee xs).toNat <= (Zec a b xs).length)) (Need (decide ((Zed a b xs).toNat + ((Zee xs).toNat - (Zed a b xs).toNat) <= (Zec a b xs).length)) (K 0 [.i (↑(0 : Nat) : Int), .i (Zed a b xs), .l (List.take (Zed a b xs).toNat (Zec a b xs) ++ List.replicate ((Zee xs).toNat - (Zed a b xs).toNat) (Ybr [.int .i64, .int .i64, .int .i64, .int .i64, .int .i64]) ++ List.drop ((Zed a b xs).toNat + ((Zee xs).toNat - (Zed a b xs).toNat)) (Zec a b xs))]))))))))))))))
theorem Xlq (W : InW) (a b xs K) : Ywu (cxT Try.prog TT T0 1000 50) 1000 73 [.rw 3, .si .i64 a, .si .i64 b] [(3, .arr 71 Iv5 xs)] (fun v h => outC X6.H [.l xs] X6.outs 0 false v h K) (fun v h => outC X6.H [.l xs] X6.outs 0 true v h K) = Xes a b xs K := by kernel_rfl
theorem Xnb (hyp_ : ∀ (W : InW) a b xs K, Xkm [.i a, .i b, .l xs] K -> Xes a b xs K) : ∀ W : InW, @CallC W Try.prog X6 :=
 CC.okOf (fun W => @TT W) (fun W => @Xe W) Xa T0 1000 50 X6 fun W a b xs K hs => (Xlq W a b xs K).mpr (hyp_ W a b xs K hs)
theorem Xkf (xs : Dt) (a : Nat) (z : List Cl) (h : a + 1 <= xs.length) : List.take (xs.length - 1) (List.take a xs ++ List.take (xs.length - (a + 1)) (List.drop (a + 1) xs) ++ List.drop (xs.length - 1) xs) ++ List.replicate 1 z ++ List.drop xs.length (List.take a xs ++ List.take (xs.length - (a + 1)) (List.drop (a + 1) xs) ++ List.drop (xs.length - 1) xs) = xs.take a ++ xs.drop (a + 1) ++ [z] := by
 have e1 : List.take (xs.length - (a + 1)) (List.drop (a + 1) xs) = List.drop (a + 1) xs := List.take_of_length_le (by simp);rw [e1];have hl : (List.take a xs ++ List.drop (a + 1) xs).length = xs.length - 1 := by simp; omega
 have hd : List.drop xs.length (List.take a xs ++ List.drop (a + 1) xs ++ List.drop (xs.length - 1) xs) = [] := List.drop_eq_nil_of_le (by rw [List.length_append, hl, List.length_drop]; omega);rw [hd, List.take_left' hl, List.append_nil];rfl
theorem Xpo : ∀ W : InW, @CallC W Try.prog X6 := Xnb fun W a b xs K hs => by
 obtain ⟨⟨h0, rfl, h2⟩, hk⟩ := hs;have e1 : (a + 1).toNat = a.toNat + 1 := by omega
 have e2 : a.toNat + (xs.length - (a.toNat + 1)) = xs.length - 1 := by omega
 have e3 : xs.length - (xs.length - 1) = 1 := by omega
 have e4 : xs.length - 1 + 1 = xs.length := by omega
 have hd := Xkf xs a.toNat [.i 0, .i 0, .i 0, .i 0, .i 0] (by omega);unfold Xes;delta Zec Zed Zee Zb;rw [e1] at hk;simp only [Nat.sub_zero, e1, Int.toNat_natCast, e2, e3, e4, show Ybr [.int .i64, .int .i64, .int .i64, .int .i64, .int .i64] = [Cl.i 0, Cl.i 0, Cl.i 0, Cl.i 0, Cl.i 0] from rfl, hd];have hlen : (List.take a.toNat xs ++ List.take (xs.length - (a.toNat + 1)) (List.drop (a.toNat + 1) xs) ++ List.drop (xs.length - 1) xs).length = xs.length := by simp; omega
 simp only [hlen];clear hd
 repeat' (first | omega|intro _|with_reducible first|apply vifd|apply vifn|apply vifq|apply Xd|apply Xc|apply vifb|apply vif|apply nedd|apply ned2|apply ned|apply ar64|apply Xb|exact True.intro|assumption|rfl|apply And.intro)
 all_goals first | contradiction | exact hk | (simp only [Bool.and_eq_true, decide_eq_true_eq]; omega)
def T71 : Tab Try.prog := ⟨[Xbi, Xcz], [], [ceOf X6 Xpo]⟩
def Zei := [Cl.l [], Cl.l [], Cl.i 0]
def Zef [W : InW] (kQ : Ro Iv5) (i : Int) := cel kQ.xs i.toNat Zd
def Zeg [W : InW] (kQ : Ro Iv5) (kP : Ro Jc) (i : Int) := decide (Zb <= (Zef kQ i).int) && decide ((Zef kQ i).int < (↑(kP.xs.length) : Int))
def Zeh := [[Cl.i 0, Cl.i 0, Cl.i 0, Cl.i 0, Cl.i 0]]
def Xdp [W : InW] (kQ : Ro Iv5) (kP : Ro Jc) (kA i : Int) (Q : DS -> Prop) : Prop :=
 Pre True (Vif (!decide (Sp.chkE kQ.xs kP.xs kA = 0)) (Q [Zei, [Cl.i (Sp.chkE kQ.xs kP.xs kA)]]) (Ar .i64 ((↑(kQ.xs.length) : Int) - 1) fun z => Pre True (Vif (Sp.out Zb z [[Cl.i i]]) (Q [Zei, [Cl.i 4]]) (Vif (decide ((↑(kQ.xs.length) : Int) = 1)) (Q [Zei, [Cl.i 3]]) (Need (decide (0 <= i) && decide (i < (↑(kQ.xs.length) : Int))) (Need (decide (i.toNat < kQ.xs.length)) (Vif (match kQ.v with | Value.slice none len cap => true | x => false) (Ar .i64 (i + 1) fun z => Pre (0 <= i /\ z = i + 1 /\ z <= (↑Zd : Int)) (Vif (match kP.v with | Value.slice none len cap => true | x => false) (false = false /\ False) (Need (decide ((Zd + kP.xs.length) * 8 <= 140737488355328)) (Need (Zeg kQ kP i) (Need (decide ((Zef kQ i).int.toNat < kP.xs.length)) (Ar .i64 ((cel kP.xs (Zef kQ i).int.toNat Zd).int - (cel kQ.xs i.toNat (Zd + 1 + 1 + 1)).int) fun z_1 => Need (Zeg kQ kP i) (Need (decide ((Zef kQ i).int.toNat < kP.xs.length)) (Ar .i64 (kA - (cel kQ.xs i.toNat (Zd + 1 + 1 + 1)).int) fun z_2 => Need (decide (Zb <= (Zef kQ i).int) && decide ((Zef kQ i).int < (↑(List.set kP.xs (Zef kQ i).int.toNat [Cl.i z_1]).length : Int))) (Need (decide ((Zef kQ i).int.toNat < (List.set kP.xs (Zef kQ i).int.toNat [Cl.i z_1]).length)) (Vif (decide (min (cel (List.set kP.xs (Zef kQ i).int.toNat [Cl.i z_1]) (Zef kQ i).int.toNat Zd).int z_2 < (-240 : Int))) (Q [Zei, [Cl.i 7]]) (Need (decide ((↑(Zd - 1) : Int).toNat <= List.length (List.take i.toNat [] ++ List.drop z.toNat [] ++ Zeh))) (Q [[Cl.l (List.take (↑(Zd - 1) : Int).toNat (List.take i.toNat [] ++ List.drop z.toNat [] ++ Zeh)), Cl.l (List.set kP.xs (Zef kQ i).int.toNat [Cl.i z_1]), Cl.i z_2], [Cl.i 0]])))))))))))) (Need (decide ((Zd + kQ.xs.length) * 40 <= 140737488355328)) (Ar .i64 (i + 1) fun z => Pre (0 <= i /\ z = i + 1 /\ z <= (↑(kQ.xs.length) : Int)) (Vif (match kP.v with | Value.slice none len cap => true | x => false) (false = false /\ False) (Need (decide ((Zd + kP.xs.length) * 8 <= 140737488355328)) (Need (Zeg kQ kP i) (Need (decide ((Zef kQ i).int.toNat < kP.xs.length)) (Ar .i64 ((cel kP.xs (Zef kQ i).int.toNat Zd).int - (cel kQ.xs i.toNat (Zd + 1 + 1 + 1)).int) fun z_1 => Need (Zeg kQ kP i) (Need (decide ((Zef kQ i).int.toNat < kP.xs.length)) (Ar .i64 (kA - (cel kQ.xs i.toNat (Zd + 1 + 1 + 1)).int) fun z_2 => Need (decide (Zb <= (Zef kQ i).int) && decide ((Zef kQ i).int < (↑(List.set kP.xs (Zef kQ i).int.toNat [Cl.i z_1]).length : Int))) (Need (decide ((Zef kQ i).int.toNat < (List.set kP.xs (Zef kQ i).int.toNat [Cl.i z_1]).length)) (Vif (decide (min (cel (List.set kP.xs (Zef kQ i).int.toNat [Cl.i z_1]) (Zef kQ i).int.toNat Zd).int z_2 < (-240 : Int))) (Q [Zei, [Cl.i 7]]) (Need (decide ((↑(kQ.xs.length - 1) : Int).toNat <= List.length (List.take i.toNat kQ.xs ++ List.drop z.toNat kQ.xs ++ Zeh))) (Q [[Cl.l (List.take (↑(kQ.xs.length - 1) : Int).toNat (List.take i.toNat kQ.xs ++ List.drop z.toNat kQ.xs ++ Zeh)), Cl.l (List.set kP.xs (Zef kQ i).int.toNat [Cl.i z_1]), Cl.i z_2], [Cl.i 0]]))))))))))))))))))))
theorem Xlu (W : InW) (kQ kP kA i Q) : Ywx (cxT Try.prog TT T71 1000 50) 1000 32 [.agg [.rs _ kQ, .rs _ kP, .si .i64 kA], .si .i64 i] [] 0 (Y04 Xb0 Q) (fun _ _ _ _ => Stuck 421) = Xdp kQ kP kA i Q := by kernel_rfl
abbrev Xy : List AT := [.agg [.sl Iv5, .sl Jc, .int .i64], .one (.int .i64)]
theorem Xng {pre : DS -> Prop} {res : DS -> DS} (hyp_ : ∀ (W : InW) (kQ : Ro Iv5) (kP : Ro Jc) (kA i : Int), pre [[.l kQ.xs, .l kP.xs, .i kA], [.i i]] -> ∀ Q : DS -> Prop, Q (res [[.l kQ.xs, .l kP.xs, .i kA], [.i i]]) -> Xdp kQ kP kA i Q) : PureOk Try.prog 32 Xy Xb0 pre res :=
 PureOk.of' (fun W => @TT W) (fun W => @Xe W) Xa T71 1000 50 fun W kQ kP kA i hp =>
  (Xlu W kQ kP kA i (fun o => o = res [[.l kQ.xs, .l kP.xs, .i kA], [.i i]])).mpr (hyp_ W kQ kP kA i hp _ rfl)
theorem Xfn {W : InW} {ts : List Ty} (r : Ro ts) (h : 0 < r.xs.length) (n c : Nat) : r.v ≠ .slice none n c := fun e => by
 obtain ⟨A, c2, h1, h2, h3, u, h4, _⟩ := r.inv;obtain ⟨b, off, h5, _⟩ := h4 (fun x => by rw [x] at h; simp at h);rw [e, h5] at h1;cases h1
theorem Xkq : PureOk Try.prog 32 Xy Xb0 (fun _ => True) Xbg :=
 Xng fun W qs ps all i hp Q h => by
  have hm := qs.len;simp only [maxLen] at hm;unfold Xdp;delta Zeg Zef Zd Zeh Zei Zb;simp only [Xbg, Sp.strK] at h
  by_cases e : Sp.chkE qs.xs ps.xs all = 0
  rotate_left
  ·have e1 : Sp.strE qs.xs ps.xs all i = Sp.chkE qs.xs ps.xs all := by unfold Sp.strE; rw [if_neg e]
   rw [if_neg (by omega), e1] at h;exact ⟨trivial, vifn (fun _ => h) fun c => absurd c e⟩
  have hk := Sp.chkE_iff.1 e;have n1 := hk.n1;have n2 := hk.n2;have p1 := hk.p1;have p2 := hk.p2;have ho : Sp.out 0 (qs.xs.length - 1) [[.i i]] = !Sp.inr i 0 (qs.xs.length - 1) := by unfold Sp.out; simp [Sp.outs, cel, Cl.int]
  refine ⟨trivial, vifn (fun c => absurd e c) fun _ => ar64 (by omega) ⟨trivial, ?_⟩⟩;rw [ho]
  by_cases e1 : Sp.inr i 0 (qs.xs.length - 1) = true
  rotate_left
  ·have e2 : Sp.strE qs.xs ps.xs all i = 4 := by unfold Sp.strE; rw [if_pos e, if_neg e1]
   rw [if_neg (by omega), e2] at h;exact vifb (fun _ => h) fun c => absurd c e1
  refine vifb (fun c => absurd (e1.symm.trans c) (by decide)) fun _ => ?_
  by_cases e2 : qs.xs.length = 1
  ·have e3 : Sp.strE qs.xs ps.xs all i = 3 := by unfold Sp.strE; rw [if_pos e, if_pos e1, if_pos e2]
   rw [if_neg (by omega), e3] at h;exact vifd (fun _ => h) fun c => by omega
  refine vifd (fun c => absurd c (by omega)) fun _ => ?_;have hi := Sp.inr_iff.1 e1;have hpart := hk.part i.toNat (by omega);have hpts := hk.pts i.toNat (by omega);have hall := hk.all_;have hneed := hk.need (Sp.qPart qs.xs i.toNat).toNat (by omega);have h7 : Sp.strE qs.xs ps.xs all i = 7 -> Q [[.l [], .l [], .i 0], [.i 7]] := fun c => by
   rw [if_neg (by omega), c] at h; exact h
  have h0 : Sp.strE qs.xs ps.xs all i = 0 -> Q [[.l (Sp.strQ qs.xs i.toNat), .l (Sp.strP qs.xs ps.xs i.toNat), .i (Sp.strA qs.xs all i.toNat)], [.i 0]] := fun c => by
   rw [if_pos c, c] at h; exact h
  clear h;have hneed : -240 <= Sp.num ps.xs (Sp.qPart qs.xs i.toNat).toNat /\ Sp.num ps.xs (Sp.qPart qs.xs i.toNat).toNat <= 240 := hneed;have hnum : Sp.num (Sp.strP qs.xs ps.xs i.toNat) (Sp.qPart qs.xs i.toNat).toNat = Sp.num ps.xs (Sp.qPart qs.xs i.toNat).toNat - Sp.qPts qs.xs i.toNat := by unfold Sp.strP; rw [Sp.num_set (by omega), if_pos rfl]
  have hE : Sp.strE qs.xs ps.xs all i = if -240 <= Sp.strA qs.xs all i.toNat /\ -240 <= Sp.num (Sp.strP qs.xs ps.xs i.toNat) (Sp.qPart qs.xs i.toNat).toNat then 0 else 7 := by
   unfold Sp.strE;rw [if_pos e, if_pos e1, if_neg e2];have a1 : Sp.strA qs.xs all i.toNat <= 240 := by unfold Sp.strA; omega
   by_cases c1 : -240 <= Sp.strA qs.xs all i.toNat
   ·rw [if_pos (Sp.inr_iff.2 ⟨c1, a1⟩)]
    by_cases c2 : -240 <= Sp.num (Sp.strP qs.xs ps.xs i.toNat) (Sp.qPart qs.xs i.toNat).toNat
    ·rw [if_pos (Sp.inr_iff.2 ⟨c2, by omega⟩), if_pos ⟨c1, c2⟩]
    ·rw [if_neg (fun x => c2 (Sp.inr_iff.1 x).1), if_neg (fun x => c2 x.2)]
   ·rw [if_neg (fun x => c1 (Sp.inr_iff.1 x).1), if_neg (fun x => c1 x.1)]
  rw [hE] at h7 h0;rw [hnum] at h7 h0;have ez : (i + 1).toNat = i.toNat + 1 := by omega
  have htk : List.take (qs.xs.length - 1) (List.take i.toNat qs.xs ++ List.drop (i.toNat + 1) qs.xs ++ [[Cl.i 0, Cl.i 0, Cl.i 0, Cl.i 0, Cl.i 0]]) = Sp.strQ qs.xs i.toNat := by
   unfold Sp.strQ;exact List.take_left' (by simp; omega)
  have hrow : List.set ps.xs (Sp.qPart qs.xs i.toNat).toNat [Cl.i (Sp.num ps.xs (Sp.qPart qs.xs i.toNat).toNat - Sp.qPts qs.xs i.toNat)] = Sp.strP qs.xs ps.xs i.toNat := rfl;have hA : Sp.strA qs.xs all i.toNat = all - Sp.qPts qs.xs i.toNat := rfl;refine ned (by simp only [Bool.and_eq_true, decide_eq_true_eq]; omega) (nedd (by omega) (vif (fun c => ?_) fun _ => nedd (by omega) (ar64 (by omega) ⟨⟨by omega, rfl, by omega⟩, vif (fun c => ?_) fun _ => nedd (by omega) ?_⟩)))
  ·exfalso
   split at c
   ·exact Xfn qs (by omega) _ _ (by assumption)
   ·cases c
  ·exfalso
   split at c
   ·exact Xfn ps (by omega) _ _ (by assumption)
   ·cases c
  simp only [ez, Nat.zero_add, Nat.reduceAdd, Int.toNat_natCast, List.length_set, htk, show (cel qs.xs i.toNat 0).int = Sp.qPart qs.xs i.toNat from rfl, show (cel qs.xs i.toNat 3).int = Sp.qPts qs.xs i.toNat from rfl, show ∀ l k, (cel l k 0).int = Sp.num l k from fun _ _ => rfl];refine ned (by simp only [Bool.and_eq_true, decide_eq_true_eq]; omega) (nedd (by omega) (ar64 (by omega) (ned (by simp only [Bool.and_eq_true, decide_eq_true_eq]; omega) (nedd (by omega) (ar64 (by omega) (ned (by simp only [Bool.and_eq_true, decide_eq_true_eq]; omega) (nedd (by omega) ?_)))))));rw [hrow, hnum];refine vifd (fun c => h7 ?_) fun c => nedd (by simp; omega) ?_
  ·rw [if_neg (by rw [hA]; omega)]
  ·exact h0 (by rw [if_pos (by rw [hA]; omega)])
def Xl7 : PC Try.prog := ⟨32, Xy, Xb0, fun _ => True, Xbg, Xkq⟩
open Go.RowKit Go.Shelf
set_option maxRecDepth 1000000
set_option maxHeartbeats 4000000
def Xl5 : Ren := ⟨fun i => match i with
  | 125 => 85
  | 128 => 98
  | 129 => 99
  | 189 => 64
  | 215 => 105
  | 216 => 95
  | 257 => 84
  | 294 => 89
  | 295 => 90
  | 296 => 91
  | 297 => 92
  | 298 => 93
  | 299 => 94
  | 300 => 96
  | 301 => 97
  | 328 => 100
  | 329 => 101
  | 330 => 102
  | 331 => 103
  | 332 => 104
  | 343 => 106
  | _ => 0, fun i => match i with
  | 0 => 0
  | 3 => 3
  | 4 => 4
  | 5 => 5
  | 9 => 9
  | 28 => 23
  | 46 => 120
  | 51 => 134
  | 53 => 136
  | 131 => 131
  | 182 => 125
  | 183 => 126
  | 218 => 137
  | 222 => 141
  | 228 => 143
  | 229 => 144
  | _ => 0, fun i => i⟩
theorem Xc4 : Lays.n189 Try.prog Xl5 := {
  mixed := Xa
  f125 := by kernel_rfl
  f128 := by kernel_rfl
  f129 := by kernel_rfl
  f189 := by kernel_rfl
  f215 := by kernel_rfl
  f216 := by kernel_rfl
  f257 := by kernel_rfl
  f294 := by kernel_rfl
  f295 := by kernel_rfl
  f296 := by kernel_rfl
  f297 := by kernel_rfl
  f298 := by kernel_rfl
  f299 := by kernel_rfl
  f300 := by kernel_rfl
  f301 := by kernel_rfl
  f328 := by kernel_rfl
  f329 := by kernel_rfl
  f330 := by kernel_rfl
  f331 := by kernel_rfl
  f332 := by kernel_rfl
  f343 := by kernel_rfl
  t0 := by kernel_rfl
  a0 := fun w => by kernel_rfl
  z0 := fun w => by kernel_rfl
  v0 := fun w => by kernel_rfl
  t3 := by kernel_rfl
  a3 := fun w => by kernel_rfl
  z3 := fun w => by kernel_rfl
  v3 := fun w => by kernel_rfl
  t4 := by kernel_rfl
  a4 := fun w => by kernel_rfl
  z4 := fun w => by kernel_rfl
  v4 := fun w => by kernel_rfl
  t5 := by kernel_rfl
  a5 := fun w => by kernel_rfl
  z5 := fun w => by kernel_rfl
  v5 := fun w => by kernel_rfl
  t9 := by kernel_rfl
  a9 := fun w => by kernel_rfl
  z9 := fun w => by kernel_rfl
  v9 := fun w => by kernel_rfl
  t28 := by kernel_rfl
  a28 := fun w => by kernel_rfl
  z28 := fun w => by kernel_rfl
  v28 := fun w => by kernel_rfl
  t46 := by kernel_rfl
  a46 := fun w => by kernel_rfl
  z46 := fun w => by kernel_rfl
  v46 := fun w => by kernel_rfl
  t51 := by kernel_rfl
  a51 := fun w => by kernel_rfl
  z51 := fun w => by kernel_rfl
  v51 := fun w => by kernel_rfl
  t53 := by kernel_rfl
  a53 := fun w => by kernel_rfl
  z53 := fun w => by kernel_rfl
  v53 := fun w => by kernel_rfl
  t131 := by kernel_rfl
  a131 := fun w => by kernel_rfl
  z131 := fun w => by kernel_rfl
  v131 := fun w => by kernel_rfl
  t182 := by kernel_rfl
  a182 := fun w => by kernel_rfl
  z182 := fun w => by kernel_rfl
  v182 := fun w => by kernel_rfl
  t183 := by kernel_rfl
  a183 := fun w => by kernel_rfl
  z183 := fun w => by kernel_rfl
  v183 := fun w => by kernel_rfl
  t218 := by kernel_rfl
  a218 := fun w => by kernel_rfl
  z218 := fun w => by kernel_rfl
  v218 := fun w => by kernel_rfl
  t222 := by kernel_rfl
  a222 := fun w => by kernel_rfl
  z222 := fun w => by kernel_rfl
  v222 := fun w => by kernel_rfl
  t228 := by kernel_rfl
  a228 := fun w => by kernel_rfl
  z228 := fun w => by kernel_rfl
  v228 := fun w => by kernel_rfl
  t229 := by kernel_rfl
  a229 := fun w => by kernel_rfl
  z229 := fun w => by kernel_rfl
  v229 := fun w => by kernel_rfl }
def Sp.numsOf (l : Dt) : List Int := l.map fun r => (r.getD 0 .z).int
def Sp.sortD (l : Dt) : Dt := ((Sp.numsOf l).mergeSort fun x y => decide (x <= y)).map fun n => [.i n]
theorem Xc5 (l : Dt) : Yk [.int .i64] l = (Sp.numsOf l).map (Value.int .i64) := by
 induction l with
 | nil => rfl
 | cons r l ih =>
  unfold Sp.numsOf at ih ⊢;simp only [Yk, List.map_cons, ih];cases r <;> rfl
theorem X0 (l : Dt) : Sp.numsOf (Sp.sortD l) = (Sp.numsOf l).mergeSort fun x y => decide (x <= y) := by
 unfold Sp.sortD Sp.numsOf;rw [List.map_map];exact List.map_id'' (fun _ => rfl) _
theorem Xg (l : Dt) : (Sp.numsOf l).length = l.length := by unfold Sp.numsOf; rw [List.length_map]
theorem X4 (l : Dt) : (Sp.sortD l).length = l.length := by unfold Sp.sortD; rw [List.length_map, List.length_mergeSort, Xg]
def Xl4 [InW] (e : List Ed) (K : Nat -> List Ed -> Prop) : Prop := match e with
 | [.l l] => Pre (0 < l.length /\ l.length <= 1000) (K 0 [.l (Sp.sortD l)])
 | _ => False
def Xif : CC where
 g := 64
 args := [.row 4]
 H := [(4, .arr 3 Jc)]
 outs := [⟨false, .tup [], [(4, .arr 3 Jc)], false⟩]
 spec := Xl4
theorem Xnu : ∀ W : InW, @CallC W Try.prog Xif := fun W xs ys e1 e2 h1 h2 K hs => by
 obtain ⟨x1, xs', a1, a2, rfl, rfl, ⟨rfl, rfl⟩, rfl, rfl⟩ := h1;obtain ⟨it, h', b1, b2, rfl, rfl, ⟨l, rfl, rfl⟩, rfl, rfl⟩ := h2;obtain ⟨⟨hl0, hl1⟩, hk⟩ : Pre (0 < l.length /\ l.length <= 1000) (K 0 [.l (Sp.sortD l)]) := hs;refine ⟨0, _, _, .tup [], _, [(4, .arr 3 Jc (Sp.sortD l))], hk, rfl, rfl, rfl, ?_⟩;intro φ w0 M R w hnd hS;have hS' : St w0 M ((It.arr 3 Jc l).conc φ 4 :: R) w := hS;have hfn := Y2i (by decide) hS';have hnil := Yc4 (by decide) hl0 hS';have hrow : w.ownsRow 0 3 1 (.slice (some ⟨(φ 4).b, 0, none⟩) (φ 4).fn (φ 4).c) (φ 4).fn (Yk [.int .i64] l) := by
  have := hS'.row (v := .slice (if (φ 4).nil then none else some ⟨(φ 4).b, 0, none⟩) (φ 4).fn (φ 4).c) Look.head;rw [hnil] at this;exact this
 rcases hrow.2 with ⟨h0, _⟩ | ⟨g, cap, cur, hv, hb, hg, hnc, hcm, hcs, ht⟩
 ·cases h0
 injection hv with v1 v2 v3
 injection v1 with v1
 injection v1 with v1
 have hzl := Xg l;have ht' : cur.toList.take (Sp.numsOf l).length = (Sp.numsOf l).map (Value.int .i64) := by
  rw [hzl, <- hfn, <- Xc5, <- ht, Nat.mul_one]
 have hH := holds_of_blockI hg ht';have hsz : g < w.heap.size := (Array.getElem?_eq_some_iff.1 hg).1;have hc := calls_of_every_depth fun D => AnyS.slices_Sort_int_in Xc4 D g 0 cap (Sp.numsOf l) w hH hsz (by rw [hzl]; omega);have hx : (AV.concL φ [.rw 4]).toArray = #[Value.slice (some ⟨g, 0, none⟩) (Sp.numsOf l).length cap] := by
  simp [AV.concL, AV.conc, hnil, <- v1, v3, hfn, hzl]
 rw [hx];refine hc.mono ?_;rintro e w' ⟨rfl, n, os, rfl⟩;have hml : ((Sp.numsOf l).mergeSort fun x y => decide (x <= y)).length = (Sp.numsOf l).length := List.length_mergeSort _;have hown := ownsRow_sortedI (n := n) (os := os) (base := 0) hml (Nat.zero_le _) hg (by rw [hzl, <- hfn]; exact hnc) hcm hcs;have hgr := grownBy_sortedI (w := w) (g := g) (n := n) (os := os) ((Sp.numsOf l).mergeSort fun x y => decide (x <= y)).toArray;refine ⟨φ, fun _ => rfl, rfl, by simp [keys], ?_⟩;have hsl := X4 l;have hfl : Yk [.int .i64] (Sp.sortD l) = ((Sp.numsOf l).mergeSort fun x y => decide (x <= y)).map (Value.int .i64) := by rw [Xc5, X0]
 have e1 : (It.arr 3 Jc l).conc φ 4 = .row (.slice (some ⟨g, 0, none⟩) (φ 4).fn cap) 3 1 (φ 4).fn (Yk [.int .i64] l) := by
  simp only [It.conc, hnil, <- v1, v3];rfl
 have e2 : (It.arr 3 Jc (Sp.sortD l)).conc φ 4 = .row (.slice (some ⟨g, 0, none⟩) (φ 4).fn cap) 3 1 (φ 4).fn (Yk [.int .i64] (Sp.sortD l)) := by
  simp only [It.conc, hnil, <- v1, v3];rfl
 rw [e1] at hS'
 change St w0 M ((It.arr 3 Jc (Sp.sortD l)).conc φ 4 :: R) _
 rw [e2];refine hS'.upd .head ⟨hgr.os, hgr.tape, hgr.output, hgr.size, fun k hk hm => hgr.block k hk (fun x => hm ?_)⟩ ?_ fun b hb => .inl hb
 ·injection x with x
  subst x;simp [Res.foot, Value.ownBlock]
 ·show World.ownsRow _ 0 3 1 _ _ _
  rw [hfl, hfn, <- hzl];exact hown
end Go.Proofs.Ytifhdbgciehicaa
namespace Go.Proofs.Ytifhdbgciehicaa
open Go.RowKit
set_option maxRecDepth 100000
set_option maxHeartbeats 1600000
structure CmR where
 i : Nat
 l : Dt
namespace Sp
def cmF (a : Nat) : Nat -> Nat -> CmR -> CmR
 | _, 0, r => r
 | k, n + 1, r => cmF a (k + 1) n (if num r.l (a + k) = num r.l (a + (k - 1)) then r else ⟨r.i + 1, r.l.set r.i [.i (num r.l (a + k))]⟩)
end Sp
def Xfk [InW] (e : List Ed) (K : Nat -> List Ed -> Prop) : Prop := match e with
 | [.i i, .i a, .i b, .i k, .l l] => Pre (1 <= k /\ k <= b /\ 1 <= a /\ a + b = l.length /\ a <= i /\ i < a + k /\ l.length <= 1000) (K 0 [.i ((Sp.cmF a.toNat k.toNat (b - k).toNat ⟨i.toNat, l⟩).i : Nat), .l (Sp.cmF a.toNat k.toNat (b - k).toNat ⟨i.toNat, l⟩).l])
 | _ => False
def Xg8 : LC where
 len := 61
 T := [(0, (.row 3)), (3, .int .i64), (4, (.rwp 3 1)), (5, .int .i64)]
 H := [(3, .arr 3 Jc)]
 W := (rg 29 25)
 outs := [⟨.exit 2, [(0, (.row 6)), (3, .int .i64)], [(6, .arr 3 Jc)], ([4, 5] ++ rg 29 25)⟩]
 spec := Xfk
def Xem [W : InW] (i : Int) (a b : Nat) (k : Int) (l : Dt) (A : List Ed -> Prop) (K : Nat -> List Ed -> Prop) : Prop :=
 Vif (decide (k < (↑b : Int))) (Need (decide (0 <= k) && decide (k < (↑b : Int)) && decide (a + b <= l.length)) (Need (decide (a + k.toNat < l.length)) (Ar .i64 (k - 1) fun z => Need (decide (0 <= z) && decide (z < (↑b : Int)) && decide (a + b <= l.length)) (Need (decide (a + z.toNat < l.length)) (Vif (!decide ((cel l (a + k.toNat) Zd).int = (cel l (a + z.toNat) Zd).int)) (Need (decide (0 <= k) && decide (k < (↑b : Int)) && decide (a + b <= l.length)) (Need (decide (a + k.toNat < l.length)) (Need (decide (0 <= i) && decide (i < (↑(l.length) : Int))) (Need (decide (i.toNat < l.length)) (Ar .i64 (i + 1) fun z => Ar .i64 (k + 1) fun z_1 => A [.i z, .i (↑a : Int), .i (↑b : Int), .i z_1, .l (List.set l i.toNat [Cl.i (cel l (a + k.toNat) Zd).int])]))))) (Ar .i64 (k + 1) fun z => A [.i i, .i (↑a : Int), .i (↑b : Int), .i z, .l l])))))) (K 0 [.i i, .l l])
theorem Xlk (W : InW) (i a b k l A K) : Yfc { cxT Try.prog TT T0 1000 50 with fn := 65 } 1000 (Yn8 Try.prog 65 10) (Yd8 61 [(0, .rw 3), (3, .si .i64 i), (4, .rwp 3 1 a b), (5, .si .i64 k)] (rg 29 25)) [(3, .arr 3 Jc l)] (Yug Xg8 A K) = Xem i a b k l A K := by kernel_rfl
def Xgh : Prop := ∀ (W : InW) (body a : Code), (Try.prog.funcs[65]?).bind (·.body) = some body -> a ∈ Y0 body -> Yfw a = 10 -> @Ymr W Try.prog a (@Yto W Xg8)
theorem Xm5 (meas : [InW] -> List Ed -> Nat) (hyp_ : ∀ (W : InW) i (a b : Nat) k l K, Xfk [.i i, .i a, .i b, .i k, .l l] K -> ∀ A : List Ed -> Prop, (∀ e, meas e < meas [.i i, .i a, .i b, .i k, .l l] -> Xfk e K -> A e) -> Xem i a b k l A K) : Xgh :=
 LE.okOf' (fun W => @TT W) (fun W => @Xe W) Xa T0 1000 50 (by kernel_rfl) Xg8 (fun W => @meas W) fun W i a b k l K hs =>
  (Xlk W i a b k l (fun e => meas e < meas [.i i, .i a, .i b, .i k, .l l] /\ Xfk e K) K).mpr (hyp_ W i a b k l K hs _ fun e h1 h2 => ⟨h1, h2⟩)
theorem Xpl : Xgh := Xm5 (fun e => match e with | [_, _, .i b, .i k, _] => (b - k).toNat | _ => 0) fun W i a b k l K hs A hA => by
 obtain ⟨⟨h1, h2, h3, h4, h5, h6, h7⟩, hk⟩ := hs;unfold Xem;delta Zd;simp only [show ∀ j, (cel l j 0).int = Sp.num l j from fun _ => rfl];have ez : (k + 1).toNat = k.toNat + 1 := by omega
 have em : (k - 1).toNat = k.toNat - 1 := by omega
 have ei : ((i.toNat : Nat) : Int) = i := Int.toNat_of_nonneg (by omega);simp only [Int.toNat_natCast] at hk
 by_cases hkb : k < b
 ·rw [show ((b : Int) - k).toNat = ((b : Int) - (k + 1)).toNat + 1 by omega] at hk;simp only [Sp.cmF] at hk
  by_cases c : Sp.num l (a + k.toNat) = Sp.num l (a + (k.toNat - 1))
  ·rw [if_pos c] at hk;have hA' := hA [.i i, .i a, .i b, .i (k + 1), .l l] (show ((b : Int) - (k + 1)).toNat < ((b : Int) - k).toNat by omega) ⟨⟨by omega, by omega, h3, h4, h5, by omega, h7⟩, by rw [ez]; simp only [Int.toNat_natCast]; exact hk⟩;clear hA hk;rw [<- em] at c
   repeat' (first | omega | with_reducible refine vifd (fun _ => ?_) fun _ => ?_ | with_reducible refine vifn (fun _ => ?_) fun _ => ?_ | with_reducible refine vifq (fun _ => ?_) fun _ => ?_ | with_reducible refine Xd (fun _ => ?_) fun _ => ?_ | with_reducible refine Xc (fun _ => ?_) fun _ => ?_ | with_reducible refine vifb (fun _ => ?_) fun _ => ?_ | with_reducible refine vif (fun _ => ?_) fun _ => ?_ | (with_reducible refine nedd ?_ ?_; omega) | (with_reducible refine ned ?_ ?_; simp only [Bool.and_eq_true, decide_eq_true_eq]; omega) | (with_reducible refine ar64 ?_ ?_; omega) | (with_reducible refine Xb ?_ ?_; (first | trivial | omega | assumption | (refine ⟨?_, ?_⟩ <;> first | trivial | omega | assumption) | (refine ⟨?_, ?_, ?_⟩ <;> first | trivial | omega | assumption) | (refine ⟨?_, ?_, ?_, ?_⟩ <;> first | trivial | omega | assumption))))
   all_goals first | contradiction | exact hA' | skip
  ·rw [if_neg c] at hk;have hA' := hA [.i (i + 1), .i a, .i b, .i (k + 1), .l (l.set i.toNat [.i (Sp.num l (a + k.toNat))])] (show ((b : Int) - (k + 1)).toNat < ((b : Int) - k).toNat by omega) ⟨⟨by omega, by omega, h3, by rw [List.length_set]; exact h4, by omega, by omega, by rw [List.length_set]; exact h7⟩, by
    rw [ez, show (i + 1).toNat = i.toNat + 1 by omega];simp only [Int.toNat_natCast];exact hk⟩
   clear hA hk;rw [<- em] at c
   repeat' (first | omega | with_reducible refine vifd (fun _ => ?_) fun _ => ?_ | with_reducible refine vifn (fun _ => ?_) fun _ => ?_ | with_reducible refine vifq (fun _ => ?_) fun _ => ?_ | with_reducible refine Xd (fun _ => ?_) fun _ => ?_ | with_reducible refine Xc (fun _ => ?_) fun _ => ?_ | with_reducible refine vifb (fun _ => ?_) fun _ => ?_ | with_reducible refine vif (fun _ => ?_) fun _ => ?_ | (with_reducible refine nedd ?_ ?_; omega) | (with_reducible refine ned ?_ ?_; simp only [Bool.and_eq_true, decide_eq_true_eq]; omega) | (with_reducible refine ar64 ?_ ?_; omega) | (with_reducible refine Xb ?_ ?_; (first | trivial | omega | assumption | (refine ⟨?_, ?_⟩ <;> first | trivial | omega | assumption) | (refine ⟨?_, ?_, ?_⟩ <;> first | trivial | omega | assumption) | (refine ⟨?_, ?_, ?_, ?_⟩ <;> first | trivial | omega | assumption))))
   all_goals first | contradiction | exact hA' | skip
 ·rw [show ((b : Int) - k).toNat = 0 by omega] at hk;simp only [Sp.cmF, ei] at hk;clear hA
  repeat' (first | omega | with_reducible refine vifd (fun _ => ?_) fun _ => ?_ | with_reducible refine vifn (fun _ => ?_) fun _ => ?_ | with_reducible refine vifq (fun _ => ?_) fun _ => ?_ | with_reducible refine Xd (fun _ => ?_) fun _ => ?_ | with_reducible refine Xc (fun _ => ?_) fun _ => ?_ | with_reducible refine vifb (fun _ => ?_) fun _ => ?_ | with_reducible refine vif (fun _ => ?_) fun _ => ?_ | (with_reducible refine nedd ?_ ?_; omega) | (with_reducible refine ned ?_ ?_; simp only [Bool.and_eq_true, decide_eq_true_eq]; omega) | (with_reducible refine ar64 ?_ ?_; omega) | (with_reducible refine Xb ?_ ?_; (first | trivial | omega | assumption | (refine ⟨?_, ?_⟩ <;> first | trivial | omega | assumption) | (refine ⟨?_, ?_, ?_⟩ <;> first | trivial | omega | assumption) | (refine ⟨?_, ?_, ?_, ?_⟩ <;> first | trivial | omega | assumption))))
  all_goals exact hk
def Xqe : LE Try.prog := ⟨65, 10, fun W => @Yto W Xg8, Xpl⟩
def T72 : Tab Try.prog := ⟨[], [Xqe], []⟩
namespace Sp
def dupI (l : Dt) (k : Nat) : Bool := decide (num l k = num l (k - 1))
def cmR (l : Dt) (j : Nat) : CmR := cmF j 1 (l.length - j - 1) ⟨j, l⟩
theorem cmF_facts (a : Nat) : ∀ n k r, 1 <= k -> a <= r.i -> r.i < a + k -> a + k + n <= r.l.length -> (cmF a k n r).l.length = r.l.length /\ a <= (cmF a k n r).i /\ (cmF a k n r).i < a + k + n
 | 0, k, r, _, h1, h2, _ => ⟨rfl, h1, h2⟩
 | n + 1, k, r, h0, h1, h2, h3 => by
  simp only [cmF]
  split
  ·have := cmF_facts a n (k + 1) r (by omega) h1 (by omega) (by omega);omega
  ·have := cmF_facts a n (k + 1) ⟨r.i + 1, r.l.set r.i [.i (num r.l (a + k))]⟩ (by omega) (by simp only []; omega) (by simp only []; omega) (by simp only [List.length_set]; omega);simp only [List.length_set] at this;omega
end Sp
def Xfj [InW] (e : List Ed) (K : Nat -> List Ed -> Prop) : Prop := match e with
 | [.i i, .l l] => Pre (1 <= i /\ i <= l.length /\ l.length <= 1000) (Vif (Sp.anyF (Sp.dupI l) i.toNat (l.length - i.toNat)) (K 1 [.i ((0 : Nat) : Int), .i ((Sp.cmR l (Sp.fstF (Sp.dupI l) i.toNat (l.length - i.toNat))).i : Nat), .l (clD (Sp.cmR l (Sp.fstF (Sp.dupI l) i.toNat (l.length - i.toNat))).l (Sp.cmR l (Sp.fstF (Sp.dupI l) i.toNat (l.length - i.toNat))).i (l.length - (Sp.cmR l (Sp.fstF (Sp.dupI l) i.toNat (l.length - i.toNat))).i) [.i 0])]) (K 0 [.l l]))
 | _ => False
def Xg7 : LC where
 len := 61
 T := [(0, (.row 3)), (3, .int .i64)]
 H := [(3, .arr 3 Jc)]
 W := ([2, 4, 5] ++ rg 10 50)
 outs := [⟨.exit 0, [(0, (.row 6))], [(6, .arr 3 Jc)], (rg 2 4 ++ rg 10 50)⟩, ⟨.ret, [(2, (.rwp 6 1))], [(6, .arr 3 Jc)], ([0, 3, 4, 5] ++ rg 10 50)⟩]
 spec := Xfj
def Zej [W : InW] (i : Int) (l : Dt) := Sp.cmF (↑i.toNat : Int).toNat (Int.toNat (1 : Int)) ((↑(l.length - i.toNat) : Int) - 1).toNat { i := i.toNat, l := l }
def Zel [W : InW] (i : Int) (l : Dt) := (↑(Zej i l).1 : Int)
def Zek [W : InW] (i : Int) (l : Dt) := List.take (Zel i l).toNat (Zej i l).2 ++ List.replicate (List.length (Zej i l).2 - (Zel i l).toNat) (Ybr [Ty.int IntKind.i64]) ++ List.drop ((Zel i l).toNat + (List.length (Zej i l).2 - (Zel i l).toNat)) (Zej i l).2
def Xel [W : InW] (i : Int) (l : Dt) (A : List Ed -> Prop) (K : Nat -> List Ed -> Prop) : Prop :=
 Vif (decide (i < (↑(l.length) : Int))) (Need (decide (0 <= i) && decide (i < (↑(l.length) : Int))) (Need (decide (i.toNat < l.length)) (Ar .i64 (i - 1) fun z => Need (decide (0 <= z) && decide (z < (↑(l.length) : Int))) (Need (decide (z.toNat < l.length)) (Vif (decide ((cel l i.toNat Zd).int = (cel l z.toNat Zd).int)) (Need (decide (0 <= i)) (Need (decide (i.toNat <= l.length) && decide (l.length <= l.length)) (Pre ((1 : Int) <= 1 /\ (1 : Int) <= (↑(l.length - i.toNat) : Int) /\ (1 : Int) <= (↑i.toNat : Int) /\ (↑i.toNat : Int) + (↑(l.length - i.toNat) : Int) = (↑(l.length) : Int) /\ (↑i.toNat : Int) <= i /\ i < (↑i.toNat : Int) + 1 /\ l.length <= 1000) (Need (decide ((0 : Int) <= (Zel i l))) (Need (decide ((Zel i l).toNat <= List.length (Zej i l).2) && decide (List.length (Zej i l).2 <= List.length (Zej i l).2)) (Need (decide ((Zel i l).toNat + (List.length (Zej i l).2 - (Zel i l).toNat) <= List.length (Zej i l).2)) (Need (decide ((0 : Int) <= (Zel i l))) (Need (decide (Zd <= (Zel i l).toNat) && decide ((Zel i l).toNat <= (Zek i l).length)) (K (0+1) [.i (↑Zd : Int), .i (↑((Zel i l).toNat - 0) : Int), .l (Zek i l)]))))))))) (Ar .i64 (i + 1) fun z => A [.i z, .l l])))))) (K 0 [.l l])
theorem Xlj (W : InW) (i l A K) : Yfc { cxT Try.prog TT T72 1000 50 with fn := 65 } 1000 (Yn8 Try.prog 65 5) (Yd8 61 [(0, .rw 3), (3, .si .i64 i)] ([2, 4, 5] ++ rg 10 50)) [(3, .arr 3 Jc l)] (Yug Xg7 A K) = Xel i l A K := by kernel_rfl
def Xgg : Prop := ∀ (W : InW) (body a : Code), (Try.prog.funcs[65]?).bind (·.body) = some body -> a ∈ Y0 body -> Yfw a = 5 -> @Ymr W Try.prog a (@Yto W Xg7)
theorem Xm4 (meas : [InW] -> List Ed -> Nat) (hyp_ : ∀ (W : InW) i l K, Xfj [.i i, .l l] K -> ∀ A : List Ed -> Prop, (∀ e, meas e < meas [.i i, .l l] -> Xfj e K -> A e) -> Xel i l A K) : Xgg :=
 LE.okOf' (fun W => @TT W) (fun W => @Xe W) Xa T72 1000 50 (by kernel_rfl) Xg7 (fun W => @meas W) fun W i l K hs =>
  (Xlj W i l (fun e => meas e < meas [.i i, .l l] /\ Xfj e K) K).mpr (hyp_ W i l K hs _ fun e h1 h2 => ⟨h1, h2⟩)
theorem Xpk : Xgg := Xm4 (fun e => match e with | [.i i, .l l] => ((l.length : Int) - i).toNat | _ => 0) fun W i l K hs A hA => by
 obtain ⟨⟨h1, h2, h3⟩, hk⟩ := hs;unfold Xel;delta Zek Zel Zej Zd;have ez : (i + 1).toNat = i.toNat + 1 := by omega
 have em : (i - 1).toNat = i.toNat - 1 := by omega
 simp only [show ∀ j, (cel l j 0).int = Sp.num l j from fun _ => rfl]
 by_cases hi : i < l.length
 ·rw [show l.length - i.toNat = (l.length - (i.toNat + 1)) + 1 by omega] at hk;simp only [Sp.anyF, Sp.fstF] at hk
  by_cases c : Sp.num l i.toNat = Sp.num l (i.toNat - 1)
  ·have c2 : Sp.dupI l i.toNat = true := decide_eq_true c;rw [c2, Bool.true_or, if_pos rfl] at hk;have hk := hk.1 rfl;have hf := Sp.cmF_facts i.toNat (l.length - i.toNat - 1) 1 ⟨i.toNat, l⟩ (by omega) (Nat.le_refl _) (by simp only []; omega) (by simp only []; omega);have e0 : ((l.length - i.toNat : Nat) : Int) - 1 = ((l.length - i.toNat - 1 : Nat) : Int) := by omega
   simp only [Int.toNat_natCast, show Int.toNat 1 = 1 from rfl, e0, show Sp.cmF i.toNat 1 (l.length - i.toNat - 1) ⟨i.toNat, l⟩ = Sp.cmR l i.toNat from rfl, show Ybr [.int .i64] = [Cl.i 0] from rfl];rw [show Sp.cmF i.toNat 1 (l.length - i.toNat - 1) ⟨i.toNat, l⟩ = Sp.cmR l i.toNat from rfl] at hf;rw [<- em] at c;clear hA;generalize Sp.cmR l i.toNat = r at *;obtain ⟨ri, rl⟩ := r;simp only at hf hk ⊢;rw [hf.1];simp only [clD] at hk
   repeat' (first | (with_reducible refine Xb ⟨by omega, by omega, by omega, by omega, by omega, by omega, h3⟩ ?_) | omega | with_reducible refine vifd (fun _ => ?_) fun _ => ?_ | with_reducible refine vifn (fun _ => ?_) fun _ => ?_ | with_reducible refine vifq (fun _ => ?_) fun _ => ?_ | with_reducible refine Xd (fun _ => ?_) fun _ => ?_ | with_reducible refine Xc (fun _ => ?_) fun _ => ?_ | with_reducible refine vifb (fun _ => ?_) fun _ => ?_ | with_reducible refine vif (fun _ => ?_) fun _ => ?_ | (with_reducible refine nedd ?_ ?_; omega) | (with_reducible refine ned ?_ ?_; simp only [Bool.and_eq_true, decide_eq_true_eq]; omega) | (with_reducible refine ar64 ?_ ?_; omega) | (with_reducible refine Xb ?_ ?_; (first | trivial | omega | assumption | (refine ⟨?_, ?_⟩ <;> first | trivial | omega | assumption) | (refine ⟨?_, ?_, ?_⟩ <;> first | trivial | omega | assumption) | (refine ⟨?_, ?_, ?_, ?_⟩ <;> first | trivial | omega | assumption))))
   all_goals first | contradiction | exact hk | (refine ned (by simp; omega) ?_; exact hk) | skip
  ·have c2 : Sp.dupI l i.toNat = false := decide_eq_false c;rw [c2, Bool.false_or, if_neg (by decide)] at hk;have hA' := hA [.i (i + 1), .l l] (show ((l.length : Int) - (i + 1)).toNat < ((l.length : Int) - i).toNat by omega) ⟨⟨by omega, by omega, h3⟩, by rw [ez]; exact hk⟩;rw [<- em] at c;refine vifd (fun _ => ned (by simp; omega) (nedd (by omega) (ar64 (by omega) (ned (by simp; omega) (nedd (by omega) (vifd (fun x => absurd x c) fun _ => ar64 (by omega) hA')))))) fun x => absurd hi x
 ·rw [show l.length - i.toNat = 0 by omega] at hk;clear hA;refine vifd (fun x => absurd x hi) fun _ => hk.2 rfl
def Xqd : LE Try.prog := ⟨65, 5, fun W => @Yto W Xg7, Xpk⟩
def T73 : Tab Try.prog := ⟨[], [Xqd], []⟩
namespace Sp
def cpN (l : Dt) : Nat := (cmR l (fstF (dupI l) 1 (l.length - 1))).i
def cpL (l : Dt) : Dt := clD (cmR l (fstF (dupI l) 1 (l.length - 1))).l (cpN l) (l.length - cpN l) [.i 0]
end Sp
def Xkn [InW] (e : List Ed) (K : Nat -> List Ed -> Prop) : Prop := match e with
 | [.l l] => Pre (l.length <= 1000) (Vif (decide (2 <= l.length) && Sp.anyF (Sp.dupI l) 1 (l.length - 1)) (K 1 [.i ((0 : Nat) : Int), .i (Sp.cpN l : Nat), .l (Sp.cpL l)]) (K 0 [.l l]))
 | _ => False
def X7 : CC where
 g := 65
 args := [(.row 3)]
 H := [(3, .arr 3 Jc)]
 outs := [⟨false, (.row 6), [(6, .arr 3 Jc)], false⟩, ⟨false, (.rwp 6 1), [(6, .arr 3 Jc)], false⟩]
 spec := Xkn
def Zem [W : InW] (l : Dt) := Sp.cmR l (Sp.fstF (Sp.dupI l) (Int.toNat (1 : Int)) (l.length - Int.toNat (1 : Int)))
def Xet [W : InW] (l : Dt) (K : Nat -> List Ed -> Prop) : Prop :=
 Vif (decide ((↑(l.length) : Int) < 2)) (K 0 [Ed.l l]) (Pre ((1 : Int) <= 1 /\ (1 : Int) <= (↑(l.length) : Int) /\ l.length <= 1000) (Vif (Sp.anyF (Sp.dupI l) (Int.toNat (1 : Int)) (l.length - Int.toNat (1 : Int))) (K (0+1) [Ed.i (↑(↑(0 : Nat) : Int).toNat : Int), Ed.i (↑(↑(Zem l).1 : Int).toNat : Int), Ed.l (List.take (Zem l).1 (Zem l).2 ++ List.replicate (l.length - (Zem l).1) [Cl.i 0] ++ List.drop ((Zem l).1 + (l.length - (Zem l).1)) (Zem l).2)]) (K 0 [Ed.l l])))
theorem Xlr (W : InW) (l K) : Ywu (cxT Try.prog TT T73 1000 50) 1000 65 [.rw 3] [(3, .arr 3 Jc l)] (fun v h => outC X7.H [.l l] X7.outs 0 false v h K) (fun v h => outC X7.H [.l l] X7.outs 0 true v h K) = Xet l K := by kernel_rfl
theorem Xnc (hyp_ : ∀ (W : InW) l K, Xkn [.l l] K -> Xet l K) : ∀ W : InW, @CallC W Try.prog X7 :=
 CC.okOf (fun W => @TT W) (fun W => @Xe W) Xa T73 1000 50 X7 fun W l K hs => (Xlr W l K).mpr (hyp_ W l K hs)
theorem Xpp : ∀ W : InW, @CallC W Try.prog X7 := Xnc fun W l K hs => by
 obtain ⟨h1, hk⟩ := hs;unfold Xet;delta Zem;refine vifd (fun e => ?_) fun e => ⟨⟨by omega, by omega, h1⟩, ?_⟩
 ·rw [decide_eq_false (by omega), Bool.false_and] at hk;exact hk.2 rfl
 ·rw [decide_eq_true (by omega), Bool.true_and] at hk;exact hk
def T74 : Tab Try.prog := ⟨[Xob], [], [ceOf Xp Xh8]⟩
abbrev LPsc : LI := lpAt Try.prog 25 0
namespace Sp
def ttW (qs ps sh u : Dt) (k : Nat) : Int := total (mkW qs ps sh u k)
def ttL (qs ps sh u : Dt) : Nat -> Nat -> Dt
 | _, 0 => []
 | i, n + 1 => [.i (ttW qs ps sh u i)] :: ttL qs ps sh u (i + 1) n
end Sp
def Xe5 [InW] (e : List Ed) (K : Nat -> List Ed -> Prop) : Prop := match e with
 | [.i n, .i i, .ro _ qs, .ro _ ps, .i all, .ro _ sh, .l u, .l l] => Pre (0 <= i /\ i <= n /\ n <= 128 /\ Sp.KeyOk qs.xs ps.xs all /\ Sp.SeOk qs.xs sh.xs u /\ l.length <= i) (K 0 [.ro _ qs, .ro _ ps, .i all, .ro _ sh, .l u, .l (l ++ Sp.ttL qs.xs ps.xs sh.xs u i.toNat (n - i).toNat)])
 | _ => False
def Xgv : LC where
 len := 18
 T := [(0, (.yl 1)), (1, (.ptr 10 0)), (9, .int .i64), (10, .int .i64)]
 H := [(1, .lp LPsc [(.opq 1501), (.opq 1504), (.opq 1507), (.opq 1510), (.opq 1513), (.ptr 22 0), (.opq 1519), (.ptr 25 0), (.opq 321), (.opq 1528), (.opq 1531), (.opq 1534), (.opq 1537), (.opq 1540), (.opq 1543), (.opq 1546), (.opq 1549), (.opq 1552), (.opq 1555), (.opq 1558), (.opq 357), (.opq 360), (.opq 363), (.opq 366), (.opq 369), (.opq 372), (.opq 375), (.opq 378), (.opq 1585), (.opq 1588), (.opq 1591), (.opq 1594)]), (10, .blk 85 [(.ptr 4 0)]), (4, .blk 89 [.rs Iv5, .rs Jc, .int .i64, .rs Jb, (.row 7)]), (7, .arr 44 Ja), (25, .blk 85 [(.ptr 4 0)]), (22, .blk 23 [(.row 3)]), (3, .arr 3 Jc)]
 W := ([3] ++ rg 11 7)
 outs := [⟨.exit 0, [], [(1, .lp LPsc [(.opq 1501), (.opq 1504), (.opq 1507), (.opq 1510), (.opq 1513), (.ptr 22 0), (.opq 1519), (.ptr 25 0), (.opq 621), (.opq 1528), (.opq 1531), (.opq 1534), (.opq 1537), (.opq 1540), (.opq 1543), (.opq 1546), (.opq 1549), (.opq 1552), (.opq 1555), (.opq 1558), (.opq 657), (.opq 660), (.opq 663), (.opq 666), (.opq 669), (.opq 672), (.opq 675), (.opq 678), (.opq 1585), (.opq 1588), (.opq 1591), (.opq 1594)]), (621, .dead), (657, .dead), (660, .dead), (663, .dead), (666, .dead), (669, .dead), (672, .dead), (675, .dead), (678, .dead), (10, .blk 85 [(.ptr 4 0)]), (4, .blk 89 [.rs Iv5, .rs Jc, .int .i64, .rs Jb, (.row 7)]), (7, .arr 44 Ja), (25, .blk 85 [(.ptr 4 0)]), (22, .blk 23 [(.row 6)]), (6, .arr 3 Jc)], ([0, 1, 3] ++ rg 9 9)⟩]
 spec := Xe5
def Xd8 [W : InW] (n i : Int) (qs : Ro Iv5) (ps : Ro Jc) (all : Int) (sh : Ro Jb) (u l : Dt) (A : List Ed -> Prop) (K : Nat -> List Ed -> Prop) : Prop :=
 Vif (decide (i < n)) (Pre (0 <= i /\ Sp.KeyOk qs.xs ps.xs all /\ Sp.SeOk qs.xs sh.xs u) (Pre (Sp.Low (Sp.mkW qs.xs ps.xs sh.xs u i)) (Need (decide ((l.length + [[Cl.i (Sp.total (Sp.mkW qs.xs ps.xs sh.xs u i))]].length) * 8 <= 140737488355328)) (Ar .i64 (i + 1) fun z => PreL LPsc LPsc (A [.i n, .i z, .ro _ qs, .ro _ ps, .i all, .ro Zdw sh, .l u, .l (l ++ [[Cl.i (Sp.total (Sp.mkW qs.xs ps.xs sh.xs u i))]])]))))) (PreL LPsc LPsc (K 0 [.ro _ qs, .ro _ ps, .i all, .ro Zdw sh, .l u, .l l]))
theorem Xk6 (W : InW) (n i qs ps all sh u l A K) : Yfc { cxT Try.prog TT T74 1000 50 with fn := 83 } 1000 (Yn8 Try.prog 83 2) (Yd8 18 [(0, .yl 1), (1, .ptr 10 0), (9, .si .i64 n), (10, .si .i64 i)] ([3] ++ rg 11 7)) [(1, .lp LPsc [.opq 1501, .opq 1504, .opq 1507, .opq 1510, .opq 1513, .ptr 22 0, .opq 1519, .ptr 25 0, .opq 321, .opq 1528, .opq 1531, .opq 1534, .opq 1537, .opq 1540, .opq 1543, .opq 1546, .opq 1549, .opq 1552, .opq 1555, .opq 1558, .opq 357, .opq 360, .opq 363, .opq 366, .opq 369, .opq 372, .opq 375, .opq 378, .opq 1585, .opq 1588, .opq 1591, .opq 1594]), (10, .blk 85 [.ptr 4 0]), (4, .blk 89 [.rs _ qs, .rs _ ps, .si .i64 all, .rs _ sh, .rw 7]), (7, .arr 44 Ja u), (25, .blk 85 [.ptr 4 0]), (22, .blk 23 [.rw 3]), (3, .arr 3 Jc l)] (Yug Xgv A K) = Xd8 n i qs ps all sh u l A K := by kernel_rfl
def Xf4 : Prop := ∀ (W : InW) (body a : Code), (Try.prog.funcs[83]?).bind (·.body) = some body -> a ∈ Y0 body -> Yfw a = 2 -> @Ymr W Try.prog a (@Yto W Xgv)
theorem Xmr (meas : [InW] -> List Ed -> Nat) (hyp_ : ∀ (W : InW) n i qs ps all sh u l K, Xe5 [.i n, .i i, .ro _ qs, .ro _ ps, .i all, .ro _ sh, .l u, .l l] K -> ∀ A : List Ed -> Prop, (∀ e, meas e < meas [.i n, .i i, .ro _ qs, .ro _ ps, .i all, .ro _ sh, .l u, .l l] -> Xe5 e K -> A e) -> Xd8 n i qs ps all sh u l A K) : Xf4 :=
 LE.okOf' (fun W => @TT W) (fun W => @Xe W) Xa T74 1000 50 (by kernel_rfl) Xgv (fun W => @meas W) fun W n i qs ps all sh u l K hs =>
  (Xk6 W n i qs ps all sh u l (fun e => meas e < meas [.i n, .i i, .ro _ qs, .ro _ ps, .i all, .ro _ sh, .l u, .l l] /\ Xe5 e K) K).mpr (hyp_ W n i qs ps all sh u l K hs _ fun e h1 h2 => ⟨h1, h2⟩)
theorem Xo7 : Xf4 := Xmr (fun e => match e with | .i n :: .i i :: _ => (n - i).toNat | _ => 0) fun W n i qs ps all sh u l K hs A hA => by
 obtain ⟨⟨h0, h1, h2, hkey, hse, hl⟩, hk⟩ := hs;unfold Xd8;delta Zdw;have ez : (i + 1).toNat = i.toNat + 1 := by omega
 have ei : ((i.toNat : Nat) : Int) = i := Int.toNat_of_nonneg h0
 by_cases hi : i < n
 ·rw [show (n - i).toNat = (n - (i + 1)).toNat + 1 by omega] at hk;simp only [Sp.ttL, Sp.ttW, ei] at hk;rw [show ∀ (a : List Cl) b, l ++ a :: b = (l ++ [a]) ++ b from fun a b => by simp] at hk;have hA' := hA [.i n, .i (i + 1), .ro _ qs, .ro _ ps, .i all, .ro _ sh, .l u, .l (l ++ [[.i (Sp.total (Sp.mkW qs.xs ps.xs sh.xs u i))]])] (show (n - (i + 1)).toNat < (n - i).toNat by omega) ⟨⟨by omega, by omega, h2, hkey, hse, by simp; omega⟩, by rw [ez]; exact hk⟩;clear hA hk;exact vifd (fun _ => ⟨⟨h0, hkey, hse⟩, ⟨Sp.mkW_low hkey, nedd (by simp; omega) (ar64 (by omega) ⟨rfl, hA'⟩)⟩⟩) fun x => absurd hi x
 ·rw [show (n - i).toNat = 0 by omega] at hk;simp only [Sp.ttL, List.append_nil] at hk;clear hA;exact vifd (fun x => absurd x hi) fun _ => ⟨rfl, hk⟩
def Xp2 : LE Try.prog := ⟨83, 2, fun W => @Yto W Xgv, Xo7⟩
def T76 : Tab Try.prog := ⟨[], [Xp2], [ceOf Xh Xbj, ceOf Xif Xnu, ceOf X7 Xpp]⟩
def Xdq [W : InW] (kQ : Ro Iv5) (kP : Ro Jc) (kA : Int) (sh : Ro Jb) (Q : DS -> Prop) : Prop :=
 Vif (decide (Sp.askE kQ.xs kP.xs kA sh.xs = 0)) (Need (decide ((0 : Int) <= (↑(List.length (Sp.uns sh.xs)) : Int))) (Ar .i64 ((1 : Int) * 2 ^ min (↑(List.length (Sp.uns sh.xs)) : Int).toNat (64 : Nat)) fun z => PreL LPsc LPsc (Pre ((0 : Int) <= 0 /\ 0 <= z /\ z <= 128 /\ Sp.KeyOk kQ.xs kP.xs kA /\ Sp.SeOk kQ.xs sh.xs (Sp.uns sh.xs) /\ (↑(0 : Nat) : Int) <= 0) (Pre ((0 : Nat) < List.length (Sp.ttL kQ.xs kP.xs sh.xs (Sp.uns sh.xs) Za (z - 0).toNat) /\ List.length (Sp.ttL kQ.xs kP.xs sh.xs (Sp.uns sh.xs) Za (z - 0).toNat) <= 1000) (Pre (List.length (Sp.sortD (Sp.ttL kQ.xs kP.xs sh.xs (Sp.uns sh.xs) Za (z - 0).toNat)) <= 1000) (Vif (decide ((2 : Nat) <= List.length (Sp.sortD (Sp.ttL kQ.xs kP.xs sh.xs (Sp.uns sh.xs) Za (z - 0).toNat))) && Sp.anyF (Sp.dupI (Sp.sortD (Sp.ttL kQ.xs kP.xs sh.xs (Sp.uns sh.xs) Za (z - 0).toNat))) (1 : Nat) (List.length (Sp.sortD (Sp.ttL kQ.xs kP.xs sh.xs (Sp.uns sh.xs) Za (z - 0).toNat)) - 1)) (Need (decide ((↑(Sp.cpN (Sp.sortD (Sp.ttL kQ.xs kP.xs sh.xs (Sp.uns sh.xs) Za (z - 0).toNat))) : Int).toNat <= List.length (Sp.cpL (Sp.sortD (Sp.ttL kQ.xs kP.xs sh.xs (Sp.uns sh.xs) Za (z - 0).toNat))))) (Q [[Cl.l (List.take (↑(Sp.cpN (Sp.sortD (Sp.ttL kQ.xs kP.xs sh.xs (Sp.uns sh.xs) Za (z - 0).toNat))) : Int).toNat (Sp.cpL (Sp.sortD (Sp.ttL kQ.xs kP.xs sh.xs (Sp.uns sh.xs) Za (z - 0).toNat))))], [Cl.i 0]])) (Q [[Cl.l (Sp.sortD (Sp.ttL kQ.xs kP.xs sh.xs (Sp.uns sh.xs) Za (z - 0).toNat))], [Cl.i 0]]))))))) (Vif (!decide (Sp.askE kQ.xs kP.xs kA sh.xs = 0)) (Q [[Cl.l []], [Cl.i (Sp.askE kQ.xs kP.xs kA sh.xs)]]) ((16 : Nat) = 16 + 1))
theorem Xlv (W : InW) (kQ kP kA sh Q) : Ywx (cxT Try.prog TT T76 1000 50) 1000 25 [.agg [.rs _ kQ, .rs _ kP, .si .i64 kA], .rs _ sh] [] 0 (Y04 [(false, [.row 3 Jc]), (false, [.int .i64])] Q) (fun _ _ _ _ => Stuck 421) = Xdq kQ kP kA sh Q := by kernel_rfl
abbrev Xcc : List AT := [.agg [.sl Iv5, .sl Jc, .int .i64], .one (.sl Jb)]
theorem Xnh {pre : DS -> Prop} {res : DS -> DS} (hyp_ : ∀ (W : InW) (kQ : Ro Iv5) (kP : Ro Jc) (kA : Int) (sh : Ro Jb), pre [[.l kQ.xs, .l kP.xs, .i kA], [.l sh.xs]] -> ∀ Q : DS -> Prop, Q (res [[.l kQ.xs, .l kP.xs, .i kA], [.l sh.xs]]) -> Xdq kQ kP kA sh Q) : PureOk Try.prog 25 Xcc [(false, [.row 3 Jc]), (false, [.int .i64])] pre res :=
 PureOk.of' (fun W => @TT W) (fun W => @Xe W) Xa T76 1000 50 fun W kQ kP kA sh hp =>
  (Xlv W kQ kP kA sh (fun o => o = res [[.l kQ.xs, .l kP.xs, .i kA], [.l sh.xs]])).mpr (hyp_ W kQ kP kA sh hp _ rfl)
namespace Sp
structure Asc (l : Dt) : Prop where
 nums : Nums l
 up : ∀ p q, p < q -> q < l.length -> num l p < num l q
def memD (l : Dt) (x : Int) : Prop := ∃ p, p < l.length /\ num l p = x
theorem numsOf_get {l : Dt} {p : Nat} (h : p < (numsOf l).length) : (numsOf l)[p] = num l p := by
 unfold numsOf at h ⊢;rw [List.getElem_map];unfold num cel;rw [List.length_map] at h;rw [List.getD_eq_getElem?_getD (l := l), List.getElem?_eq_getElem h];rfl
theorem mem_numsOf {l : Dt} {x : Int} : x ∈ numsOf l ↔ memD l x := by
 rw [List.mem_iff_getElem];constructor
 ·rintro ⟨p, hp, e⟩;exact ⟨p, by rw [Xg] at hp; exact hp, by rw [<- e, numsOf_get]⟩
 ·rintro ⟨p, hp, e⟩;exact ⟨p, by rw [Xg]; exact hp, by rw [numsOf_get, e]⟩
theorem nums_eq {l : Dt} (h : Nums l) : l = (numsOf l).map fun n => [.i n] := by
 apply List.ext_getElem
 ·rw [List.length_map, Xg]
 ·intro p h1 h2;rw [List.getElem_map, numsOf_get];have := h p h1;rw [List.getD_eq_getElem?_getD, List.getElem?_eq_getElem h1] at this;exact this
theorem Asc.pw {l : Dt} (h : Asc l) : (numsOf l).Pairwise (· < ·) := by
 rw [List.pairwise_iff_getElem];intro p q hp hq hpq;rw [numsOf_get, numsOf_get];exact h.up p q hpq (by rw [Xg] at hq; exact hq)
theorem asc_of {l : Dt} (h1 : Nums l) (h2 : (numsOf l).Pairwise (· < ·)) : Asc l := ⟨h1, fun p q hpq hq => by
 rw [List.pairwise_iff_getElem] at h2;have := h2 p q (by rw [Xg]; omega) (by rw [Xg]; exact hq) hpq;rw [numsOf_get, numsOf_get] at this;exact this⟩
theorem pw_eq : ∀ {A B : List Int}, A.Pairwise (· < ·) -> B.Pairwise (· < ·) -> (∀ x, x ∈ A ↔ x ∈ B) -> A = B
 | [], [], _, _, _ => rfl
 | [], b :: B, _, _, h => absurd ((h b).2 List.mem_cons_self) (by simp)
 | a :: A, [], _, _, h => absurd ((h a).1 List.mem_cons_self) (by simp)
 | a :: A, b :: B, hA, hB, h => by
  obtain ⟨a1, a2⟩ := List.pairwise_cons.1 hA;obtain ⟨b1, b2⟩ := List.pairwise_cons.1 hB;have e : a = b := by
   rcases List.mem_cons.1 ((h a).1 List.mem_cons_self) with c | c
   ·exact c
   ·rcases List.mem_cons.1 ((h b).2 List.mem_cons_self) with d | d
    ·exact d.symm
    ·have := b1 a c; have := a1 b d; omega
  subst e
  congr 1
  refine pw_eq a2 b2 fun x => ⟨fun hx => ?_, fun hx => ?_⟩
  ·rcases List.mem_cons.1 ((h x).1 (List.mem_cons_of_mem _ hx)) with c | c
   ·have := a1 x hx; omega
   ·exact c
  ·rcases List.mem_cons.1 ((h x).2 (List.mem_cons_of_mem _ hx)) with c | c
   ·have := b1 x hx; omega
   ·exact c
theorem asc_eq {a b : Dt} (ha : Asc a) (hb : Asc b) (h : ∀ x, memD a x ↔ memD b x) : a = b := by
 rw [nums_eq ha.nums, nums_eq hb.nums, pw_eq ha.pw hb.pw fun x => by rw [mem_numsOf, mem_numsOf]; exact h x]
theorem fstF_lt {f : Nat -> Bool} : ∀ {n i k : Nat}, i <= k -> k < fstF f i n -> f k = false
 | 0, i, k, h1, h2 => by simp only [fstF] at h2; omega
 | n + 1, i, k, h1, h2 => by
  unfold fstF at h2
  split at h2
  ·omega
  ·rename_i h;rcases Nat.eq_or_lt_of_le h1 with e | e
   ·rw [<- e]; simpa using h
   ·exact fstF_lt e h2
theorem fstF_hit {f : Nat -> Bool} : ∀ {n i : Nat}, fstF f i n < i + n -> f (fstF f i n) = true
 | 0, i, h => by simp only [fstF] at h; omega
 | n + 1, i, h => by
  unfold fstF at h ⊢
  split
  ·rename_i c; exact c
  ·rename_i c;rw [if_neg c] at h;exact fstF_hit (by omega)
theorem nums_map (A : List Int) : Nums (A.map fun n => [.i n]) := fun p hp => by
 rw [List.length_map] at hp;unfold num cel;simp [hp, Cl.int]
theorem numsOf_map (A : List Int) : numsOf (A.map fun n => [.i n]) = A := by
 unfold numsOf;rw [List.map_map];exact List.map_id'' (fun _ => rfl) _
theorem ins_asc {l : Dt} {x : Int} (h : Asc l) : Asc (ins l x) /\ ∀ y, memD (ins l x) y ↔ y = x \/ memD l y := by
 have hlt : ∀ k, k < whr l x -> num l k < x := fun k hk => by
  have := fstF_lt (f := geI l x) (Nat.zero_le k) hk;unfold geI at this;simpa using this
 have hle := whr_le l x;unfold ins
 split
 ·rename_i c;have hgt : ∀ k, whr l x <= k -> k < l.length -> x < num l k := fun k h1 h2 => by
   have hw : whr l x < l.length := by omega
   have hh := fstF_hit (f := geI l x) (show fstF (geI l x) 0 l.length < 0 + l.length by unfold whr at hw; omega);have hge : x <= num l (whr l x) := by
    have : geI l x (whr l x) = true := hh;unfold geI at this;simpa using this
   have hne := c.resolve_left (by omega);rcases Nat.eq_or_lt_of_le h1 with e | e
   ·rw [<- e]; omega
   ·have := h.up _ _ e h2; omega
  have hl := nums_eq h.nums;have e : l.take (whr l x) ++ [[Cl.i x]] ++ l.drop (whr l x) = ((numsOf l).take (whr l x) ++ [x] ++ (numsOf l).drop (whr l x)).map fun n => [.i n] := by
   rw [List.map_append, List.map_append, List.map_take, List.map_drop, <- hl];rfl
  have hpw : ((numsOf l).take (whr l x) ++ [x] ++ (numsOf l).drop (whr l x)).Pairwise (· < ·) := by
   have hp := h.pw;have hp2 := hp;rw [<- List.take_append_drop (whr l x) (numsOf l)] at hp2;obtain ⟨p1, p2, p3⟩ := List.pairwise_append.1 hp2;have t : ∀ y ∈ (numsOf l).take (whr l x), y < x := fun y hy => by
    obtain ⟨k, hk, e⟩ := List.mem_iff_getElem.1 hy;rw [List.length_take] at hk;rw [List.getElem_take, numsOf_get] at e;rw [<- e]; exact hlt k (by omega)
   have d : ∀ y ∈ (numsOf l).drop (whr l x), x < y := fun y hy => by
    obtain ⟨k, hk, e⟩ := List.mem_iff_getElem.1 hy;rw [List.length_drop, Xg] at hk;rw [List.getElem_drop, numsOf_get] at e;rw [<- e]; exact hgt _ (by omega) (by omega)
   rw [List.append_assoc];refine List.pairwise_append.2 ⟨p1, List.pairwise_cons.2 ⟨d, p2⟩, fun a ha b hb => ?_⟩;rcases List.mem_cons.1 hb with rfl | hb
   ·exact t a ha
   ·exact p3 a ha b hb
  rw [e];refine ⟨asc_of (nums_map _) (by rw [numsOf_map]; exact hpw), fun y => ?_⟩;rw [<- mem_numsOf, numsOf_map, <- mem_numsOf];have hm : y ∈ numsOf l ↔ y ∈ (numsOf l).take (whr l x) \/ y ∈ (numsOf l).drop (whr l x) := by
   rw [<- List.mem_append, List.take_append_drop]
  rw [hm];simp only [List.mem_append, List.mem_singleton];constructor
  ·rintro ((a | a) | a)
   ·exact .inr (.inl a)
   ·exact .inl a
   ·exact .inr (.inr a)
  ·rintro (a | a | a)
   ·exact .inl (.inr a)
   ·exact .inl (.inl a)
   ·exact .inr a
 ·rename_i c;refine ⟨h, fun y => ⟨fun e => .inr e, fun e => e.elim (fun e => ?_) id⟩⟩;subst e;have h1 : whr l y ≠ l.length := fun x => c (.inl x);have h2 : num l (whr l y) = y := Classical.byContradiction fun x => c (.inr x);exact ⟨_, by omega, h2⟩
theorem insA_asc {f : Nat -> Int} : ∀ n i l, Asc l -> Asc (insA f i n l) /\ ∀ y, memD (insA f i n l) y ↔ memD l y \/ ∃ k, i <= k /\ k < i + n /\ f k = y
 | 0, i, l, h => ⟨h, fun y => ⟨.inl, fun e => e.elim id fun ⟨k, a, b, _⟩ => by omega⟩⟩
 | n + 1, i, l, h => by
  obtain ⟨h1, h2⟩ := ins_asc (x := f i) h;obtain ⟨h3, h4⟩ := insA_asc (f := f) n (i + 1) (ins l (f i)) h1;refine ⟨h3, fun y => ?_⟩;simp only [insA];rw [h4, h2];constructor
  ·rintro ((a | a) | ⟨k, a, b, c⟩)
   ·exact .inr ⟨i, Nat.le_refl _, by omega, a.symm⟩
   ·exact .inl a
   ·exact .inr ⟨k, by omega, by omega, c⟩
  ·rintro (a | ⟨k, a, b, c⟩)
   ·exact .inl (.inr a)
   ·rcases Nat.eq_or_lt_of_le a with e | e
    ·subst e; exact .inl (.inl c.symm)
    ·exact .inr ⟨k, e, by omega, c⟩
theorem asc_nil : Asc [] := ⟨fun p hp => by simp at hp, fun p q _ hq => by simp at hq⟩
structure CmI (S : Dt) (a k : Nat) (r : CmR) : Prop where
 len : r.l.length = S.length
 far : ∀ j, a + (k - 1) <= j -> j < S.length -> num r.l j = num S j
 up : ∀ p q, p < q -> q < r.i -> num r.l p < num r.l q
 one : 1 <= r.i
 last : num r.l (r.i - 1) = num S (a + (k - 1))
 src : ∀ p, p < r.i -> ∃ m, m < a + k /\ num r.l p = num S m
 all : ∀ m, m < a + k -> ∃ p, p < r.i /\ num r.l p = num S m
 nums : Nums r.l
 lt : r.i < a + k
theorem cmF_inv {S : Dt} (hS : ∀ p q, p <= q -> q < S.length -> num S p <= num S q) (a : Nat) : ∀ n k r, 1 <= k -> a + k + n = S.length -> CmI S a k r -> CmI S a (k + n) (cmF a k n r)
 | 0, k, r, _, _, h => h
 | n + 1, k, r, hk, he, h => by
  have hlen := h.len;have hlt := h.lt;simp only [cmF];rw [show k + (n + 1) = (k + 1) + n by omega];have f1 := h.far (a + k) (by omega) (by omega);have f2 := h.far (a + (k - 1)) (Nat.le_refl _) (by omega);rw [f1, f2]
  split
  ·rename_i c;refine cmF_inv hS a n (k + 1) r (by omega) (by omega) ⟨hlen, fun j hj hj2 => h.far j (by omega) hj2, h.up, h.one, by rw [h.last, show a + (k + 1 - 1) = a + k by omega, c], fun p hp => ?_, fun m hm => ?_, h.nums, by omega⟩
   ·obtain ⟨m, hm, e⟩ := h.src p hp; exact ⟨m, by omega, e⟩
   ·rcases Nat.lt_or_ge m (a + k) with x | x
    ·exact h.all m x
    ·obtain ⟨p, hp, e⟩ := h.all (a + (k - 1)) (by omega);exact ⟨p, hp, by rw [e, <- c, show m = a + k by omega]⟩
  ·rename_i c;have hset : ∀ j, num (r.l.set r.i [.i (num S (a + k))]) j = if r.i = j then num S (a + k) else num r.l j := fun j => num_set (by omega) j
   have hlast : num S (a + (k - 1)) < num S (a + k) := by
    have := hS (a + (k - 1)) (a + k) (by omega) (by omega);omega
   refine cmF_inv hS a n (k + 1) ⟨r.i + 1, r.l.set r.i [.i (num S (a + k))]⟩ (by omega) (by omega) ⟨by simp only [List.length_set]; exact hlen, fun j hj hj2 => ?_, fun p q hpq hq => ?_, by simp only []; omega, ?_, fun p hp => ?_, fun m hm => ?_, h.nums.set, by simp only []; omega⟩
   ·simp only [];rw [hset, if_neg (by omega)];exact h.far j (by omega) hj2
   ·simp only [] at hq ⊢;rw [hset, hset, if_neg (by omega)]
    by_cases e : r.i = q
    ·rw [if_pos e];rcases Nat.eq_or_lt_of_le (show p <= r.i - 1 by omega) with x | x
     ·rw [x, h.last]; exact hlast
     ·have := h.up p (r.i - 1) x (by have := h.one; omega);rw [h.last] at this;omega
    ·rw [if_neg e];exact h.up p q hpq (by omega)
   ·simp only [];rw [hset, if_pos (by omega), show a + (k + 1 - 1) = a + k by omega]
   ·simp only [] at hp ⊢;rw [hset]
    by_cases e : r.i = p
    ·rw [if_pos e]; exact ⟨a + k, by omega, rfl⟩
    ·rw [if_neg e];obtain ⟨m, hm, e2⟩ := h.src p (by omega);exact ⟨m, by omega, e2⟩
   ·simp only [];rcases Nat.lt_or_ge m (a + k) with x | x
    ·obtain ⟨p, hp, e⟩ := h.all m x;exact ⟨p, by omega, by rw [hset, if_neg (by omega)]; exact e⟩
    ·exact ⟨r.i, by omega, by rw [hset, if_pos rfl, show m = a + k by omega]⟩
def cpR (S : Dt) : Dt := if (decide (2 <= S.length) && anyF (dupI S) 1 (S.length - 1)) = true then (cpL S).take (cpN S) else S
theorem up_of {S : Dt} {n : Nat} (hS : ∀ p q, p <= q -> q < S.length -> num S p <= num S q) (hn : n <= S.length) (h : ∀ k, 1 <= k -> k < n -> num S k ≠ num S (k - 1)) : ∀ p q, p < q -> q < n -> num S p < num S q := fun p q hpq hq => by
 have h1 := hS p (q - 1) (by omega) (by omega);have h2 := hS (q - 1) q (by omega) (by omega);have h3 := h q (by omega) hq;omega
theorem cpR_asc {S : Dt} (hN : Nums S) (hS : ∀ p q, p <= q -> q < S.length -> num S p <= num S q) : Asc (cpR S) /\ ∀ y, memD (cpR S) y ↔ memD S y := by
 unfold cpR
 split
 ·rename_i c;rw [Bool.and_eq_true, decide_eq_true_eq] at c;obtain ⟨c1, c2⟩ := c;obtain ⟨f1, f2, f3, f4⟩ := fstF_spec c2;unfold cpL;have hcp : cpN S = (cmR S (fstF (dupI S) 1 (S.length - 1))).i := rfl;rw [hcp];generalize fstF (dupI S) 1 (S.length - 1) = a at *;have hd : num S a = num S (a - 1) := of_decide_eq_true f3;have h0 : CmI S a 1 ⟨a, S⟩ := ⟨rfl, fun j _ _ => rfl, up_of (n := a) hS (show a <= S.length by omega) fun k h1 h2 => of_decide_eq_false (f4 k h1 h2), by simp only []; omega, by simp only []; rw [show a + (1 - 1) = a by omega]; exact hd.symm, fun p hp => ⟨p, by simp only [] at hp; omega, rfl⟩, fun m hm => by
   rcases Nat.lt_or_ge m a with x | x
   ·exact ⟨m, x, rfl⟩
   ·exact ⟨a - 1, by simp only []; omega, by rw [show m = a by omega]; exact hd.symm⟩, hN, by simp only []; omega⟩
  have hI := cmF_inv hS a (S.length - a - 1) 1 ⟨a, S⟩ (Nat.le_refl _) (by omega) h0;have hr : cmF a 1 (S.length - a - 1) ⟨a, S⟩ = cmR S a := rfl;rw [hr, show 1 + (S.length - a - 1) = S.length - a by omega] at hI;generalize cmR S a = r at *;obtain ⟨i, l⟩ := r;have hlen : l.length = S.length := hI.len;have hlt : i < a + (S.length - a) := hI.lt;have htk : List.take i (clD l i (S.length - i) [.i 0]) = l.take i := by
   unfold clD;rw [List.append_assoc, List.take_append_of_le_length (by simp; omega), List.take_take, Nat.min_self]
  simp only [] at hI ⊢;rw [htk];have hnum : ∀ p, p < i -> num (l.take i) p = num l p := fun p hp => by
   unfold num cel;simp only [List.getD_eq_getElem?_getD, List.getElem?_take, if_pos hp]
  refine ⟨⟨fun p hp => ?_, fun p q hpq hq => ?_⟩, fun y => ⟨?_, ?_⟩⟩
  ·have hp2 : p < i := by rw [List.length_take] at hp; omega
   rw [hnum p hp2, <- hI.nums p (show p < l.length by omega)];simp only [List.getD_eq_getElem?_getD, List.getElem?_take, if_pos hp2]
  ·have hq2 : q < i := by rw [List.length_take] at hq; omega
   rw [hnum p (by omega), hnum q hq2];exact hI.up p q hpq hq2
  ·rintro ⟨p, hp, e⟩;have hp2 : p < i := by rw [List.length_take] at hp; omega
   obtain ⟨m, hm, e2⟩ := hI.src p hp2;rw [hnum p hp2] at e;exact ⟨m, by omega, by rw [<- e2]; exact e⟩
  ·rintro ⟨m, hm, e⟩;obtain ⟨p, hp, e2⟩ := hI.all m (by omega);have hp : p < i := hp;exact ⟨p, by rw [List.length_take]; omega, by rw [hnum p hp]; exact e2.trans e⟩
 ·rename_i c;refine ⟨⟨hN, ?_⟩, fun y => Iff.rfl⟩;refine up_of hS (Nat.le_refl _) fun k h1 h2 e => c ?_;rw [Bool.and_eq_true, decide_eq_true_eq];refine ⟨by omega, anyF_iff.2 ⟨k, h1, by omega, decide_eq_true e⟩⟩
theorem sortD_up (l : Dt) : ∀ p q, p <= q -> q < (sortD l).length -> num (sortD l) p <= num (sortD l) q := fun p q hpq hq => by
 rcases Nat.eq_or_lt_of_le hpq with e | e
 ·rw [e]; exact Int.le_refl _
 ·have h1 : ((numsOf l).mergeSort fun x y => decide (x <= y)).Pairwise (fun a b => decide (a <= b) = true) := List.pairwise_mergeSort (fun a b c h1 h2 => by simp at *; omega) (fun a b => by simp; omega) _;rw [<- X0] at h1;rw [List.pairwise_iff_getElem] at h1;have := h1 p q (by rw [Xg]; omega) (by rw [Xg]; exact hq) e;rw [numsOf_get, numsOf_get] at this;simpa using this
theorem sortD_nums (l : Dt) : Nums (sortD l) := nums_map _
theorem sortD_mem (l : Dt) (x : Int) : memD (sortD l) x ↔ memD l x := by
 rw [<- mem_numsOf, X0, <- mem_numsOf, List.mem_mergeSort]
theorem ttL_len (qs ps sh u : Dt) : ∀ n i, (ttL qs ps sh u i n).length = n
 | 0, _ => rfl
 | n + 1, i => by simp only [ttL, List.length_cons, ttL_len qs ps sh u n]
theorem ttL_mem (qs ps sh u : Dt) (x : Int) : ∀ n i, memD (ttL qs ps sh u i n) x ↔ ∃ k, i <= k /\ k < i + n /\ ttW qs ps sh u k = x
 | 0, i => ⟨fun ⟨p, hp, _⟩ => by simp [ttL] at hp, fun ⟨k, a, b, _⟩ => by omega⟩
 | n + 1, i => by
  have ih := ttL_mem qs ps sh u x n (i + 1);constructor
  ·rintro ⟨p, hp, e⟩;cases p with
   | zero => exact ⟨i, Nat.le_refl _, by omega, e⟩
   | succ p =>
    obtain ⟨k, a, b, c⟩ := ih.1 ⟨p, by simp only [ttL, List.length_cons] at hp; omega, e⟩;exact ⟨k, by omega, by omega, c⟩
  ·rintro ⟨k, a, b, c⟩;rcases Nat.eq_or_lt_of_le a with d | d
   ·subst d; exact ⟨0, by simp [ttL], c⟩
   ·obtain ⟨p, hp, e⟩ := ih.2 ⟨k, d, by omega, c⟩;exact ⟨p + 1, by simp only [ttL, List.length_cons]; omega, e⟩
theorem sc_eq {qs ps sh : Dt} {all : Int} (hk : KeyOk qs ps all) (hs : ShOk qs sh) : cpR (sortD (ttL qs ps sh (uns sh) 0 (2 ^ (uns sh).length))) = scV qs ps sh := by
 have h7 := hs.seven;rw [uns_len] at h7;obtain ⟨a1, a2⟩ := cpR_asc (sortD_nums (ttL qs ps sh (uns sh) 0 (2 ^ (uns sh).length))) (sortD_up _);obtain ⟨b1, b2⟩ := insA_asc (f := ttl qs ps (rdD sh)) (rdD sh).length 0 [] asc_nil;refine asc_eq a1 b1 fun x => ?_;unfold scV;rw [a2, sortD_mem, ttL_mem, b2, uns_len];have := any_rds (sh := sh) fun r => decide (total (mk qs ps r) = x);constructor
 ·rintro ⟨k, _, hk2, e⟩;right;unfold ttW at e;rw [mkW_it hk hs.n h7 (by omega)] at e;obtain ⟨j, hj, e2⟩ := this.2 ⟨k, by omega, decide_eq_true e⟩;exact ⟨j, Nat.zero_le _, by omega, of_decide_eq_true e2⟩
 ·rintro (⟨p, hp, _⟩ | ⟨j, _, hj, e⟩)
  ·simp at hp
  ·obtain ⟨k, hk2, e2⟩ := this.1 ⟨j, by omega, decide_eq_true e⟩;refine ⟨k, Nat.zero_le _, by omega, ?_⟩;unfold ttW;rw [mkW_it hk hs.n h7 hk2];exact of_decide_eq_true e2
end Sp
theorem Xog : PureOk Try.prog 25 Xcc [(false, [.row 3 Jc]), (false, [.int .i64])] (fun _ => True) Xdb :=
 Xnh fun W qs ps all sh hp Q h => by
  unfold Xdq;delta Za Zb;simp only [Xdb, Sp.scA] at h;refine vifd (fun e => ?_) fun e => vifn (fun _ => ?_) fun c => absurd c e
  ·obtain ⟨hk, hs⟩ := Sp.askE_ok e;have hE := Sp.sc_eq hk hs;rw [if_pos e, e, <- hE] at h;obtain ⟨p1, p2, p3⟩ := Xo hs.seven;rw [p1];refine nedd (by omega) (ar64 (by omega) ⟨rfl, ⟨by omega, by omega, by omega, hk, hs.se hk, by omega⟩, ?_⟩);simp only [show Int.toNat 0 = 0 from rfl, Int.sub_zero, Int.toNat_natCast];have hl : (Sp.ttL qs.xs ps.xs sh.xs (Sp.uns sh.xs) 0 (2 ^ (Sp.uns sh.xs).length)).length = 2 ^ (Sp.uns sh.xs).length := Sp.ttL_len _ _ _ _ _ _;have hl2 := X4 (Sp.ttL qs.xs ps.xs sh.xs (Sp.uns sh.xs) 0 (2 ^ (Sp.uns sh.xs).length));refine ⟨⟨by rw [hl]; omega, by rw [hl]; omega⟩, ⟨by rw [hl2, hl]; omega, ?_⟩⟩;generalize Sp.sortD (Sp.ttL qs.xs ps.xs sh.xs (Sp.uns sh.xs) 0 (2 ^ (Sp.uns sh.xs).length)) = S at *;unfold Sp.cpR at h;refine vif (fun c => ?_) fun c => ?_
   ·rw [if_pos c] at h;refine nedd ?_ h;rw [Bool.and_eq_true, decide_eq_true_eq] at c;obtain ⟨f1, f2, f3, f4⟩ := Sp.fstF_spec c.2;have hf := Sp.cmF_facts (Sp.fstF (Sp.dupI S) 1 (S.length - 1)) (S.length - Sp.fstF (Sp.dupI S) 1 (S.length - 1) - 1) 1 ⟨Sp.fstF (Sp.dupI S) 1 (S.length - 1), S⟩ (Nat.le_refl _) (Nat.le_refl _) (by simp only []; omega) (by simp only []; omega);have hf1 : (Sp.cmR S (Sp.fstF (Sp.dupI S) 1 (S.length - 1))).l.length = S.length := hf.1;have hf2 : Sp.cpN S < S.length := by have : Sp.cpN S < _ := hf.2.2; omega
    unfold Sp.cpL;rw [Y3p (by rw [hf1]; omega), hf1];omega
   ·rw [if_neg (by rw [c]; decide)] at h;exact h
  ·rw [if_neg e] at h; exact h
def Xl8 : PC Try.prog := ⟨25, Xcc, [(false, [.row 3 Jc]), (false, [.int .i64])], fun _ => True, Xdb, Xog⟩
end Go.Proofs.Ytifhdbgciehicaa
